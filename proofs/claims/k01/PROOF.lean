import PyProof.Rows.All
import Wide.All
import OpenK.AllK
import Wide.FinOn
import HandS.Base
import HandS.Call
import HandS.List
import HandS.Comp
import HandS.Exc
import HandS.Words
import HandS.Lambda
import HandS.ForMost
import HandS.ForExc
import HandS.IsInst
import HandS.Wide
import HandS.Gcd
import HandS.FStr
import HandS.TryMany
import HandS.ExcOwn
import HandS.CallSlots
import HandS.Flow
import HandS.Style
import KE.KeyNested
import KE.KDictKeyed
import HandS.TupAny
import HandS.TupMul
import HandS.Ends
import KE.KTupSum
import KE.GoesEnum
import KE.KMathGC
import KE.KExcSuper
import HandS.TryOnly
import HandS.ExcField
import HandS.EndTab
import PyProof.ReprRoads
import HandS.Deep
import HandS.Text
import HandS.Dict
import PyProof.StrOps2
import HandS.CallLocal
import KE.KExcInit
import HandS.Codes
import KE.KIntText
import PyProof.Rows.StrIntSpec
import PySem.Challenge.RW_bandrims_k01_whole_numbers_and_their_pro
set_option Elab.async false
set_option linter.all false
set_option maxRecDepth 100000
set_option maxHeartbeats 4000000
set_option exponentiation.threshold 500000
noncomputable section
namespace VE
open PySem PySem.Spec PyProof.Rows L2


inductive CV where
  | non | bl (b : Bool) | int (i : Int) | str (x : Str)
  | tup (xs : List CV) | lst (xs : List CV) | frz (xs : List CV)
  | ref (l : Nat) | cls (k : Nat) | fn (k : Nat) | ty (n : String)
  /-- an instance that nobody writes; a dict that nobody writes (n: its keys are tuples) -/
  | ins (k : Nat) (xs : List CV) | dic (n : Bool) (ks vs : List CV)
  deriving Inhabited

inductive CO where
  | lst (xs : List CV)
  /-- a dict (lk: it is read from now on, not written) | an instance -/
  | dic (lk n : Bool) (ks vs : List CV) | ins (k : Nat) (xs : List CV)
  | none_

abbrev Mem := List CO
abbrev Sl := List (Option CV)
structure Exn where
  cls : Nat
  args : List CV

inductive Out (α : Type) where
  | ok (a : α) (h : Mem) | exc (x : Exn) (h : Mem) | bad
abbrev M (α : Type) := Mem → Out α
def bnd {α β : Type} (m : M α) (k : α → M β) : M β := fun h => Out.rec (fun a h' => k a h') (fun x h' => .exc x h') .bad (m h)
def ret {α : Type} (a : α) : M α := fun h => .ok a h
def stuck {α : Type} : M α := fun _ => .bad

def frN {α : Type} (n : Nat) (k : Nat → α) : α := Nat.rec (k 0) (fun m _ => k (Nat.succ m)) n
def frI {α : Type} (i : Int) (k : Int → α) : α := Int.rec (fun n => frN n fun n => k (.ofNat n)) (fun n => frN n fun n => k (.negSucc n)) i
def frB {α : Type} (b : Bool) (k : Bool → α) : α := Bool.rec (k false) (k true) b
def frLs {α : Type} (f : CV → (CV → α) → α) (xs : List CV) : (List CV → α) → α := List.rec (fun k => k []) (fun x _ ih k => f x fun x => ih fun xs => k (x :: xs)) xs
def frV {α : Type} (n : Nat) : CV → (CV → α) → α := Nat.rec (fun x k => k x) (fun _ ih x k => match x with
  | .int i => frI i fun i => k (.int i)
  | .bl b => frB b fun b => k (.bl b)
  | .tup xs => frLs ih xs fun xs => k (.tup xs)
  | .lst xs => frLs ih xs fun xs => k (.lst xs)
  | .ins c xs => frLs ih xs fun xs => k (.ins c xs)
  | .dic n ks vs => frLs ih ks fun ks => frLs ih vs fun vs => k (.dic n ks vs)
  | x => k x) n
def sget {α : Type} (l : List α) : Nat → Option α := List.rec (fun _ => none) (fun a _ ih n => Nat.rec (some a) (fun m _ => ih m) n) l
def sset {α β : Type} (l : List α) : Nat → α → (List α → β) → β := List.rec (fun _ _ k => k []) (fun a t ih n v k => Nat.rec (k (v :: t)) (fun m _ => ih m v fun t' => k (a :: t')) n) l
def sapp {α β : Type} (l : List α) : List α → (List α → β) → β := List.rec (fun r k => k r) (fun a _ ih r k => ih r fun t => k (a :: t)) l
theorem frN_eq {α : Type} (n : Nat) (k : Nat → α) : frN n k = k n := by cases n <;> rfl
theorem frI_eq {α : Type} (i : Int) (k : Int → α) : frI i k = k i := by
  cases i with
  | ofNat n => exact frN_eq n fun n => k (.ofNat n)
  | negSucc n => exact frN_eq n fun n => k (.negSucc n)
theorem frB_eq {α : Type} (b : Bool) (k : Bool → α) : frB b k = k b := by cases b <;> rfl
theorem frLs_eq {α : Type} {f : CV → (CV → α) → α} (hf : ∀ x k, f x k = k x) : ∀ (xs : List CV) (k : List CV → α), frLs f xs k = k xs
  | [], _ => rfl
  | x :: xs, k => by
    show f x (fun x => frLs f xs fun xs => k (x :: xs)) = _
    rw [hf, frLs_eq hf xs]
theorem frV_eq {α : Type} : ∀ (n : Nat) (x : CV) (k : CV → α), frV n x k = k x
  | 0, _, _ => rfl
  | n + 1, x, k => by
    cases x with
    | int i => exact frI_eq i fun i => k (.int i)
    | bl b => exact frB_eq b fun b => k (.bl b)
    | tup xs => exact frLs_eq (frV_eq n) xs fun xs => k (.tup xs)
    | lst xs => exact frLs_eq (frV_eq n) xs fun xs => k (.lst xs)
    | ins c xs => exact frLs_eq (frV_eq n) xs fun xs => k (.ins c xs)
    | dic b ks vs =>
      show frLs (frV n) ks (fun ks => frLs (frV n) vs fun vs => k (.dic b ks vs)) = _
      rw [frLs_eq (frV_eq n), frLs_eq (frV_eq n)]
    | _ => rfl
theorem sget_eq {α : Type} : ∀ (l : List α) (n : Nat), sget l n = l[n]?
  | [], _ => rfl
  | _ :: _, 0 => rfl
  | _ :: t, n + 1 => by
    show sget t n = _
    rw [sget_eq t n, List.getElem?_cons_succ]
theorem sset_eq {α β : Type} : ∀ (l : List α) (n : Nat) (v : α) (k : List α → β), sset l n v k = k (l.set n v)
  | [], _, _, _ => rfl
  | _ :: _, 0, _, _ => rfl
  | a :: t, n + 1, v, k => by
    show sset t n v (fun t' => k (a :: t')) = _
    rw [sset_eq t n v]; rfl
theorem sapp_eq {α β : Type} : ∀ (l r : List α) (k : List α → β), sapp l r k = k (l ++ r)
  | [], _, _ => rfl
  | a :: t, r, k => by
    show sapp t r (fun t' => k (a :: t')) = _
    rw [sapp_eq t r]; rfl
/-- a number's size -/
def big : Nat := 2 ^ 400000
/-- the exception that a suite holds: its slot, where it stands, its class, its dict, what it is -/
structure XI where
  slot : Nat
  at_ : Addr
  cls : Value
  d : Option Addr
  x : Exn
/-- the lambda that was handed in: what its maker's slots hold; where it stands, its code -/
structure LI where
  τ : Sl
  σ : L2.St
  f : Addr
  c : Addr
  q : Str
structure Cfg where
  P : Program
  w : World
  K : PySem.W.Frag
  cls : Nat → Addr
  fn : Nat → Addr
  fld : Nat → List Str
  T : List (Addr × Str)
  exi : Option XI := none
  lam : Option LI := none
/-- may slot i be stored into -/
def Cfg.fr (G : Cfg) (i : Nat) : Bool := (match G.exi with
  | none => true
  | some e => e.slot != i) && match G.lam with
  | none => true
  | some _ => i != 0
/-- the pairs of a dict whose keys are tuples: the key, where its tuple stands, the value -/
abbrev Ents := List (NestedKey × Addr × V)
def EntR (p : NestedKey × Addr × V) (q : NestedKey × Addr × Value) : Prop := p.1 = q.1 ∧ p.2.1 = q.2.1 ∧ RelV p.2.2 q.2.2
/-- such a dict, at a -/
def dN (P : Program) (w : World) (a : Addr) (es : Ents) : HO := .ext fun h => es.length ≤ sizeLine ∧ (a == sysModules) = false ∧ ∃ (xs : List (NestedKey × Addr × Value)) (o : Obj) (ds : Array DictEntry) (ep : Nat),
  Paired EntR es xs ∧ h.get? a = some o ∧ o.ExactDict ∧ o.data = .dict ds ep ∧ ds.toList = xs.map (entryOfKey (nestedKind P w)) ∧ (xs.map (·.1)).Nodup
/-- a key: an int, a text -/
def keyC : Key → CV
  | .inl i => .int i
  | .inr x => .str x
mutual
/-- what a key of tuples is -/
def nkey : CV → Option NestedKey
  | .non => some .none
  | .int i => some (.num i)
  | .str x => some (.text x)
  | .tup xs => match nkeys xs with
    | some ks => some (.tup ks)
    | none => none
  | _ => none
def nkeys : List CV → Option (List NestedKey)
  | [] => some []
  | x :: xs => match nkey x, nkeys xs with
    | some k, some ks => some (k :: ks)
    | _, _ => none
end
/-- the fields named so have these values -/
def FldR (ns : List Str) (us : List V) (fs : List (Str × V)) : Prop := Paired (fun n u => fs.lookup n = some u) ns us ∧ fs.length ≤ 900
/-- what may stand in the memory -/
def MutO (G : Cfg) (a : Addr) (o : HO) : Prop := (∃ ys, o = .lst ys) ∨ (∃ kvs, o = .dK kvs) ∨ (∃ es, o = dN G.P G.w a es) ∨ (∃ C dx fs, o = .ins C dx fs) ∨ (∃ ob kvs, o = .frz ob (.dK kvs)) ∨ (∃ ob es, o = .frz ob (dN G.P G.w a es))

/-- the addresses of the memory's objects; those that are hidden from it -/
structure Wd where
  d : List Addr
  r : List Addr
def Wd.has (ρ : Wd) (a : Addr) : Prop := a ∈ ρ.r ∨ a ∈ ρ.d
/-- a list that nobody writes: not in the memory, or of the text's own -/
def SqF (K : PySem.W.Frag) (ρ : Wd) (H : Hp) (a : Addr) (ys : List V) : Prop := (¬ ρ.has a ∧ Rd H a (.lst ys)) ∨ SqL K (fun _ => none) a ys
theorem SqF.l {K : PySem.W.Frag} {ρ : Wd} {H : Hp} {a : Addr} {ys : List V} (r : SqF K ρ H a ys) : SqL K H a ys := by
  rcases r with ⟨_, r⟩ | r | r
  · exact .inl r
  · rcases r with r | ⟨_, r⟩ <;> cases r
  · exact .inr r
mutual
def ValR (G : Cfg) (ρ : Wd) (H : Hp) : CV → V → Prop
  | .non, v => v = .non
  | .bl b, v => v = .bl b
  | .int i, v => v = .int i
  | .str x, v => v = .str x
  | .tup xs, v => ∃ a ys, v = .ref a ∧ SqT G.K H a ys ∧ ValsR G ρ H xs ys
  | .lst xs, v => ∃ a ys, v = .ref a ∧ ¬ ρ.has a ∧ H a = some (.lst ys) ∧ ValsR G ρ H xs ys
  | .frz xs, v => ∃ a ys, v = .ref a ∧ SqF G.K ρ H a ys ∧ ValsR G ρ H xs ys
  | .ref l, v => ∃ a, ρ.r[l]? = some a ∧ v = .ref a
  | .cls k, v => v = .ref (G.cls k)
  | .fn k, v => v = .ref (G.fn k)
  | .ty n, v => v = .ty n
  | .ins k xs, v => ∃ a dx fs us, v = .ref a ∧ ¬ ρ.has a ∧ H a = some (.ins (G.cls k) dx fs) ∧ FldR (G.fld k) us fs ∧ ValsR G ρ H xs us
  | .dic n ks vs, v => ∃ a ob, v = .ref a ∧ ¬ ρ.has a ∧ (n = true → ∃ es us ws, H a = some (.frz ob (dN G.P G.w a es)) ∧ nkeys ks = some (es.map (·.1)) ∧ us = es.map (fun e => V.ref e.2.1) ∧ ws = es.map (·.2.2) ∧ ValsR G ρ H ks us ∧ ValsR G ρ H vs ws) ∧
      (n = false → ∃ kvs ws, H a = some (.frz ob (.dK kvs)) ∧ ks = kvs.map (fun e => keyC e.1) ∧ ws = kvs.map (·.2) ∧ ValsR G ρ H vs ws)
def ValsR (G : Cfg) (ρ : Wd) (H : Hp) : List CV → List V → Prop
  | [], ys => ys = []
  | x :: xs, ys => ∃ y r, ys = y :: r ∧ ValR G ρ H x y ∧ ValsR G ρ H xs r
end

/-- what stands at a, unlocked, is the dict of these pairs -/
def DicR (G : Cfg) (ρ : Wd) (H : Hp) (n : Bool) (ks vs : List CV) (a : Addr) (u : HO) : Prop :=
  (n = true → ∃ es, u = dN G.P G.w a es ∧ nkeys ks = some (es.map (·.1)) ∧ ValsR G ρ H ks (es.map fun e => V.ref e.2.1) ∧ ValsR G ρ H vs (es.map (·.2.2))) ∧
  (n = false → ∃ kvs, u = .dK kvs ∧ ks = kvs.map (fun e => keyC e.1) ∧ ValsR G ρ H vs (kvs.map (·.2)))
theorem DicR.mutO {G : Cfg} {ρ : Wd} {H : Hp} {n : Bool} {ks vs : List CV} {a : Addr} {u : HO} (d : DicR G ρ H n ks vs a u) : MutO G a u ∧ ∀ ob, MutO G a (.frz ob u) := by
  cases n with
  | true =>
    obtain ⟨es, rfl, _⟩ := d.1 rfl
    exact ⟨.inr (.inr (.inl ⟨_, rfl⟩)), fun ob => .inr (.inr (.inr (.inr (.inr ⟨_, _, rfl⟩))))⟩
  | false =>
    obtain ⟨es, rfl, _⟩ := d.2 rfl
    exact ⟨.inr (.inl ⟨_, rfl⟩), fun ob => .inr (.inr (.inr (.inr (.inl ⟨_, _, rfl⟩))))⟩
theorem valR_dic {G : Cfg} {ρ : Wd} {H : Hp} {n : Bool} {ks vs : List CV} {v : V} : ValR G ρ H (.dic n ks vs) v ↔ ∃ a ob u, v = .ref a ∧ ¬ ρ.has a ∧ H a = some (.frz ob u) ∧ DicR G ρ H n ks vs a u := by
  constructor
  · rintro ⟨a, ob, e, nh, h1, h2⟩
    cases n with
    | true =>
      obtain ⟨es, us, ws, q1, q2, rfl, rfl, q3, q4⟩ := h1 rfl
      exact ⟨a, ob, _, e, nh, q1, fun _ => ⟨es, rfl, q2, q3, q4⟩, fun z => nomatch z⟩
    | false =>
      obtain ⟨kvs, ws, q1, q2, rfl, q3⟩ := h2 rfl
      exact ⟨a, ob, _, e, nh, q1, (fun z => Bool.noConfusion z), fun _ => ⟨kvs, rfl, q2, q3⟩⟩
  · rintro ⟨a, ob, u, e, nh, hu, d⟩
    refine ⟨a, ob, e, nh, fun z => ?_, fun z => ?_⟩
    · obtain ⟨es, rfl, q2, q3, q4⟩ := d.1 z
      exact ⟨es, _, _, hu, q2, rfl, rfl, q3, q4⟩
    · obtain ⟨kvs, rfl, q2, q3⟩ := d.2 z
      exact ⟨kvs, _, hu, q2, rfl, q3⟩
def ObjR (G : Cfg) (ρ : Wd) (H : Hp) : CO → Addr → Prop
  | .lst xs, a => ∃ ys, H a = some (.lst ys) ∧ ValsR G ρ H xs ys
  | .dic lk n ks vs, a => ∃ u, (lk = true → ∃ ob, H a = some (.frz ob u)) ∧ (lk = false → H a = some u) ∧ DicR G ρ H n ks vs a u
  | .ins k xs, a => ∃ dx fs us, H a = some (.ins (G.cls k) dx fs) ∧ FldR (G.fld k) us fs ∧ ValsR G ρ H xs us
  | .none_, _ => False

/-- slots and what they hold -/
def SlV (G : Cfg) (ρ : Wd) (H : Hp) (τ : Sl) (σ : L2.St) : Prop := τ.length = σ.length ∧ ∀ (i : Nat) (v : CV), τ[i]? = some (some v) → ∃ u, σ[i]? = some (some u) ∧ ValR G ρ H v u
def ExcR (G : Cfg) (ρ : Wd) (H : Hp) (x : Exn) (c : Value) (d : Option Addr) : Prop :=
  c = .ref (G.cls x.cls) ∧ (x.args = [] ∨ ∃ da fs, d = some da ∧ H da = some (.xd fs) ∧ fs.map (·.1) = G.fld x.cls ∧ ValsR G ρ H x.args (fs.map (·.2)))
structure MemR (G : Cfg) (ρ : Wd) (h : Mem) (H : Hp) : Prop where
  len : ρ.r.length = h.length
  nd : ρ.r.Nodup
  obj : ∀ (i : Nat) (a : Addr) (co : CO), ρ.r[i]? = some a → h[i]? = some co → ObjR G ρ H co a
  hid : ∀ a ∈ ρ.d, (∃ o, H a = some o ∧ MutO G a o) ∧ a ∉ ρ.r
  tab : LamX.Tabs G.T H
  exc : ∀ e, G.exi = some e → ExcR G ρ H e.x e.cls e.d
  lam : ∀ L, G.lam = some L → SlV G ρ H L.τ L.σ ∧ H L.c = some (LamX.CodeO L.c L.q)

structure Ext (ρ : Wd) (H : Hp) (ρ' : Wd) (H' : Hp) : Prop where
  hid : ρ'.d = ρ.d
  pre : ∀ (i : Nat) (a : Addr), ρ.r[i]? = some a → ρ'.r[i]? = some a
  keep : ∀ a o, H a = some o → a ∉ ρ.r → (∀ ps, o ≠ .tbl ps) → H' a = some o
  tbl : ∀ a ps, H a = some (.tbl ps) → ∃ ps', H' a = some (.tbl ps')
  new : ∀ a, a ∈ ρ'.r → a ∈ ρ.r ∨ H a = none

/-- .. and more may be hidden -/
structure ExtH (ρ : Wd) (H : Hp) (ρ' : Wd) (H' : Hp) : Prop where
  hid : ∀ a ∈ ρ'.d, a ∈ ρ.d ∨ H a = none
  pre : ∀ (i : Nat) (a : Addr), ρ.r[i]? = some a → ρ'.r[i]? = some a
  keep : ∀ a o, H a = some o → a ∉ ρ.r → (∀ ps, o ≠ .tbl ps) → H' a = some o
  new : ∀ a, a ∈ ρ'.r → a ∈ ρ.r ∨ H a = none
section
variable {G : Cfg} {ρ ρ1 ρ2 : Wd} {h : Mem} {H H1 H2 : Hp}
theorem Ext.toH (a : Ext ρ H ρ1 H1) : ExtH ρ H ρ1 H1 := ⟨fun x e => .inl (a.hid ▸ e), a.pre, a.keep, a.new⟩
theorem Ext.refl : Ext ρ H ρ H := ⟨rfl, fun _ _ e => e, fun _ _ e _ _ => e, fun _ ps e => ⟨ps, e⟩, fun _ e => .inl e⟩
theorem Ext.there (a : Ext ρ H ρ1 H1) {x : Addr} {o : HO} (e : H x = some o) (n : x ∉ ρ.r) : H1 x ≠ none := fun z => by
  by_cases ht : ∃ ps, o = .tbl ps
  · obtain ⟨ps, rfl⟩ := ht
    obtain ⟨q, hq⟩ := a.tbl x ps e
    rw [hq] at z; cases z
  · rw [a.keep x o e n fun ps e => ht ⟨ps, e⟩] at z; cases z
theorem Ext.trans (a : Ext ρ H ρ1 H1) (b : Ext ρ1 H1 ρ2 H2) : Ext ρ H ρ2 H2 where
  hid := b.hid.trans a.hid
  pre := fun i x e => b.pre i x (a.pre i x e)
  keep := fun x o e n t => b.keep x o (a.keep x o e n t) (fun z => by
    rcases a.new x z with z | z
    · exact n z
    · rw [e] at z; cases z) t
  tbl := fun x ps e => by
    obtain ⟨q, hq⟩ := a.tbl x ps e
    exact b.tbl x q hq
  new := fun x e => by
    rcases b.new x e with z | z
    · exact a.new x z
    · by_cases hx : x ∈ ρ.r
      · exact .inl hx
      · cases q : H x with
        | none => exact .inr rfl
        | some o => exact absurd z (a.there q hx)
theorem ObjR.there {co : CO} {x : Addr} (r : ObjR G ρ H co x) : ∃ o, H x = .some o ∧ MutO G x o := by
  cases co with
  | lst xs => obtain ⟨ys, e, _⟩ := r; exact ⟨_, e, .inl ⟨ys, rfl⟩⟩
  | dic lk n ks vs =>
    obtain ⟨u, h1, h2, d⟩ := r
    cases lk with
    | true =>
      obtain ⟨ob, e⟩ := h1 rfl
      exact ⟨_, e, d.mutO.2 ob⟩
    | false => exact ⟨_, h2 rfl, d.mutO.1⟩
  | ins k xs => obtain ⟨dx, fs, us, e, _⟩ := r; exact ⟨_, e, .inr (.inr (.inr (.inl ⟨_, _, _, rfl⟩)))⟩
  | none_ => exact r.elim
theorem MemR.at_ (m : MemR G ρ h H) {x : Addr} (hx : ρ.has x) : ∃ o, H x = .some o ∧ MutO G x o := by
  rcases hx with hx | hx
  · obtain ⟨i, hi⟩ := List.getElem?_of_mem hx
    obtain ⟨hl, _⟩ := List.getElem?_eq_some_iff.mp hi
    have hl' : i < h.length := by rw [← m.len]; exact hl
    exact (m.obj i x h[i] hi (by simp [hl'])).there
  · exact (m.hid x hx).1
theorem MemR.notin (m : MemR G ρ h H) {x : Addr} {o : HO} (e : H x = .some o) (n : ¬ MutO G x o) : ¬ ρ.has x := fun hx => by
  obtain ⟨u, q, z⟩ := m.at_ hx
  rw [e] at q
  exact n (Option.some.inj q ▸ z)
theorem notMut_tup {xs : List V} {a : Addr} : ¬ MutO G a (.tup xs) := by
  rintro (⟨_, z⟩ | ⟨_, z⟩ | ⟨_, z⟩ | ⟨_, _, _, z⟩ | ⟨_, _, z⟩ | ⟨_, _, z⟩) <;> cases z
theorem notMut_frzTup {xs : List V} {a : Addr} {o : Obj} : ¬ MutO G a (.frz o (.tup xs)) := by
  rintro (⟨_, z⟩ | ⟨_, z⟩ | ⟨_, z⟩ | ⟨_, _, _, z⟩ | ⟨_, _, z⟩ | ⟨_, _, z⟩) <;> cases z
theorem notMut_frzLst {xs : List V} {a : Addr} {o : Obj} : ¬ MutO G a (.frz o (.lst xs)) := by
  rintro (⟨_, z⟩ | ⟨_, z⟩ | ⟨_, z⟩ | ⟨_, _, _, z⟩ | ⟨_, _, z⟩ | ⟨_, _, z⟩) <;> cases z
theorem notMut_xd {fs : List (Str × V)} {a : Addr} : ¬ MutO G a (.xd fs) := by
  rintro (⟨_, z⟩ | ⟨_, z⟩ | ⟨_, z⟩ | ⟨_, _, _, z⟩ | ⟨_, _, z⟩ | ⟨_, _, z⟩) <;> cases z
theorem notMut_own {x : Addr} {a : Addr} : ¬ MutO G a (.own x) := by
  rintro (⟨_, z⟩ | ⟨_, z⟩ | ⟨_, z⟩ | ⟨_, _, _, z⟩ | ⟨_, _, z⟩ | ⟨_, _, z⟩) <;> cases z
theorem notMut_tbl {ps : Array Value} {a : Addr} : ¬ MutO G a (.tbl ps) := by
  rintro (⟨_, z⟩ | ⟨_, z⟩ | ⟨_, z⟩ | ⟨_, _, _, z⟩ | ⟨_, _, z⟩ | ⟨_, _, z⟩) <;> cases z
theorem notMut_code {c a : Addr} {q : Str} : ¬ MutO G a (LamX.CodeO c q) := by
  rintro (⟨_, z⟩ | ⟨_, z⟩ | ⟨es, z⟩ | ⟨_, _, _, z⟩ | ⟨_, _, z⟩ | ⟨_, _, z⟩) <;> try cases z
  have hn : (⟨Array.replicate (a + c + 1) { cls := .none, data := .fields #[.none, .str q 0] }, {}⟩ : Heap).get? c = some { cls := .none, data := .fields #[.none, .str q 0] } := by
    unfold Heap.get?
    rw [show (Array.replicate (a + c + 1) ({ cls := .none, data := .fields #[.none, .str q 0] } : Obj))[c]? = some { cls := .none, data := .fields #[.none, .str q 0] } by rw [Array.getElem?_replicate, if_pos (by omega)]]
  have ha : (⟨Array.replicate (a + c + 1) { cls := .none, data := .fields #[.none, .str q 0] }, {}⟩ : Heap).get? a = some { cls := .none, data := .fields #[.none, .str q 0] } := by
    unfold Heap.get?
    rw [show (Array.replicate (a + c + 1) ({ cls := .none, data := .fields #[.none, .str q 0] } : Obj))[a]? = some { cls := .none, data := .fields #[.none, .str q 0] } by rw [Array.getElem?_replicate, if_pos (by omega)]]
  unfold LamX.CodeO dN at z
  injection z with z
  have w := congrFun z ⟨Array.replicate (a + c + 1) { cls := .none, data := .fields #[.none, .str q 0] }, {}⟩
  have l : ∃ (oc : Obj) (vs : Array Value) (t : Tok), (⟨Array.replicate (a + c + 1) { cls := .none, data := .fields #[.none, .str q 0] }, {}⟩ : Heap).get? c = some oc ∧ oc.data = .fields vs ∧ vs[1]? = some (.str q t) := ⟨_, _, 0, hn, rfl, rfl⟩
  obtain ⟨_, _, _, o, _, _, _, e1, _, e2, _⟩ := w.mp l
  rw [ha] at e1
  cases e1
  cases e2
theorem MemR.free (m : MemR G ρ h H) {x : Addr} (e : H x = none) : ¬ ρ.has x := fun hx => by
  obtain ⟨u, q, _⟩ := m.at_ hx
  rw [e] at q; cases q
theorem nr {x : Addr} (n : ¬ ρ.has x) : x ∉ ρ.r := fun z => n (.inl z)
/-- a thing that is read and never written stays -/
theorem ExtH.rd (a : ExtH ρ H ρ1 H1) {x : Addr} {u : HO} (r : Rd H x u) (n : x ∉ ρ.r) (t : ∀ ps, u ≠ .tbl ps) : Rd H1 x u := by
  rcases r with r | ⟨o, r⟩
  · exact .inl (a.keep x _ r n t)
  · exact .inr ⟨o, a.keep x _ r n fun ps e => by cases e⟩
theorem ExtH.notin (a : ExtH ρ H ρ1 H1) {x : Addr} {u : HO} (r : Rd H x u) (n : ¬ ρ.has x) : ¬ ρ1.has x := fun z => by
  rcases z with z | z
  · rcases a.new x z with z | z
    · exact n (.inl z)
    · rcases r with r | ⟨o, r⟩ <;> rw [r] at z <;> cases z
  · rcases a.hid x z with z | z
    · exact n (.inr z)
    · rcases r with r | ⟨o, r⟩ <;> rw [r] at z <;> cases z
theorem Ext.rd (a : Ext ρ H ρ1 H1) {x : Addr} {u : HO} (r : Rd H x u) (n : x ∉ ρ.r) (t : ∀ ps, u ≠ .tbl ps) : Rd H1 x u := a.toH.rd r n t
theorem Ext.notin (a : Ext ρ H ρ1 H1) {x : Addr} {u : HO} (r : Rd H x u) (n : ¬ ρ.has x) : ¬ ρ1.has x := a.toH.notin r n
theorem MemR.rdTup (m : MemR G ρ h H) {x : Addr} {ys : List V} (r : Rd H x (.tup ys)) : ¬ ρ.has x := by
  rcases r with r | ⟨o, r⟩
  · exact m.notin r notMut_tup
  · exact m.notin r notMut_frzTup
theorem ExtH.sqT (a : ExtH ρ H ρ1 H1) (m : MemR G ρ h H) {x : Addr} {ys : List V} (r : SqT G.K H x ys) : SqT G.K H1 x ys := by
  rcases r with r | r
  · exact .inl (a.rd r (nr (m.rdTup r)) fun _ e => by cases e)
  · exact .inr r
mutual
theorem ValR.extH (m : MemR G ρ h H) (a : ExtH ρ H ρ1 H1) : ∀ {x : CV} {v : V}, ValR G ρ H x v → ValR G ρ1 H1 x v
  | .non, _, r => r
  | .bl _, _, r => r
  | .int _, _, r => r
  | .str _, _, r => r
  | .cls _, _, r => r
  | .fn _, _, r => r
  | .ty _, _, r => r
  | .ref l, _, ⟨x, e, q⟩ => ⟨x, a.pre l x e, q⟩
  | .tup xs, _, ⟨x, ys, e, s, r⟩ => ⟨x, ys, e, a.sqT m s, ValsR.extH m a r⟩
  | .lst xs, _, ⟨x, ys, e, n, s, r⟩ => ⟨x, ys, e, a.notin (.inl s) n, a.keep x _ s (nr n) (fun _ e => nomatch e), ValsR.extH m a r⟩
  | .frz xs, _, ⟨x, ys, e, s, r⟩ => by
    refine ⟨x, ys, e, ?_, ValsR.extH m a r⟩
    rcases s with ⟨n, s⟩ | s
    · exact .inl ⟨a.notin s n, a.rd s (nr n) fun _ e => by cases e⟩
    · exact .inr s
  | .ins k xs, _, ⟨x, dx, fs, us, e, n, s, q, r⟩ => ⟨x, dx, fs, us, e, a.notin (.inl s) n, a.keep x _ s (nr n) (fun _ e => nomatch e), q, ValsR.extH m a r⟩
  | .dic n ks vs, _, ⟨x, ob, e, nh, h1, h2⟩ => ⟨x, ob, e, by
      have : ∃ u, H x = some (.frz ob u) := by
        cases n with
        | true => obtain ⟨es, us, ws, q1, _⟩ := h1 rfl; exact ⟨_, q1⟩
        | false => obtain ⟨es, ws, q1, _⟩ := h2 rfl; exact ⟨_, q1⟩
      obtain ⟨u, q⟩ := this
      exact a.notin (.inr ⟨ob, q⟩) nh,
      fun z => let ⟨es, us, ws, q1, q2, q3, q4, q5, q6⟩ := h1 z; ⟨es, us, ws, a.keep x _ q1 (nr nh) (fun _ e => nomatch e), q2, q3, q4, ValsR.extH m a q5, ValsR.extH m a q6⟩,
      fun z => let ⟨es, ws, q1, q2, q3, q4⟩ := h2 z; ⟨es, ws, a.keep x _ q1 (nr nh) (fun _ e => nomatch e), q2, q3, ValsR.extH m a q4⟩⟩
theorem ValsR.extH (m : MemR G ρ h H) (a : ExtH ρ H ρ1 H1) : ∀ {xs : List CV} {vs : List V}, ValsR G ρ H xs vs → ValsR G ρ1 H1 xs vs
  | [], _, r => r
  | x :: xs, _, ⟨y, r, e, q, s⟩ => ⟨y, r, e, ValR.extH m a q, ValsR.extH m a s⟩
end
theorem ValR.ext (m : MemR G ρ h H) (a : Ext ρ H ρ1 H1) {x : CV} {v : V} (r : ValR G ρ H x v) : ValR G ρ1 H1 x v := r.extH m a.toH
theorem ValsR.ext (m : MemR G ρ h H) (a : Ext ρ H ρ1 H1) {x : List CV} {v : List V} (r : ValsR G ρ H x v) : ValsR G ρ1 H1 x v := r.extH m a.toH
theorem Ext.sqT (a : Ext ρ H ρ1 H1) (m : MemR G ρ h H) {x : Addr} {ys : List V} (r : SqT G.K H x ys) : SqT G.K H1 x ys := a.toH.sqT m r
end

def SlR (G : Cfg) (ρ : Wd) (H : Hp) (τ : Sl) (σ : L2.St) : Prop :=
  τ.length = σ.length ∧ (∀ (i : Nat) (v : CV), τ[i]? = some (some v) → ∃ u, σ[i]? = some (some u) ∧ ValR G ρ H v u) ∧ (∀ e, G.exi = some e → σ[e.slot]? = some (some (.ref e.at_))) ∧ ∀ L, G.lam = some L → σ[0]? = some (some (.ref L.f))
theorem SlV.ext {G : Cfg} {ρ ρ1 : Wd} {h : Mem} {H H1 : Hp} {τ : Sl} {σ : L2.St} (m : MemR G ρ h H) (a : Ext ρ H ρ1 H1) (r : SlV G ρ H τ σ) : SlV G ρ1 H1 τ σ := ⟨r.1, fun i v e => let ⟨u, q, z⟩ := r.2 i v e; ⟨u, q, z.ext m a⟩⟩
theorem MemR.lamE {G : Cfg} {ρ ρ1 : Wd} {h : Mem} {H H1 : Hp} (m : MemR G ρ h H) (a : Ext ρ H ρ1 H1) : ∀ L, G.lam = some L → SlV G ρ1 H1 L.τ L.σ ∧ H1 L.c = some (LamX.CodeO L.c L.q) := fun L he =>
  ⟨(m.lam L he).1.ext m a, a.keep _ _ (m.lam L he).2 (nr (m.notin (m.lam L he).2 notMut_code)) (LamX.codeO_ne)⟩
theorem ExcR.ext {G : Cfg} {ρ ρ1 : Wd} {h : Mem} {H H1 : Hp} {x : Exn} {c : Value} {d : Option Addr} (m : MemR G ρ h H) (a : Ext ρ H ρ1 H1) (r : ExcR G ρ H x c d) : ExcR G ρ1 H1 x c d :=
  ⟨r.1, r.2.elim .inl fun ⟨da, fs, e1, e2, e3, e4⟩ => .inr ⟨da, fs, e1, a.keep da _ e2 (nr (m.notin e2 notMut_xd)) (fun _ z => nomatch z), e3, e4.ext m a⟩⟩
section
variable {G : Cfg} {ρ ρ1 ρ2 : Wd} {h : Mem} {H H1 H2 : Hp} {τ : Sl} {σ : L2.St}
theorem SlR.ext (m : MemR G ρ h H) (a : Ext ρ H ρ1 H1) (r : SlR G ρ H τ σ) : SlR G ρ1 H1 τ σ :=
  ⟨r.1, fun i v e => let ⟨u, q, z⟩ := r.2.1 i v e; ⟨u, q, z.ext m a⟩, r.2.2⟩
theorem fr_ne {i : Nat} {e : XI} (hf : G.fr i = true) (he : G.exi = some e) : i ≠ e.slot := fun z => by
  unfold Cfg.fr at hf
  rw [he] at hf
  subst z
  simp at hf
theorem fr_ne0 {i : Nat} {L : LI} (hf : G.fr i = true) (he : G.lam = some L) : i ≠ 0 := fun z => by
  unfold Cfg.fr at hf
  rw [he] at hf
  subst z
  simp at hf
theorem SlR.set (r : SlR G ρ H τ σ) (i : Nat) {x : CV} {v : V} (q : ValR G ρ H x v) (hf : G.fr i = true) : SlR G ρ H (τ.set i (some x)) (σ.set i (some v)) := by
  refine ⟨by simpa using r.1, fun j y e => ?_, fun e he => by rw [List.getElem?_set_ne (fr_ne hf he)]; exact r.2.2.1 e he, fun L he => by rw [List.getElem?_set_ne (fr_ne0 hf he)]; exact r.2.2.2 L he⟩
  by_cases hj : i = j
  · subst hj
    by_cases hl : i < τ.length
    · rw [List.getElem?_set_self hl] at e
      cases e
      exact ⟨v, by rw [List.getElem?_set_self (by rw [← r.1]; exact hl)], q⟩
    · rw [List.getElem?_eq_none (by simpa using hl)] at e; cases e
  · rw [List.getElem?_set_ne hj] at e
    obtain ⟨u, a, b⟩ := r.2.1 j y e
    exact ⟨u, by rw [List.getElem?_set_ne hj]; exact a, b⟩
theorem SlR.unset (r : SlR G ρ H τ σ) (i : Nat) (hf : G.fr i = true) : SlR G ρ H (τ.set i none) (σ.set i none) := by
  refine ⟨by simpa using r.1, fun j y e => ?_, fun e he => by rw [List.getElem?_set_ne (fr_ne hf he)]; exact r.2.2.1 e he, fun L he => by rw [List.getElem?_set_ne (fr_ne0 hf he)]; exact r.2.2.2 L he⟩
  by_cases hj : i = j
  · subst hj
    by_cases hl : i < τ.length
    · rw [List.getElem?_set_self hl] at e; cases e
    · rw [List.getElem?_eq_none (by simpa using hl)] at e; cases e
  · rw [List.getElem?_set_ne hj] at e
    obtain ⟨u, a, b⟩ := r.2.1 j y e
    exact ⟨u, by rw [List.getElem?_set_ne hj]; exact a, b⟩
end

section
variable (G : Cfg) (W : WX)
def Post {α β : Type} (R : Wd → Hp → α → β → Prop) (σ : L2.St) (ρ : Wd) (H : Hp) (o : Out α) (Q : β → Hp → Prop) : Prop :=
  match o with
  | .ok a h' => ∀ ρ' H' b, MemR G ρ' h' H' → Ext ρ H ρ' H' → R ρ' H' a b → Q b H'
  | .exc x h' => ∀ ρ' H' c d, MemR G ρ' h' H' → Ext ρ H ρ' H' → ExcR G ρ' H' x c d → W c d σ H'
  | .bad => False
def tM {α β : Type} (R : Wd → Hp → α → β → Prop) (m : Sl → M α) : L2.St → Hp → (β → Hp → Prop) → Prop :=
  fun σ H Q => ∃ ρ h τ, MemR G ρ h H ∧ SlR G ρ H τ σ ∧ Post G W R σ ρ H (m τ h) Q
abbrev tV (m : Sl → M CV) : TE := tM G W (ValR G) m
abbrev tBo (m : Sl → M Bool) : TT := tM G W (fun _ _ (a b : Bool) => a = b) m
abbrev tL (m : Sl → M (List CV)) : TA := tM G W (ValsR G) m
abbrev SE (X : Cx) (e : Expr) (m : Sl → M CV) : Prop := PE X e (tV G W m)
abbrev ST (X : Cx) (e : Expr) (m : Sl → M Bool) : Prop := PT X e (tBo G W m)
abbrev SW (X : Cx) (e : Expr) (m : Sl → M Bool) : Prop := PW X e (tBo G W m)
abbrev SA (X : Cx) (es : List Expr) (m : Sl → M (List CV)) : Prop := PA X es (tL G W m)
end
structure Bx (G : Cfg) (W : WX) (X : Cx) : Prop where
  k : G.K = X.K
  p : G.P = X.prog
  w : G.w = X.w
  tk : Takes X W

section
variable {G : Cfg} {W : WX} {ρ ρ1 : Wd} {h : Mem} {H H1 : Hp} {τ : Sl} {σ : L2.St} {α β γ δ : Type} {R : Wd → Hp → α → β → Prop} {S : Wd → Hp → γ → δ → Prop}
theorem Post.ext {o : Out α} {Q : β → Hp → Prop} (p : Post G W R σ ρ H o Q) (a : Ext ρ H ρ1 H1) : Post G W R σ ρ1 H1 o Q := by
  cases o with
  | ok x h' => exact fun ρ' H' b m e r => p ρ' H' b m (a.trans e) r
  | exc x h' => exact fun ρ' H' c d m e r => p ρ' H' c d m (a.trans e) r
  | bad => exact p
/-- the first of two -/
theorem tM_bind {ma : Sl → M α} {k : α → M γ} {Q : δ → Hp → Prop} {C : β → Hp → Prop} (m : MemR G ρ h H) (s : SlR G ρ H τ σ) (p : Post G W S σ ρ H (bnd (ma τ) k h) Q)
    (hC : ∀ a h1 ρ1 H1 b, MemR G ρ1 h1 H1 → Ext ρ H ρ1 H1 → SlR G ρ1 H1 τ σ → R ρ1 H1 a b → Post G W S σ ρ1 H1 (k a h1) Q → C b H1) : tM G W R ma σ H C := by
  refine ⟨ρ, h, τ, m, s, ?_⟩
  unfold bnd at p
  cases e : ma τ h with
  | ok a h1 =>
    rw [e] at p
    exact fun ρ1 H1 b m1 e1 r => hC a h1 ρ1 H1 b m1 e1 (s.ext m e1) r (Post.ext (G := G) (W := W) p e1)
  | exc x h1 => rw [e] at p; exact p
  | bad => rw [e] at p; exact p
theorem Post.fin {a : α} {b : β} {Q : β → Hp → Prop} (m : MemR G ρ h H) (p : Post G W R σ ρ H (ret a h) Q) (r : R ρ H a b) : Q b H := p ρ H b m Ext.refl r
end
theorem _root_.L2.PE.wk {X : Cx} {e : Expr} {t t' : TE} (h : PE X e t) (w : ∀ σ H Q, t' σ H Q → t σ H Q) : PE X e t' := ⟨fun pins s σ H Q I q => h.run pins s σ H Q I (w σ H Q q)⟩
theorem _root_.L2.PT.wk {X : Cx} {e : Expr} {t t' : TT} (h : PT X e t) (w : ∀ σ H Q, t' σ H Q → t σ H Q) : PT X e t' := ⟨fun pins s σ H Q I q => h.run pins s σ H Q I (w σ H Q q)⟩
theorem _root_.L2.PW.wk {X : Cx} {e : Expr} {t t' : TT} (h : PW X e t) (w : ∀ σ H Q, t' σ H Q → t σ H Q) : PW X e t' := ⟨fun wh pins s σ H Q I q => h.run wh pins s σ H Q I (w σ H Q q)⟩
theorem _root_.L2.PA.wk {X : Cx} {es : List Expr} {t t' : TA} (h : PA X es t) (w : ∀ σ H Q, t' σ H Q → t σ H Q) : PA X es t' := ⟨fun p pins s σ H Q I q => h.run p pins s σ H Q I (w σ H Q q)⟩
theorem _root_.L2.PS.wk {X : Cx} {e : Stmt} {t t' : TS} (h : PS X e t) (w : ∀ D σ H, t' D σ H → t D σ H) : PS X e t' := ⟨fun pins s σ H D I q => h.run pins s σ H D I (w D σ H q)⟩
theorem _root_.L2.PSs.wk {X : Cx} {e : List Stmt} {t t' : TS} (h : PSs X e t) (w : ∀ D σ H, t' D σ H → t D σ H) : PSs X e t' := ⟨fun pins s σ H D I q => h.run pins s σ H D I (w D σ H q)⟩

def eVar (i : Nat) : Sl → M CV := fun τ h => Option.rec .bad (fun o => Option.rec .bad (fun v => .ok v h) o) (sget τ i)
def eC (v : CV) : Sl → M CV := fun _ => ret v
def eOp (g : CV → CV → M CV) (a b : Sl → M CV) : Sl → M CV := fun τ => bnd (a τ) fun x => bnd (b τ) fun y => g x y
def eUn (g : CV → M CV) (a : Sl → M CV) : Sl → M CV := fun τ => bnd (a τ) g
def eNilA : Sl → M (List CV) := fun _ => ret []
def eConsA (a : Sl → M CV) (r : Sl → M (List CV)) : Sl → M (List CV) := fun τ => bnd (a τ) fun x => bnd (r τ) fun xs => ret (x :: xs)
def eApp (g : List CV → M CV) (a : Sl → M (List CV)) : Sl → M CV := fun τ => bnd (a τ) g
/-- a two-place rule, by plain values -/
def Op2 (G : Cfg) (r : R2) (g : CV → CV → M CV) : Prop :=
  ∀ (W : WX) (σ : L2.St) (ρ : Wd) (h : Mem) (H : Hp) (x y : CV) (u v : V) (Q : VK), MemR G ρ h H → ValR G ρ H x u → ValR G ρ H y v → Post G W (ValR G) σ ρ H (g x y h) Q → r u v H Q
def Op1 (G : Cfg) (r : V → Hp → VK → Prop) (g : CV → M CV) : Prop :=
  ∀ (W : WX) (σ : L2.St) (ρ : Wd) (h : Mem) (H : Hp) (x : CV) (u : V) (Q : VK), MemR G ρ h H → ValR G ρ H x u → Post G W (ValR G) σ ρ H (g x h) Q → r u H Q
def OpL (G : Cfg) (r : List V → Hp → VK → Prop) (g : List CV → M CV) : Prop :=
  ∀ (W : WX) (σ : L2.St) (ρ : Wd) (h : Mem) (H : Hp) (xs : List CV) (us : List V) (Q : VK), MemR G ρ h H → ValsR G ρ H xs us → Post G W (ValR G) σ ρ H (g xs h) Q → r us H Q

section
variable {G : Cfg} {W : WX} {X : Cx} {pos : Pos}
theorem se_var (i : Nat) {x : Str} (hN : X.N[i]? = some x := by rfl) (hv : Vis X.env.scope x := by first | exact Or.inl rfl | exact Or.inr (Or.inl rfl) | exact Or.inr (Or.inr rfl)) (hd : (x == ("__debug__" : Str)) = false := by decide)
    (hcd : (x == ("__classdict__" : Str)) = false := by decide) : SE G W X (.Name x pos) (eVar i) :=
  (pe_var hN hv hd hcd).wk fun σ H Q ⟨ρ, h, τ, m, s, p⟩ => by
    unfold eVar at p
    rw [sget_eq] at p
    cases e : τ[i]? with
    | none => rw [e] at p; exact p.elim
    | some o =>
      rw [e] at p
      cases o with
      | none => exact p.elim
      | some v =>
        obtain ⟨u, q, r⟩ := s.2.1 i v e
        exact ⟨u, q, p ρ H u m Ext.refl r⟩
theorem se_const {e : Expr} {v : V} {x : CV} (he : PE X e (tC v)) (r : ∀ ρ H, ValR G ρ H x v) : SE G W X e (eC x) :=
  he.wk fun σ H Q ⟨ρ, h, τ, m, s, p⟩ => p ρ H v m Ext.refl (r ρ H)
theorem se_int {i : Int} {j pos} : SE G W X (.Constant (.int i) j pos) (eC (.int i)) := se_const pe_int fun _ _ => rfl
theorem se_bl {b : Bool} {j pos} : SE G W X (.Constant (.bool b) j pos) (eC (.bl b)) := se_const pe_bl fun _ _ => rfl
theorem se_non {j pos} : SE G W X (.Constant .none j pos) (eC .non) := se_const pe_non fun _ _ => rfl
theorem se_str {x : Str} {j pos} : SE G W X (.Constant (.str x) j pos) (eC (.str x)) := se_const pe_str fun _ _ => rfl
variable {a b c : Expr} {ma mb mc : Sl → M CV} {es : List Expr} {ml : Sl → M (List CV)}
theorem se_op {op : Operator} {r : R2} {g : CV → CV → M CV} (ho : OpR X (binaryOp op) r) (hg : Op2 G r g) (ha : SE G W X a ma) (hb : SE G W X b mb) : SE G W X (.BinOp a op b pos) (eOp g ma mb) :=
  (pe_op ho ha hb).wk fun σ H Q ⟨ρ, h, τ, m, s, p⟩ => tM_bind m s p fun x h1 ρ1 H1 u m1 e1 s1 r1 p1 => tM_bind m1 s1 p1 fun y h2 ρ2 H2 v m2 e2 s2 r2 p2 => hg W σ ρ2 h2 H2 x y u v Q m2 (r1.ext m1 e2) r2 p2
theorem se_un {op : UnaryOp} {r : V → Hp → VK → Prop} {g : CV → M CV} (ho : UnR X (unaryOp op) r) (hg : Op1 G r g) (ha : SE G W X a ma) : SE G W X (.UnaryOp op a pos) (eUn g ma) :=
  (pe_un ho ha).wk fun σ H Q ⟨ρ, h, τ, m, s, p⟩ => tM_bind m s p fun x h1 ρ1 H1 u m1 e1 s1 r1 p1 => hg W σ ρ1 h1 H1 x u Q m1 r1 p1
theorem se_cmp {op : CmpOp} {r : R2} {g : CV → CV → M CV} (ho : OpR X (compareOp op) r) (hg : Op2 G r g) (ha : SE G W X a ma) (hb : SE G W X b mb) (hm : behindInMarks op b = false := by first | exact nomark _ | rfl) : SE G W X (.Compare a [op] [b] pos) (eOp g ma mb) :=
  (pe_cmpR ho ha hb hm).wk fun σ H Q ⟨ρ, h, τ, m, s, p⟩ => tM_bind m s p fun x h1 ρ1 H1 u m1 e1 s1 r1 p1 => tM_bind m1 s1 p1 fun y h2 ρ2 H2 v m2 e2 s2 r2 p2 => hg W σ ρ2 h2 H2 x y u v Q m2 (r1.ext m1 e2) r2 p2
theorem sa_nil : SA G W X [] eNilA := pa_nil.wk fun σ H Q ⟨ρ, h, τ, m, s, p⟩ => p ρ H [] m Ext.refl rfl
theorem sa_cons (ha : SE G W X a ma) (hr : SA G W X es ml) (hs : starEach (a :: es) X.env = (false, eval a X.env) :: starEach es X.env := by rfl) : SA G W X (a :: es) (eConsA ma ml) :=
  (pa_cons ha hr hs).wk fun σ H Q ⟨ρ, h, τ, m, s, p⟩ => tM_bind m s p fun x h1 ρ1 H1 u m1 e1 s1 r1 p1 => tM_bind m1 s1 p1 fun y h2 ρ2 H2 v m2 e2 s2 r2 p2 => p2 ρ2 H2 (u :: v) m2 Ext.refl ⟨u, v, rfl, r1.ext m1 e2, r2⟩
end
end VE

noncomputable section
namespace VE
open PySem PySem.Spec PyProof.Rows L2

inductive Fl where
  | nx (τ : Sl) | rt (v : CV) | bk (τ : Sl) | ct (τ : Sl) | ex (x : Exn) (τ : Sl)
inductive OS where
  | mk (f : Fl) (h : Mem) | bad
abbrev MS := Sl → Mem → OS
/-- an expression within a statement -/
def inS {α : Type} (m : M α) (τ : Sl) (k : α → Mem → OS) : Mem → OS := fun h => Out.rec (fun a h' => k a h') (fun x h' => .mk (.ex x τ) h') .bad (m h)
section
variable (G : Cfg) (W : WX)
def PostS (ρ : Wd) (H : Hp) (o : OS) (D : Ends) : Prop :=
  match o with
  | .mk (.nx τ) h' => ∀ ρ' H' σ', MemR G ρ' h' H' → Ext ρ H ρ' H' → SlR G ρ' H' τ σ' → D.nx σ' H'
  | .mk (.bk τ) h' => ∀ ρ' H' σ', MemR G ρ' h' H' → Ext ρ H ρ' H' → SlR G ρ' H' τ σ' → D.bk σ' H'
  | .mk (.ct τ) h' => ∀ ρ' H' σ', MemR G ρ' h' H' → Ext ρ H ρ' H' → SlR G ρ' H' τ σ' → D.ct σ' H'
  | .mk (.rt v) h' => ∀ ρ' H' u, MemR G ρ' h' H' → Ext ρ H ρ' H' → ValR G ρ' H' v u → D.rt u H'
  | .mk (.ex x τ) h' => ∀ ρ' H' c d σ', MemR G ρ' h' H' → Ext ρ H ρ' H' → SlR G ρ' H' τ σ' → ExcR G ρ' H' x c d → W c d σ' H'
  | .bad => False
def tS (m : MS) : TS := fun D σ H => ∃ ρ h τ, MemR G ρ h H ∧ SlR G ρ H τ σ ∧ PostS G W ρ H (m τ h) D
abbrev SS (X : Cx) (st : Stmt) (m : MS) : Prop := PS X st (tS G W m)
abbrev SSs (X : Cx) (st : List Stmt) (m : MS) : Prop := PSs X st (tS G W m)
def tGt (g : CV → Sl → M Sl) : TG := fun v σ H Q => ∃ ρ h τ x, MemR G ρ h H ∧ SlR G ρ H τ σ ∧ ValR G ρ H x v ∧ match g x τ h with
  | .ok τ' h' => ∀ ρ' H' σ', MemR G ρ' h' H' → Ext ρ H ρ' H' → SlR G ρ' H' τ' σ' → Q σ' H'
  | _ => False
def tGts (g : List CV → Sl → M Sl) : TGs := fun vs σ H Q => ∃ ρ h τ xs, MemR G ρ h H ∧ SlR G ρ H τ σ ∧ ValsR G ρ H xs vs ∧ match g xs τ h with
  | .ok τ' h' => ∀ ρ' H' σ', MemR G ρ' h' H' → Ext ρ H ρ' H' → SlR G ρ' H' τ' σ' → Q σ' H'
  | _ => False
abbrev SG (X : Cx) (tg : Expr) (g : CV → Sl → M Sl) : Prop := PG X tg (tGt G g)
abbrev SGs (X : Cx) (tg : List Expr) (g : List CV → Sl → M Sl) : Prop := PGs X tg (tGts G g)
end
theorem _root_.L2.PG.wk {X : Cx} {e : Expr} {t t' : TG} (h : PG X e t) (w : ∀ v σ H Q, t' v σ H Q → t v σ H Q) : PG X e t' := ⟨fun pins s σ H v u Q I r q => h.run pins s σ H v u Q I r (w v σ H Q q)⟩
theorem _root_.L2.PGs.wk {X : Cx} {e : List Expr} {t t' : TGs} (h : PGs X e t) (w : ∀ v σ H Q, t' v σ H Q → t v σ H Q) : PGs X e t' := ⟨fun pins s σ H v u Q I r q => h.run pins s σ H v u Q I r (w v σ H Q q)⟩
theorem _root_.L2.PI.wk {X : Cx} {tg e : Expr} {t t' : TI} (h : PI X tg e t) (w : ∀ σ H R, t' σ H R → t σ H R) : PI X tg e t' := ⟨fun pins s σ H R I q => h.run pins s σ H R I (w σ H R q)⟩

section
variable {G : Cfg} {W : WX} {ρ ρ1 : Wd} {h : Mem} {H H1 : Hp} {τ : Sl} {σ : L2.St} {α β : Type} {R : Wd → Hp → α → β → Prop} {D : Ends}
theorem PostS.ext {o : OS} (p : PostS G W ρ H o D) (a : Ext ρ H ρ1 H1) : PostS G W ρ1 H1 o D := by
  cases o with
  | mk f h' =>
    cases f with
    | nx τ => exact fun ρ' H' σ' m e r => p ρ' H' σ' m (a.trans e) r
    | bk τ => exact fun ρ' H' σ' m e r => p ρ' H' σ' m (a.trans e) r
    | ct τ => exact fun ρ' H' σ' m e r => p ρ' H' σ' m (a.trans e) r
    | rt v => exact fun ρ' H' σ' m e r => p ρ' H' σ' m (a.trans e) r
    | ex x τ => exact fun ρ' H' c d σ' m e r z => p ρ' H' c d σ' m (a.trans e) r z
  | bad => exact p
theorem tM_inS {ma : Sl → M α} {k : α → Mem → OS} {C : β → Hp → Prop} (m : MemR G ρ h H) (s : SlR G ρ H τ σ) (p : PostS G W ρ H (inS (ma τ) τ k h) D)
    (hC : ∀ a h1 ρ1 H1 b, MemR G ρ1 h1 H1 → Ext ρ H ρ1 H1 → SlR G ρ1 H1 τ σ → R ρ1 H1 a b → PostS G W ρ1 H1 (k a h1) D → C b H1) : tM G W R ma σ H C := by
  refine ⟨ρ, h, τ, m, s, ?_⟩
  unfold inS at p
  cases e : ma τ h with
  | ok a h1 =>
    rw [e] at p
    exact fun ρ1 H1 b m1 e1 r => hC a h1 ρ1 H1 b m1 e1 (s.ext m e1) r (PostS.ext (G := G) (W := W) p e1)
  | exc x h1 =>
    rw [e] at p
    exact fun ρ1 H1 c d m1 e1 r => p ρ1 H1 c d σ m1 e1 (s.ext m e1) r
  | bad => rw [e] at p; exact p
theorem PostS.nx' (m : MemR G ρ h H) (s : SlR G ρ H τ σ) (p : PostS G W ρ H (.mk (.nx τ) h) D) : D.nx σ H := p ρ H σ m Ext.refl s
end

def mNil : MS := fun τ h => .mk (.nx τ) h
def mSeq (a b : MS) : MS := fun τ h => OS.rec (fun f h' => Fl.rec (fun τ' => b τ' h') (fun v => .mk (.rt v) h') (fun τ' => .mk (.bk τ') h') (fun τ' => .mk (.ct τ') h') (fun x τ' => .mk (.ex x τ') h') f) .bad (a τ h)
def mAsg (g : CV → Sl → M Sl) (e : Sl → M CV) : MS := fun τ => inS (e τ) τ fun x h => Out.rec (fun τ' h' => .mk (.nx τ') h') (fun _ _ => .bad) .bad (g x τ h)
def gSet (i : Nat) : CV → Sl → M Sl := fun x τ h => frV 3 x fun x => sset τ i (some x) fun τ => .ok τ h
theorem gSet_eq {i : Nat} {x : CV} {τ : Sl} {h : Mem} : gSet i x τ h = .ok (τ.set i (some x)) h := by
  unfold gSet
  rw [frV_eq, sset_eq]
def gNilT : List CV → Sl → M Sl := fun xs τ => match xs with
  | [] => ret τ
  | _ => stuck
def gConsT (g : CV → Sl → M Sl) (r : List CV → Sl → M Sl) : List CV → Sl → M Sl := fun xs τ => match xs with
  | x :: xs => bnd (g x τ) (r xs)
  | _ => stuck
def gUnp (n : Nat) (g : List CV → Sl → M Sl) : CV → Sl → M Sl := fun x τ => match x with
  | .tup xs => if xs.length = n then g xs τ else stuck
  | _ => stuck
def mIf (c : Sl → M Bool) (a b : MS) : MS := fun τ => inS (c τ) τ fun k h => Bool.rec (b τ h) (a τ h) k
def mRet (e : Sl → M CV) : MS := fun τ => inS (e τ) τ fun x h => .mk (.rt x) h
def mRetN : MS := fun τ h => .mk (.rt .non) h
def mExpr (e : Sl → M CV) : MS := fun τ => inS (e τ) τ fun _ h => .mk (.nx τ) h
def mBreak : MS := fun τ h => .mk (.bk τ) h
def mCont : MS := fun τ h => .mk (.ct τ) h
def mAug (i : Nat) (g : CV → CV → M CV) (e : Sl → M CV) : MS := fun τ h => Option.rec .bad (fun o => Option.rec .bad (fun x =>
    inS (e τ) τ (fun y h1 => Out.rec (fun z h2 => frV 3 z fun z => sset τ i (some z) fun τ => .mk (.nx τ) h2) (fun _ _ => .bad) .bad (g x y h1)) h) o) (sget τ i)
/-- behind a loop's turn: go on, or leave -/
def turn (go : Sl → Mem → OS) (o : OS) : OS := OS.rec (fun f h' => Fl.rec (fun τ' => go τ' h') (fun v => .mk (.rt v) h') (fun τ' => .mk (.nx τ') h') (fun τ' => go τ' h') (fun x τ' => .mk (.ex x τ') h') f) .bad o
def mWhile (c : Sl → M Bool) (b : MS) (n : Nat) : MS := Nat.rec (fun _ _ => .bad) (fun _ ih τ => inS (c τ) τ fun k h => Bool.rec (.mk (.nx τ) h) (turn ih (b τ h)) k) n
def mForL (g : CV → Sl → M Sl) (b : MS) (xs : List CV) : MS := List.rec (fun τ h => .mk (.nx τ) h) (fun x _ ih τ h => Out.rec (fun τ1 h1 => turn ih (b τ1 h1)) (fun _ _ => .bad) .bad (g x τ h)) xs
theorem mWhile_succ (c : Sl → M Bool) (b : MS) (n : Nat) : mWhile c b (n + 1) = fun τ => inS (c τ) τ fun k h => Bool.rec (.mk (.nx τ) h) (turn (mWhile c b n) (b τ h)) k := rfl
theorem mForL_cons (g : CV → Sl → M Sl) (b : MS) (x : CV) (xs : List CV) : mForL g b (x :: xs) = fun τ h => Out.rec (fun τ1 h1 => turn (mForL g b xs) (b τ1 h1)) (fun _ _ => .bad) .bad (g x τ h) := rfl
def mFor (it : Sl → M (List CV)) (g : CV → Sl → M Sl) (b : MS) : MS := fun τ => inS (it τ) τ fun xs h => mForL g b xs τ h

section
variable {G : Cfg} {W : WX} {X : Cx} {pos : Pos} {st : Stmt} {rest : List Stmt} {ma mb : MS} {e : Expr} {me : Sl → M CV} {mc : Sl → M Bool}
theorem sss_nil : SSs G W X [] mNil := pss_nil.wk fun D σ H ⟨ρ, h, τ, m, s, p⟩ => p.nx' m s
theorem sss_cons (h1 : SS G W X st ma) (h2 : SSs G W X rest mb) : SSs G W X (st :: rest) (mSeq ma mb) :=
  (pss_cons h1 h2).wk fun D σ H ⟨ρ, h, τ, m, s, p⟩ => by
    refine ⟨ρ, h, τ, m, s, ?_⟩
    unfold mSeq at p
    cases q : ma τ h with
    | mk f h' =>
      rw [q] at p
      cases f with
      | nx τ' => exact fun ρ1 H1 σ1 m1 e1 s1 => ⟨ρ1, h', τ', m1, s1, PostS.ext (G := G) (W := W) p e1⟩
      | bk τ' => exact p
      | ct τ' => exact p
      | rt v => exact p
      | ex x τ' => exact p
    | bad => rw [q] at p; exact p
theorem sss_one (h1 : SS G W X st ma) : SSs G W X [st] ma := pss_one h1
theorem sg_set {i : Nat} {x : Str} (hN : X.N.Nodup) (hi : X.N[i]? = some x) (hx : Loc X.env.scope x) (hf : X.fn x = true ∨ X.env.scope.names.lookup x = some .local := by first | exact .inl rfl | exact .inr rfl | assumption) (hfr : G.fr i = true := by rfl) : SG G X (.Name x pos) (gSet i) :=
  (pg_name hN hi hx hf).wk fun v σ H Q ⟨ρ, h, τ, x, m, s, r, p⟩ => by
    rw [gSet_eq] at p
    exact p ρ H _ m Ext.refl (s.set i r hfr)
theorem sgs_nil : SGs G X [] gNilT := pgs_nil.wk fun vs σ H Q ⟨ρ, h, τ, xs, m, s, r, p⟩ => by
  cases xs with
  | nil => exact ⟨r, p ρ H σ m Ext.refl s⟩
  | cons x xs => exact p.elim
theorem sgs_cons {t : Expr} {ts : List Expr} {g : CV → Sl → M Sl} {gr : List CV → Sl → M Sl} (h1 : SG G X t g) (h2 : SGs G X ts gr)
    (hs : (assignEach (t :: ts) X.env).map (·.2) = assign t X.env :: (assignEach ts X.env).map (·.2) := by rfl) : SGs G X (t :: ts) (gConsT g gr) :=
  (pgs_cons h1 h2 hs).wk fun vs σ H Q ⟨ρ, h, τ, xs, m, s, r, p⟩ => by
    cases xs with
    | nil => exact p.elim
    | cons x xs =>
      obtain ⟨v, vr, e, r1, r2⟩ := r
      refine ⟨v, vr, e, ρ, h, τ, x, m, s, r1, ?_⟩
      simp only [gConsT, bnd] at p
      cases q : g x τ h with
      | ok τ' h' =>
        rw [q] at p
        intro ρ1 H1 σ1 m1 e1 s1
        refine ⟨ρ1, h', τ', xs, m1, s1, ValsR.ext m e1 r2, ?_⟩
        simp only at p
        cases q2 : gr xs τ' h' with
        | ok τ2 h2 => rw [q2] at p; exact fun ρ2 H2 σ2 m2 e2 s2 => p ρ2 H2 σ2 m2 (e1.trans e2) s2
        | exc x2 h2 => rw [q2] at p; exact p
        | bad => rw [q2] at p; exact p
      | exc x2 h2 => rw [q] at p; exact p
      | bad => rw [q] at p; exact p
theorem sg_unp {es : List Expr} {k n : Nat} {g : List CV → Sl → M Sl} (hK : G.K = X.K) (hc : X.calm = true) (hg : SGs G X es g) (hn : (assignEach es X.env).length = n := by rfl) (hst : (assignEach es X.env).findIdx? (·.1) = none := by rfl) :
    SG G X (.Tuple es k pos) (gUnp n g) :=
  (pg_tup hc hg hn hst).wk fun v σ H Q ⟨ρ, h, τ, x, m, s, r, p⟩ => by
    cases x with
    | tup xs =>
      obtain ⟨a, ys, e, q, z⟩ := r
      simp only [gUnp] at p
      by_cases hl : xs.length = n
      · rw [if_pos hl] at p
        refine ⟨a, ys, e, hK ▸ q, ?_, ρ, h, τ, xs, m, s, z, p⟩
        have len : ∀ {xs : List CV} {ys : List V}, ValsR G ρ H xs ys → xs.length = ys.length := by
          intro xs
          induction xs with
          | nil => intro ys r; rw [show ys = [] from r]; rfl
          | cons x xs ih => intro ys r; obtain ⟨y, r', e, _, r2⟩ := r; rw [e, List.length_cons, List.length_cons, ih r2]
        rw [← len z, hl]
      · rw [if_neg hl] at p; exact p.elim
    | _ => exact p.elim
theorem ss_asg {tg : Expr} {g : CV → Sl → M Sl} (hg : SG G X tg g) (he : SE G W X e me) (hs : swapsWithSole [tg] e pos.line X.env = pure false := by rfl) (hw : swappedStores [tg] e X.env = pure none := by rfl)
    (h1 : (assignEach [tg] X.env).map (·.2) = [assign tg X.env] := by rfl) : SS G W X (.Assign [tg] e pos) (mAsg g me) :=
  (ps_asg he hg hs hw h1).wk fun D σ H ⟨ρ, h, τ, m, s, p⟩ => tM_inS m s p fun x h1 ρ1 H1 u m1 e1 s1 r1 p1 => by
    refine ⟨ρ1, h1, τ, x, m1, s1, r1, ?_⟩
    cases q : g x τ h1 with
    | ok τ' h' => rw [q] at p1; exact p1
    | exc x h' => rw [q] at p1; exact p1
    | bad => rw [q] at p1; exact p1
theorem ss_if {c : Expr} {a b : List Stmt} (hc : ST G W X c mc) (ha : SSs G W X a ma) (hb : SSs G W X b mb) : SS G W X (.If c a b pos) (mIf mc ma mb) :=
  (ps_if hc ha hb).wk fun D σ H ⟨ρ, h, τ, m, s, p⟩ => tM_inS m s p fun k h1 ρ1 H1 u m1 e1 s1 r1 p1 => by
    subst r1
    cases k with
    | true => exact (if_pos rfl) ▸ ⟨ρ1, h1, τ, m1, s1, p1⟩
    | false => exact (if_neg Bool.false_ne_true) ▸ ⟨ρ1, h1, τ, m1, s1, p1⟩
theorem ss_ret (he : SE G W X e me) : SS G W X (.Return (some e) pos) (mRet me) :=
  (ps_ret he).wk fun D σ H ⟨ρ, h, τ, m, s, p⟩ => tM_inS m s p fun x h1 ρ1 H1 u m1 e1 s1 r1 p1 => p1 ρ1 H1 u m1 Ext.refl r1
theorem ss_retN : SS G W X (.Return none pos) mRetN := ps_retN.wk fun D σ H ⟨ρ, h, τ, m, s, p⟩ => p ρ H .non m Ext.refl rfl
theorem ss_expr (he : SE G W X e me) (hs : swapsWith e none pos.line X.env = pure false := by rfl) : SS G W X (.Expr e pos) (mExpr me) :=
  (ps_expr he hs).wk fun D σ H ⟨ρ, h, τ, m, s, p⟩ => tM_inS m s p fun x h1 ρ1 H1 u m1 e1 s1 r1 p1 => p1 ρ1 H1 σ m1 Ext.refl s1
theorem ss_break : SS G W X (.Break pos) mBreak := ps_break.wk fun D σ H ⟨ρ, h, τ, m, s, p⟩ => p ρ H σ m Ext.refl s
theorem ss_cont : SS G W X (.Continue pos) mCont := ps_continue.wk fun D σ H ⟨ρ, h, τ, m, s, p⟩ => p ρ H σ m Ext.refl s
theorem ss_pass : SS G W X (.Pass pos) mNil := ps_pass.wk fun D σ H ⟨ρ, h, τ, m, s, p⟩ => p.nx' m s
theorem ss_aug {i : Nat} {x : Str} {op : Operator} {ti : TIp} {g : CV → CV → M CV} {pos' : Pos} (ho : PIp X op ti) (hg : Op2 G ti g) (hN : X.N.Nodup) (hi : X.N[i]? = some x) (hx : Loc X.env.scope x) (he : SE G W X e me)
    (hf : X.fn x = true ∨ X.env.scope.names.lookup x = some .local := by first | exact .inl rfl | exact .inr rfl | assumption) (hfr : G.fr i = true := by rfl) : SS G W X (.AugAssign (.Name x pos') op e pos) (mAug i g me) :=
  (ps_aug hN hi hx he ho hf).wk fun D σ H ⟨ρ, h, τ, m, s, p⟩ => by
    unfold mAug at p
    rw [sget_eq] at p
    cases hv : τ[i]? with
    | none => rw [hv] at p; exact p.elim
    | some o =>
      rw [hv] at p
      cases o with
      | none => exact p.elim
      | some v =>
        obtain ⟨u, q, r⟩ := s.2.1 i v hv
        refine ⟨u, q, tM_inS m s p fun y h1 ρ1 H1 w m1 e1 s1 r1 p1 => ?_⟩
        refine hg (fun _ _ _ _ => True) σ ρ1 h1 H1 v y u w _ m1 (r.ext m e1) r1 ?_
        cases z : g v y h1 with
        | ok a h2 =>
          rw [z] at p1
          simp only [frV_eq, sset_eq] at p1
          exact fun ρ2 H2 b m2 e2 r2 => p1 ρ2 H2 _ m2 e2 ((s1.ext m1 e2).set i r2 hfr)
        | exc x h2 => rw [z] at p1; exact p1.elim
        | bad => rw [z] at p1; exact p1.elim
theorem ss_while {c : Expr} {body : List Stmt} (n : Nat) (hp : PassesOwn (model X.prog X.w) X.A X.env X.xe) (hc : ST G W X c mc) (hb : SSs G W X body mb) : SS G W X (.While c body [] pos) (mWhile mc mb n) :=
  (ps_while hp hc hb).wk fun D σ H ⟨ρ, h, τ, m, s, p⟩ => by
    refine ⟨fun n σ H => ∃ ρ h τ, MemR G ρ h H ∧ SlR G ρ H τ σ ∧ PostS G W ρ H (mWhile mc mb n τ h) D, ⟨n, ρ, h, τ, m, s, p⟩, ?_⟩
    rintro n σ H ⟨ρ, h, τ, m, s, p⟩
    cases n with
    | zero => exact p.elim
    | succ n =>
      rw [mWhile_succ] at p
      refine tM_inS m s p fun k h1 ρ1 H1 u m1 e1 s1 r1 p1 => ?_
      subst r1
      cases k with
      | false =>
        rw [if_neg Bool.false_ne_true]
        exact p1.nx' m1 s1
      | true =>
        rw [if_pos rfl]
        refine ⟨_, fun σ' H' q => ⟨n, Nat.lt_succ_self n, q⟩, ρ1, h1, τ, m1, s1, ?_⟩
        have p1 : PostS G W ρ1 H1 (turn (mWhile mc mb n) (mb τ h1)) D := p1
        cases q : mb τ h1 with
        | mk f h' =>
          rw [q] at p1
          cases f with
          | nx τ' => exact fun ρ2 H2 σ2 m2 e2 s2 => ⟨ρ2, h', τ', m2, s2, PostS.ext (G := G) (W := W) p1 e2⟩
          | ct τ' => exact fun ρ2 H2 σ2 m2 e2 s2 => ⟨ρ2, h', τ', m2, s2, PostS.ext (G := G) (W := W) p1 e2⟩
          | bk τ' => exact p1
          | rt v => exact p1
          | ex x τ' => exact p1
        | bad => rw [q] at p1; exact p1
def ItR (G : Cfg) (ρ0 : Wd) (H0 : Hp) (J : It) (xs : List CV) : Prop :=
  ∀ ρ h H, MemR G ρ h H → ExtH ρ0 H0 ρ H → (∀ i, i < xs.length → J.go i H) ∧ J.stop xs.length H ∧ ∀ (i : Nat) (x : CV) (u : V) (H' : Hp), xs[i]? = some x → J.yld i H u H' → MemR G ρ h H' ∧ Ext ρ H ρ H' ∧ ValR G ρ H' x u
def tIt (G : Cfg) (W : WX) (it : Sl → M (List CV)) : TI := fun σ H R => tM G W (fun ρ H (xs : List CV) (J : It) => ItR G ρ H J xs) it σ H R
abbrev SI (G : Cfg) (W : WX) (X : Cx) (tg e : Expr) (it : Sl → M (List CV)) : Prop := PI X tg e (tIt G W it)
theorem ss_for {tg : Expr} {body : List Stmt} {it : Sl → M (List CV)} {g : CV → Sl → M Sl} (hp : PassesOwn (model X.prog X.w) X.A X.env X.xe) (hc : X.calm = true) (hi : SI G W X tg e it) (hg : SG G X tg g) (hb : SSs G W X body mb)
    (hs : ∀ x, foldedSetIterable e X.env x = pure x := by intro _; rfl) : SS G W X (.For tg e body [] pos) (mFor it g mb) :=
  (ps_for hp hc hi hg hb hs).wk fun D σ H ⟨ρ, h, τ, m, s, p⟩ => by
    refine tM_inS m s p fun xs h1 ρ1 H1 J m1 e1 s1 r1 p1 => ?_
    refine ⟨fun i n σ H => i + n = xs.length ∧ ∃ ρ h τ, MemR G ρ h H ∧ Ext ρ1 H1 ρ H ∧ SlR G ρ H τ σ ∧ PostS G W ρ H (mForL g mb (xs.drop i) τ h) D, ⟨xs.length, Nat.zero_add _, ρ1, h1, τ, m1, Ext.refl, s1, p1⟩, ?_⟩
    rintro i n σ H ⟨hi, ρ, h, τ, m, ex, s, p⟩
    obtain ⟨go, stop, yld⟩ := r1 ρ h H m ex.toH
    cases n with
    | zero =>
      have e : i = xs.length := by omega
      subst e
      rw [List.drop_length] at p
      exact .inl ⟨stop, p.nx' m s⟩
    | succ n =>
      have hlt : i < xs.length := by omega
      refine .inr ⟨go i hlt, _, fun σ' H' q => ⟨n, Nat.lt_succ_self n, q⟩, fun u H' y => ?_⟩
      obtain ⟨m', e', r'⟩ := yld i xs[i] u H' (by simp [hlt]) y
      rw [List.drop_eq_getElem_cons hlt] at p
      refine ⟨ρ, h, τ, xs[i], m', s.ext m e', r', ?_⟩
      rw [mForL_cons] at p
      cases q : g xs[i] τ h with
      | ok τ1 h2 =>
        simp only [q] at p
        intro ρ2 H2 σ2 m2 e2 s2
        refine ⟨ρ2, h2, τ1, m2, s2, ?_⟩
        have p : PostS G W ρ H (turn (mForL g mb (xs.drop (i + 1))) (mb τ1 h2)) D := p
        cases q2 : mb τ1 h2 with
        | mk f h3 =>
          rw [q2] at p
          cases f with
          | nx τ' => exact fun ρ3 H3 σ3 m3 e3 s3 => ⟨by omega, ρ3, h3, τ', m3, ex.trans (e'.trans (e2.trans e3)), s3, PostS.ext (G := G) (W := W) p (e'.trans (e2.trans e3))⟩
          | ct τ' => exact fun ρ3 H3 σ3 m3 e3 s3 => ⟨by omega, ρ3, h3, τ', m3, ex.trans (e'.trans (e2.trans e3)), s3, PostS.ext (G := G) (W := W) p (e'.trans (e2.trans e3))⟩
          | bk τ' => exact fun ρ3 H3 σ3 m3 e3 s3 => p ρ3 H3 σ3 m3 (e'.trans (e2.trans e3)) s3
          | rt v => exact fun ρ3 H3 σ3 m3 e3 s3 => p ρ3 H3 σ3 m3 (e'.trans (e2.trans e3)) s3
          | ex x τ' => exact fun ρ3 H3 c d σ3 m3 e3 s3 z => p ρ3 H3 c d σ3 m3 (e'.trans (e2.trans e3)) s3 z
        | bad => rw [q2] at p; exact p
      | exc x h2 => simp only [q] at p; exact p
      | bad => simp only [q] at p; exact p
end
end VE

noncomputable section
namespace VE
open PySem PySem.Spec PyProof.Rows L2

/-- the slots at the entry -/
def startC (nl : Nat) (xs : List CV) : Sl := xs.map some ++ List.replicate (nl - xs.length) none
def endB (o : OS) : Out CV := OS.rec (fun f h' => Fl.rec (fun _ => .ok .non h') (fun v => .ok v h') (fun _ => .bad) (fun _ => .bad) (fun x _ => .exc x h') f) .bad o
def runB (np nl : Nat) (b : MS) (xs : List CV) : M CV := fun h =>
  if xs.length = np then frLs (frV 3) xs fun xs => sapp (xs.map some) (List.replicate (nl - xs.length) none) fun τ => endB (b τ h) else .bad
theorem runB_eq {np nl : Nat} {b : MS} {xs : List CV} {h : Mem} : runB np nl b xs h = if xs.length = np then endB (b (startC nl xs) h) else .bad := by
  unfold runB startC
  rw [frLs_eq (frV_eq 3), sapp_eq]
def spH (G : Cfg) (np : Nat) (F : List CV → M CV) : Sp := fun vs H Q E => vs.length = np ∧ ∃ ρ h xs, MemR G ρ h H ∧ ValsR G ρ H xs vs ∧ Post G (fun c d _ H' => E c d H') (ValR G) [] ρ H (F xs h) Q
theorem ValsR.len {G : Cfg} {ρ : Wd} {H : Hp} : ∀ {xs : List CV} {ys : List V}, ValsR G ρ H xs ys → xs.length = ys.length
  | [], _, r => by rw [show _ = [] from r]; rfl
  | x :: xs, _, ⟨y, r', e, _, r2⟩ => by rw [e, List.length_cons, List.length_cons, r2.len]
theorem ValsR.get {G : Cfg} {ρ : Wd} {H : Hp} : ∀ {xs : List CV} {ys : List V} {i : Nat} {x : CV}, ValsR G ρ H xs ys → xs[i]? = some x → ∃ y, ys[i]? = some y ∧ ValR G ρ H x y
  | [], _, i, x, _, e => by simp at e
  | x :: xs, _, 0, _, ⟨y, r', e, r1, _⟩, q => by
    subst e
    simp only [List.getElem?_cons_zero, Option.some.injEq] at q ⊢
    subst q
    exact ⟨y, rfl, r1⟩
  | x :: xs, _, i + 1, _, ⟨y, r', e, _, r2⟩, q => by
    subst e
    simp only [List.getElem?_cons_succ] at q ⊢
    exact r2.get q
theorem SlR.start {G : Cfg} {ρ : Wd} {H : Hp} {xs : List CV} {vs : List V} {N : List Str} (r : ValsR G ρ H xs vs) (hx : G.exi = none) (hy : G.lam = none) :
    SlR G ρ H (xs.map some ++ List.replicate (N.length - xs.length) none) (L2.start N vs) := by
  have hl := r.len
  refine ⟨by unfold L2.start; simp [hl], fun i v e => ?_, fun e he => by (rw [hx] at he; cases he), fun e he => by rw [hy] at he; cases he⟩
  by_cases hi : i < xs.length
  · rw [List.getElem?_append_left (by simpa using hi)] at e
    rw [List.getElem?_map] at e
    cases q : xs[i]? with
    | none => rw [q] at e; simp at e
    | some x =>
      rw [q] at e
      simp only [Option.map_some, Option.some.injEq] at e
      subst e
      obtain ⟨y, a, b⟩ := r.get q
      refine ⟨y, ?_, b⟩
      unfold L2.start
      rw [List.getElem?_append_left (by simpa [← hl] using hi), List.getElem?_map, a]
      rfl
  · rw [List.getElem?_append_right (by simpa using hi)] at e
    rw [List.getElem?_replicate] at e
    split at e <;> simp at e
section
variable {G : Cfg} {W : WX} {X : Cx} {P : Program} {w : World} {K : PySem.W.Frag} {mg : Str → Option Value} {base : Heap}
theorem fnX {x qual : Str} {st : Stmt} {f : Addr} {fd : FuncData} {N ps : List Str} {k : Nat} (np nl : Nat) {mb : MS} {FF : List CV → M CV} (hFF : FF = runB np nl mb) (F : Fun K x qual st f fd) (S : FnScope N ps (defScope st)) (hnp : ps.length = np) (hnl : N.length = nl) (hG : G.K = K) (hGP : G.P = P) (hGw : G.w = w) (hGx : G.exi = none) (hGl : G.lam = none)
    (hbody : ∀ (cdv : Value) (A : Around) (outer : List Env) (s : Shared) (H : Hp) (E : XK), Room k (A.deeper (envOfC qual (defScope st) s.heap.objs.size f cdv)) →
      Bx G (fun c d _ H => E c d H) (cxOf (L2.CX P w) P w K mg base N qual (defScope st) f cdv A outer s H E) → PassesOwn (model P w) (cxOf (L2.CX P w) P w K mg base N qual (defScope st) f cdv A outer s H E).A (cxOf (L2.CX P w) P w K mg base N qual (defScope st) f cdv A outer s H E).env (cxOf (L2.CX P w) P w K mg base N qual (defScope st) f cdv A outer s H E).xe →
      SSs G (fun c d _ H => E c d H) (cxOf (L2.CX P w) P w K mg base N qual (defScope st) f cdv A outer s H E) (defBody st) mb) :
    FnOk P w K mg base (L2.CX P w) (k + 1) f fd ps (spH G np FF) := by
  subst hnp hnl hFF
  refine F.okX S (fun vs H Q E h => h.1) fun cdv A outer s H vs Q E hr h => ?_
  obtain ⟨hl, ρ, h, xs, m, r, p⟩ := h
  refine ⟨_, hbody cdv A outer s H E hr ⟨hG, hGP, hGw, takes_of rfl rfl rfl rfl⟩ (passes_of rfl), ρ, h, _, m, SlR.start r hGx hGl, ?_⟩
  rw [runB_eq] at p
  by_cases hx : xs.length = ps.length
  · rw [if_pos hx] at p
    have e0 : startC N.length xs = xs.map some ++ List.replicate (N.length - xs.length) none := rfl
    rw [e0] at p
    cases q : mb (xs.map some ++ List.replicate (N.length - xs.length) none) h with
    | mk f h' =>
      rw [q] at p
      cases f with
      | nx τ => exact fun ρ1 H1 σ1 m1 e1 s1 => p ρ1 H1 .non m1 e1 rfl
      | rt v => exact p
      | ex x τ => exact fun ρ1 H1 c d σ1 m1 e1 s1 z => p ρ1 H1 c d m1 e1 z
      | bk τ => exact p.elim
      | ct τ => exact p.elim
    | bad => rw [q] at p; exact p.elim
  · rw [if_neg hx] at p; exact p.elim
variable {k : Nat} {f : Addr} {fd : FuncData} {ps : List Str} {x : Str} {p pos : Pos} {e : Expr} {es : List Expr} {ml : Sl → M (List CV)} {F : List CV → M CV} {np : Nat}
theorem Post.wx {α β : Type} {W' : WX} {R : Wd → Hp → α → β → Prop} {σ σ' : L2.St} {ρ : Wd} {H : Hp} {o : Out α} {Q : β → Hp → Prop} (q : Post G W R σ ρ H o Q) (hw : ∀ c d H', W c d σ H' → W' c d σ' H') : Post G W' R σ' ρ H o Q := by
  cases o with
  | ok a h => exact q
  | exc x h => exact fun ρ1 H1 c d m1 e1 z => hw _ _ _ (q ρ1 H1 c d m1 e1 z)
  | bad => exact q
/-- f(e, ..) -/
def eCall (np : Nat) (F : List CV → M CV) (ml : Sl → M (List CV)) : Sl → M CV := fun τ => bnd (ml τ) fun xs => if xs.length = np then F xs else stuck
theorem se_call (B : Bx G W X) (ok : FnOk X.prog X.w X.K X.mg X.base (L2.CX X.prog X.w) k f fd ps (spH G np F)) (hr : Room k X.A) (hg : Gl X x) (hm : X.mg x = some (.ref f)) (hk : PySem.W.keepIn X.K (.ref f) = true) (hb : Binds X.K fd ps [])
    (ha : SA G W X (e :: es) ml) (hdb : (x == ("__debug__" : Str)) = false := by decide) (he : starEach (e :: es) X.env = (false, eval e X.env) :: starEach es X.env := by rfl) (hpl : (backTo pos (starEach es X.env)).any (·.1) = false := by rfl) :
    SE G W X (.Call (.Name x p) (e :: es) [] pos) (eCall np F ml) :=
  (pe_callS ok hr hg hm hk hb (fun σ => passAt B.tk σ) ha hdb he hpl).wk fun σ H Q ⟨ρ, h, τ, m, s, p⟩ => tM_bind m s p fun xs h1 ρ1 H1 us m1 e1 s1 r1 p1 => by
    by_cases hl : xs.length = np
    · rw [if_pos hl] at p1
      exact ⟨r1.len.symm.trans hl, ρ1, h1, xs, m1, r1, Post.wx (σ := σ) p1 fun _ _ _ z => z⟩
    · rw [if_neg hl] at p1; exact p1.elim
/-- a built-in -/
def eB (g : List CV → M CV) (ml : Sl → M (List CV)) : Sl → M CV := fun τ => bnd (ml τ) g
theorem se_callB {id : String} {r : List V → Hp → VK → Prop} {g : List CV → M CV} (hc : CallR X (.builtin id) r) (hgr : OpL G r g) (hg : Gl X x) (hm : X.mg x = none) (hv : bootBuiltins x = some (.builtin id)) (ha : SA G W X (e :: es) ml)
    (hn : x ≠ "__name__" := by decide) (hdb : (x == ("__debug__" : Str)) = false := by decide) (he : starEach (e :: es) X.env = (false, eval e X.env) :: starEach es X.env := by rfl) (hpl : (backTo pos (starEach es X.env)).any (·.1) = false := by rfl) :
    SE G W X (.Call (.Name x p) (e :: es) [] pos) (eB g ml) :=
  (pe_callB hc hg hm hv ha hn hdb he hpl).wk fun σ H Q ⟨ρ, h, τ, m, s, p⟩ => tM_bind m s p fun xs h1 ρ1 H1 us m1 e1 s1 r1 p1 => hgr W σ ρ1 h1 H1 xs us Q m1 r1 p1
theorem se_callTy {T : String} {r : List V → Hp → VK → Prop} {g : List CV → M CV} (hc : CallR X (.type T) r) (hgr : OpL G r g) (hg : Gl X x) (hm : X.mg x = none) (hv : bootBuiltins x = some (.type T)) (ha : SA G W X (e :: es) ml)
    (hn : x ≠ "__name__" := by decide) (hdb : (x == ("__debug__" : Str)) = false := by decide) (he : starEach (e :: es) X.env = (false, eval e X.env) :: starEach es X.env := by rfl) (hpl : (backTo pos (starEach es X.env)).any (·.1) = false := by rfl) :
    SE G W X (.Call (.Name x p) (e :: es) [] pos) (eB g ml) :=
  (pe_callTy hc hg hm hv ha hn hdb he hpl).wk fun σ H Q ⟨ρ, h, τ, m, s, p⟩ => tM_bind m s p fun xs h1 ρ1 H1 us m1 e1 s1 r1 p1 => hgr W σ ρ1 h1 H1 xs us Q m1 r1 p1
end

def isB (x : CV) : M Bool := match x with
  | .bl b => ret b
  | _ => stuck
def bOf (e : Sl → M CV) : Sl → M Bool := fun τ => bnd (e τ) isB
def bAnd (a b : Sl → M Bool) : Sl → M Bool := fun τ => bnd (a τ) fun k => Bool.rec (ret false) (b τ) k
def bOr (a b : Sl → M Bool) : Sl → M Bool := fun τ => bnd (a τ) fun k => Bool.rec (b τ) (ret true) k
def bNot (a : Sl → M Bool) : Sl → M Bool := fun τ => bnd (a τ) fun k => ret (!k)
def eAnd (a b : Sl → M CV) : Sl → M CV := fun τ => bnd (a τ) fun x => bnd (isB x) fun k => Bool.rec (ret (.bl false)) (b τ) k
def eOr (a b : Sl → M CV) : Sl → M CV := fun τ => bnd (a τ) fun x => bnd (isB x) fun k => Bool.rec (b τ) (ret (.bl true)) k
def eNot (a : Sl → M CV) : Sl → M CV := fun τ => bnd (a τ) fun x => bnd (isB x) fun k => ret (.bl (!k))
def eIf (c : Sl → M Bool) (a b : Sl → M CV) : Sl → M CV := fun τ => bnd (c τ) fun k => Bool.rec (b τ) (a τ) k
section
variable {G : Cfg} {W : WX} {X : Cx} {pos : Pos} {a b c : Expr} {rest : List Expr} {ma mb : Sl → M CV} {ca cb : Sl → M Bool}
theorem st_val (h : SE G W X a ma) (he : ∀ whole, isTrue a X.env whole = (do let v ← whole; standAt a.pos; holding [v] (truthy v)) := by intro _; rfl) : ST G W X a (bOf ma) :=
  (pt_val h he).wk fun σ H Q ⟨ρ, h, τ, m, s, p⟩ => tM_bind m s p fun x h1 ρ1 H1 u m1 e1 s1 r1 p1 => by
    cases x with
    | bl b => exact ⟨b, r1, p1 ρ1 H1 b m1 Ext.refl rfl⟩
    | _ => exact p1.elim
theorem st_cmp {op : CmpOp} {r : R2} {g : CV → CV → M CV} (ho : OpR X (compareOp op) r) (hg : Op2 G r g) (ha : SE G W X a ma) (hb : SE G W X b mb) (hm : behindInMarks op b = false := by first | exact nomark _ | rfl) : ST G W X (.Compare a [op] [b] pos) (bOf (eOp g ma mb)) :=
  (pt_cmpR ho ha hb hm).wk fun σ H Q ⟨ρ, h, τ, m, s, p⟩ => by
    unfold bOf at p
    have p' : Post G W (fun _ _ (a b : Bool) => a = b) σ ρ H (bnd (ma τ) (fun x => bnd (mb τ) fun y => bnd (g x y) isB) h) Q := by
      simp only [eOp, bnd] at p ⊢
      cases q : ma τ h with
      | ok x h1 =>
        rw [q] at p
        simp only at p ⊢
        cases q2 : mb τ h1 with
        | ok y h2 => rw [q2] at p; exact p
        | exc y h2 => rw [q2] at p; exact p
        | bad => rw [q2] at p; exact p
      | exc x h1 => rw [q] at p; exact p
      | bad => rw [q] at p; exact p
    exact tM_bind m s p' fun x h1 ρ1 H1 u m1 e1 s1 r1 p1 => tM_bind m1 s1 p1 fun y h2 ρ2 H2 v m2 e2 s2 r2 p2 => hg W σ ρ2 h2 H2 x y u v _ m2 (r1.ext m1 e2) r2 (by
      unfold bnd at p2
      cases q : g x y h2 with
      | ok z h3 =>
        rw [q] at p2
        intro ρ3 H3 t m3 e3 r3
        cases z with
        | bl b => exact ⟨b, r3, p2 ρ3 H3 b m3 e3 rfl⟩
        | _ => exact p2.elim
      | exc z h3 => rw [q] at p2; exact p2
      | bad => rw [q] at p2; exact p2)
theorem sw_and1 (ha : ST G W X a ca) : SW G W X (.BoolOp .And [a] pos) ca := pw_and1 ha
theorem sw_or1 (ha : ST G W X a ca) : SW G W X (.BoolOp .Or [a] pos) ca := pw_or1 ha
theorem sw_and (ha : ST G W X a ca) (hb : SW G W X (.BoolOp .And (b :: rest) pos) cb) : SW G W X (.BoolOp .And (a :: b :: rest) pos) (bAnd ca cb) :=
  (pw_and ha hb).wk fun σ H Q ⟨ρ, h, τ, m, s, p⟩ => tM_bind m s p fun k h1 ρ1 H1 u m1 e1 s1 r1 p1 => by
    subst r1
    cases k with
    | true => exact (if_pos rfl) ▸ ⟨ρ1, h1, τ, m1, s1, p1⟩
    | false => exact (if_neg Bool.false_ne_true) ▸ p1 ρ1 H1 false m1 Ext.refl rfl
theorem sw_or (ha : ST G W X a ca) (hb : SW G W X (.BoolOp .Or (b :: rest) pos) cb) : SW G W X (.BoolOp .Or (a :: b :: rest) pos) (bOr ca cb) :=
  (pw_or ha hb).wk fun σ H Q ⟨ρ, h, τ, m, s, p⟩ => tM_bind m s p fun k h1 ρ1 H1 u m1 e1 s1 r1 p1 => by
    subst r1
    cases k with
    | true => exact (if_pos rfl) ▸ p1 ρ1 H1 true m1 Ext.refl rfl
    | false => exact (if_neg Bool.false_ne_true) ▸ ⟨ρ1, h1, τ, m1, s1, p1⟩
theorem st_bool (h : SW G W X a ca) : ST G W X a ca := L2.PW.pt h
theorem st_not (ha : ST G W X a ca) : ST G W X (.UnaryOp .Not a pos) (bNot ca) :=
  (pt_not ha).wk fun σ H Q ⟨ρ, h, τ, m, s, p⟩ => tM_bind m s p fun k h1 ρ1 H1 u m1 e1 s1 r1 p1 => by
    subst r1
    exact p1 ρ1 H1 _ m1 Ext.refl rfl
theorem se_and1 {op : BoolOp} (ha : SE G W X a ma) : SE G W X (.BoolOp op [a] pos) ma := pe_one ha
theorem se_and (ha : SE G W X a ma) (hb : SE G W X (.BoolOp .And (b :: rest) pos) mb) : SE G W X (.BoolOp .And (a :: b :: rest) pos) (eAnd ma mb) :=
  (pe_and ha hb).wk fun σ H Q ⟨ρ, h, τ, m, s, p⟩ => tM_bind m s p fun x h1 ρ1 H1 u m1 e1 s1 r1 p1 => by
    cases x with
    | bl k =>
      refine ⟨k, r1, ?_⟩
      cases k with
      | true => exact (if_pos rfl) ▸ ⟨ρ1, h1, τ, m1, s1, p1⟩
      | false => exact (if_neg Bool.false_ne_true) ▸ p1 ρ1 H1 _ m1 Ext.refl rfl
    | _ => exact p1.elim
theorem se_or (ha : SE G W X a ma) (hb : SE G W X (.BoolOp .Or (b :: rest) pos) mb) : SE G W X (.BoolOp .Or (a :: b :: rest) pos) (eOr ma mb) :=
  (pe_or ha hb).wk fun σ H Q ⟨ρ, h, τ, m, s, p⟩ => tM_bind m s p fun x h1 ρ1 H1 u m1 e1 s1 r1 p1 => by
    cases x with
    | bl k =>
      refine ⟨k, r1, ?_⟩
      cases k with
      | true => exact (if_pos rfl) ▸ p1 ρ1 H1 _ m1 Ext.refl rfl
      | false => exact (if_neg Bool.false_ne_true) ▸ ⟨ρ1, h1, τ, m1, s1, p1⟩
    | _ => exact p1.elim
theorem se_not (ha : SE G W X a ma) : SE G W X (.UnaryOp .Not a pos) (eNot ma) :=
  (pe_not ha).wk fun σ H Q ⟨ρ, h, τ, m, s, p⟩ => tM_bind m s p fun x h1 ρ1 H1 u m1 e1 s1 r1 p1 => by
    cases x with
    | bl k => exact ⟨k, r1, p1 ρ1 H1 _ m1 Ext.refl rfl⟩
    | _ => exact p1.elim
theorem se_if (hc : ST G W X c ca) (ha : SE G W X a ma) (hb : SE G W X b mb) : SE G W X (.IfExp c a b pos) (eIf ca ma mb) :=
  (pe_ifExp hc ha hb).wk fun σ H Q ⟨ρ, h, τ, m, s, p⟩ => tM_bind m s p fun k h1 ρ1 H1 u m1 e1 s1 r1 p1 => by
    subst r1
    cases k with
    | true => exact (if_pos rfl) ▸ ⟨ρ1, h1, τ, m1, s1, p1⟩
    | false => exact (if_neg Bool.false_ne_true) ▸ ⟨ρ1, h1, τ, m1, s1, p1⟩
end

def mRaise (e : Sl → Mem → Out Exn) : MS := fun τ => inS (e τ) τ fun x h => .mk (.ex x τ) h
def tX (G : Cfg) (W : WX) (m : Sl → M Exn) : L2.St → Hp → XK → Prop := fun σ H Q => ∃ ρ h τ, MemR G ρ h H ∧ SlR G ρ H τ σ ∧ match m τ h with
  | .ok x h' => ∀ ρ' H' c d, MemR G ρ' h' H' → Ext ρ H ρ' H' → ExcR G ρ' H' x c d → Q c d H'
  | .exc x h' => ∀ ρ' H' c d, MemR G ρ' h' H' → Ext ρ H ρ' H' → ExcR G ρ' H' x c d → W c d σ H'
  | .bad => False
def SX (G : Cfg) (W : WX) (X : Cx) (e : Expr) (m : Sl → M Exn) : Prop := PMk X e (tX G W m)
section
variable {G : Cfg} {W : WX} {X : Cx} {pos : Pos} {e : Expr} {me : Sl → M Exn}
theorem ss_raise (B : Bx G W X) (hc : X.calm = true) (he : SX G W X e me) : SS G W X (.Raise (some e) none pos) (mRaise me) :=
  (ps_raise hc B.tk he).wk fun D σ H ⟨ρ, h, τ, m, s, p⟩ => by
    refine ⟨ρ, h, τ, m, s, ?_⟩
    unfold mRaise inS at p
    cases q : me τ h with
    | ok x h' =>
      rw [q] at p
      exact fun ρ1 H1 c d m1 e1 z => p ρ1 H1 c d σ m1 e1 (s.ext m e1) z
    | exc x h' =>
      rw [q] at p
      exact fun ρ1 H1 c d m1 e1 z => p ρ1 H1 c d σ m1 e1 (s.ext m e1) z
    | bad => rw [q] at p; exact p
/-- X('m'), X an own class without an own __init__ -/
def xMsg (k : Nat) : Sl → M Exn := fun _ => ret ⟨k, []⟩
theorem sx_own {x m : Str} {C : Addr} {bmB : List Value} {B newId initId : String} {j k : Nat} {p p2 pos : Pos} (F : ExcBaseFacts B newId initId bmB) (q : PySem.W.excIn X.K C bmB newId = true) (gC : X.mg x = some (.ref C)) (kC : PySem.W.keepIn X.K (.ref C) = true) (r : Raises X (.ref C)) (hg : Gl X x)
    (hk : G.cls k = C) (hdb : (x == ("__debug__" : Str)) = false := by decide) : SX G W X (.Call (.Name x p) [.Constant (.str m) j p2] [] pos) (xMsg k) := by
  intro pins s σ H Q I h
  refine pmk_own F q gC kC r hg hdb pins s σ H Q I ?_
  obtain ⟨ρ, h, τ, m, s, p⟩ := h
  exact p ρ H _ none m Ext.refl ⟨by rw [hk], .inl rfl⟩
end
end VE

noncomputable section
namespace VE
open PySem PySem.Spec PyProof.Rows L2

section
variable {G : Cfg} {ρ ρ1 : Wd} {h : Mem} {H : Hp} {p : Addr} {o : HO}
theorem Ext.laid (hp : H p = none) : Ext ρ H ρ (upd H p o) :=
  ⟨rfl, fun _ _ e => e, fun a u e _ _ => by rw [upd_ne (ne_of_none e hp)]; exact e, fun a ps e => ⟨ps, by rw [upd_ne (ne_of_none e hp)]; exact e⟩, fun _ e => .inl e⟩
theorem has_push {x : Addr} : (⟨ρ.d, ρ.r ++ [p]⟩ : Wd).has x ↔ ρ.has x ∨ x = p := by
  unfold Wd.has
  simp only [List.mem_append, List.mem_singleton]
  exact ⟨fun z => by rcases z with (z | z) | z <;> first | exact .inl (.inl z) | exact .inr z | exact .inl (.inr z), fun z => by rcases z with (z | z) | z <;> first | exact .inl (.inl z) | exact .inr z | exact .inl (.inr z)⟩
theorem tabs_laid (t : LamX.Tabs G.T H) (hp : H p = none) : LamX.Tabs G.T (upd H p o) := t.ext fun b u e => by rw [upd_ne (ne_of_none e hp)]; exact e
theorem dicR_ext {n : Bool} {ks vs : List CV} {u : HO} {H1 : Hp} {a : Addr} (m : MemR G ρ h H) (e : Ext ρ H ρ1 H1) (d : DicR G ρ H n ks vs a u) : DicR G ρ1 H1 n ks vs a u :=
  ⟨fun z => let ⟨es, q1, q2, q3, q4⟩ := d.1 z; ⟨es, q1, q2, q3.ext m e, q4.ext m e⟩, fun z => let ⟨es, q1, q2, q3⟩ := d.2 z; ⟨es, q1, q2, q3.ext m e⟩⟩
theorem objR_ext {co : CO} {H1 : Hp} {a : Addr} (m : MemR G ρ h H) (e : Ext ρ H ρ1 H1) (ha : H1 a = H a) (r : ObjR G ρ H co a) : ObjR G ρ1 H1 co a := by
  cases co with
  | lst xs => obtain ⟨ys, q, z⟩ := r; exact ⟨ys, ha.trans q, z.ext m e⟩
  | dic lk n ks vs => obtain ⟨u, q1, q2, z⟩ := r; exact ⟨u, fun z => (q1 z).imp fun _ w => ha.trans w, fun z => ha.trans (q2 z), dicR_ext m e z⟩
  | ins k xs => obtain ⟨dx, fs, us, q, q2, z⟩ := r; exact ⟨dx, fs, us, ha.trans q, q2, z.ext m e⟩
  | none_ => exact r.elim
theorem MemR.laid (m : MemR G ρ h H) (hp : H p = none) : MemR G ρ h (upd H p o) where
  len := m.len
  nd := m.nd
  obj := fun i a co e1 e2 => by
    have r := m.obj i a co e1 e2
    obtain ⟨ys, q, _⟩ := r.there
    exact objR_ext m (Ext.laid hp) (by rw [upd_ne (ne_of_none q hp)]) r
  hid := fun a ha => by
    obtain ⟨⟨ys, q, q2⟩, n⟩ := m.hid a ha
    exact ⟨⟨ys, by rw [upd_ne (ne_of_none q hp)]; exact q, q2⟩, n⟩
  tab := tabs_laid m.tab hp
  exc := fun e he => (m.exc e he).ext m (Ext.laid hp)
  lam := m.lamE (Ext.laid hp)
/-- a new object of the memory -/
theorem Ext.push (hp : H p = none) : Ext ρ H ⟨ρ.d, ρ.r ++ [p]⟩ (upd H p o) where
  hid := rfl
  pre := fun i a e => by
    obtain ⟨hi, _⟩ := List.getElem?_eq_some_iff.mp e
    rw [List.getElem?_append_left hi]; exact e
  keep := fun a u e _ _ => by rw [upd_ne (ne_of_none e hp)]; exact e
  tbl := fun a ps e => ⟨ps, by rw [upd_ne (ne_of_none e hp)]; exact e⟩
  new := fun a e => by
    rcases List.mem_append.mp e with e | e
    · exact .inl e
    · rw [List.mem_singleton.mp e]; exact .inr hp
theorem MemR.pushO {co : CO} (m : MemR G ρ h H) (hp : H p = none) (r : ObjR G ⟨ρ.d, ρ.r ++ [p]⟩ (upd H p o) co p) : MemR G ⟨ρ.d, ρ.r ++ [p]⟩ (h ++ [co]) (upd H p o) where
  len := by simp [m.len]
  nd := by
    refine List.nodup_append.mpr ⟨m.nd, by simp, fun a ha b hb => ?_⟩
    rw [List.mem_singleton.mp hb]
    intro e
    exact m.free hp (.inl (e ▸ ha))
  obj := fun i a co e1 e2 => by
    by_cases hi : i < ρ.r.length
    · rw [List.getElem?_append_left hi] at e1
      rw [List.getElem?_append_left (by rw [← m.len]; exact hi)] at e2
      have q := m.obj i a co e1 e2
      obtain ⟨zs, z, _⟩ := q.there
      exact objR_ext m (Ext.push hp) (by rw [upd_ne (ne_of_none z hp)]) q
    · rw [List.getElem?_append_right (by omega)] at e1
      rw [List.getElem?_append_right (by rw [← m.len]; omega)] at e2
      have hl := m.len
      have h0 : i - ρ.r.length = 0 := by
        cases q : i - ρ.r.length with
        | zero => rfl
        | succ n => rw [q] at e1; simp at e1
      rw [h0] at e1
      rw [← hl, h0] at e2
      simp only [List.getElem?_cons_zero, Option.some.injEq] at e1 e2
      subst e1 e2
      exact r
  hid := fun a ha => by
    obtain ⟨⟨ys, q, q2⟩, n⟩ := m.hid a ha
    refine ⟨⟨ys, by rw [upd_ne (ne_of_none q hp)]; exact q, q2⟩, fun z => ?_⟩
    rcases List.mem_append.mp z with z | z
    · exact n z
    · rw [List.mem_singleton.mp z, hp] at q; cases q
  tab := tabs_laid m.tab hp
  exc := fun e he => (m.exc e he).ext m (Ext.push hp)
  lam := m.lamE (Ext.push hp)
theorem MemR.push {xs : List CV} {ys : List V} (m : MemR G ρ h H) (hp : H p = none) (r : ValsR G ρ H xs ys) : MemR G ⟨ρ.d, ρ.r ++ [p]⟩ (h ++ [.lst xs]) (upd H p (.lst ys)) :=
  m.pushO hp ⟨ys, upd_same, r.ext m (Ext.push hp)⟩
/-- an object of the memory (or a hidden one) is written -/
theorem Ext.write (hp : p ∈ ρ.r) (e : ∃ u, H p = some u ∧ ∀ ps, u ≠ .tbl ps) : Ext ρ H ρ (upd H p o) where
  hid := rfl
  pre := fun _ _ e => e
  keep := fun a u e n _ => by rw [upd_ne (fun (z : a = p) => n (by rw [z]; exact hp))]; exact e
  tbl := fun a ps q => ⟨ps, by
    rw [upd_ne (fun z => by
      obtain ⟨ys, e, n⟩ := e
      rw [z, e] at q
      exact n ps (Option.some.inj q))]
    exact q⟩
  new := fun _ e => .inl e
theorem mut_ne {a b : Addr} {u : HO} (e : ∃ u, H p = some u ∧ MutO G p u) (h1 : H a = some u) (h2 : ¬ MutO G a u) : a ≠ p := fun z => by
  obtain ⟨w, q, m⟩ := e
  subst z
  rw [h1] at q
  exact h2 (Option.some.inj q ▸ m)
mutual
theorem ValR.wr (hp : ρ.has p) (e : ∃ u, H p = some u ∧ MutO G p u) {o : HO} : ∀ {x : CV} {v : V}, ValR G ρ H x v → ValR G ρ (upd H p o) x v
  | .non, _, r => r
  | .bl _, _, r => r
  | .int _, _, r => r
  | .str _, _, r => r
  | .cls _, _, r => r
  | .fn _, _, r => r
  | .ty _, _, r => r
  | .ref l, _, r => r
  | .tup xs, _, ⟨a, ys, q, s, r⟩ => by
    refine ⟨a, ys, q, ?_, ValsR.wr hp e r⟩
    rcases s with s | s
    · have n : a ≠ p := by
        rcases s with s | ⟨ob, s⟩
        · exact mut_ne (b := p) e s notMut_tup
        · exact mut_ne (b := p) e s notMut_frzTup
      exact .inl (s.elim (fun s => .inl (by rw [upd_ne n]; exact s)) fun ⟨ob, s⟩ => .inr ⟨ob, by rw [upd_ne n]; exact s⟩)
    · exact .inr s
  | .lst xs, _, ⟨a, ys, q, n, s, r⟩ => ⟨a, ys, q, n, by rw [upd_ne (fun (z : a = p) => n (by rw [z]; exact hp))]; exact s, ValsR.wr hp e r⟩
  | .frz xs, _, ⟨a, ys, q, s, r⟩ => by
    refine ⟨a, ys, q, ?_, ValsR.wr hp e r⟩
    rcases s with ⟨n, s⟩ | s
    · have n' : a ≠ p := fun (z : a = p) => n (by rw [z]; exact hp)
      exact .inl ⟨n, s.elim (fun s => .inl (by rw [upd_ne n']; exact s)) fun ⟨ob, s⟩ => .inr ⟨ob, by rw [upd_ne n']; exact s⟩⟩
    · exact .inr s
  | .ins k xs, _, ⟨x, dx, fs, us, q, n, s, f, r⟩ => ⟨x, dx, fs, us, q, n, by rw [upd_ne (fun (z : x = p) => n (by rw [z]; exact hp))]; exact s, f, ValsR.wr hp e r⟩
  | .dic n ks vs, _, ⟨x, ob, q, nh, h1, h2⟩ => by
    have nx : x ≠ p := fun z => nh (by rw [z]; exact hp)
    exact ⟨x, ob, q, nh, fun z => let ⟨es, us, ws, q1, q2, q3, q4, q5, q6⟩ := h1 z; ⟨es, us, ws, by rw [upd_ne nx]; exact q1, q2, q3, q4, ValsR.wr hp e q5, ValsR.wr hp e q6⟩,
      fun z => let ⟨es, ws, q1, q2, q3, q4⟩ := h2 z; ⟨es, ws, by rw [upd_ne nx]; exact q1, q2, q3, ValsR.wr hp e q4⟩⟩
theorem ValsR.wr (hp : ρ.has p) (e : ∃ u, H p = some u ∧ MutO G p u) {o : HO} : ∀ {xs : List CV} {vs : List V}, ValsR G ρ H xs vs → ValsR G ρ (upd H p o) xs vs
  | [], _, r => r
  | x :: xs, _, ⟨y, r, q, z, s⟩ => ⟨y, r, q, ValR.wr hp e z, ValsR.wr hp e s⟩
end
theorem dicR_wr {n : Bool} {ks vs : List CV} {u : HO} {a : Addr} (hp : ρ.has p) (e : ∃ u, H p = some u ∧ MutO G p u) {o : HO} (d : DicR G ρ H n ks vs a u) : DicR G ρ (upd H p o) n ks vs a u :=
  ⟨fun z => let ⟨es, q1, q2, q3, q4⟩ := d.1 z; ⟨es, q1, q2, q3.wr hp e, q4.wr hp e⟩, fun z => let ⟨es, q1, q2, q3⟩ := d.2 z; ⟨es, q1, q2, q3.wr hp e⟩⟩
theorem objR_wr {co : CO} {a : Addr} {o : HO} (hp : ρ.has p) (e : ∃ u, H p = some u ∧ MutO G p u) (n : a ≠ p) (r : ObjR G ρ H co a) : ObjR G ρ (upd H p o) co a := by
  cases co with
  | lst xs =>
    obtain ⟨ys, q, z⟩ := r
    exact ⟨ys, by rw [upd_ne n]; exact q, z.wr hp e⟩
  | dic lk m ks vs => obtain ⟨u, q1, q2, z⟩ := r; exact ⟨u, fun z => (q1 z).imp fun _ w => by rw [upd_ne n]; exact w, fun z => by rw [upd_ne n]; exact q2 z, dicR_wr hp e z⟩
  | ins k xs => obtain ⟨dx, fs, us, q, q2, z⟩ := r; exact ⟨dx, fs, us, by rw [upd_ne n]; exact q, q2, z.wr hp e⟩
  | none_ => exact r.elim
theorem tabs_wr (t : LamX.Tabs G.T H) (e : ∃ u, H p = some u ∧ MutO G p u) : LamX.Tabs G.T (upd H p o) := fun q hq => by
  obtain ⟨ps, h1, h2, h3⟩ := t q hq
  refine ⟨ps, by rw [upd_ne (mut_ne (b := p) e h1 notMut_tbl)]; exact h1, h2, fun pos cv hc => ?_⟩
  obtain ⟨c, e1, e2⟩ := h3 pos cv hc
  exact ⟨c, e1, by rw [upd_ne (mut_ne (b := p) e e2 notMut_code)]; exact e2⟩
theorem ExcR.wr {x : Exn} {c : Value} {d : Option Addr} (hp : ρ.has p) (e : ∃ u, H p = some u ∧ MutO G p u) {o : HO} (r : ExcR G ρ H x c d) : ExcR G ρ (upd H p o) x c d :=
  ⟨r.1, r.2.elim .inl fun ⟨da, fs, e1, e2, e3, e4⟩ => .inr ⟨da, fs, e1, by rw [upd_ne (mut_ne (b := p) e e2 notMut_xd)]; exact e2, e3, e4.wr hp e⟩⟩
theorem MemR.lamW (m : MemR G ρ h H) (hp : ρ.has p) (e : ∃ u, H p = some u ∧ MutO G p u) {o : HO} : ∀ L, G.lam = some L → SlV G ρ (upd H p o) L.τ L.σ ∧ upd H p o L.c = some (LamX.CodeO L.c L.q) := fun L he =>
  ⟨⟨(m.lam L he).1.1, fun i v q => let ⟨u, a, b⟩ := (m.lam L he).1.2 i v q; ⟨u, a, b.wr hp e⟩⟩, by rw [upd_ne (mut_ne (b := p) e (m.lam L he).2 notMut_code)]; exact (m.lam L he).2⟩
theorem MemR.writeO {l : Nat} {co : CO} (m : MemR G ρ h H) (hl : ρ.r[l]? = some p) (r : ObjR G ρ (upd H p o) co p) : MemR G ρ (h.set l co) (upd H p o) := by
  have hp : p ∈ ρ.r := List.mem_of_getElem? hl
  have e := m.at_ (.inl hp)
  refine ⟨by simp [m.len], m.nd, fun i a co e1 e2 => ?_, fun a ha => ?_, tabs_wr m.tab e, fun x he => ?_, m.lamW (.inl hp) e⟩
  · by_cases hi : l = i
    · subst hi
      rw [hl] at e1
      cases e1
      have hlt : l < h.length := by rw [← m.len]; exact (List.getElem?_eq_some_iff.mp hl).1
      rw [List.getElem?_set_self hlt] at e2
      cases e2
      exact r
    · rw [List.getElem?_set_ne hi] at e2
      have n : a ≠ p := fun z => by
        subst z
        have h1 := (List.getElem?_eq_some_iff.mp e1)
        have h2 := (List.getElem?_eq_some_iff.mp hl)
        obtain ⟨h1, q1⟩ := h1
        obtain ⟨h2, q2⟩ := h2
        exact hi ((List.getElem_inj m.nd).mp (q2.trans q1.symm))
      exact objR_wr (.inl hp) e n (m.obj i a co e1 e2)
  · obtain ⟨⟨zs, q, q2⟩, n⟩ := m.hid a ha
    exact ⟨⟨zs, by rw [upd_ne (fun (z : a = p) => n (by rw [z]; exact hp))]; exact q, q2⟩, n⟩
  · exact (m.exc x he).wr (.inl hp) e
theorem MemR.write {l : Nat} {xs : List CV} {ys : List V} (m : MemR G ρ h H) (hl : ρ.r[l]? = some p) (r : ValsR G ρ H xs ys) : MemR G ρ (h.set l (.lst xs)) (upd H p (.lst ys)) :=
  m.writeO hl ⟨ys, upd_same, r.wr (.inl (List.mem_of_getElem? hl)) (m.at_ (.inl (List.mem_of_getElem? hl)))⟩
theorem Ext.writeAt {l : Nat} (m : MemR G ρ h H) (hl : ρ.r[l]? = some p) : Ext ρ H ρ (upd H p o) :=
  Ext.write (List.mem_of_getElem? hl) (by
    obtain ⟨u, q, z⟩ := m.at_ (.inl (List.mem_of_getElem? hl))
    exact ⟨u, q, fun ps w => notMut_tbl (w ▸ z)⟩)
end

def eTup (ml : Sl → M (List CV)) : Sl → M CV := fun τ => bnd (ml τ) fun xs => if xs.length ≤ 1000 then ret (.tup xs) else stuck
/-- a list that nobody writes -/
def eLst (ml : Sl → M (List CV)) : Sl → M CV := fun τ => bnd (ml τ) fun xs => if xs.length ≤ 1000 then ret (.lst xs) else stuck
/-- a list that is written later -/
def eNew (ml : Sl → M (List CV)) : Sl → M CV := fun τ => bnd (ml τ) fun xs h => if xs.length ≤ 1000 then frLs (frV 3) xs fun xs => frN h.length fun n => sapp h [.lst xs] fun h => .ok (.ref n) h else .bad
theorem line1000 {n : Nat} (h : n ≤ 1000) : n ≤ sizeLine := by rw [sizeLine_eq]; omega
theorem Post.newTup {G : Cfg} {W : WX} {σ : L2.St} {ρ : Wd} {h : Mem} {H : Hp} {p : Addr} {xs : List CV} {ys : List V} {Q : VK} (m : MemR G ρ h H) (r : ValsR G ρ H xs ys) (q : Post G W (ValR G) σ ρ H (ret (.tup xs) h) Q) (hp : H p = none) : Q (.ref p) (upd H p (.tup ys)) :=
  q ρ _ _ (m.laid hp) (Ext.laid hp) ⟨p, ys, rfl, SqT.of upd_same, r.ext m (Ext.laid hp)⟩
theorem Post.newLst {G : Cfg} {W : WX} {σ : L2.St} {ρ : Wd} {h : Mem} {H : Hp} {p : Addr} {xs : List CV} {ys : List V} {Q : VK} (m : MemR G ρ h H) (r : ValsR G ρ H xs ys) (q : Post G W (ValR G) σ ρ H (ret (.lst xs) h) Q) (hp : H p = none) : Q (.ref p) (upd H p (.lst ys)) :=
  q ρ _ _ (m.laid hp) (Ext.laid hp) ⟨p, ys, rfl, m.free hp, upd_same, r.ext m (Ext.laid hp)⟩
section
variable {G : Cfg} {W : WX} {X : Cx} {pos : Pos} {es : List Expr} {ml : Sl → M (List CV)} {a b : Expr} {ma mb : Sl → M CV}
theorem se_tup {x1} (ha : SA G W X es ml) : SE G W X (.Tuple es x1 pos) (eTup ml) :=
  (pe_tup ha).wk fun σ H Q ⟨ρ, h, τ, m, s, p⟩ => tM_bind m s p fun xs h1 ρ1 H1 us m1 e1 s1 r1 p1 => by
    by_cases hl : xs.length ≤ 1000
    · rw [if_pos hl] at p1
      exact ⟨by rw [← r1.len]; exact line1000 hl, fun p hp => p1.newTup m1 r1 hp⟩
    · rw [if_neg hl] at p1; exact p1.elim
theorem se_lst (ha : SA G W X es ml) : SE G W X (.List es pos) (eLst ml) :=
  (pe_lst ha).wk fun σ H Q ⟨ρ, h, τ, m, s, p⟩ => tM_bind m s p fun xs h1 ρ1 H1 us m1 e1 s1 r1 p1 => by
    by_cases hl : xs.length ≤ 1000
    · rw [if_pos hl] at p1
      exact ⟨by rw [← r1.len]; exact line1000 hl, fun p hp => p1.newLst m1 r1 hp⟩
    · rw [if_neg hl] at p1; exact p1.elim
theorem se_new (ha : SA G W X es ml) : SE G W X (.List es pos) (eNew ml) :=
  (pe_lst ha).wk fun σ H Q ⟨ρ, h, τ, m, s, p⟩ => tM_bind m s p fun xs h1 ρ1 H1 us m1 e1 s1 r1 p1 => by
    by_cases hl : xs.length ≤ 1000
    · rw [if_pos hl, frLs_eq (frV_eq 3), frN_eq, sapp_eq] at p1
      refine ⟨by rw [← r1.len]; exact line1000 hl, fun p hp => p1 _ _ _ (m1.push hp r1) (Ext.push hp) ⟨p, ?_, rfl⟩⟩
      show (ρ1.r ++ [p])[h1.length]? = some p
      rw [← m1.len]; simp
    · rw [if_neg hl] at p1; exact p1.elim
end

/-- what stands at a place of the memory -/
def memAt (h : Mem) (l : Nat) : Option (List CV) := Option.rec none (fun co => match co with
  | .lst xs => some xs
  | _ => none) (sget h l)
theorem memAt_some {h : Mem} {l : Nat} {xs : List CV} (e : memAt h l = some xs) : h[l]? = some (.lst xs) := by
  unfold memAt at e
  rw [sget_eq] at e
  cases q : h[l]? with
  | none => rw [q] at e; cases e
  | some co =>
    rw [q] at e
    cases co with
    | lst ys => cases e; rfl
    | _ => cases e
/-- the items of a list or tuple -/
def seqOf (x : CV) (h : Mem) : Option (List CV) := match x with
  | .tup xs => some xs
  | .lst xs => some xs
  | .frz xs => some xs
  | .ref l => memAt h l
  | _ => none
def isTup : CV → Bool
  | .tup _ => true
  | _ => false
theorem seqOf_r {G : Cfg} {ρ : Wd} {h : Mem} {H : Hp} {x : CV} {u : V} {xs : List CV} (m : MemR G ρ h H) (r : ValR G ρ H x u) (e : seqOf x h = some xs) :
    ∃ a ys, u = .ref a ∧ ValsR G ρ H xs ys ∧ (if isTup x then SqT G.K H a ys else SqL G.K H a ys) := by
  cases x with
  | tup zs =>
    obtain ⟨a, ys, q, z, r⟩ := r
    cases e
    exact ⟨a, ys, q, r, z⟩
  | lst zs =>
    obtain ⟨a, ys, q, n, z, r⟩ := r
    cases e
    exact ⟨a, ys, q, r, SqL.of z⟩
  | frz zs =>
    obtain ⟨a, ys, q, z, r⟩ := r
    cases e
    exact ⟨a, ys, q, r, z.l⟩
  | ref l =>
    obtain ⟨a, q, z⟩ := r
    obtain ⟨ys, w, r⟩ := m.obj l a _ q (memAt_some e)
    exact ⟨a, ys, z, r, SqL.of w⟩
  | _ => cases e
/-- an item by its number -/
def pyAt (xs : List CV) (i : Int) : Option CV := Int.rec (fun n => sget xs n) (fun n => if n < xs.length then sget xs (xs.length - (n + 1)) else none) i
theorem pyAt_eq (xs : List CV) (i : Int) : pyAt xs i = L2.atI xs i := by
  unfold pyAt L2.atI L2.ixN
  cases i with
  | ofNat n =>
    show sget xs n = _
    rw [sget_eq]
    by_cases h : n < xs.length
    · rw [if_pos (by simp), if_pos (by simpa using h)]
      rfl
    · rw [if_pos (by simp), if_neg (by simpa using h), List.getElem?_eq_none (by omega)]
      rfl
  | negSucc n =>
    show (if n < xs.length then sget xs (xs.length - (n + 1)) else none) = _
    by_cases h : n < xs.length
    · rw [if_pos h, if_neg (by omega), if_pos (by omega), sget_eq]
      show _ = xs[_]?
      congr 1
      omega
    · rw [if_neg h, if_neg (by omega), if_neg (by omega)]
      rfl
theorem ValsR.atI {G : Cfg} {ρ : Wd} {H : Hp} {xs : List CV} {ys : List V} {i : Int} {x : CV} (r : ValsR G ρ H xs ys) (e : L2.atI xs i = some x) : ∃ y, L2.atI ys i = some y ∧ ValR G ρ H x y := by
  unfold L2.atI at e ⊢
  rw [← r.len]
  cases q : ixN xs.length i with
  | none => rw [q] at e; cases e
  | some j =>
    rw [q] at e
    exact r.get e
def pyIx (x i : CV) : M CV := fun h => match i with
  | .int i => match x with
    | .str z => match L2.atI z.cps.toList i with
      | some c => if z.length ≤ 1000000 then .ok (.str ⟨#[c]⟩) h else .bad
      | none => .bad
    | x => match seqOf x h with
      | some xs => match pyAt xs i with
        | some v => .ok v h
        | none => .bad
      | none => .bad
  | _ => .bad
theorem pyIx_ok {G : Cfg} : Op2 G (rIx G.K) pyIx := by
  intro W σ ρ h H x y u v Q m rx ry p
  unfold pyIx at p
  cases y with
  | int i =>
    have ev : v = .int i := ry
    simp only at p
    have seq : ∀ {x : CV}, ValR G ρ H x u → Post G W (ValR G) σ ρ H (match seqOf x h with
      | some xs => match pyAt xs i with
        | some v => .ok v h
        | none => .bad
      | none => .bad) Q → rIx G.K u v H Q := by
      intro x rx p
      cases e : seqOf x h with
      | none => rw [e] at p; exact p.elim
      | some xs =>
        rw [e] at p
        simp only [pyAt_eq] at p
        cases q : L2.atI xs i with
        | none => rw [q] at p; exact p.elim
        | some z =>
          rw [q] at p
          obtain ⟨a, ys, eu, r, sq⟩ := seqOf_r m rx e
          obtain ⟨w, e2, rw'⟩ := r.atI q
          by_cases ht : isTup x = true
          · rw [if_pos ht] at sq
            exact .inr (.inl ⟨a, ys, i, w, eu, ev, sq, e2, p ρ H w m Ext.refl rw'⟩)
          · rw [if_neg ht] at sq
            exact .inl ⟨a, ys, i, w, eu, ev, sq, e2, p ρ H w m Ext.refl rw'⟩
    cases x with
    | str z =>
      have eu : u = .str z := rx
      simp only at p
      cases e : L2.atI z.cps.toList i with
      | none => rw [e] at p; exact p.elim
      | some c =>
        rw [e] at p
        simp only at p
        by_cases hz : z.length ≤ 1000000
        · rw [if_pos hz] at p
          exact .inr (.inr ⟨z, i, c, eu, ev, by rw [sizeLine_eq]; omega, e, p ρ H _ m Ext.refl rfl⟩)
        · rw [if_neg hz] at p; exact p.elim
    | _ => exact seq rx p
  | _ => exact p.elim
section
variable {G : Cfg} {W : WX} {X : Cx} {pos : Pos} {a b : Expr} {ma mb : Sl → M CV}
theorem se_ix (hK : G.K = X.K) (ha : SE G W X a ma) (hb : SE G W X b mb) (hs : PlainIx b := by exact fun _ _ => rfl) : SE G W X (.Subscript a b pos) (eOp pyIx ma mb) :=
  (pe_ix ix_seq ha hb hs).wk fun σ H Q ⟨ρ, h, τ, m, s, p⟩ => tM_bind m s p fun x h1 ρ1 H1 u m1 e1 s1 r1 p1 => tM_bind m1 s1 p1 fun y h2 ρ2 H2 v m2 e2 s2 r2 p2 => hK ▸ pyIx_ok W σ ρ2 h2 H2 x y u v Q m2 (r1.ext m1 e2) r2 p2
end

end VE

noncomputable section
namespace VE
open PySem PySem.Spec PyProof.Rows L2

/-- the items of a list that may be joined -/
def lstOf (x : CV) (h : Mem) : Option (List CV) := match x with
  | .lst xs => some xs
  | .ref l => memAt h l
  | _ => none
theorem lstOf_r {G : Cfg} {ρ : Wd} {h : Mem} {H : Hp} {x : CV} {u : V} {xs : List CV} (m : MemR G ρ h H) (r : ValR G ρ H x u) (e : lstOf x h = some xs) :
    ∃ a ys, u = .ref a ∧ ValsR G ρ H xs ys ∧ H a = some (.lst ys) := by
  cases x with
  | lst zs =>
    obtain ⟨a, ys, q, n, z, r⟩ := r
    cases e
    exact ⟨a, ys, q, r, z⟩
  | ref l =>
    obtain ⟨a, q, z⟩ := r
    obtain ⟨ys, w, r⟩ := m.obj l a _ q (memAt_some e)
    exact ⟨a, ys, z, r, w⟩
  | _ => cases e
theorem log2_of {n k : Nat} (h : Nat.ble n (2 ^ k) = true) : n.log2 ≤ k := by
  have h := Nat.le_of_ble_eq_true h
  by_cases h0 : n = 0
  · subst h0; simp
  · have h1 : n < 2 ^ (k + 1) := Nat.lt_of_le_of_lt h (Nat.pow_lt_pow_right (by decide) (Nat.lt_succ_self k))
    exact Nat.le_of_lt_succ ((Nat.log2_lt h0).mpr h1)
def fit (i : Int) : Bool := Nat.ble i.natAbs big
theorem fit_mul {i j : Int} (h : (fit i && fit j) = true) : i.natAbs.log2 + j.natAbs.log2 < 1000000 := by
  rw [Bool.and_eq_true] at h
  have h1 := log2_of (k := 400000) h.1
  have h2 := log2_of (k := 400000) h.2
  omega
/-- a divisor's size -/
def fitD (j : Int) : Bool := Nat.ble j.natAbs (2 ^ 8999)
theorem fit_div {j : Int} (h : fitD j = true) : j.natAbs.log2 < 9000 := Nat.lt_succ_of_le (log2_of h)
theorem ValsR.app {G : Cfg} {ρ : Wd} {H : Hp} {ys : List CV} {vs : List V} : ∀ {xs : List CV} {us : List V}, ValsR G ρ H xs us → ValsR G ρ H ys vs → ValsR G ρ H (xs ++ ys) (us ++ vs)
  | [], _, r, s => by rw [show _ = [] from r]; exact s
  | x :: xs, _, ⟨y, r', e, r1, r2⟩, s => by subst e; exact ⟨y, _, rfl, r1, r2.app s⟩
theorem ValsR.nil_iff {G : Cfg} {ρ : Wd} {H : Hp} {xs : List CV} {us : List V} (r : ValsR G ρ H xs us) : us = [] ↔ xs = [] := by
  have := r.len
  cases xs <;> cases us <;> simp_all
theorem lineM {n : Nat} (h : n ≤ 1000000) : n ≤ sizeLine := by rw [sizeLine_eq]; omega

def pyAdd (x y : CV) : M CV := fun h => match x, y with
  | .int i, .int j => .ok (.int (i + j)) h
  | .str i, .str j => if i.length + j.length ≤ 1000000 then .ok (.str (i ++ j)) h else .bad
  | .tup xs, .tup ys => if xs.length + ys.length ≤ 1000000 then .ok (.tup (xs ++ ys)) h else .bad
  | x, y => match lstOf x h, lstOf y h with
    | some xs, some ys => if xs.length + ys.length ≤ 1000000 then .ok (.lst (xs ++ ys)) h else .bad
    | _, _ => .bad
def rPlus (K : PySem.W.Frag) : R2 := fun x y H Q => rI0 (fun i j => .int (i + j)) x y H Q ∨ (∃ i j, x = .str i ∧ y = .str j ∧ i.length + j.length ≤ sizeLine ∧ Q (.str (i ++ j)) H) ∨ rCatA K x y H Q ∨ rCat x y H Q
theorem op_plus {X : Cx} : OpR X (binaryOp .Add) (rPlus X.K) := op_add.or (op_add_str.or (op_catA.or op_cat))
theorem plus_ok {G : Cfg} : Op2 G (rPlus G.K) pyAdd := by
  intro W σ ρ h H x y u v Q m rx ry p
  unfold pyAdd at p
  split at p
  · exact .inl ⟨_, _, rx, ry, p ρ H _ m Ext.refl rfl⟩
  · rename_i i j
    split at p
    · rename_i hl
      exact .inr (.inl ⟨i, j, rx, ry, lineM hl, p ρ H _ m Ext.refl rfl⟩)
    · exact p.elim
  · rename_i xs ys
    split at p
    · rename_i hl
      obtain ⟨a, us, ea, sa, ra⟩ := rx
      obtain ⟨b, vs, eb, sb, rb⟩ := ry
      refine .inr (.inr (.inl ⟨a, b, us, vs, ea, eb, sa, sb, by rw [← ra.len, ← rb.len]; exact lineM hl, fun e => ?_, fun e e2 => ?_, fun _ _ p' hp => ?_⟩))
      · have ex : xs = [] := ra.nil_iff.mp e
        subst ex
        exact p ρ H _ m Ext.refl ⟨b, vs, rfl, sb, rb⟩
      · have ey : ys = [] := rb.nil_iff.mp e2
        subst ey
        exact p ρ H _ m Ext.refl ⟨a, us, rfl, sa, by rw [List.append_nil]; exact ra⟩
      · exact p.newTup m (ra.app rb) hp
    · exact p.elim
  · split at p
    · rename_i xs ys e1 e2
      split at p
      · rename_i hl
        obtain ⟨a, us, ea, ra, sa⟩ := lstOf_r m rx e1
        obtain ⟨b, vs, eb, rb, sb⟩ := lstOf_r m ry e2
        exact .inr (.inr (.inr ⟨a, b, us, vs, ea, eb, sa, sb, by rw [← ra.len, ← rb.len]; exact lineM hl, fun p' hp => p.newLst m (ra.app rb) hp⟩))
      · exact p.elim
    · exact p.elim
theorem ValsR.rep {G : Cfg} {ρ : Wd} {H : Hp} {xs : List CV} {us : List V} (r : ValsR G ρ H xs us) : ∀ k : Nat, ValsR G ρ H (List.replicate k xs).flatten (List.replicate k us).flatten
  | 0 => rfl
  | k + 1 => by rw [List.replicate_succ, List.replicate_succ, List.flatten_cons, List.flatten_cons]; exact r.app (r.rep k)

def pySub (x y : CV) : M CV := match x, y with
  | .int i, .int j => ret (.int (i - j))
  | _, _ => stuck
theorem sub_ok {G : Cfg} : Op2 G (rI0 fun i j => .int (i - j)) pySub := by
  intro W σ ρ h H x y u v Q m rx ry p
  unfold pySub at p
  split at p
  · exact ⟨_, _, rx, ry, p ρ H _ m Ext.refl rfl⟩
  · exact p.elim
def pyFdiv (x y : CV) : M CV := match x, y with
  | .int i, .int j => if j ≠ 0 ∧ fitD j = true then ret (.int (i.fdiv j)) else stuck
  | _, _ => stuck
def CDivG (_ j : Int) : Prop := j ≠ 0 ∧ j.natAbs.log2 < 9000
theorem op_fdivG {X : Cx} : OpR X (binaryOp .FloorDiv) (rI CDivG fun i j => .int (i.fdiv j)) := opI fun i j _ _ _ _ _ hc q => floordiv_int hc.1 q (.inl (PyProof.noPylong_of_log2 hc.2))
theorem iop_fdivG {X : Cx} : OpR X (inplaceOp .FloorDiv) (rI CDivG fun i j => .int (i.fdiv j)) := opI fun i j _ _ _ _ _ hc q => ifloordiv_int hc.1 q (.inl (PyProof.noPylong_of_log2 hc.2))
theorem fdiv_ok {G : Cfg} : Op2 G (rI CDivG fun i j => .int (i.fdiv j)) pyFdiv := by
  intro W σ ρ h H x y u v Q m rx ry p
  unfold pyFdiv at p
  split at p
  · split at p
    · rename_i hc
      exact ⟨_, _, rx, ry, ⟨hc.1, fit_div hc.2⟩, p ρ H _ m Ext.refl rfl⟩
    · exact p.elim
  · exact p.elim
def pyMod (x y : CV) : M CV := match x, y with
  | .int i, .int j => if j ≠ 0 then ret (.int (i.fmod j)) else stuck
  | _, _ => stuck
theorem mod_ok {G : Cfg} : Op2 G (rI (fun _ j => j ≠ 0) fun i j => .int (i.fmod j)) pyMod := by
  intro W σ ρ h H x y u v Q m rx ry p
  unfold pyMod at p
  split at p
  · split at p
    · rename_i hc
      exact ⟨_, _, rx, ry, hc, p ρ H _ m Ext.refl rfl⟩
    · exact p.elim
  · exact p.elim
def pyPow (x y : CV) : M CV := match x, y with
  | .int i, .int j => if 0 ≤ j ∧ j ≤ 1000000 ∧ i.natAbs < 2 ^ 64 then ret (.int (i ^ j.toNat)) else stuck
  | _, _ => stuck
theorem pow_ok {G : Cfg} : Op2 G (rI CPow fun i j => .int (i ^ j.toNat)) pyPow := by
  intro W σ ρ h H x y u v Q m rx ry p
  unfold pyPow at p
  split at p
  · split at p
    · rename_i hc
      exact ⟨_, _, rx, ry, hc, p ρ H _ m Ext.refl rfl⟩
    · exact p.elim
  · exact p.elim
def pyMul (x y : CV) : M CV := fun h => match x, y with
  | .int i, .int j => if (fit i && fit j) = true then .ok (.int (i * j)) h else .bad
  | .tup xs, .int k => if xs ≠ [] ∧ 2 ≤ k ∧ k ≤ 1000 ∧ xs.length ≤ 1000 then .ok (.tup (List.replicate k.toNat xs).flatten) h else .bad
  | x, .int k => match lstOf x h with
    | some xs => if 0 ≤ k ∧ k ≤ 1000 ∧ xs.length ≤ 1000 then .ok (.lst (List.replicate k.toNat xs).flatten) h else .bad
    | none => .bad
  | _, _ => .bad
def rTimes (K : PySem.W.Frag) : R2 := fun x y H Q => rI CMulW (fun i j => .int (i * j)) x y H Q ∨ rRepT K x y H Q ∨ rRep x y H Q
theorem op_times {X : Cx} : OpR X (binaryOp .Mult) (rTimes X.K) := op_mulW.or (op_repT.or op_rep)
def pyNeg (x : CV) : M CV := match x with
  | .int i => ret (.int (-i))
  | _ => stuck
theorem neg_ok {G : Cfg} : Op1 G (rU fun i => .int (-i)) pyNeg := by
  intro W σ ρ h H x u Q m rx p
  unfold pyNeg at p
  split at p
  · exact ⟨_, rx, p ρ H _ m Ext.refl rfl⟩
  · exact p.elim
/-- two ints compared -/
def pyCmp (f : Int → Int → Bool) (x y : CV) : M CV := match x, y with
  | .int i, .int j => ret (.bl (f i j))
  | _, _ => stuck
theorem cmp_ok {G : Cfg} {f : Int → Int → Bool} : Op2 G (rI0 fun i j => .bl (f i j)) (pyCmp f) := by
  intro W σ ρ h H x y u v Q m rx ry p
  unfold pyCmp at p
  split at p
  · exact ⟨_, _, rx, ry, p ρ H _ m Ext.refl rfl⟩
  · exact p.elim
abbrev pyLt := pyCmp fun i j => decide (i < j)
abbrev pyLe := pyCmp fun i j => decide (i ≤ j)
abbrev pyGt := pyCmp fun i j => decide (j < i)
abbrev pyGe := pyCmp fun i j => decide (j ≤ i)
/-- a op1 b op2 c -/
def eChain (g g' : CV → CV → M CV) (a b c : Sl → M CV) : Sl → M CV := fun τ => bnd (a τ) fun x => bnd (b τ) fun y => bnd (g x y) fun z => match z with
  | .bl true => bnd (c τ) fun w => g' y w
  | .bl false => ret (.bl false)
  | _ => stuck

theorem times_ok {G : Cfg} : Op2 G (rTimes G.K) pyMul := by
  intro W σ ρ h H x y u v Q m rx ry p
  unfold pyMul at p
  split at p
  · split at p
    · rename_i hc
      exact .inl ⟨_, _, rx, ry, fit_mul hc, p ρ H _ m Ext.refl rfl⟩
    · exact p.elim
  · rename_i xs k
    split at p
    · rename_i hc
      obtain ⟨a, us, ea, sa, ra⟩ := rx
      exact .inr (.inl ⟨a, k, us, ea, ry, sa, fun e => hc.1 (ra.nil_iff.mp e), hc.2.1, hc.2.2.1, by rw [← ra.len]; exact hc.2.2.2, fun p' hp => p.newTup m (ra.rep _) hp⟩)
    · exact p.elim
  · rename_i k _ _
    split at p
    · rename_i xs e
      split at p
      · rename_i hc
        obtain ⟨a, us, ea, ra, sa⟩ := lstOf_r m rx e
        refine .inr (.inr ⟨a, k, us, ea, ry, sa, by omega, by omega, ?_, fun p' hp => p.newLst m (ra.rep _) hp⟩)
        rw [← ra.len]
        have h1 : k.toNat ≤ 1000 := by omega
        have h2 := Nat.mul_le_mul hc.2.2 h1
        rw [sizeLine_eq]; omega
      · exact p.elim
    · exact p.elim
  · exact p.elim
section
variable {G : Cfg} {W : WX} {X : Cx} {pos : Pos} {a b c : Expr} {ma mb mc : Sl → M CV} {r r' : R2} {g g' : CV → CV → M CV} {op op' : CmpOp}
theorem chain_red (hg : Op2 G r g) (hg' : Op2 G r' g') {σ : L2.St} {H : Hp} {Q : VK} (q : tV G W (eChain g g' ma mb mc) σ H Q) : tChain r r' (tV G W ma) (tV G W mb) (tV G W mc) σ H Q := by
  obtain ⟨ρ, h, τ, m, s, p⟩ := q
  refine tM_bind m s p fun x h1 ρ1 H1 u m1 e1 s1 r1 p1 => tM_bind m1 s1 p1 fun y h2 ρ2 H2 v m2 e2 s2 r2 p2 => hg W σ ρ2 h2 H2 x y u v _ m2 (r1.ext m1 e2) r2 ?_
  unfold bnd at p2
  cases e : g x y h2 with
  | ok z h3 =>
    rw [e] at p2
    intro ρ3 H3 t m3 e3 r3
    cases z with
    | bl k =>
      refine ⟨k, r3, ?_⟩
      cases k with
      | true =>
        rw [if_pos rfl]
        exact tM_bind m3 (s2.ext m2 e3) (Post.ext (G := G) (W := W) p2 e3) fun w' h4 ρ4 H4 t' m4 e4 s4 r4 p4 => hg' W σ ρ4 h4 H4 y w' v t' Q m4 (r2.ext m2 (e3.trans e4)) r4 p4
      | false =>
        rw [if_neg Bool.false_ne_true]
        exact p2 ρ3 H3 _ m3 e3 rfl
    | _ => exact p2.elim
  | exc z h3 => rw [e] at p2; exact p2
  | bad => rw [e] at p2; exact p2
theorem se_chain (ho : OpR X (compareOp op) r) (hg : Op2 G r g) (ho' : OpR X (compareOp op') r') (hg' : Op2 G r' g') (ha : SE G W X a ma) (hb : SE G W X b mb) (hc : SE G W X c mc) (hm : lastMarks [op, op'] [b, c] = false := by with_unfolding_all rfl) :
    SE G W X (.Compare a [op, op'] [b, c] pos) (eChain g g' ma mb mc) := (pe_chain ho ho' ha hb hc hm).wk fun σ H Q q => chain_red hg hg' q
theorem st_chain (ho : OpR X (compareOp op) r) (hg : Op2 G r g) (ho' : OpR X (compareOp op') r') (hg' : Op2 G r' g') (ha : SE G W X a ma) (hb : SE G W X b mb) (hc : SE G W X c mc) (hm : lastMarks [op, op'] [b, c] = false := by with_unfolding_all rfl) :
    ST G W X (.Compare a [op, op'] [b, c] pos) (bOf (eChain g g' ma mb mc)) := by
  refine (pt_chain ho ho' ha hb hc hm).wk fun σ H Q ⟨ρ, h, τ, m, s, p⟩ => ?_
  refine chain_red (W := W) hg hg' ⟨ρ, h, τ, m, s, ?_⟩
  unfold bOf bnd at p
  cases e : eChain g g' ma mb mc τ h with
  | ok z h3 =>
    rw [e] at p
    intro ρ3 H3 t m3 e3 r3
    cases z with
    | bl k => exact ⟨k, r3, p ρ3 H3 k m3 e3 rfl⟩
    | _ => exact p.elim
  | exc z h3 => rw [e] at p; exact p
  | bad => rw [e] at p; exact p
end

mutual
def dat : CV → Option PyData
  | .non => some .none
  | .bl b => some (.bool b)
  | .int i => some (.int i)
  | .str x => some (.str x)
  | .tup xs => (dats xs).map .tuple
  | .lst xs => (dats xs).map .list
  | .frz xs => (dats xs).map .list
  | _ => none
def dats : List CV → Option (List PyData)
  | [] => some []
  | x :: xs => match dat x, dats xs with
    | some d, some ds => some (d :: ds)
    | _, _ => none
end
def datM (x : CV) (h : Mem) : Option PyData := match x with
  | .ref l => match memAt h l with
    | some xs => (dats xs).map .list
    | none => none
  | x => dat x
section
variable {G : Cfg} {ρ : Wd} {h : Mem} {H : Hp}
mutual
theorem dat_r : ∀ {x : CV} {u : V} {d : PyData}, ValR G ρ H x u → dat x = some d → Dp G.K H u d
  | .non, _, _, r, e => by cases e; rw [show _ = V.non from r]; exact .non
  | .bl b, _, _, r, e => by cases e; rw [show _ = V.bl b from r]; exact .bl b
  | .int i, _, _, r, e => by cases e; rw [show _ = V.int i from r]; exact .int i
  | .str x, _, _, r, e => by cases e; rw [show _ = V.str x from r]; exact .str x
  | .tup xs, _, d, ⟨a, ys, q, s, r⟩, e => by
    unfold dat at e
    cases z : dats xs with
    | none => simp [z] at e
    | some ds =>
      simp only [z, Option.map_some, Option.some.injEq] at e
      subst e q
      exact .tup s (dats_r r z)
  | .lst xs, _, d, ⟨a, ys, q, n, s, r⟩, e => by
    unfold dat at e
    cases z : dats xs with
    | none => simp [z] at e
    | some ds =>
      simp only [z, Option.map_some, Option.some.injEq] at e
      subst e q
      exact .lst (SqL.of s) (dats_r r z)
  | .frz xs, _, d, ⟨a, ys, q, s, r⟩, e => by
    unfold dat at e
    cases z : dats xs with
    | none => simp [z] at e
    | some ds =>
      simp only [z, Option.map_some, Option.some.injEq] at e
      subst e q
      exact .lst s.l (dats_r r z)
  | .ref l, _, _, _, e => by simp [dat] at e
  | .cls l, _, _, _, e => by simp [dat] at e
  | .fn l, _, _, _, e => by simp [dat] at e
  | .ty l, _, _, _, e => by simp [dat] at e
  | .ins _ _, _, _, _, e => by simp [dat] at e
  | .dic _ _ _, _, _, _, e => by simp [dat] at e
theorem dats_r : ∀ {xs : List CV} {us : List V} {ds : List PyData}, ValsR G ρ H xs us → dats xs = some ds → DpAll G.K H us ds
  | [], _, _, r, e => by rw [show _ = [] from r]; cases e; exact .nil
  | x :: xs, _, ds, ⟨y, r, q, r1, r2⟩, e => by
    subst q
    unfold dats at e
    cases z1 : dat x with
    | none => simp [z1] at e
    | some d =>
      cases z2 : dats xs with
      | none => simp [z1, z2] at e
      | some ds' =>
        simp only [z1, z2, Option.some.injEq] at e
        subst e
        exact .cons (dat_r r1 z1) (dats_r r2 z2)
end
theorem datM_r {x : CV} {u : V} {d : PyData} (m : MemR G ρ h H) (r : ValR G ρ H x u) (e : datM x h = some d) : Dp G.K H u d := by
  cases x with
  | ref l =>
    obtain ⟨a, q, z⟩ := r
    unfold datM at e
    cases hc : memAt h l with
    | none => simp [hc] at e
    | some xs =>
      simp only [hc] at e
      obtain ⟨ys, w, r⟩ := m.obj l a _ q (memAt_some hc)
      cases z2 : dats xs with
      | none => simp [z2] at e
      | some ds =>
        simp only [z2, Option.map_some, Option.some.injEq] at e
        subst e z
        exact .lst (SqL.of w) (dats_r r z2)
  | _ => exact dat_r r e
end
def pyEq (neg : Bool) (x y : CV) : M CV := fun h => match datM x h, datM y h with
  | some d, some e => if SeqAt.shaped d && SeqAt.shaped e then .ok (.bl (neg ^^ PyData.eqv d e)) h else .bad
  | _, _ => .bad
theorem eq_ok {G : Cfg} : Op2 G (rEqD G.K) (pyEq false) := by
  intro W σ ρ h H x y u v Q m rx ry p
  unfold pyEq at p
  split at p
  · rename_i d e h1 h2
    split at p
    · rename_i hs
      rw [Bool.and_eq_true] at hs
      exact ⟨d, e, datM_r m rx h1, datM_r m ry h2, hs.1, hs.2, by simpa using p ρ H _ m Ext.refl rfl⟩
    · exact p.elim
  · exact p.elim
theorem ne_ok {G : Cfg} : Op2 G (rNeD G.K) (pyEq true) := by
  intro W σ ρ h H x y u v Q m rx ry p
  unfold pyEq at p
  split at p
  · rename_i d e h1 h2
    split at p
    · rename_i hs
      rw [Bool.and_eq_true] at hs
      exact ⟨d, e, datM_r m rx h1, datM_r m ry h2, hs.1, hs.2, by simpa using p ρ H _ m Ext.refl rfl⟩
    · exact p.elim
  · exact p.elim

def pyLen (xs : List CV) : M CV := fun h => match xs with
  | [.str z] => if z.length ≤ 1000000 then .ok (.int z.length) h else .bad
  | [x] => match seqOf x h with
    | some ys => .ok (.int ys.length) h
    | none => .bad
  | _ => .bad
theorem len_ok {G : Cfg} : OpL G (fun xs H Q => ∃ x n, xs = [x] ∧ LenV G.K x H n ∧ Q (.int n) H) pyLen := by
  intro W σ ρ h H xs us Q m r p
  unfold pyLen at p
  split at p
  · rename_i z
    obtain ⟨y, t, e, r1, r2⟩ := r
    cases (show t = [] from r2)
    cases (show y = V.str z from r1)
    split at p
    · rename_i hl
      exact ⟨_, _, e, ⟨lineM hl, rfl⟩, p ρ H _ m Ext.refl rfl⟩
    · exact p.elim
  · obtain ⟨y, t, e, r1, r2⟩ := r
    cases (show t = [] from r2)
    split at p
    · rename_i ys q
      obtain ⟨a, us', eu, rr, sq⟩ := seqOf_r m r1 q
      subst eu
      have hp := p ρ H (.int ys.length) m Ext.refl rfl
      rw [rr.len] at hp
      split at sq
      · exact ⟨_, _, e, .inr ⟨_, sq, rfl⟩, hp⟩
      · exact ⟨_, _, e, .inl ⟨_, sq, rfl⟩, hp⟩
    · exact p.elim
  · exact p.elim
def pyAbs (xs : List CV) : M CV := match xs with
  | [.int i] => ret (.int (if i < 0 then -i else i))
  | _ => stuck
theorem abs_ok {G : Cfg} : OpL G (fun xs H Q => ∃ i, xs = [.int i] ∧ Q (.int (if i < 0 then -i else i)) H) pyAbs := by
  intro W σ ρ h H xs us Q m r p
  unfold pyAbs at p
  split at p
  · rename_i i
    obtain ⟨y, t, e, r1, r2⟩ := r
    cases (show t = [] from r2)
    cases (show y = V.int i from r1)
    exact ⟨i, e, p ρ H _ m Ext.refl rfl⟩
  · exact p.elim
def pyMax (xs : List CV) : M CV := match xs with
  | [.int i, .int j] => ret (.int (if j > i then j else i))
  | _ => stuck
theorem max_ok {G : Cfg} : OpL G (fun xs H Q => ∃ i j, xs = [.int i, .int j] ∧ Q (.int (if j > i then j else i)) H) pyMax := by
  intro W σ ρ h H xs us Q m r p
  unfold pyMax at p
  split at p
  · rename_i i j
    obtain ⟨y, t, e, r1, y2, t2, e2, r2, r3⟩ := r
    cases (show t2 = [] from r3)
    cases (show y = V.int i from r1)
    cases (show y2 = V.int j from r2)
    subst e2
    exact ⟨i, j, e, p ρ H _ m Ext.refl rfl⟩
  · exact p.elim
def pyMin (xs : List CV) : M CV := match xs with
  | [.int i, .int j] => ret (.int (if j < i then j else i))
  | _ => stuck
theorem min_ok {G : Cfg} : OpL G (fun xs H Q => ∃ i j, xs = [.int i, .int j] ∧ Q (.int (if j < i then j else i)) H) pyMin := by
  intro W σ ρ h H xs us Q m r p
  unfold pyMin at p
  split at p
  · rename_i i j
    obtain ⟨y, t, e, r1, y2, t2, e2, r2, r3⟩ := r
    cases (show t2 = [] from r3)
    cases (show y = V.int i from r1)
    cases (show y2 = V.int j from r2)
    subst e2
    exact ⟨i, j, e, p ρ H _ m Ext.refl rfl⟩
  · exact p.elim
def pyInt (xs : List CV) : M CV := match xs with
  | [.int i] => ret (.int i)
  | [.bl b] => ret (.int (if b then 1 else 0))
  | _ => stuck
theorem int_ok {G : Cfg} : OpL G (fun xs H Q => (∃ i, xs = [.int i] ∧ Q (.int i) H) ∨ ∃ k, xs = [.bl k] ∧ Q (.int (if k then 1 else 0)) H) pyInt := by
  intro W σ ρ h H xs us Q m r p
  unfold pyInt at p
  split at p
  · rename_i i
    obtain ⟨y, t, e, r1, r2⟩ := r
    cases (show t = [] from r2)
    cases (show y = V.int i from r1)
    exact .inl ⟨i, e, p ρ H _ m Ext.refl rfl⟩
  · rename_i i
    obtain ⟨y, t, e, r1, r2⟩ := r
    cases (show t = [] from r2)
    cases (show y = V.bl i from r1)
    exact .inr ⟨i, e, p ρ H _ m Ext.refl rfl⟩
  · exact p.elim
end VE

noncomputable section
namespace VE
open PySem PySem.Spec PyProof.Rows L2

theorem _root_.L2.PI.or {X : Cx} {tg e : Expr} {t t' : TI} (h : PI X tg e t) (h' : PI X tg e t') : PI X tg e (fun σ H R => t σ H R ∨ t' σ H R) :=
  ⟨fun pins s σ H R I q => q.elim (fun q => h.run pins s σ H R I q) fun q => h'.run pins s σ H R I q⟩
def strItems (z : Str) : List CV := z.cps.toList.map fun c => .str ⟨#[c]⟩
/-- the items that a for draws of a value that nobody writes -/
def itOf (x : CV) : M (List CV) := match x with
  | .tup xs => ret xs
  | .lst xs => ret xs
  | .frz xs => ret xs
  | .str z => ret (strItems z)
  | _ => stuck
def iSeq (e : Sl → M CV) : Sl → M (List CV) := fun τ => bnd (e τ) itOf
section
variable {G : Cfg} {ρ : Wd} {h : Mem} {H : Hp} {a : Addr} {ys : List V} {xs : List CV}
theorem itR_list (m : MemR G ρ h H) (s : SqF G.K ρ H a ys) (r : ValsR G ρ H xs ys) : ItR G ρ H (Itl G.K a) xs := by
  intro ρ1 h1 H1 m1 e1
  have s1 : SqL G.K H1 a ys := by
    rcases s with ⟨n, s⟩ | s
    · exact .inl (e1.rd s (nr n) fun _ e => by cases e)
    · exact (show SqF G.K ρ1 H1 a ys from .inr s).l
  have r1 := r.extH m e1
  refine ⟨fun i hi => ⟨ys, ys[i]'(by rw [← r.len]; exact hi), s1, by simp [← r.len, hi]⟩, ⟨ys, s1, by rw [r.len]; exact Nat.le_refl _⟩, fun i x u H' q y => ?_⟩
  obtain ⟨e, y⟩ := y
  subst e
  have q2 := y ys s1
  obtain ⟨w, q3, r3⟩ := r1.get q
  rw [q2] at q3
  cases q3
  exact ⟨m1, Ext.refl, r3⟩
theorem itR_tup (m : MemR G ρ h H) (s : SqT G.K H a ys) (r : ValsR G ρ H xs ys) : ItR G ρ H (Itt G.K a) xs := by
  intro ρ1 h1 H1 m1 e1
  have s1 := e1.sqT m s
  have r1 := r.extH m e1
  refine ⟨fun i hi => ⟨ys, ys[i]'(by rw [← r.len]; exact hi), s1, by simp [← r.len, hi]⟩, ⟨ys, s1, by rw [r.len]; exact Nat.le_refl _⟩, fun i x u H' q y => ?_⟩
  obtain ⟨e, y⟩ := y
  subst e
  have q2 := y ys s1
  obtain ⟨w, q3, r3⟩ := r1.get q
  rw [q2] at q3
  cases q3
  exact ⟨m1, Ext.refl, r3⟩
theorem itR_str {z : Str} : ItR G ρ H (Its z) (strItems z) := by
  intro ρ1 h1 H1 m1 e1
  have hl : (strItems z).length = z.cps.size := by unfold strItems; simp
  refine ⟨fun i hi => by rw [hl] at hi; exact hi, by rw [hl]; exact Nat.le_refl _, fun i x u H' q y => ?_⟩
  obtain ⟨e, c, hc, eu⟩ := y
  subst e eu
  refine ⟨m1, Ext.refl, ?_⟩
  unfold strItems at q
  rw [List.getElem?_map, Array.getElem?_toList, hc] at q
  cases q
  exact rfl
theorem itR_rng {lo : Int} {n : Nat} : ItR G ρ H (Itr lo n) ((List.range n).map fun (i : Nat) => CV.int (lo + (i : Int))) := by
  intro ρ1 h1 H1 m1 e1
  refine ⟨fun i hi => (show i < n by simpa using hi), by simp [Itr], fun i x u H' q y => ?_⟩
  obtain ⟨e, eu⟩ := y
  subst e eu
  refine ⟨m1, Ext.refl, ?_⟩
  rw [List.getElem?_map] at q
  by_cases hi : i < n
  · rw [List.getElem?_range hi] at q
    cases q
    exact rfl
  · rw [List.getElem?_eq_none (by simpa using hi)] at q
    cases q
theorem itR_rngC {lo c : Int} {n : Nat} : ItR G ρ H (Itc lo c n) ((List.range n).map fun (i : Nat) => CV.int (lo + (i : Int) * c)) := by
  intro ρ1 h1 H1 m1 e1
  refine ⟨fun i hi => (show i < n by simpa using hi), by simp [Itc], fun i x u H' q y => ?_⟩
  obtain ⟨e, eu⟩ := y
  subst e eu
  refine ⟨m1, Ext.refl, ?_⟩
  rw [List.getElem?_map] at q
  by_cases hi : i < n
  · rw [List.getElem?_range hi] at q
    cases q
    exact rfl
  · rw [List.getElem?_eq_none (by simpa using hi)] at q
    cases q
/-- (0, x), (1, y), .. -/
def enumL (i : Nat) : List CV → List CV
  | [] => []
  | x :: xs => .tup [.int (i : Int), x] :: enumL (i + 1) xs
theorem enumL_get : ∀ {xs : List CV} {n i : Nat} {y : CV}, (enumL n xs)[i]? = some y → ∃ x, xs[i]? = some x ∧ y = .tup [.int ((n + i : Nat) : Int), x]
  | [], n, i, y, e => by simp [enumL] at e
  | x :: xs, n, 0, y, e => by
    simp only [enumL, List.getElem?_cons_zero, Option.some.injEq] at e
    exact ⟨x, rfl, e.symm⟩
  | x :: xs, n, i + 1, y, e => by
    simp only [enumL, List.getElem?_cons_succ] at e
    obtain ⟨z, h1, h2⟩ := enumL_get e
    exact ⟨z, by simpa using h1, by rw [h2]; congr 4; omega⟩
theorem enumL_len : ∀ {xs : List CV} {n : Nat}, (enumL n xs).length = xs.length
  | [], _ => rfl
  | x :: xs, n => by simp [enumL, enumL_len]
theorem itR_enum (m : MemR G ρ h H) (s : SqF G.K ρ H a ys) (r : ValsR G ρ H xs ys) : ItR G ρ H (Ite G.K a) (enumL 0 xs) := by
  intro ρ1 h1 H1 m1 e1
  have s1 : SqL G.K H1 a ys := by
    rcases s with ⟨n, s⟩ | s
    · exact .inl (e1.rd s (nr n) fun _ e => by cases e)
    · exact (show SqF G.K ρ1 H1 a ys from .inr s).l
  have r1 := r.extH m e1
  refine ⟨fun i hi => ⟨ys, ys[i]'(by rw [← r.len]; rw [enumL_len] at hi; exact hi), s1, by rw [enumL_len] at hi; simp [← r.len, hi]⟩, ⟨ys, s1, by rw [enumL_len, r.len]; exact Nat.le_refl _⟩, fun i x u H' q y => ?_⟩
  obtain ⟨T, w, eu, hT, eH, hw⟩ := y
  subst eu eH
  obtain ⟨z, h1, h2⟩ := enumL_get q
  subst h2
  have q2 := hw ys s1
  obtain ⟨w', q3, r3⟩ := r1.get h1
  rw [q2] at q3
  cases q3
  refine ⟨m1.laid hT, Ext.laid hT, T, _, rfl, SqT.of upd_same, _, _, rfl, (by rw [Nat.zero_add]; exact (rfl : V.int _ = V.int _)), _, _, rfl, r3.ext m1 (Ext.laid hT), rfl⟩
def zipL : List CV → List CV → List CV
  | x :: xs, y :: ys => .tup [x, y] :: zipL xs ys
  | _, _ => []
theorem zipL_get : ∀ {xs ys : List CV} {i : Nat} {z : CV}, (zipL xs ys)[i]? = some z → ∃ x y, xs[i]? = some x ∧ ys[i]? = some y ∧ z = .tup [x, y]
  | [], _, i, z, e => by simp [zipL] at e
  | x :: xs, [], i, z, e => by simp [zipL] at e
  | x :: xs, y :: ys, 0, z, e => by
    simp only [zipL, List.getElem?_cons_zero, Option.some.injEq] at e
    exact ⟨x, y, rfl, rfl, e.symm⟩
  | x :: xs, y :: ys, i + 1, z, e => by
    simp only [zipL, List.getElem?_cons_succ] at e
    obtain ⟨a, b, h1, h2, h3⟩ := zipL_get e
    exact ⟨a, b, by simpa using h1, by simpa using h2, h3⟩
theorem zipL_len : ∀ {xs ys : List CV}, (zipL xs ys).length = min xs.length ys.length
  | [], _ => by simp [zipL]
  | x :: xs, [] => by simp [zipL]
  | x :: xs, y :: ys => by simp [zipL, zipL_len]
end
theorem SqF.ext {G : Cfg} {ρ ρ1 : Wd} {h : Mem} {H H1 : Hp} {a : Addr} {ys : List V} (s : SqF G.K ρ H a ys) (e1 : ExtH ρ H ρ1 H1) : SqL G.K H1 a ys := by
  rcases s with ⟨n, s⟩ | s
  · exact .inl (e1.rd s (nr n) fun _ e => by cases e)
  · exact (show SqF G.K ρ1 H1 a ys from .inr s).l
/-- a list (that nobody writes), a tuple -/
def frzOf (x : CV) : Option (List CV) := match x with
  | .lst xs => some xs
  | .frz xs => some xs
  | _ => none
theorem frzOf_r {G : Cfg} {ρ : Wd} {H : Hp} {x : CV} {u : V} {xs : List CV} (r : ValR G ρ H x u) (e : frzOf x = some xs) : ∃ a ys, u = .ref a ∧ SqF G.K ρ H a ys ∧ ValsR G ρ H xs ys := by
  cases x with
  | lst zs =>
    obtain ⟨a, ys, q, n, z, r⟩ := r
    cases e
    exact ⟨a, ys, q, .inl ⟨n, .inl z⟩, r⟩
  | frz zs =>
    obtain ⟨a, ys, q, z, r⟩ := r
    cases e
    exact ⟨a, ys, q, z, r⟩
  | _ => cases e
section
variable {G : Cfg} {W : WX} {X : Cx} {pos p : Pos} {e e2 tg : Expr} {es : List Expr} {me : Sl → M CV} {ml : Sl → M (List CV)}
theorem si_seq (hK : G.K = X.K) (he : SE G W X e me) : SI G W X tg e (iSeq me) :=
  ((pi_list he).or ((pi_tup he).or (pi_str he))).wk fun σ H R ⟨ρ, h, τ, m, s, p⟩ => by
    rw [← hK]
    have p' := p
    unfold iSeq bnd at p'
    cases q : me τ h with
    | exc x h1 => exact .inl ⟨ρ, h, τ, m, s, by rw [q] at p' ⊢; exact p'⟩
    | bad => exact .inl ⟨ρ, h, τ, m, s, by rw [q] at p' ⊢; exact p'⟩
    | ok x h1 =>
      rw [q] at p'
      cases x with
      | tup xs => exact .inr (.inl ⟨ρ, h, τ, m, s, by
          rw [q]
          intro ρ1 H1 u m1 e1 r1
          obtain ⟨a, ys, eu, z, r⟩ := r1
          exact ⟨a, eu, ⟨ys, z⟩, p' ρ1 H1 _ m1 e1 (itR_tup m1 z r)⟩⟩)
      | lst xs => exact .inl ⟨ρ, h, τ, m, s, by
          rw [q]
          intro ρ1 H1 u m1 e1 r1
          obtain ⟨a, ys, eu, z, r⟩ := frzOf_r r1 rfl
          exact ⟨a, eu, ⟨ys, z.l⟩, p' ρ1 H1 _ m1 e1 (itR_list m1 z r)⟩⟩
      | frz xs => exact .inl ⟨ρ, h, τ, m, s, by
          rw [q]
          intro ρ1 H1 u m1 e1 r1
          obtain ⟨a, ys, eu, z, r⟩ := frzOf_r r1 rfl
          exact ⟨a, eu, ⟨ys, z.l⟩, p' ρ1 H1 _ m1 e1 (itR_list m1 z r)⟩⟩
      | str z => exact .inr (.inr ⟨ρ, h, τ, m, s, by
          rw [q]
          intro ρ1 H1 u m1 e1 r1
          exact ⟨z, r1, p' ρ1 H1 _ m1 e1 itR_str⟩⟩)
      | _ => exact p'.elim
def rng1 (xs : List CV) : M (List CV) := match xs with
  | [.int n] => if -(2 ^ 62) ≤ n ∧ n < 2 ^ 62 then ret ((List.range n.toNat).map fun (i : Nat) => CV.int (0 + (i : Int))) else stuck
  | _ => stuck
def rng2 (xs : List CV) : M (List CV) := match xs with
  | [.int a, .int b] => if -(2 ^ 62) ≤ a ∧ a < 2 ^ 62 ∧ -(2 ^ 62) ≤ b ∧ b < 2 ^ 62 then ret ((List.range (b - a).toNat).map fun (i : Nat) => CV.int (a + (i : Int))) else stuck
  | _ => stuck
def rng3 (xs : List CV) : M (List CV) := match xs with
  | [.int a, .int b, .int c] => if c ≠ 0 ∧ c.natAbs < 1073741824 ∧ Builtin.Range.small a b c = true ∧ 0 ≤ Builtin.Range.rangeSize a b c then ret ((List.range (Builtin.Range.rangeSize a b c).toNat).map fun (i : Nat) => CV.int (a + (i : Int) * c)) else stuck
  | _ => stuck
def iArgs (g : List CV → M (List CV)) (ml : Sl → M (List CV)) : Sl → M (List CV) := fun τ => bnd (ml τ) g
theorem ints1 {G : Cfg} {ρ : Wd} {H : Hp} {n : Int} {us : List V} (r : ValsR G ρ H [.int n] us) : us = [.int n] := by
  obtain ⟨y, t, e, r1, r2⟩ := r
  cases (show t = [] from r2)
  cases (show y = V.int n from r1)
  exact e
theorem ints2 {G : Cfg} {ρ : Wd} {H : Hp} {n m : Int} {us : List V} (r : ValsR G ρ H [.int n, .int m] us) : us = [.int n, .int m] := by
  obtain ⟨y, t, e, r1, r2⟩ := r
  cases (show y = V.int n from r1)
  rw [e, ints1 r2]
theorem ints3 {G : Cfg} {ρ : Wd} {H : Hp} {n m k : Int} {us : List V} (r : ValsR G ρ H [.int n, .int m, .int k] us) : us = [.int n, .int m, .int k] := by
  obtain ⟨y, t, e, r1, r2⟩ := r
  cases (show y = V.int n from r1)
  rw [e, ints2 r2]
theorem si_rng1 (hg : Gl X "range") (hm : X.mg "range" = none) (ha : SA G W X [e] ml) (hs : starEach [e] X.env = [(false, eval e X.env)] := by rfl) : SI G W X tg (.Call (.Name "range" p) [e] [] pos) (iArgs rng1 ml) :=
  (pi_range1 hg hm ha hs).wk fun σ H R ⟨ρ, h, τ, m, s, p⟩ => tM_bind m s p fun xs h1 ρ1 H1 us m1 e1 s1 r1 p1 => by
    unfold rng1 at p1
    split at p1
    · rename_i n
      split at p1
      · rename_i hc
        exact ⟨n, ints1 r1, hc.1, hc.2, p1 ρ1 H1 _ m1 Ext.refl itR_rng⟩
      · exact p1.elim
    · exact p1.elim
theorem si_rng2 (hg : Gl X "range") (hm : X.mg "range" = none) (ha : SA G W X [e, e2] ml) (hs : starEach [e, e2] X.env = [(false, eval e X.env), (false, eval e2 X.env)] := by rfl) (hs2 : starEach [e2] X.env = [(false, eval e2 X.env)] := by rfl) :
    SI G W X tg (.Call (.Name "range" p) [e, e2] [] pos) (iArgs rng2 ml) :=
  (pi_range2 hg hm ha hs hs2).wk fun σ H R ⟨ρ, h, τ, m, s, p⟩ => tM_bind m s p fun xs h1 ρ1 H1 us m1 e1 s1 r1 p1 => by
    unfold rng2 at p1
    split at p1
    · rename_i n k
      split at p1
      · rename_i hc
        exact ⟨n, k, ints2 r1, hc, p1 ρ1 H1 _ m1 Ext.refl itR_rng⟩
      · exact p1.elim
    · exact p1.elim
theorem si_rng3 {e3 : Expr} (hg : Gl X "range") (hm : X.mg "range" = none) (ha : SA G W X [e, e2, e3] ml) (hs : starEach [e, e2, e3] X.env = (false, eval e X.env) :: starEach [e2, e3] X.env := by rfl) (hpl : (backTo pos (starEach [e2, e3] X.env)).any (·.1) = false := by rfl) :
    SI G W X tg (.Call (.Name "range" p) [e, e2, e3] [] pos) (iArgs rng3 ml) :=
  (pi_range3 hg hm ha hs hpl).wk fun σ H R ⟨ρ, h, τ, m, s, p⟩ => tM_bind m s p fun xs h1 ρ1 H1 us m1 e1 s1 r1 p1 => by
    unfold rng3 at p1
    split at p1
    · rename_i n k c
      split at p1
      · rename_i hc
        refine ⟨n, k, c, (Builtin.Range.rangeSize n k c).toNat, ints3 r1, ⟨hc.1, hc.2.1, hc.2.2.1, by omega⟩, p1 ρ1 H1 _ m1 Ext.refl itR_rngC⟩
      · exact p1.elim
    · exact p1.elim
def enumOf (xs : List CV) : M (List CV) := match xs with
  | [x] => match frzOf x with
    | some ys => ret (enumL 0 ys)
    | none => stuck
  | _ => stuck
theorem si_enum {elts : List Expr} {kk : Nat} {tpos : Pos} (hK : G.K = X.K) (hg : Gl X "enumerate") (hm : X.mg "enumerate" = none) (ha : SA G W X [e] ml) (hs : starEach [e] X.env = [(false, eval e X.env)] := by rfl) :
    SI G W X (.Tuple elts kk tpos) (.Call (.Name "enumerate" p) [e] [] pos) (iArgs enumOf ml) :=
  (pi_enum hg hm ha hs).wk fun σ H R ⟨ρ, h, τ, m, s, p⟩ => tM_bind m s p fun xs h1 ρ1 H1 us m1 e1 s1 r1 p1 => by
    rw [← hK]
    cases xs with
    | nil => exact p1.elim
    | cons x t =>
      cases t with
      | cons _ _ => exact p1.elim
      | nil =>
        simp only [enumOf] at p1
        cases q : frzOf x with
        | none => rw [q] at p1; exact p1.elim
        | some ys =>
          rw [q] at p1
          obtain ⟨y, t, eu, ry, rt⟩ := r1
          cases (show t = [] from rt)
          obtain ⟨a, vs, ea, z, r⟩ := frzOf_r ry q
          subst ea
          exact ⟨a, vs, eu, z.l, p1 ρ1 H1 _ m1 Ext.refl (itR_enum m1 z r)⟩
end

def wipeC (τ : Sl) : List Nat → Sl
  | [] => τ
  | v :: vs => (wipeC τ vs).set v none
theorem SlR.wipe {G : Cfg} {ρ : Wd} {H : Hp} {τ : Sl} {σ : L2.St} (r : SlR G ρ H τ σ) : ∀ vs, vs.all G.fr = true → SlR G ρ H (wipeC τ vs) (L2.wipe σ vs)
  | [], _ => r
  | v :: vs, e => by
    rw [List.all_cons, Bool.and_eq_true] at e
    exact (r.wipe vs e.2).unset v e.1
/-- [e for target in it if ..]; the items that it makes -/
def lcL (g : CV → Sl → M Sl) (tt : Sl → M Bool) (te : Sl → M CV) (τ : Sl) (xs : List CV) : M (List CV) :=
  List.rec (fun h => .ok [] h) (fun x _ ih h => Out.rec (fun τ1 h1 => Out.rec (fun b h2 => Bool.rec (ih h2) (Out.rec (fun y h3 => frV 3 y fun y => Out.rec (fun ys h4 => .ok (y :: ys) h4) (fun _ _ => .bad) .bad (ih h3)) (fun _ _ => .bad) .bad (te τ1 h2)) b) (fun _ _ => .bad) .bad (tt τ1 h1)) (fun _ _ => .bad) .bad (g x τ h)) xs
/-- the same, to be read -/
def lcR (g : CV → Sl → M Sl) (tt : Sl → M Bool) (te : Sl → M CV) (τ : Sl) : List CV → M (List CV)
  | [] => ret []
  | x :: xs => fun h => match g x τ h with
    | .ok τ1 h1 => match tt τ1 h1 with
      | .ok true h2 => match te τ1 h2 with
        | .ok y h3 => match lcR g tt te τ xs h3 with
          | .ok ys h4 => .ok (y :: ys) h4
          | _ => .bad
        | _ => .bad
      | .ok false h2 => lcR g tt te τ xs h2
      | _ => .bad
    | _ => .bad
theorem lcL_eq {g : CV → Sl → M Sl} {tt : Sl → M Bool} {te : Sl → M CV} {τ : Sl} : ∀ (xs : List CV) (h : Mem), lcL g tt te τ xs h = lcR g tt te τ xs h
  | [], _ => rfl
  | x :: xs, h => by
    have ih := fun h => lcL_eq (g := g) (tt := tt) (te := te) (τ := τ) xs h
    show (Out.rec (fun τ1 h1 => Out.rec (fun b h2 => Bool.rec (lcL g tt te τ xs h2) (Out.rec (fun y h3 => frV 3 y fun y => Out.rec (fun ys h4 => .ok (y :: ys) h4) (fun _ _ => .bad) .bad (lcL g tt te τ xs h3)) (fun _ _ => .bad) .bad (te τ1 h2)) b) (fun _ _ => .bad) .bad (tt τ1 h1)) (fun _ _ => .bad) .bad (g x τ h) : Out (List CV)) = _
    simp only [lcR]
    cases g x τ h with
    | ok τ1 h1 =>
      simp only
      cases tt τ1 h1 with
      | ok b h2 =>
        cases b with
        | true =>
          simp only
          cases te τ1 h2 with
          | ok y h3 =>
            simp only [frV_eq, ih]
            cases lcR g tt te τ xs h3 <;> rfl
          | exc _ _ => rfl
          | bad => rfl
        | false => exact ih h2
      | exc _ _ => rfl
      | bad => rfl
    | exc _ _ => rfl
    | bad => rfl
theorem wipe_get {σ : L2.St} {j : Nat} : ∀ {vs : List Nat}, (L2.wipe σ vs)[j]? = if j ∈ vs ∧ j < σ.length then some none else σ[j]?
  | [] => by simp [L2.wipe]
  | v :: vs => by
    unfold L2.wipe
    by_cases hv : v = j
    · subst hv
      by_cases hl : v < σ.length
      · rw [List.getElem?_set_self (by rw [wipe_length]; exact hl), if_pos ⟨List.mem_cons_self, hl⟩]
      · rw [List.getElem?_eq_none (by rw [List.length_set, wipe_length]; omega), if_neg (fun z => hl z.2), List.getElem?_eq_none (by omega)]
    · rw [List.getElem?_set_ne hv, wipe_get]
      have : (j ∈ v :: vs) ↔ j ∈ vs := by
        simp only [List.mem_cons]
        exact ⟨fun z => z.elim (fun z => absurd z.symm hv) id, .inr⟩
      simp only [this]
theorem wipe_set {σ : L2.St} {i : Nat} {x : Option V} {vs : List Nat} (hi : i ∈ vs) : L2.wipe (σ.set i x) vs = L2.wipe σ vs := by
  apply List.ext_getElem?
  intro j
  rw [wipe_get, wipe_get, List.length_set]
  by_cases hj : j ∈ vs ∧ j < σ.length
  · rw [if_pos hj, if_pos hj]
  · rw [if_neg hj, if_neg hj]
    by_cases e : i = j
    · subst e
      have hl : ¬ i < σ.length := fun z => hj ⟨hi, z⟩
      rw [List.getElem?_eq_none (by rw [List.length_set]; omega), List.getElem?_eq_none (by omega)]
    · rw [List.getElem?_set_ne e]
theorem wipe_wipe {σ : L2.St} {vs : List Nat} : L2.wipe (L2.wipe σ vs) vs = L2.wipe σ vs := by
  apply List.ext_getElem?
  intro j
  rw [wipe_get, wipe_length, wipe_get]
  by_cases hj : j ∈ vs ∧ j < σ.length
  · rw [if_pos hj, if_pos hj]
  · rw [if_neg hj]
/-- a target within a comprehension: it touches the block's own names alone -/
def LcG (G : Cfg) (g : TG) (gg : CV → Sl → M Sl) (vs : List Nat) : Prop := ∀ (ρ : Wd) (h : Mem) (H : Hp) (τ : Sl) (σ : L2.St) (x : CV) (v : V) (τ1 : Sl) (h1 : Mem) (Q : L2.St → Hp → Prop), MemR G ρ h H → SlR G ρ H τ σ → ValR G ρ H x v → gg x τ h = .ok τ1 h1 →
  (∀ σ2, h1 = h → SlR G ρ H τ1 σ2 → L2.wipe σ2 vs = L2.wipe σ vs → Q σ2 H) → g v σ H Q
def LcGs (G : Cfg) (g : TGs) (gg : List CV → Sl → M Sl) (vs : List Nat) : Prop := ∀ (ρ : Wd) (h : Mem) (H : Hp) (τ : Sl) (σ : L2.St) (x : List CV) (v : List V) (τ1 : Sl) (h1 : Mem) (Q : L2.St → Hp → Prop), MemR G ρ h H → SlR G ρ H τ σ → ValsR G ρ H x v → gg x τ h = .ok τ1 h1 →
  (∀ σ2, h1 = h → SlR G ρ H τ1 σ2 → L2.wipe σ2 vs = L2.wipe σ vs → Q σ2 H) → g v σ H Q
section
variable {G : Cfg} {vs : List Nat}
theorem lcg_set {i : Nat} (hi : i ∈ vs) (hfr : G.fr i = true := by rfl) : LcG G (gName i) (gSet i) vs := by
  intro ρ h H τ σ x v τ1 h1 Q m s r e hq
  rw [gSet_eq] at e
  cases e
  exact hq _ rfl (s.set i r hfr) (wipe_set hi)
theorem lcg_nil : LcGs G gNil gNilT vs := by
  intro ρ h H τ σ x v τ1 h1 Q m s r e hq
  cases x with
  | nil =>
    cases e
    exact ⟨r, hq σ rfl s rfl⟩
  | cons _ _ => cases e
theorem lcg_cons {g : TG} {gr : TGs} {gg : CV → Sl → M Sl} {ggr : List CV → Sl → M Sl} (h1 : LcG G g gg vs) (h2 : LcGs G gr ggr vs) : LcGs G (gCons g gr) (gConsT gg ggr) vs := by
  intro ρ h H τ σ x v τ1 h3 Q m s r e hq
  cases x with
  | nil => cases e
  | cons x xs =>
    obtain ⟨y, t, ev, r1, r2⟩ := r
    simp only [gConsT, bnd] at e
    cases q : gg x τ h with
    | ok τ2 h4 =>
      rw [q] at e
      refine ⟨y, t, ev, h1 ρ h H τ σ x y τ2 h4 _ m s r1 q fun σ2 eh s2 w2 => ?_⟩
      subst eh
      exact h2 ρ h4 H τ2 σ2 xs t τ1 h3 Q m s2 r2 e fun σ3 eh3 s3 w3 => hq σ3 eh3 s3 (w3.trans w2)
    | exc _ _ => rw [q] at e; cases e
    | bad => rw [q] at e; cases e
theorem lcg_unp {g : TGs} {gg : List CV → Sl → M Sl} {n : Nat} (h : LcGs G g gg vs) : LcG G (gTup G.K n g) (gUnp n gg) vs := by
  intro ρ h0 H τ σ x v τ1 h1 Q m s r e hq
  cases x with
  | tup xs =>
    obtain ⟨a, ys, ev, z, r⟩ := r
    simp only [gUnp] at e
    by_cases hl : xs.length = n
    · rw [if_pos hl] at e
      exact ⟨a, ys, ev, z, by rw [← r.len, hl], h ρ h0 H τ σ xs ys τ1 h1 Q m s r e hq⟩
    · rw [if_neg hl] at e; cases e
  | _ => cases e
end
mutual
/-- another world: it has no more, and its numbers go on -/
theorem ValR.tr {G : Cfg} {ρ ρ' : Wd} {H : Hp} (h1 : ∀ a, ρ'.has a → ρ.has a) (h2 : ∀ (l : Nat) (a : Addr), ρ.r[l]? = some a → ρ'.r[l]? = some a) : ∀ {x : CV} {v : V}, ValR G ρ H x v → ValR G ρ' H x v
  | .non, _, r => r
  | .bl _, _, r => r
  | .int _, _, r => r
  | .str _, _, r => r
  | .cls _, _, r => r
  | .fn _, _, r => r
  | .ty _, _, r => r
  | .ref l, _, ⟨a, e, q⟩ => ⟨a, h2 l a e, q⟩
  | .tup xs, _, ⟨x, ys, e, s, r⟩ => ⟨x, ys, e, s, ValsR.tr h1 h2 r⟩
  | .lst xs, _, ⟨x, ys, e, n, s, r⟩ => ⟨x, ys, e, fun z => n (h1 x z), s, ValsR.tr h1 h2 r⟩
  | .frz xs, _, ⟨x, ys, e, s, r⟩ => ⟨x, ys, e, s.elim (fun ⟨n, s⟩ => .inl ⟨fun z => n (h1 x z), s⟩) .inr, ValsR.tr h1 h2 r⟩
  | .ins k xs, _, ⟨x, dx, fs, us, e, n, s, f, r⟩ => ⟨x, dx, fs, us, e, fun z => n (h1 x z), s, f, ValsR.tr h1 h2 r⟩
  | .dic n ks vs, _, ⟨x, ob, e, nh, p1, p2⟩ => ⟨x, ob, e, fun z => nh (h1 x z), fun z => let ⟨es, us, ws, q1, q2, q3, q4, q5, q6⟩ := p1 z; ⟨es, us, ws, q1, q2, q3, q4, ValsR.tr h1 h2 q5, ValsR.tr h1 h2 q6⟩,
      fun z => let ⟨es, ws, q1, q2, q3, q4⟩ := p2 z; ⟨es, ws, q1, q2, q3, ValsR.tr h1 h2 q4⟩⟩
theorem ValsR.tr {G : Cfg} {ρ ρ' : Wd} {H : Hp} (h1 : ∀ a, ρ'.has a → ρ.has a) (h2 : ∀ (l : Nat) (a : Addr), ρ.r[l]? = some a → ρ'.r[l]? = some a) : ∀ {xs : List CV} {vs : List V}, ValsR G ρ H xs vs → ValsR G ρ' H xs vs
  | [], _, r => r
  | x :: xs, _, ⟨y, r, e, q, s⟩ => ⟨y, r, e, ValR.tr h1 h2 q, ValsR.tr h1 h2 s⟩
end
theorem ObjR.tr {G : Cfg} {ρ ρ' : Wd} {H : Hp} {co : CO} {a : Addr} (h1 : ∀ a, ρ'.has a → ρ.has a) (h2 : ∀ (l : Nat) (a : Addr), ρ.r[l]? = some a → ρ'.r[l]? = some a) (r : ObjR G ρ H co a) : ObjR G ρ' H co a := by
  cases co with
  | lst xs => obtain ⟨ys, w, z⟩ := r; exact ⟨ys, w, z.tr h1 h2⟩
  | dic lk n ks vs =>
    obtain ⟨u, q1, q2, d⟩ := r
    exact ⟨u, q1, q2, fun z => let ⟨es, w1, w2, w3, w4⟩ := d.1 z; ⟨es, w1, w2, w3.tr h1 h2, w4.tr h1 h2⟩, fun z => let ⟨es, w1, w2, w3⟩ := d.2 z; ⟨es, w1, w2, w3.tr h1 h2⟩⟩
  | ins k xs => obtain ⟨dx, fs, us, w, f, z⟩ := r; exact ⟨dx, fs, us, w, f, z.tr h1 h2⟩
  | none_ => exact r.elim
theorem ExcR.tr {G : Cfg} {ρ ρ' : Wd} {H : Hp} {x : Exn} {c : Value} {d : Option Addr} (h1 : ∀ a, ρ'.has a → ρ.has a) (h2 : ∀ (l : Nat) (a : Addr), ρ.r[l]? = some a → ρ'.r[l]? = some a) (r : ExcR G ρ H x c d) : ExcR G ρ' H x c d :=
  ⟨r.1, r.2.elim .inl fun ⟨da, fs, e1, e2, e3, e4⟩ => .inr ⟨da, fs, e1, e2, e3, e4.tr h1 h2⟩⟩
theorem MemR.lamT {G : Cfg} {ρ ρ' : Wd} {h : Mem} {H : Hp} (m : MemR G ρ h H) (h1 : ∀ a, ρ'.has a → ρ.has a) (h2 : ∀ (l : Nat) (a : Addr), ρ.r[l]? = some a → ρ'.r[l]? = some a) : ∀ L, G.lam = some L → SlV G ρ' H L.τ L.σ ∧ H L.c = some (LamX.CodeO L.c L.q) := fun L he =>
  ⟨⟨(m.lam L he).1.1, fun i v q => let ⟨u, a, b⟩ := (m.lam L he).1.2 i v q; ⟨u, a, b.tr h1 h2⟩⟩, (m.lam L he).2⟩
theorem unh1 {D : Addr} {d r : List Addr} : ∀ a, (⟨d, r⟩ : Wd).has a → (⟨D :: d, r⟩ : Wd).has a := fun _ z => z.elim .inl fun z => .inr (List.mem_cons_of_mem _ z)
theorem unh2 {D : Addr} {d r : List Addr} : ∀ a, (⟨d, r ++ [D]⟩ : Wd).has a → (⟨D :: d, r⟩ : Wd).has a := fun _ z => by
  rcases z with z | z
  · rcases List.mem_append.mp z with z | z
    · exact .inl z
    · exact .inr (List.mem_singleton.mp z ▸ List.mem_cons_self)
  · exact .inr (List.mem_cons_of_mem _ z)
theorem unh3 {D : Addr} {r : List Addr} : ∀ (l : Nat) (a : Addr), r[l]? = some a → (r ++ [D])[l]? = some a := fun l a e => by
  rw [List.getElem?_append_left (List.getElem?_eq_some_iff.mp e).1]; exact e
theorem ValR.unhid {G : Cfg} {D : Addr} {d r : List Addr} {H : Hp} {x : CV} {v : V} (q : ValR G ⟨D :: d, r⟩ H x v) : ValR G ⟨d, r⟩ H x v := q.tr unh1 fun _ _ e => e
theorem ValsR.unhid {G : Cfg} {D : Addr} {d r : List Addr} {H : Hp} {xs : List CV} {vs : List V} (q : ValsR G ⟨D :: d, r⟩ H xs vs) : ValsR G ⟨d, r⟩ H xs vs := q.tr unh1 fun _ _ e => e
theorem ValsR.unhidN {G : Cfg} {D : Addr} {d r : List Addr} {H : Hp} {xs : List CV} {vs : List V} (q : ValsR G ⟨D :: d, r⟩ H xs vs) : ValsR G ⟨d, r ++ [D]⟩ H xs vs := q.tr unh2 unh3
theorem MemR.unhid {G : Cfg} {D : Addr} {d r : List Addr} {h : Mem} {H : Hp} (m : MemR G ⟨D :: d, r⟩ h H) : MemR G ⟨d, r⟩ h H :=
  ⟨m.len, m.nd, fun i a co e1 e2 => (m.obj i a co e1 e2).tr unh1 fun _ _ e => e, fun a ha => m.hid a (List.mem_cons_of_mem _ ha), m.tab, fun e he => (m.exc e he).tr unh1 fun _ _ e => e, m.lamT unh1 fun _ _ e => e⟩
/-- a hidden object comes into the memory -/
theorem MemR.unhidO {G : Cfg} {D : Addr} {d r : List Addr} {h : Mem} {H : Hp} {co : CO} (m : MemR G ⟨D :: d, r⟩ h H) (v : ObjR G ⟨D :: d, r⟩ H co D) (hn : D ∉ d) : MemR G ⟨d, r ++ [D]⟩ (h ++ [co]) H where
  len := by simp [show r.length = h.length from m.len]
  nd := by
    refine List.nodup_append.mpr ⟨m.nd, by simp, fun a ha b hb => ?_⟩
    rw [List.mem_singleton.mp hb]
    intro z
    exact (m.hid D List.mem_cons_self).2 (z ▸ ha)
  obj := fun i a co e1 e2 => by
    have hl : r.length = h.length := m.len
    by_cases hi : i < r.length
    · rw [List.getElem?_append_left hi] at e1
      rw [List.getElem?_append_left (by omega)] at e2
      exact (m.obj i a co e1 e2).tr unh2 unh3
    · rw [List.getElem?_append_right (by omega)] at e1
      rw [List.getElem?_append_right (by omega)] at e2
      have h0 : i - r.length = 0 := by
        cases q : i - r.length with
        | zero => rfl
        | succ n => rw [q] at e1; simp at e1
      rw [h0] at e1
      rw [← hl, h0] at e2
      simp only [List.getElem?_cons_zero, Option.some.injEq] at e1 e2
      subst e1 e2
      exact v.tr unh2 unh3
  hid := fun a ha => by
    obtain ⟨q, n⟩ := m.hid a (List.mem_cons_of_mem _ ha)
    refine ⟨q, fun z => ?_⟩
    rcases List.mem_append.mp z with z | z
    · exact n z
    · exact hn (List.mem_singleton.mp z ▸ ha)
  tab := m.tab
  exc := fun e he => (m.exc e he).tr unh2 unh3
  lam := m.lamT unh2 unh3
theorem MemR.unhidN {G : Cfg} {D : Addr} {d r : List Addr} {h : Mem} {H : Hp} {ys : List CV} {us : List V} (m : MemR G ⟨D :: d, r⟩ h H) (v : ValsR G ⟨D :: d, r⟩ H ys us) (e : H D = some (.lst us)) (hn : D ∉ d) : MemR G ⟨d, r ++ [D]⟩ (h ++ [.lst ys]) H := m.unhidO ⟨us, e, v⟩ hn
/-- a new object is hidden -/
theorem MemR.hideO {G : Cfg} {ρ : Wd} {h : Mem} {H : Hp} {D : Addr} {o : HO} (m : MemR G ρ h H) (hD : H D = none) (mo : MutO G D o) : MemR G ⟨D :: ρ.d, ρ.r⟩ h (upd H D o) where
  len := m.len
  nd := m.nd
  obj := fun i a co e1 e2 => by
    have q := m.obj i a co e1 e2
    have ex : ExtH ρ H ⟨D :: ρ.d, ρ.r⟩ (upd H D o) := ⟨fun a ha => by
      rcases List.mem_cons.mp ha with z | z
      · exact .inr (z ▸ hD)
      · exact .inl z, fun _ _ e => e, fun a u e _ _ => by rw [upd_ne (ne_of_none e hD)]; exact e, fun _ e => .inl e⟩
    obtain ⟨u, w, _⟩ := q.there
    have nD : a ≠ D := ne_of_none w hD
    cases co with
    | lst xs =>
      obtain ⟨zs, w, z⟩ := q
      exact ⟨zs, by rw [upd_ne nD]; exact w, z.extH m ex⟩
    | dic lk n ks vs =>
      obtain ⟨u, q1, q2, d⟩ := q
      exact ⟨u, fun z => (q1 z).imp fun _ w => by rw [upd_ne nD]; exact w, fun z => by rw [upd_ne nD]; exact q2 z, fun z => let ⟨es, w1, w2, w3, w4⟩ := d.1 z; ⟨es, w1, w2, w3.extH m ex, w4.extH m ex⟩, fun z => let ⟨es, w1, w2, w3⟩ := d.2 z; ⟨es, w1, w2, w3.extH m ex⟩⟩
    | ins k xs => obtain ⟨dx, fs, us, w, f, z⟩ := q; exact ⟨dx, fs, us, by rw [upd_ne nD]; exact w, f, z.extH m ex⟩
    | none_ => exact q.elim
  hid := fun a ha => by
    rcases List.mem_cons.mp ha with z | z
    · subst z
      exact ⟨⟨o, upd_same, mo⟩, fun z => m.free hD (.inl z)⟩
    · obtain ⟨⟨zs, q, q2⟩, n⟩ := m.hid a z
      exact ⟨⟨zs, by rw [upd_ne (ne_of_none q hD)]; exact q, q2⟩, n⟩
  tab := tabs_laid m.tab hD
  exc := fun e he => by
    have ex : ExtH ρ H ⟨D :: ρ.d, ρ.r⟩ (upd H D o) := ⟨fun a ha => by
      rcases List.mem_cons.mp ha with z | z
      · exact .inr (z ▸ hD)
      · exact .inl z, fun _ _ e => e, fun a u e _ _ => by rw [upd_ne (ne_of_none e hD)]; exact e, fun _ e => .inl e⟩
    obtain ⟨r1, r2⟩ := m.exc e he
    exact ⟨r1, r2.elim .inl fun ⟨da, fs, e1, e2, e3, e4⟩ => .inr ⟨da, fs, e1, ex.keep da _ e2 (nr (m.notin e2 notMut_xd)) (fun _ z => nomatch z), e3, e4.extH m ex⟩⟩
  lam := fun L he => by
    have ex : ExtH ρ H ⟨D :: ρ.d, ρ.r⟩ (upd H D o) := ⟨fun a ha => by
      rcases List.mem_cons.mp ha with z | z
      · exact .inr (z ▸ hD)
      · exact .inl z, fun _ _ e => e, fun a u e _ _ => by rw [upd_ne (ne_of_none e hD)]; exact e, fun _ e => .inl e⟩
    exact ⟨⟨(m.lam L he).1.1, fun i v q => let ⟨u, a, b⟩ := (m.lam L he).1.2 i v q; ⟨u, a, b.extH m ex⟩⟩, by rw [upd_ne (ne_of_none (m.lam L he).2 hD)]; exact (m.lam L he).2⟩
theorem MemR.hide {G : Cfg} {ρ : Wd} {h : Mem} {H : Hp} {D : Addr} {ys : List V} (m : MemR G ρ h H) (hD : H D = none) : MemR G ⟨D :: ρ.d, ρ.r⟩ h (upd H D (.lst ys)) := m.hideO hD (.inl ⟨ys, rfl⟩)
/-- a hidden object is written -/
theorem MemR.hidwrO {G : Cfg} {ρ : Wd} {h : Mem} {H : Hp} {D : Addr} {o : HO} (m : MemR G ρ h H) (hD : D ∈ ρ.d) (mo : MutO G D o) : MemR G ρ h (upd H D o) where
  len := m.len
  nd := m.nd
  obj := fun i a co e1 e2 => objR_wr (.inr hD) (m.hid D hD).1 (fun z => (m.hid D hD).2 (z ▸ List.mem_of_getElem? e1)) (m.obj i a co e1 e2)
  hid := fun a ha => by
    obtain ⟨⟨zs, q, q2⟩, n⟩ := m.hid a ha
    refine ⟨?_, n⟩
    by_cases e : a = D
    · rw [e]; exact ⟨o, upd_same, mo⟩
    · exact ⟨zs, by rw [upd_ne e]; exact q, q2⟩
  tab := tabs_wr m.tab (m.hid D hD).1
  exc := fun e he => (m.exc e he).wr (.inr hD) (m.hid D hD).1
  lam := m.lamW (.inr hD) (m.hid D hD).1
theorem MemR.hidwr {G : Cfg} {ρ : Wd} {h : Mem} {H : Hp} {D : Addr} {ys : List V} (m : MemR G ρ h H) (hD : D ∈ ρ.d) : MemR G ρ h (upd H D (.lst ys)) := m.hidwrO hD (.inl ⟨ys, rfl⟩)
abbrev W0 : WX := fun _ _ _ _ => False
theorem lc_core' {G : Cfg} {W' : Wd → Mem → List CV → Hp → Prop} {g : TG} {gg : CV → Sl → M Sl} {tt : Sl → M Bool} {te : Sl → M CV} {vs : List Nat} {τ : Sl} {σ : L2.St} {ρ1 : Wd} {H1 : Hp} {h1 : Mem} {J : It} {xs : List CV} {D : Addr} {Q : VK}
    (m1 : MemR G ρ1 h1 H1) (s1 : SlR G ρ1 H1 τ σ) (r1 : ItR G ρ1 H1 J xs) (hD : H1 D = none) (hg : LcG G g gg vs) (hfv : vs.all G.fr = true) (hl : xs.length ≤ 1000000) {ys : List CV} {hf : Mem} (e : lcR gg tt te (wipeC τ vs) xs h1 = .ok ys hf)
    (fin : ∀ r H us, MemR G ⟨D :: ρ1.d, r⟩ hf H → Ext ρ1 H1 ⟨ρ1.d, r⟩ H → H D = some (.lst us) → ValsR G ⟨D :: ρ1.d, r⟩ H ys us → Q (.ref D) H) :
    ∃ W : Nat → Nat → Hp → Prop, (∃ m, W 0 m (upd H1 D (.lst []))) ∧ ∀ i m H, W i m H →
      (J.stop i H ∧ Q (.ref D) H) ∨ (J.go i H ∧ ∃ Nx : Hp → Prop, (∀ H', Nx H' → ∃ m', m' < m ∧ W (i + 1) m' H') ∧ ∀ x H', J.yld i H x H' → g x (L2.wipe σ vs) H' fun σ2 H2 => L2.wipe σ2 vs = L2.wipe σ vs ∧ tBo G W0 tt σ2 H2 fun b H3 =>
        if b = true then tV G W0 te σ2 H3 fun y H4 => ∃ acc, H4 D = some (.lst acc) ∧ acc.length < sizeLine ∧ Nx (upd H4 D (.lst (acc ++ [y]))) else Nx H3) := by
  refine ⟨fun i n H => i + n = xs.length ∧ ∃ r h done acc rest, MemR G ⟨D :: ρ1.d, r⟩ h H ∧ Ext ρ1 H1 ⟨ρ1.d, r⟩ H ∧ H D = some (.lst acc) ∧ ValsR G ⟨D :: ρ1.d, r⟩ H done acc ∧ done.length ≤ i ∧ lcR gg tt te (wipeC τ vs) (xs.drop i) h = .ok rest hf ∧ ys = done ++ rest, ⟨xs.length, Nat.zero_add _, ρ1.r, h1, [], [], ys, m1.hide hD, Ext.laid hD, upd_same, rfl, Nat.le_refl _, e, rfl⟩, ?_⟩
  rintro i n H ⟨hin, r, h, done, acc, rest, m, ex, hacc, rd, hdl, el, ey⟩
  have exH : ExtH ρ1 H1 ⟨D :: ρ1.d, r⟩ H := ⟨fun a ha => by
    rcases List.mem_cons.mp ha with z | z
    · exact .inr (z ▸ hD)
    · exact .inl z, ex.pre, ex.keep, ex.new⟩
  obtain ⟨go, stop, yld⟩ := r1 _ h H m exH
  have hDd : D ∈ (⟨D :: ρ1.d, r⟩ : Wd).d := List.mem_cons_self
  have hDr : D ∉ r := (m.hid D hDd).2
  cases n with
  | zero =>
    have ei : i = xs.length := by omega
    subst ei
    rw [List.drop_length] at el
    cases el
    rw [List.append_nil] at ey
    subst ey
    exact .inl ⟨stop, fin r H acc m ex hacc rd⟩
  | succ n =>
    have hlt : i < xs.length := by omega
    rw [List.drop_eq_getElem_cons hlt] at el
    simp only [lcR] at el
    -- what is kept on the way to the end of the turn
    have fin' : ∀ (ρ4 : Wd) (h4 : Mem) (H4 : Hp), MemR G ρ4 h4 H4 → Ext ⟨D :: ρ1.d, r⟩ H ρ4 H4 → ρ4.d = D :: ρ1.d ∧ H4 D = some (.lst acc) ∧ Ext ρ1 H1 ⟨ρ1.d, ρ4.r⟩ H4 := fun ρ4 h4 H4 m4 e4 => by
      refine ⟨e4.hid, e4.keep D _ hacc hDr (fun _ z => by cases z), rfl, fun i a q => e4.pre i a (ex.pre i a q), fun a o q n t => ?_, fun a ps q => ?_, fun a q => ?_⟩
      · refine e4.keep a o (ex.keep a o q n t) (fun z => ?_) t
        rcases ex.new a z with z | z
        · exact n z
        · rw [q] at z; cases z
      · obtain ⟨p1, q1⟩ := ex.tbl a ps q
        exact e4.tbl a p1 q1
      · rcases e4.new a q with z | z
        · exact ex.new a z
        · by_cases hx : a ∈ ρ1.r
          · exact .inl hx
          · cases q1 : H1 a with
            | none => exact .inr rfl
            | some o => exact absurd z (ex.there q1 hx)
    refine .inr ⟨go i hlt, fun H' => i + 1 + n = xs.length ∧ ∃ r h done acc rest, MemR G ⟨D :: ρ1.d, r⟩ h H' ∧ Ext ρ1 H1 ⟨ρ1.d, r⟩ H' ∧ H' D = some (.lst acc) ∧ ValsR G ⟨D :: ρ1.d, r⟩ H' done acc ∧ done.length ≤ i + 1 ∧ lcR gg tt te (wipeC τ vs) (xs.drop (i + 1)) h = .ok rest hf ∧ ys = done ++ rest, fun H' q => ⟨n, Nat.lt_succ_self n, q⟩, fun u H' y => ?_⟩
    obtain ⟨m', e', r'⟩ := yld i xs[i] u H' (by simp [hlt]) y
    have s' : SlR G ⟨D :: ρ1.d, r⟩ H' (wipeC τ vs) (L2.wipe σ vs) := by
      have q : SlR G ⟨D :: ρ1.d, r⟩ H τ σ := ⟨s1.1, fun i v q => let ⟨u, a, b⟩ := s1.2.1 i v q; ⟨u, a, b.extH m1 exH⟩, s1.2.2⟩
      exact (q.ext m e').wipe vs hfv
    cases q : gg xs[i] (wipeC τ vs) h with
    | ok τ1 h2 =>
      rw [q] at el
      refine hg _ h H' _ _ _ u τ1 h2 _ m' s' r' q fun σ2 eh s2 w2 => ?_
      subst eh
      refine ⟨w2.trans wipe_wipe, ⟨_, h2, τ1, m', s2, ?_⟩⟩
      simp only at el
      cases q2 : tt τ1 h2 with
      | ok b h3 =>
        rw [q2] at el
        intro ρ3 H3 b' m3 e3 eb
        subst eb
        have s3 := s2.ext m' e3
        cases b with
        | true =>
          rw [if_pos rfl]
          simp only at el
          refine ⟨ρ3, h3, τ1, m3, s3, ?_⟩
          cases q3 : te τ1 h3 with
          | ok z h4 =>
            rw [q3] at el
            simp only at el
            intro ρ4 H4 w m4 e4 r4
            obtain ⟨f1, f2, f3⟩ := fin' ρ4 h4 H4 m4 (e'.trans (e3.trans e4))
            obtain ⟨d4, r4'⟩ := ρ4
            cases f1
            have hacl : acc.length ≤ i := by rw [← rd.len]; exact hdl
            refine ⟨acc, f2, by rw [sizeLine_eq]; omega, by omega, r4', h4, done ++ [z], acc ++ [w], ?_⟩
            cases q4 : lcR gg tt te (wipeC τ vs) (xs.drop (i + 1)) h4 with
            | ok zs h5 =>
              rw [q4] at el
              cases el
              refine ⟨zs, m4.hidwr List.mem_cons_self, ?_, upd_same, ?_, by simp; omega, rfl, by rw [ey, List.append_assoc]; rfl⟩
              · refine ⟨rfl, f3.pre, fun a o z n t => ?_, fun a ps z => ?_, f3.new⟩
                · rw [upd_ne (ne_of_none z hD)]
                  exact f3.keep a o z n t
                · rw [upd_ne (ne_of_none z hD)]
                  exact f3.tbl a ps z
              · exact ((rd.ext m (e'.trans (e3.trans e4))).app (show ValsR G _ H4 [z] [w] from ⟨w, [], rfl, r4, rfl⟩)).wr (.inr List.mem_cons_self) ⟨_, f2, .inl ⟨_, rfl⟩⟩
            | exc _ _ => rw [q4] at el; cases el
            | bad => rw [q4] at el; cases el
          | exc _ _ => rw [q3] at el; cases el
          | bad => rw [q3] at el; cases el
        | false =>
          rw [if_neg Bool.false_ne_true]
          simp only at el
          obtain ⟨f1, f2, f3⟩ := fin' ρ3 h3 H3 m3 (e'.trans e3)
          obtain ⟨d3, r3⟩ := ρ3
          cases f1
          exact ⟨by omega, r3, h3, done, acc, rest, m3, f3, f2, rd.ext m (e'.trans e3), by omega, el, ey⟩
      | exc _ _ => rw [q2] at el; cases el
      | bad => rw [q2] at el; cases el
    | exc _ _ => rw [q] at el; cases el
    | bad => rw [q] at el; cases el
/-- frozen -/
def eLc (it : Sl → M (List CV)) (g : CV → Sl → M Sl) (tt : Sl → M Bool) (te : Sl → M CV) (vs : List Nat) : Sl → M CV := fun τ => bnd (it τ) fun xs h =>
  if xs.length ≤ 1000000 then match lcL g tt te (wipeC τ vs) xs h with
    | .ok ys h' => .ok (.lst ys) h'
    | _ => .bad
  else .bad
/-- written later -/
def eLcN (it : Sl → M (List CV)) (g : CV → Sl → M Sl) (tt : Sl → M Bool) (te : Sl → M CV) (vs : List Nat) : Sl → M CV := fun τ => bnd (it τ) fun xs h =>
  if xs.length ≤ 1000000 then match lcL g tt te (wipeC τ vs) xs h with
    | .ok ys h' => frN h'.length fun n => sapp h' [.lst ys] fun h'' => .ok (.ref n) h''
    | _ => .bad
  else .bad
theorem lc_red {G : Cfg} {W : WX} {it : Sl → M (List CV)} {g : TG} {gg : CV → Sl → M Sl} {tt : Sl → M Bool} {te : Sl → M CV} {vs : List Nat} (hg : LcG G g gg vs) (hfv : vs.all G.fr = true) {σ : L2.St} {H : Hp} {Q : VK} (q : tV G W (eLc it gg tt te vs) σ H Q) : tLc (tIt G W it) g (tBo G W0 tt) (tV G W0 te) vs σ H Q := by
  obtain ⟨ρ, h, τ, m, s, p⟩ := q
  refine tM_bind m s p fun xs h1 ρ1 H1 J m1 e1 s1 r1 p1 D hD => ?_
  by_cases hl : xs.length ≤ 1000000
  · rw [if_pos hl] at p1
    rw [lcL_eq] at p1
    cases e : lcR gg tt te (wipeC τ vs) xs h1 with
    | ok ys hf =>
      rw [e] at p1
      refine lc_core' (W' := fun _ _ _ _ => True) m1 s1 r1 hD hg hfv hl e fun r H2 us m2 e2 hus rus => ?_
      refine p1 ⟨ρ1.d, r⟩ H2 _ m2.unhid e2 ⟨D, us, rfl, fun z => ?_, hus, rus.unhid⟩
      rcases z with z | z
      · exact (m2.hid D List.mem_cons_self).2 z
      · obtain ⟨⟨_, w, _⟩, _⟩ := m1.hid D z
        rw [hD] at w; cases w
    | exc _ _ => rw [e] at p1; exact p1.elim
    | bad => rw [e] at p1; exact p1.elim
  · rw [if_neg hl] at p1; exact p1.elim
theorem lc_redN {G : Cfg} {W : WX} {it : Sl → M (List CV)} {g : TG} {gg : CV → Sl → M Sl} {tt : Sl → M Bool} {te : Sl → M CV} {vs : List Nat} (hg : LcG G g gg vs) (hfv : vs.all G.fr = true) {σ : L2.St} {H : Hp} {Q : VK} (q : tV G W (eLcN it gg tt te vs) σ H Q) : tLc (tIt G W it) g (tBo G W0 tt) (tV G W0 te) vs σ H Q := by
  obtain ⟨ρ, h, τ, m, s, p⟩ := q
  refine tM_bind m s p fun xs h1 ρ1 H1 J m1 e1 s1 r1 p1 D hD => ?_
  by_cases hl : xs.length ≤ 1000000
  · rw [if_pos hl] at p1
    rw [lcL_eq] at p1
    cases e : lcR gg tt te (wipeC τ vs) xs h1 with
    | ok ys hf =>
      rw [e] at p1
      simp only [frN_eq, sapp_eq] at p1
      refine lc_core' (W' := fun _ _ _ _ => True) m1 s1 r1 hD hg hfv hl e fun r H2 us m2 e2 hus rus => ?_
      have nD : D ∉ r := (m2.hid D List.mem_cons_self).2
      have ndd : D ∉ ρ1.d := fun z => by
        obtain ⟨⟨_, w, _⟩, _⟩ := m1.hid D z
        rw [hD] at w; cases w
      refine p1 ⟨ρ1.d, r ++ [D]⟩ H2 _ (m2.unhidN rus hus ndd) ?_ ⟨D, ?_, rfl⟩
      · refine ⟨rfl, fun i a z => ?_, e2.keep, e2.tbl, fun a z => ?_⟩
        · have z2 := e2.pre i a z
          have hi : i < r.length := (List.getElem?_eq_some_iff.mp z2).1
          show (r ++ [D])[i]? = some a
          rw [List.getElem?_append_left hi]; exact z2
        · rcases List.mem_append.mp z with z | z
          · exact e2.new a z
          · rw [List.mem_singleton.mp z]; exact .inr hD
      · show (r ++ [D])[hf.length]? = some D
        rw [← m2.len]; simp
    | exc _ _ => rw [e] at p1; exact p1.elim
    | bad => rw [e] at p1; exact p1.elim
  · rw [if_neg hl] at p1; exact p1.elim

theorem _root_.L2.PTs.wk {X : Cx} {e : List Expr} {t t' : TT} (h : PTs X e t) (w : ∀ σ H Q, t' σ H Q → t σ H Q) : PTs X e t' := ⟨fun pins s σ H Q I q => h.run pins s σ H Q I (w σ H Q q)⟩
def bYes : Sl → M Bool := fun _ => ret true
section
variable {G : Cfg} {W : WX} {X : Cx} {pos : Pos}
theorem sts_nil : PTs X [] (tBo G W bYes) := pts_nil.wk fun σ H Q ⟨ρ, h, τ, m, s, p⟩ => p ρ H true m Ext.refl rfl
theorem sts_one {c : Expr} {t : Sl → M Bool} (h : ST G W X c t) : PTs X [c] (tBo G W t) := pts_one h
abbrev Blk (X : Cx) (scope : Scope) (f : Cx → Prop) : Prop := ∀ (s : Shared) (H : Hp) (C : Addr) (cl : List (Str × Addr)) (fp : List Addr), f (X.blk s H scope (compEnvC scope cl C X.env) fp)
theorem se_lc {elt tg iter : Expr} {ifs : List Expr} {scope : Scope} {own : List (Str × Nat)} {it : Sl → M (List CV)} {g : TG} {gg : CV → Sl → M Sl} {tt : Sl → M Bool} {te : Sl → M CV} (hc : X.calm = true) (hN : X.N.Nodup) (hi : SI G W X tg iter it) (ok : BlkOk X.N X.env.scope scope own)
    (hgg : LcG G g gg (own.map (·.2))) (hg : Blk X scope fun Y => PG Y tg g) (ht : Blk X scope fun Y => PTs Y ifs (tBo G W0 tt)) (he : Blk X scope fun Y => SE G W0 Y elt te) (hs : ∀ x, foldedSetIterable iter X.env x = pure x := by intro _; rfl) (hfv : (own.map (·.2)).all G.fr = true := by rfl) :
    SE G W X (.ListComp elt [⟨tg, iter, ifs, 0⟩] scope pos) (eLc it gg tt te (own.map (·.2))) := (pe_lc hc hN hi ok hg ht he hs).wk fun σ H Q q => lc_red hgg hfv q
theorem se_lcN {elt tg iter : Expr} {ifs : List Expr} {scope : Scope} {own : List (Str × Nat)} {it : Sl → M (List CV)} {g : TG} {gg : CV → Sl → M Sl} {tt : Sl → M Bool} {te : Sl → M CV} (hc : X.calm = true) (hN : X.N.Nodup) (hi : SI G W X tg iter it) (ok : BlkOk X.N X.env.scope scope own)
    (hgg : LcG G g gg (own.map (·.2))) (hg : Blk X scope fun Y => PG Y tg g) (ht : Blk X scope fun Y => PTs Y ifs (tBo G W0 tt)) (he : Blk X scope fun Y => SE G W0 Y elt te) (hs : ∀ x, foldedSetIterable iter X.env x = pure x := by intro _; rfl) (hfv : (own.map (·.2)).all G.fr = true := by rfl) :
    SE G W X (.ListComp elt [⟨tg, iter, ifs, 0⟩] scope pos) (eLcN it gg tt te (own.map (·.2))) := (pe_lc hc hN hi ok hg ht he hs).wk fun σ H Q q => lc_redN hgg hfv q
/-- name = [..] -/
theorem asg_red {te : TE} {me : Sl → M CV} {i : Nat} (w : ∀ σ H Q, tV G W me σ H Q → te σ H Q) (hfr : G.fr i = true) {D : Ends} {σ : L2.St} {H : Hp} (q : tS G W (mAsg (gSet i) me) D σ H) : tAsg te (gName i) D σ H := by
  obtain ⟨ρ, h, τ, m, s, p⟩ := q
  exact w σ H _ (tM_inS m s p fun x h1 ρ1 H1 u m1 e1 s1 r1 p1 => by
    rw [gSet_eq] at p1
    exact p1 ρ1 H1 _ m1 Ext.refl (s1.set i r1 hfr))
theorem ss_setLc {i : Nat} {y : Str} {py spos : Pos} {elt tg iter : Expr} {ifs : List Expr} {scope : Scope} {own : List (Str × Nat)} {it : Sl → M (List CV)} {g : TG} {gg : CV → Sl → M Sl} {tt : Sl → M Bool} {te : Sl → M CV} (hc : X.calm = true) (hN : X.N.Nodup) (hy : X.N[i]? = some y) (hyl : X.env.scope.names.lookup y = some .local)
    (hsw : swapsWith (.ListComp elt [⟨tg, iter, ifs, 0⟩] scope pos) (some (.Name y py)) spos.line X.env = pure true) (hi : SI G W X tg iter it) (ok : BlkOk X.N X.env.scope scope own)
    (hgg : LcG G g gg (own.map (·.2))) (hg : Blk X scope fun Y => PG Y tg g) (ht : Blk X scope fun Y => PTs Y ifs (tBo G W0 tt)) (he : Blk X scope fun Y => SE G W0 Y elt te) (hs : ∀ x, foldedSetIterable iter X.env x = pure x := by intro _; rfl) (hfv : (own.map (·.2)).all G.fr = true := by rfl) (hfr : G.fr i = true := by rfl) :
    SS G W X (.Assign [.Name y py] (.ListComp elt [⟨tg, iter, ifs, 0⟩] scope pos) spos) (mAsg (gSet i) (eLc it gg tt te (own.map (·.2)))) := (ps_setLc hc hN hy hyl hsw hi ok hg ht he hs).wk fun D σ H q => asg_red (fun σ H Q q => lc_red hgg hfv q) hfr q
theorem ss_setLcN {i : Nat} {y : Str} {py spos : Pos} {elt tg iter : Expr} {ifs : List Expr} {scope : Scope} {own : List (Str × Nat)} {it : Sl → M (List CV)} {g : TG} {gg : CV → Sl → M Sl} {tt : Sl → M Bool} {te : Sl → M CV} (hc : X.calm = true) (hN : X.N.Nodup) (hy : X.N[i]? = some y) (hyl : X.env.scope.names.lookup y = some .local)
    (hsw : swapsWith (.ListComp elt [⟨tg, iter, ifs, 0⟩] scope pos) (some (.Name y py)) spos.line X.env = pure true) (hi : SI G W X tg iter it) (ok : BlkOk X.N X.env.scope scope own)
    (hgg : LcG G g gg (own.map (·.2))) (hg : Blk X scope fun Y => PG Y tg g) (ht : Blk X scope fun Y => PTs Y ifs (tBo G W0 tt)) (he : Blk X scope fun Y => SE G W0 Y elt te) (hs : ∀ x, foldedSetIterable iter X.env x = pure x := by intro _; rfl) (hfv : (own.map (·.2)).all G.fr = true := by rfl) (hfr : G.fr i = true := by rfl) :
    SS G W X (.Assign [.Name y py] (.ListComp elt [⟨tg, iter, ifs, 0⟩] scope pos) spos) (mAsg (gSet i) (eLcN it gg tt te (own.map (·.2)))) := (ps_setLc hc hN hy hyl hsw hi ok hg ht he hs).wk fun D σ H q => asg_red (fun σ H Q q => lc_redN hgg hfv q) hfr q
end
end VE

noncomputable section
namespace VE
open PySem PySem.Spec PyProof.Rows L2

mutual
def noRef : CV → Bool
  | .ref _ => false
  | .tup xs => noRefs xs
  | .lst xs => noRefs xs
  | .frz xs => noRefs xs
  | .ins _ xs => noRefs xs
  | .dic _ ks vs => noRefs ks && noRefs vs
  | _ => true
def noRefs : List CV → Bool
  | [] => true
  | x :: xs => noRef x && noRefs xs
end
mutual
/-- no list within -/
def scal : CV → Bool
  | .ref _ => false
  | .lst _ => false
  | .frz _ => false
  | .ins _ _ => false
  | .dic _ _ _ => false
  | .tup xs => scals xs
  | _ => true
def scals : List CV → Bool
  | [] => true
  | x :: xs => scal x && scals xs
end
def mapO (f : CV → Option CV) : List CV → Option (List CV)
  | [] => some []
  | x :: xs => match f x, mapO f xs with
    | some y, some ys => some (y :: ys)
    | _, _ => none
/-- the memory's lists as lists that nobody writes -/
def frzV : Nat → Mem → CV → Option CV
  | 0, _, _ => none
  | n + 1, h, x => match x with
    | .ref l => match sget h l with
      | some (.lst xs) => match mapO (frzV n h) xs with
        | some ys => some (.lst ys)
        | none => none
      | some (.dic true b ks vs) => if noRefs ks then match mapO (frzV n h) vs with
        | some ys => some (.dic b ks ys)
        | none => none
        else none
      | some (.ins k xs) => match mapO (frzV n h) xs with
        | some ys => some (.ins k ys)
        | none => none
      | _ => none
    | .tup xs => match mapO (frzV n h) xs with
      | some ys => some (.tup ys)
      | none => none
    | .lst xs => match mapO (frzV n h) xs with
      | some ys => some (.lst ys)
      | none => none
    | .frz xs => match mapO (frzV n h) xs with
      | some ys => some (.frz ys)
      | none => none
    | .ins k xs => match mapO (frzV n h) xs with
      | some ys => some (.ins k ys)
      | none => none
    | .dic b ks vs => if noRefs ks then match mapO (frzV n h) vs with
      | some ys => some (.dic b ks ys)
      | none => none
      else none
    | x => some x
theorem mapO_r {G : Cfg} {ρ ρ' : Wd} {H : Hp} {f : CV → Option CV} (hf : ∀ x y u, f x = some y → ValR G ρ H x u → ValR G ρ' H y u) : ∀ {xs ys : List CV} {us : List V}, mapO f xs = some ys → ValsR G ρ H xs us → ValsR G ρ' H ys us
  | [], _, _, e, r => by cases e; exact r
  | x :: xs, ys, us, e, ⟨u, t, eu, r1, r2⟩ => by
    unfold mapO at e
    cases q : f x with
    | none => simp [q] at e
    | some y =>
      cases q2 : mapO f xs with
      | none => simp [q, q2] at e
      | some zs =>
        simp only [q, q2, Option.some.injEq] at e
        subst e
        exact ⟨u, t, eu, hf x y u q r1, mapO_r hf q2 r2⟩
mutual
/-- a value without the memory does not know the world, but for what may be in it -/
theorem noRef_r {G : Cfg} {ρ ρ' : Wd} {H : Hp} (h3 : ∀ a, ρ'.has a → ρ.has a) : ∀ {x : CV} {u : V}, noRef x = true → ValR G ρ H x u → ValR G ρ' H x u
  | .non, _, _, r => r
  | .bl _, _, _, r => r
  | .int _, _, _, r => r
  | .str _, _, _, r => r
  | .cls _, _, _, r => r
  | .fn _, _, _, r => r
  | .ty _, _, _, r => r
  | .ref l, _, e, _ => by simp [noRef] at e
  | .tup xs, _, e, ⟨a, us, eu, s, rr⟩ => ⟨a, us, eu, s, noRefs_r h3 (by simpa [noRef] using e) rr⟩
  | .lst xs, _, e, ⟨a, us, eu, n, s, rr⟩ => ⟨a, us, eu, fun z => n (h3 a z), s, noRefs_r h3 (by simpa [noRef] using e) rr⟩
  | .frz xs, _, e, ⟨a, us, eu, s, rr⟩ => ⟨a, us, eu, s.elim (fun ⟨nn, s⟩ => .inl ⟨fun z => nn (h3 a z), s⟩) .inr, noRefs_r h3 (by simpa [noRef] using e) rr⟩
  | .ins k xs, _, e, ⟨a, dx, fs, us, eu, n, s, f, rr⟩ => ⟨a, dx, fs, us, eu, fun z => n (h3 a z), s, f, noRefs_r h3 (by simpa [noRef] using e) rr⟩
  | .dic n ks vs, _, e, ⟨x, ob, eu, nh, p1, p2⟩ => by
    have e : noRefs ks = true ∧ noRefs vs = true := by simpa [noRef] using e
    exact ⟨x, ob, eu, fun z => nh (h3 x z), fun z => let ⟨es, us, ws, q1, q2, q3, q4, q5, q6⟩ := p1 z; ⟨es, us, ws, q1, q2, q3, q4, noRefs_r h3 e.1 q5, noRefs_r h3 e.2 q6⟩,
      fun z => let ⟨es, ws, q1, q2, q3, q4⟩ := p2 z; ⟨es, ws, q1, q2, q3, noRefs_r h3 e.2 q4⟩⟩
theorem noRefs_r {G : Cfg} {ρ ρ' : Wd} {H : Hp} (h3 : ∀ a, ρ'.has a → ρ.has a) : ∀ {xs : List CV} {us : List V}, noRefs xs = true → ValsR G ρ H xs us → ValsR G ρ' H xs us
  | [], _, _, r => r
  | x :: xs, _, e, ⟨u, t, eu, r1, r2⟩ => by
    simp only [noRefs, Bool.and_eq_true] at e
    exact ⟨u, t, eu, noRef_r h3 e.1 r1, noRefs_r h3 e.2 r2⟩
end
/-- with all that is written hidden from the new world -/
theorem frzV_r {G : Cfg} {ρ : Wd} {h : Mem} {H : Hp} (m : MemR G ρ h H) (ρ' : Wd) (h2 : ∀ a ∈ ρ.r, ¬ ρ'.has a) (h3 : ∀ a, ρ'.has a → ρ.has a) : ∀ (n : Nat) (x y : CV) (u : V), frzV n h x = some y → ValR G ρ H x u → ValR G ρ' H y u
  | 0, x, y, u, e, _ => by cases e
  | n + 1, x, y, u, e, r => by
    have ih := frzV_r m ρ' h2 h3 n
    unfold frzV at e
    cases x with
    | ref l =>
      obtain ⟨a, q, eu⟩ := r
      have na := h2 a (List.mem_of_getElem? q)
      simp only at e
      cases hc : sget h l with
      | none => simp [hc] at e
      | some co =>
        have hc' := hc
        rw [sget_eq] at hc'
        have ob := m.obj l a _ q hc'
        rw [hc] at e
        cases co with
        | lst xs =>
          simp only at e
          obtain ⟨us, w, rr⟩ := ob
          cases q2 : mapO (frzV n h) xs with
          | none => simp [q2] at e
          | some ys =>
            simp only [q2, Option.some.injEq] at e
            subst e
            exact ⟨a, us, eu, na, w, mapO_r ih q2 rr⟩
        | dic lk b ks vs =>
          cases lk with
          | false => simp at e
          | true =>
            simp only at e
            obtain ⟨w, q1, _, d⟩ := ob
            obtain ⟨od, q1⟩ := q1 rfl
            by_cases hn : noRefs ks = true
            · rw [if_pos hn] at e
              cases q2 : mapO (frzV n h) vs with
              | none => simp [q2] at e
              | some ys =>
                simp only [q2, Option.some.injEq] at e
                subst e
                exact valR_dic.mpr ⟨a, od, w, eu, na, q1, fun z => let ⟨es, w1, w2, w3, w4⟩ := d.1 z; ⟨es, w1, w2, noRefs_r h3 hn w3, mapO_r ih q2 w4⟩, fun z => let ⟨es, w1, w2, w3⟩ := d.2 z; ⟨es, w1, w2, mapO_r ih q2 w3⟩⟩
            · rw [if_neg hn] at e; cases e
        | ins k xs =>
          simp only at e
          obtain ⟨dx, fs, us, w, f, rr⟩ := ob
          cases q2 : mapO (frzV n h) xs with
          | none => simp [q2] at e
          | some ys =>
            simp only [q2, Option.some.injEq] at e
            subst e
            exact ⟨a, dx, fs, us, eu, na, w, f, mapO_r ih q2 rr⟩
        | none_ => simp at e
    | tup xs =>
      obtain ⟨a, us, eu, s, rr⟩ := r
      simp only at e
      cases q2 : mapO (frzV n h) xs with
      | none => simp [q2] at e
      | some ys =>
        simp only [q2, Option.some.injEq] at e
        subst e
        exact ⟨a, us, eu, s, mapO_r ih q2 rr⟩
    | lst xs =>
      obtain ⟨a, us, eu, nn, s, rr⟩ := r
      simp only at e
      cases q2 : mapO (frzV n h) xs with
      | none => simp [q2] at e
      | some ys =>
        simp only [q2, Option.some.injEq] at e
        subst e
        exact ⟨a, us, eu, fun z => nn (h3 a z), s, mapO_r ih q2 rr⟩
    | frz xs =>
      obtain ⟨a, us, eu, s, rr⟩ := r
      simp only at e
      cases q2 : mapO (frzV n h) xs with
      | none => simp [q2] at e
      | some ys =>
        simp only [q2, Option.some.injEq] at e
        subst e
        exact ⟨a, us, eu, s.elim (fun ⟨nn, s⟩ => .inl ⟨fun z => nn (h3 a z), s⟩) .inr, mapO_r ih q2 rr⟩
    | ins k xs =>
      obtain ⟨a, dx, fs, us, eu, nn, s, f, rr⟩ := r
      simp only at e
      cases q2 : mapO (frzV n h) xs with
      | none => simp [q2] at e
      | some ys =>
        simp only [q2, Option.some.injEq] at e
        subst e
        exact ⟨a, dx, fs, us, eu, fun z => nn (h3 a z), s, f, mapO_r ih q2 rr⟩
    | dic b ks vs =>
      obtain ⟨a, od, w, eu, nn, q1, d⟩ := valR_dic.mp r
      simp only at e
      by_cases hn : noRefs ks = true
      · rw [if_pos hn] at e
        cases q2 : mapO (frzV n h) vs with
        | none => simp [q2] at e
        | some ys =>
          simp only [q2, Option.some.injEq] at e
          subst e
          exact valR_dic.mpr ⟨a, od, w, eu, fun z => nn (h3 a z), q1, fun z => let ⟨es, w1, w2, w3, w4⟩ := d.1 z; ⟨es, w1, w2, noRefs_r h3 hn w3, mapO_r ih q2 w4⟩, fun z => let ⟨es, w1, w2, w3⟩ := d.2 z; ⟨es, w1, w2, mapO_r ih q2 w3⟩⟩
      · rw [if_neg hn] at e; cases e
    | non => cases e; exact r
    | bl b => cases e; exact r
    | int i => cases e; exact r
    | str z => cases e; exact r
    | cls k => cases e; exact r
    | fn k => cases e; exact r
    | ty k => cases e; exact r
mutual
theorem scal_r {G : Cfg} {ρ ρ' : Wd} {H : Hp} : ∀ {x : CV} {u : V}, scal x = true → ValR G ρ H x u → ValR G ρ' H x u
  | .non, _, _, r => r
  | .bl _, _, _, r => r
  | .int _, _, _, r => r
  | .str _, _, _, r => r
  | .cls _, _, _, r => r
  | .fn _, _, _, r => r
  | .ty _, _, _, r => r
  | .ref l, _, e, _ => by simp [scal] at e
  | .tup xs, _, e, ⟨a, us, eu, s, rr⟩ => ⟨a, us, eu, s, scals_r (by simpa [scal] using e) rr⟩
  | .lst xs, _, e, _ => by simp [scal] at e
  | .frz xs, _, e, _ => by simp [scal] at e
  | .ins _ _, _, e, _ => by simp [scal] at e
  | .dic _ _ _, _, e, _ => by simp [scal] at e
theorem scals_r {G : Cfg} {ρ ρ' : Wd} {H : Hp} : ∀ {xs : List CV} {us : List V}, scals xs = true → ValsR G ρ H xs us → ValsR G ρ' H xs us
  | [], _, _, r => r
  | x :: xs, _, e, ⟨u, t, eu, r1, r2⟩ => by
    simp only [scals, Bool.and_eq_true] at e
    exact ⟨u, t, eu, scal_r e.1 r1, scals_r e.2 r2⟩
end
inductive LockL (K : Hp → Prop) : Hp → Prop
  | done {H : Hp} : K H → LockL K H
  | lock {H : Hp} {d : Addr} {u : HO} : H d = some u → Mut (some u) → (∀ od, LockL K (upd H d (.frz od u))) → LockL K H
def tLk (t : TE) : TE := fun σ H Q => t σ H fun v H1 => LockL (Q v) H1
theorem pe_lk {X : Cx} {e : Expr} {t : TE} (he : PE X e t) : PE X e (tLk t) := by
  refine ⟨fun pins s σ H Q I h => thn (he.run pins s σ H _ I h) fun u s1 ⟨v, H1, I1, r, l⟩ => ?_⟩
  have go : ∀ {H1 : Hp}, LockL (Q v) H1 → Inv X pins σ H1 s1 → ∃ H2, Inv X pins σ H2 s1 ∧ Q v H2 := by
    intro H1 l
    induction l with
    | done k => exact fun I => ⟨_, I, k⟩
    | lock e mu _ ih =>
      intro I
      obtain ⟨od, I2⟩ := I.lock e mu
      exact ih od I2
  obtain ⟨H2, I2, q⟩ := go l I1
  exact ⟨v, H2, I2, r, q⟩
def lockO : CO → CO
  | .dic _ n ks vs => .dic true n ks vs
  | co => co
def lockM (h : Mem) : Mem := List.rec [] (fun co _ ih => lockO co :: ih) h
theorem lockM_eq : ∀ h : Mem, lockM h = h.map lockO
  | [] => rfl
  | co :: h => by
    show lockO co :: lockM h = _
    rw [lockM_eq h]; rfl
theorem MemR.locked {G : Cfg} {ρ : Wd} {K : Hp → Prop} : ∀ (n i : Nat) {h : Mem} {H : Hp}, i + n = h.length → MemR G ρ h H → (∀ H', MemR G ρ (h.take i ++ (h.drop i).map lockO) H' → Ext ρ H ρ H' → K H') → LockL K H
  | 0, i, h, H, e, m, k => by
    refine .done (k H ?_ Ext.refl)
    rw [List.take_of_length_le (by omega), List.drop_of_length_le (by omega), List.map_nil, List.append_nil]
    exact m
  | n + 1, i, h, H, e, m, k => by
    have hi : i < h.length := by omega
    have ed : h.drop i = h[i] :: h.drop (i + 1) := List.drop_eq_getElem_cons hi
    have et : h.take (i + 1) = h.take i ++ [h[i]] := List.take_succ_eq_append_getElem hi
    have skip : lockO h[i] = h[i] → LockL K H := fun sk => MemR.locked n (i + 1) (by omega) m fun H' m' e' => k H' (by
      rw [ed, List.map_cons, sk]
      rw [et, List.append_assoc] at m'
      exact m') e'
    cases hc : h[i] with
    | lst xs => exact skip (by rw [hc]; rfl)
    | ins c xs => exact skip (by rw [hc]; rfl)
    | none_ => exact skip (by rw [hc]; rfl)
    | dic lk b ks vs =>
      cases lk with
      | true => exact skip (by rw [hc]; rfl)
      | false =>
        have hlr : i < ρ.r.length := by rw [m.len]; exact hi
        have ha : ρ.r[i]? = some ρ.r[i] := by simp [hlr]
        obtain ⟨u, _, q2, d⟩ := m.obj i _ _ ha (by rw [List.getElem?_eq_getElem hi, hc])
        have q2 := q2 rfl
        have mu : Mut (some u) := by
          cases b with
          | true => obtain ⟨es, rfl, _⟩ := d.1 rfl; exact True.intro
          | false => obtain ⟨es, rfl, _⟩ := d.2 rfl; exact True.intro
        refine .lock q2 mu fun od => ?_
        have hp : ρ.r[i] ∈ ρ.r := List.mem_of_getElem? ha
        have m2 : MemR G ρ (h.set i (.dic true b ks vs)) (upd H ρ.r[i] (.frz od u)) := m.writeO ha ⟨u, fun _ => ⟨od, upd_same⟩, fun z => (Bool.noConfusion z), dicR_wr (.inl hp) (m.at_ (.inl hp)) d⟩
        refine MemR.locked n (i + 1) (by rw [List.length_set]; omega) m2 fun H' m' e' => k H' ?_ ((Ext.writeAt m ha).trans e')
        rw [ed, hc, List.map_cons]
        rw [List.take_succ_eq_append_getElem (by rw [List.length_set]; exact hi), List.take_set_of_le (Nat.le_refl i), List.drop_set_of_lt (by omega), List.append_assoc, List.getElem_set_self] at m'
        exact m'
theorem MemR.lock {G : Cfg} {ρ : Wd} {h : Mem} {H : Hp} {K : Hp → Prop} (m : MemR G ρ h H) (k : ∀ H', MemR G ρ (lockM h) H' → Ext ρ H ρ H' → K H') : LockL K H :=
  MemR.locked h.length 0 (Nat.zero_add _) m fun H' m' e' => k H' (by rw [lockM_eq]; exact m') e'
/-- f(e, ..) by plain values: f has a memory of its own -/
def callF (np : Nat) (F : List CV → M CV) (xs : List CV) : M CV := fun h =>
  if xs.length = np then
    if noRefs xs then match F xs [] with
      | .ok v h' => match frzV 9 (lockM h') v with
        | some v' => .ok v' h
        | none => .bad
      | .exc x h' => match mapO (frzV 9 h') x.args with
        | some ys => .exc ⟨x.cls, ys⟩ h
        | none => .bad
      | .bad => .bad
    else match mapO (frzV 9 h) xs with
      | some ys => match F ys [] with
        | .ok v _ => if scal v then .ok v h else .bad
        | .exc x _ => if scals x.args then .exc x h else .bad
        | .bad => .bad
      | none => .bad
  else .bad
theorem MemR.back {G : Cfg} {ρ ρ' : Wd} {h h' : Mem} {H H' : Hp} {d : List Addr} (m : MemR G ρ h H) (e : Ext ⟨d, []⟩ H ρ' H') (m' : MemR G ρ' h' H') (hx : G.exi = none) (hy : G.lam = none) : MemR G ρ h H' ∧ Ext ρ H ρ H' := by
  have ex : Ext ρ H ρ H' := ⟨rfl, fun _ _ q => q, fun a o q _ t => e.keep a o q (by simp) t, e.tbl, fun a q => .inl q⟩
  refine ⟨⟨m.len, m.nd, fun i a co e1 e2 => ?_, fun a ha => ?_, m'.tab, fun e he => by (rw [hx] at he; cases he), fun e he => by rw [hy] at he; cases he⟩, ex⟩
  · have q := m.obj i a co e1 e2
    obtain ⟨ys, w, mw⟩ := q.there
    exact objR_ext m ex ((e.keep a _ w (by simp) (fun ps z => notMut_tbl (G := G) (a := a) (ps := ps) (z ▸ mw))).trans w.symm) q
  · obtain ⟨⟨ys, w, w2⟩, n⟩ := m.hid a ha
    exact ⟨⟨ys, e.keep a _ w (by simp) (fun ps z => notMut_tbl (G := G) (a := a) (ps := ps) (z ▸ w2)), w2⟩, n⟩
theorem ExcR.of {G : Cfg} {ρ ρ' : Wd} {H : Hp} {k : Nat} {xs ys : List CV} {c : Value} {d : Option Addr} (h : ∀ us, ValsR G ρ H xs us → ValsR G ρ' H ys us) (hn : xs = [] → ys = []) (r : ExcR G ρ H ⟨k, xs⟩ c d) : ExcR G ρ' H ⟨k, ys⟩ c d := by
  obtain ⟨ec, r⟩ := r
  refine ⟨ec, ?_⟩
  rcases r with r | ⟨da, fs, e1, e2, e3, e4⟩
  · exact .inl (hn r)
  · exact .inr ⟨da, fs, e1, e2, e3, h _ e4⟩
theorem callF_ok {G : Cfg} (hx : G.exi = none) (hy : G.lam = none) {np : Nat} {F : List CV → M CV} {W : WX} {σ : L2.St} {ρ : Wd} {h : Mem} {H : Hp} {xs : List CV} {us : List V} {Q : VK} {E : XK} (m : MemR G ρ h H) (r : ValsR G ρ H xs us) (p : Post G W (ValR G) σ ρ H (callF np F xs h) Q) (hE : ∀ c d H', W c d σ H' → E c d H') : spH G np F us H (fun v H1 => LockL (Q v) H1) E := by
  unfold callF at p
  by_cases hl : xs.length = np
  · rw [if_pos hl] at p
    refine ⟨r.len.symm.trans hl, ?_⟩
    by_cases hr : noRefs xs = true
    · rw [if_pos hr] at p
      have hh : ∀ a, (⟨ρ.r ++ ρ.d, []⟩ : Wd).has a ↔ ρ.has a := fun a => by
        unfold Wd.has
        simp
      have m0 : MemR G ⟨ρ.r ++ ρ.d, []⟩ [] H := ⟨rfl, List.nodup_nil, fun i a co e1 => by simp at e1, fun a ha => ⟨m.at_ (List.mem_append.mp ha), by simp⟩, m.tab, fun e he => by (rw [hx] at he; cases he), fun e he => by rw [hy] at he; cases he⟩
      refine ⟨_, [], xs, m0, noRefs_r (fun a z => (hh a).mp z) hr r, ?_⟩
      cases e : F xs [] with
      | ok v h' =>
        rw [e] at p
        simp only at p
        cases q : frzV 9 (lockM h') v with
        | none => rw [q] at p; exact p.elim
        | some v' =>
          rw [q] at p
          intro ρ' H' u m' e' ru
          refine m'.lock fun H'' m'' e'' => ?_
          have ru := ru.ext m' e''
          have e' := e'.trans e''
          obtain ⟨mb, eb⟩ := m.back e' m'' hx hy
          have hd := e'.hid
          refine p ρ H'' u mb eb (frzV_r m'' ρ (fun a h1 h2 => ?_) (fun a h1 => ?_) 9 v v' u q ru)
          · exact (m''.hid a (by rw [hd]; exact List.mem_append.mpr h2)).2 h1
          · exact .inr (by rw [hd]; exact List.mem_append.mpr h1)
      | exc x h' =>
        rw [e] at p
        simp only at p
        cases q : mapO (frzV 9 h') x.args with
        | none => rw [q] at p; exact p.elim
        | some ys =>
          rw [q] at p
          intro ρ' H' c d m' e' rx
          obtain ⟨mb, eb⟩ := m.back e' m' hx hy
          have hd := e'.hid
          refine hE _ _ _ (p ρ H' c d mb eb (ExcR.of (xs := x.args) (fun us ru => mapO_r (frzV_r m' ρ (fun a h1 h2 => ?_) (fun a h1 => ?_) 9) q ru) (fun z => by rw [z] at q; cases q; rfl) rx))
          · exact (m'.hid a (by rw [hd]; exact List.mem_append.mpr h2)).2 h1
          · exact .inr (by rw [hd]; exact List.mem_append.mpr h1)
      | bad => rw [e] at p; exact p.elim
    · rw [if_neg hr] at p
      cases q : mapO (frzV 9 h) xs with
      | none => rw [q] at p; exact p.elim
      | some ys =>
        rw [q] at p
        simp only at p
        have m0 : MemR G ⟨[], []⟩ [] H := ⟨rfl, List.nodup_nil, fun i a co e1 => by simp at e1, fun a ha => by simp at ha, m.tab, fun e he => by (rw [hx] at he; cases he), fun e he => by rw [hy] at he; cases he⟩
        have nh : ∀ a, ¬ (⟨[], []⟩ : Wd).has a := fun a z => by
          rcases z with z | z <;> simp at z
        refine ⟨_, [], ys, m0, mapO_r (frzV_r m ⟨[], []⟩ (fun a _ => nh a) (fun a z => absurd z (nh a)) 9) q r, ?_⟩
        cases e : F ys [] with
        | ok v h' =>
          rw [e] at p
          simp only at p
          by_cases hs : scal v = true
          · rw [if_pos hs] at p
            intro ρ' H' u m' e' ru
            obtain ⟨mb, eb⟩ := m.back e' m' hx hy
            exact .done (p ρ H' u mb eb (scal_r hs ru))
          · rw [if_neg hs] at p; exact p.elim
        | exc x h' =>
          rw [e] at p
          simp only at p
          by_cases hs : scals x.args = true
          · rw [if_pos hs] at p
            intro ρ' H' c d m' e' rx
            obtain ⟨mb, eb⟩ := m.back e' m' hx hy
            exact hE _ _ _ (p ρ H' c d mb eb (ExcR.of (xs := x.args) (fun us ru => scals_r hs ru) id rx))
          · rw [if_neg hs] at p; exact p.elim
        | bad => rw [e] at p; exact p.elim
  · rw [if_neg hl] at p; exact p.elim
section
variable {G : Cfg} {W : WX} {X : Cx} {k : Nat} {f : Addr} {fd : FuncData} {ps : List Str} {x : Str} {p pos : Pos} {e : Expr} {es : List Expr} {ml : Sl → M (List CV)} {F : List CV → M CV} {np : Nat}
theorem se_callF (B : Bx G W X) (hx : G.exi = none) (hy : G.lam = none) (ok : FnOk X.prog X.w X.K X.mg X.base (L2.CX X.prog X.w) k f fd ps (spH G np F)) (hr : Room k X.A) (hg : Gl X x) (hm : X.mg x = some (.ref f)) (hk : PySem.W.keepIn X.K (.ref f) = true) (hb : Binds X.K fd ps [])
    (ha : SA G W X (e :: es) ml) (hdb : (x == ("__debug__" : Str)) = false := by decide) (he : starEach (e :: es) X.env = (false, eval e X.env) :: starEach es X.env := by rfl) (hpl : (backTo pos (starEach es X.env)).any (·.1) = false := by rfl) :
    SE G W X (.Call (.Name x p) (e :: es) [] pos) (eB (callF np F) ml) :=
  (pe_lk (pe_callS ok hr hg hm hk hb (fun σ => passAt B.tk σ) ha hdb he hpl)).wk fun σ H Q ⟨ρ, h, τ, m, s, p⟩ => tM_bind m s p fun xs h1 ρ1 H1 us m1 e1 s1 r1 p1 => callF_ok hx hy m1 r1 p1 fun _ _ _ z => z
end
end VE

noncomputable section
namespace VE
open PySem PySem.Spec PyProof.Rows L2

section
variable {G : Cfg} {W : WX} {X : Cx} {pos : Pos} {x : Str}
theorem se_glo {u : Value} {v : V} {c : CV} (hg : Gl X x) (hm : X.mg x = some u) (rv : RelV v u) (r : ∀ ρ H, ValR G ρ H c v) (hd : (x == ("__debug__" : Str)) = false := by decide) : SE G W X (.Name x pos) (eC c) :=
  se_const (pe_glob hg hm rv hd) r
theorem se_gint {i : Int} {t : Tok} (hg : Gl X x) (hm : X.mg x = some (.int i t)) (hd : (x == ("__debug__" : Str)) = false := by decide) : SE G W X (.Name x pos) (eC (.int i)) := se_glo (v := .int i) hg hm ⟨t, rfl⟩ (fun _ _ => rfl) hd
theorem se_gstr {z : Str} {t : Tok} (hg : Gl X x) (hm : X.mg x = some (.str z t)) (hd : (x == ("__debug__" : Str)) = false := by decide) : SE G W X (.Name x pos) (eC (.str z)) := se_glo (v := .str z) hg hm ⟨t, rfl⟩ (fun _ _ => rfl) hd
theorem se_ty {n : String} (hg : Gl X x) (hm : X.mg x = none) (hv : bootBuiltins x = some (.type n)) (hn : x ≠ "__name__" := by decide) (hd : (x == ("__debug__" : Str)) = false := by decide) : SE G W X (.Name x pos) (eC (.ty n)) :=
  se_const (pe_bltn (v := .ty n) hg hm hv rfl hn hd) fun _ _ => rfl
/-- a tuple of the text's own -/
theorem se_gtup {a : Addr} {xs : List CV} (hg : Gl X x) (hm : X.mg x = some (.ref a)) (hK : G.K = X.K) (r : ∀ ρ H, ValR G ρ H (.tup xs) (.ref a)) (hd : (x == ("__debug__" : Str)) = false := by decide) : SE G W X (.Name x pos) (eC (.tup xs)) := se_glo (v := .ref a) hg hm rfl r hd
end

inductive Knd where
  | non | bl | int | str | tup | lst | dic
def Knd.name : Knd → String
  | .non => "NoneType"
  | .bl => "bool"
  | .int => "int"
  | .str => "str"
  | .tup => "tuple"
  | .lst => "list"
  | .dic => "dict"
def kindOf (h : Mem) : CV → Option Knd
  | .non => some .non
  | .bl _ => some .bl
  | .int _ => some .int
  | .str _ => some .str
  | .tup _ => some .tup
  | .lst _ => some .lst
  | .frz _ => some .lst
  | .ref l => match sget h l with
    | some (.lst _) => some .lst
    | _ => none
  | .dic false _ _ => some .dic
  | _ => none
theorem kindOf_r {G : Cfg} {ρ : Wd} {h : Mem} {H : Hp} {x : CV} {u : V} {k : Knd} (m : MemR G ρ h H) (r : ValR G ρ H x u) (e : kindOf h x = some k) : TyX G.K H u (.type k.name) := by
  cases x with
  | non => cases e; rw [show u = .non from r]; exact .base .non
  | bl b => cases e; rw [show u = .bl b from r]; exact .base (.bl b)
  | int b => cases e; rw [show u = .int b from r]; exact .base (.int b)
  | str b => cases e; rw [show u = .str b from r]; exact .base (.str b)
  | tup xs =>
    cases e
    obtain ⟨a, us, eu, s, _⟩ := r
    rw [eu]
    rcases s with (s | ⟨o, s⟩) | ⟨o, its, n, s, c, _⟩
    · exact .base (.tup s)
    · exact .fTuple s
    · exact .kTuple s c
  | lst xs =>
    cases e
    obtain ⟨a, us, eu, _, s, _⟩ := r
    rw [eu]
    exact .base (.lst s)
  | frz xs =>
    cases e
    obtain ⟨a, us, eu, s, _⟩ := r
    rw [eu]
    rcases s.l with (s | ⟨o, s⟩) | ⟨o, its, n, s, c, _⟩
    · exact .base (.lst s)
    · exact .base (.frz s)
    · exact .kList s c
  | ref l =>
    obtain ⟨a, q, eu⟩ := r
    rw [eu]
    unfold kindOf at e
    simp only [sget_eq] at e
    cases hc : h[l]? with
    | none => rw [hc] at e; cases e
    | some co =>
      rw [hc] at e
      cases co with
      | lst xs =>
        cases e
        obtain ⟨ys, w, _⟩ := m.obj l a _ q hc
        exact .base (.lst w)
      | _ => cases e
  | dic n ks vs =>
    cases n with
    | true => cases e
    | false =>
      cases e
      obtain ⟨a, ob, w, eu, _, q, d⟩ := valR_dic.mp r
      obtain ⟨kvs, ew, _⟩ := d.2 rfl
      subst ew
      rw [eu]
      exact .fDict q
  | _ => cases e
def isK (f : Knd → Bool) (x : CV) : M CV := fun h => match kindOf h x with
  | some k => .ok (.bl (f k)) h
  | none => .bad
theorem se_isi {G : Cfg} {W : WX} {X : Cx} {pos p p2 : Pos} {a : Expr} {ma : Sl → M CV} {T : Str} {t : String} (f : Knd → Bool) (hf : ∀ k : Knd, kitB k.name t = some (f k)) (hK : G.K = X.K) (hg : Gl X "isinstance") (hm : X.mg "isinstance" = none) (hgT : Gl X T) (hmT : X.mg T = none) (hvT : bootBuiltins T = some (.type t))
    (ha : SE G W X a ma) (hn : T ≠ "__name__" := by decide) (hd : (T == ("__debug__" : Str)) = false := by decide)
    (he : starEach [a, .Name T p2] X.env = (false, eval a X.env) :: starEach [.Name T p2] X.env := by rfl) (he2 : starEach [.Name T p2] X.env = (false, eval (.Name T p2) X.env) :: starEach [] X.env := by rfl) (hpl : (backTo pos (starEach [.Name T p2] X.env)).any (·.1) = false := by rfl) :
    SE G W X (.Call (.Name "isinstance" p) [a, .Name T p2] [] pos) (eUn (isK f) ma) :=
  (pe_callB call_isi hg hm (by decide +kernel) (pa_cons ha (pa_cons (pe_bltn (v := .ty t) hgT hmT hvT rfl hn hd) pa_nil he2) he) (by decide) (by decide) he hpl).wk fun σ H Q ⟨ρ, h, τ, m, s, p⟩ => tM_bind m s p fun x h1 ρ1 H1 u m1 e1 s1 r1 p1 => by
    show rIsi X.K [u, .ty t] H1 Q
    unfold isK at p1
    cases q : kindOf h1 x with
    | none => rw [q] at p1; exact p1.elim
    | some k =>
      rw [q] at p1
      exact ⟨u, .ty t, .type k.name, .type t, f k, rfl, .ty t, hK ▸ kindOf_r m1 r1 q, kit_ty (hf k), p1 ρ1 H1 _ m1 Ext.refl rfl⟩
def isInt : Knd → Bool
  | .bl => true
  | .int => true
  | _ => false
def isBool : Knd → Bool
  | .bl => true
  | _ => false
def isStr : Knd → Bool
  | .str => true
  | _ => false
def isTupK : Knd → Bool
  | .tup => true
  | _ => false
def isLst : Knd → Bool
  | .lst => true
  | _ => false
def isDic : Knd → Bool
  | .dic => true
  | _ => false
theorem isInt_ok : ∀ k : Knd, kitB k.name "int" = some (isInt k) := by intro k; cases k <;> decide +kernel
theorem isBool_ok : ∀ k : Knd, kitB k.name "bool" = some (isBool k) := by intro k; cases k <;> decide +kernel
theorem isStr_ok : ∀ k : Knd, kitB k.name "str" = some (isStr k) := by intro k; cases k <;> decide +kernel
theorem isTup_ok : ∀ k : Knd, kitB k.name "tuple" = some (isTupK k) := by intro k; cases k <;> decide +kernel
theorem isLst_ok : ∀ k : Knd, kitB k.name "list" = some (isLst k) := by intro k; cases k <;> decide +kernel
theorem isDict_ok : ∀ k : Knd, kitB k.name "dict" = some (isDic k) := by intro k; cases k <;> decide +kernel

def boolsOf : List CV → Option (List Bool)
  | [] => some []
  | .bl b :: r => match boolsOf r with
    | some bs => some (b :: bs)
    | none => none
  | _ => none
theorem boolsOf_r {G : Cfg} {ρ : Wd} {H : Hp} : ∀ {xs : List CV} {us : List V} {bs : List Bool}, boolsOf xs = some bs → ValsR G ρ H xs us → us = bs.map V.bl
  | [], _, _, e, r => by cases e; exact r
  | x :: xs, us, bs, e, ⟨u, t, eu, r1, r2⟩ => by
    cases x with
    | bl b =>
      simp only [boolsOf] at e
      cases q : boolsOf xs with
      | none => rw [q] at e; cases e
      | some cs =>
        rw [q] at e
        cases e
        rw [eu, show u = .bl b from r1, boolsOf_r q r2]
        rfl
    | _ => simp [boolsOf] at e
def intsOf : List CV → Option (List Int)
  | [] => some []
  | .int b :: r => match intsOf r with
    | some bs => some (b :: bs)
    | none => none
  | _ => none
theorem intsOf_r {G : Cfg} {ρ : Wd} {H : Hp} : ∀ {xs : List CV} {us : List V} {bs : List Int}, intsOf xs = some bs → ValsR G ρ H xs us → us = bs.map V.int
  | [], _, _, e, r => by cases e; exact r
  | x :: xs, us, bs, e, ⟨u, t, eu, r1, r2⟩ => by
    cases x with
    | int b =>
      simp only [intsOf] at e
      cases q : intsOf xs with
      | none => rw [q] at e; cases e
      | some cs =>
        rw [q] at e
        cases e
        rw [eu, show u = .int b from r1, intsOf_r q r2]
        rfl
    | _ => simp [intsOf] at e
def one (g : CV → M CV) (xs : List CV) : M CV := match xs with
  | [x] => g x
  | _ => stuck
theorem one_ok {G : Cfg} {r : List V → Hp → VK → Prop} {g : CV → M CV} (h : ∀ (W : WX) (σ : L2.St) (ρ : Wd) (h : Mem) (H : Hp) (x : CV) (u : V) (Q : VK), MemR G ρ h H → ValR G ρ H x u → Post G W (ValR G) σ ρ H (g x h) Q → r [u] H Q) : OpL G r (one g) := by
  intro W σ ρ h0 H xs us Q m rx p
  cases xs with
  | nil => exact p.elim
  | cons x t =>
    cases t with
    | cons _ _ => exact p.elim
    | nil =>
      obtain ⟨u, t, eu, r1, r2⟩ := rx
      cases (show t = [] from r2)
      subst eu
      exact h W σ ρ h0 H x u Q m r1 p
/-- the items of a list, not of a tuple -/
def lisOf (x : CV) (h : Mem) : Option (List CV) := if isTup x then none else seqOf x h
theorem lisOf_r {G : Cfg} {ρ : Wd} {h : Mem} {H : Hp} {x : CV} {u : V} {xs : List CV} (m : MemR G ρ h H) (r : ValR G ρ H x u) (e : lisOf x h = some xs) : ∃ a ys, u = .ref a ∧ ValsR G ρ H xs ys ∧ SqL G.K H a ys := by
  unfold lisOf at e
  by_cases ht : isTup x = true
  · rw [if_pos ht] at e; cases e
  · rw [if_neg ht] at e
    obtain ⟨a, ys, eu, rr, sq⟩ := seqOf_r m r e
    rw [if_neg ht] at sq
    exact ⟨a, ys, eu, rr, sq⟩
def pyAll (x : CV) : M CV := fun h => match lisOf x h with
  | some xs => match boolsOf xs with
    | some bs => .ok (.bl (bs.all id)) h
    | none => .bad
  | none => .bad
theorem all_ok {G : Cfg} : OpL G (rAll G.K) (one pyAll) := one_ok fun W σ ρ h H x u Q m rx p => by
  unfold pyAll at p
  cases e : lisOf x h with
  | none => rw [e] at p; exact p.elim
  | some xs =>
    rw [e] at p
    simp only at p
    cases q : boolsOf xs with
    | none => rw [q] at p; exact p.elim
    | some bs =>
      rw [q] at p
      obtain ⟨a, ys, eu, rr, sq⟩ := lisOf_r m rx e
      exact ⟨a, bs, by rw [eu], by rw [← boolsOf_r q rr]; exact sq, p ρ H _ m Ext.refl rfl⟩
def pySum (x : CV) : M CV := fun h => match lisOf x h with
  | some xs => match intsOf xs with
    | some bs => .ok (.int bs.sum) h
    | none => .bad
  | none => .bad
theorem sum_ok {G : Cfg} : OpL G (rSum G.K) (one pySum) := one_ok fun W σ ρ h H x u Q m rx p => by
  unfold pySum at p
  cases e : lisOf x h with
  | none => rw [e] at p; exact p.elim
  | some xs =>
    rw [e] at p
    simp only at p
    cases q : intsOf xs with
    | none => rw [q] at p; exact p.elim
    | some bs =>
      rw [q] at p
      obtain ⟨a, ys, eu, rr, sq⟩ := lisOf_r m rx e
      exact ⟨a, bs, by rw [eu], by rw [← intsOf_r q rr]; exact sq, p ρ H _ m Ext.refl rfl⟩
def pyTuple (x : CV) : M CV := fun h => match seqOf x h with
  | some xs => .ok (.tup xs) h
  | none => .bad
theorem tuple_ok {G : Cfg} : OpL G (fun xs H Q => ∃ p ys, xs = [.ref p] ∧ ((SqL G.K H p ys ∧ ∀ l, H l = none → Q (.ref l) (upd H l (.tup ys))) ∨ (SqT G.K H p ys ∧ Q (.ref p) H))) (one pyTuple) := one_ok fun W σ ρ h H x u Q m rx p => by
  unfold pyTuple at p
  cases e : seqOf x h with
  | none => rw [e] at p; exact p.elim
  | some xs =>
    rw [e] at p
    obtain ⟨a, ys, eu, rr, sq⟩ := seqOf_r m rx e
    refine ⟨a, ys, by rw [eu], ?_⟩
    split at sq
    · exact .inr ⟨sq, p ρ H _ m Ext.refl ⟨a, ys, rfl, sq, rr⟩⟩
    · exact .inl ⟨sq, fun l hl => p.newTup m rr hl⟩
/-- list(x), never written -/
def pyList (x : CV) : M CV := fun h => match seqOf x h with
  | some xs => .ok (.lst xs) h
  | none => .bad
/-- list(x), written later -/
def pyListN (x : CV) : M CV := fun h => match seqOf x h with
  | some xs => frN h.length fun n => sapp h [.lst xs] fun h => .ok (.ref n) h
  | none => .bad
theorem list_ok {G : Cfg} : OpL G (fun xs H Q => ∃ p ys, xs = [.ref p] ∧ (SqL G.K H p ys ∨ SqT G.K H p ys) ∧ ∀ l, H l = none → Q (.ref l) (upd H l (.lst ys))) (one pyList) := one_ok fun W σ ρ h H x u Q m rx p => by
  unfold pyList at p
  cases e : seqOf x h with
  | none => rw [e] at p; exact p.elim
  | some xs =>
    rw [e] at p
    obtain ⟨a, ys, eu, rr, sq⟩ := seqOf_r m rx e
    refine ⟨a, ys, by rw [eu], ?_, fun l hl => p.newLst m rr hl⟩
    split at sq
    · exact .inr sq
    · exact .inl sq
theorem listN_ok {G : Cfg} : OpL G (fun xs H Q => ∃ p ys, xs = [.ref p] ∧ (SqL G.K H p ys ∨ SqT G.K H p ys) ∧ ∀ l, H l = none → Q (.ref l) (upd H l (.lst ys))) (one pyListN) := one_ok fun W σ ρ h H x u Q m rx p => by
  unfold pyListN at p
  cases e : seqOf x h with
  | none => rw [e] at p; exact p.elim
  | some xs =>
    rw [e] at p
    simp only [frN_eq, sapp_eq] at p
    obtain ⟨a, ys, eu, rr, sq⟩ := seqOf_r m rx e
    refine ⟨a, ys, by rw [eu], ?_, fun l hl => p _ _ _ (m.push hl rr) (Ext.push hl) ⟨l, ?_, rfl⟩⟩
    · split at sq
      · exact .inr sq
      · exact .inl sq
    · show (ρ.r ++ [l])[h.length]? = some l
      rw [← m.len]; simp

/-- o.m(e, ..), m of a built-in type -/
def eMt (ty : CV → Mem → Bool) (g : CV → List CV → M CV) (o : Sl → M CV) (ml : Sl → M (List CV)) : Sl → M CV := fun τ => bnd (o τ) fun x h => if ty x h then bnd (ml τ) (fun xs => g x xs) h else .bad
def Mt (G : Cfg) (r : V → List V → Hp → VK → Prop) (g : CV → List CV → M CV) : Prop :=
  ∀ (W : WX) (σ : L2.St) (ρ : Wd) (h : Mem) (H : Hp) (x : CV) (u : V) (xs : List CV) (us : List V) (Q : VK), MemR G ρ h H → ValR G ρ H x u → ValsR G ρ H xs us → Post G W (ValR G) σ ρ H (g x xs h) Q → r u us H Q
def isRef : CV → Bool
  | .ref _ => true
  | _ => false
def isStrV (x : CV) (_ : Mem) : Bool := match x with
  | .str _ => true
  | _ => false
def isLis (x : CV) (h : Mem) : Bool := match x with
  | .ref l => match sget h l with
    | some (.lst _) => true
    | _ => false
  | .lst _ => true
  | .frz _ => true
  | _ => false
theorem isLis_ty {G : Cfg} {ρ : Wd} {h : Mem} {H : Hp} {x : CV} {u : V} (m : MemR G ρ h H) (r : ValR G ρ H x u) (e : isLis x h = true) : tyV G.K "list" u H := by
  cases x with
  | ref l =>
    obtain ⟨a, q, eu⟩ := r
    rw [eu]
    unfold isLis at e
    simp only [sget_eq] at e
    cases hc : h[l]? with
    | none => rw [hc] at e; cases e
    | some co =>
      rw [hc] at e
      cases co with
      | lst xs =>
        obtain ⟨ys, w, _⟩ := m.obj l a _ q hc
        exact .inl ⟨rfl, ys, SqL.of w⟩
      | _ => cases e
  | lst xs =>
    obtain ⟨a, ys, eu, _, s, _⟩ := r
    rw [eu]
    exact .inl ⟨rfl, ys, SqL.of s⟩
  | frz xs =>
    obtain ⟨a, ys, eu, s, _⟩ := r
    rw [eu]
    exact .inl ⟨rfl, ys, s.l⟩
  | _ => cases e
theorem isStrV_ty {G : Cfg} {ρ : Wd} {h : Mem} {H : Hp} {x : CV} {u : V} (m : MemR G ρ h H) (r : ValR G ρ H x u) (e : isStrV x h = true) : tyV G.K "str" u H := by
  cases x with
  | str z => rw [show u = .str z from r]; exact rfl
  | _ => cases e
section
variable {G : Cfg} {W : WX} {X : Cx} {o e : Expr} {es : List Expr} {mo : Sl → M CV} {ml : Sl → M (List CV)} {name : Str} {apos cpos : Pos} {T id : String} {r : V → List V → Hp → VK → Prop} {ty : CV → Mem → Bool} {g : CV → List CV → M CV}
theorem se_mt (hty' : ∀ {ρ : Wd} {h : Mem} {H : Hp} {x : CV} {u : V}, MemR G ρ h H → ValR G ρ H x u → ty x h = true → tyV X.K T u H) (pa : PlainAttrs T) (slot : Slot T name id) (hty : typeOf (.builtin id) = pure (.type "method_descriptor")) (hm : MtR X id r) (hg : Mt G r g) (ho : SE G W X o mo) (ha : SA G W X (e :: es) ml) (hbase : attributeBase o name X.env (eval o X.env) = eval o X.env := by rfl) (hfew : ((backTo cpos (starEach (e :: es) X.env)).all (fun x => !x.1) && (backToKw cpos (keywordEach [] X.env)).all (fun x => x.1.isSome) && decide ((e :: es).length + ([] : List Keyword).length + (if ([] : List Keyword).isEmpty then 0 else 1) < 30)) = true := by rfl) (hline : (apos.endLine == cpos.line) = true := by rfl) (hs : starEach (e :: es) X.env = (false, eval e X.env) :: starEach es X.env := by rfl) (hplain : (backTo cpos (starEach es X.env)).any (·.1) = false := by rfl) :
    SE G W X (.Call (.Attribute o name apos) (e :: es) [] cpos) (eMt ty g mo ml) :=
  (pe_bm pa slot hty hm ho ha hbase hfew hline hs hplain).wk fun σ H Q ⟨ρ, h, τ, m, s, p⟩ => tM_bind m s p fun x h1 ρ1 H1 u m1 e1 s1 r1 p1 => by
    by_cases ht : ty x h1 = true
    · rw [if_pos ht] at p1
      exact ⟨hty' m1 r1 ht, tM_bind m1 s1 p1 fun xs h2 ρ2 H2 us m2 e2 s2 r2 p2 => hg W σ ρ2 h2 H2 x u xs us Q m2 (r1.ext m1 e2) r2 p2⟩
    · rw [if_neg ht] at p1; exact p1.elim
def eMt0 (ty : CV → Mem → Bool) (g : CV → List CV → M CV) (o : Sl → M CV) : Sl → M CV := fun τ => bnd (o τ) fun x h => if ty x h then g x [] h else .bad
theorem se_mt0 (hty' : ∀ {ρ : Wd} {h : Mem} {H : Hp} {x : CV} {u : V}, MemR G ρ h H → ValR G ρ H x u → ty x h = true → tyV X.K T u H) (pa : PlainAttrs T) (slot : Slot T name id) (hty : typeOf (.builtin id) = pure (.type "method_descriptor")) (hm : MtR X id r) (hg : Mt G r g) (ho : SE G W X o mo)
    (hbase : attributeBase o name X.env (eval o X.env) = eval o X.env := by rfl) (hline : (apos.endLine == cpos.line) = true := by rfl) :
    SE G W X (.Call (.Attribute o name apos) [] [] cpos) (eMt0 ty g mo) :=
  (pe_bm0 pa slot hty hm ho hbase hline).wk fun σ H Q ⟨ρ, h, τ, m, s, p⟩ => tM_bind m s p fun x h1 ρ1 H1 u m1 e1 s1 r1 p1 => by
    by_cases ht : ty x h1 = true
    · rw [if_pos ht] at p1
      exact ⟨hty' m1 r1 ht, hg W σ ρ1 h1 H1 x u [] [] Q m1 r1 rfl p1⟩
    · rw [if_neg ht] at p1; exact p1.elim
end
def pyAppend (x : CV) (ys : List CV) : M CV := fun h => match x, ys with
  | .ref l, [y] => match memAt h l with
    | some xs => if xs.length < 1000000 then frV 3 y fun y => sapp xs [y] fun zs => sset h l (.lst zs) fun h => .ok .non h else .bad
    | none => .bad
  | _, _ => .bad
theorem append_ok {G : Cfg} : Mt G rAppend pyAppend := by
  intro W σ ρ h H x u ys us Q m rx rys p
  unfold pyAppend at p
  split at p
  · rename_i l y
    obtain ⟨a, q, eu⟩ := rx
    obtain ⟨w, t, ew, r1, r2⟩ := rys
    cases (show t = [] from r2)
    split at p
    · rename_i xs hc
      obtain ⟨zs, e, rr⟩ := m.obj l a _ q (memAt_some hc)
      split at p
      · rename_i hl
        rw [frV_eq, sapp_eq, sset_eq] at p
        exact ⟨a, zs, w, eu, ew, e, by rw [← rr.len, sizeLine_eq]; omega, p ρ _ _ (m.write q (rr.app (show ValsR G ρ H [y] [w] from ⟨w, [], rfl, r1, rfl⟩))) (Ext.writeAt m q) rfl⟩
      · exact p.elim
    · exact p.elim
  · exact p.elim
def pyExtend (x : CV) (ys : List CV) : M CV := fun h => match x, ys with
  | .ref l, [y] => match memAt h l, lstOf y h with
    | some xs, some zs => if xs.length + zs.length < 1000000 then sapp xs zs fun ys => sset h l (.lst ys) fun h => .ok .non h else .bad
    | _, _ => .bad
  | _, _ => .bad
theorem extend_ok {G : Cfg} : Mt G rExtend pyExtend := by
  intro W σ ρ h H x u ys us Q m rx rys p
  unfold pyExtend at p
  split at p
  · rename_i l y
    obtain ⟨a, q, eu⟩ := rx
    obtain ⟨w, t, ew, r1, r2⟩ := rys
    cases (show t = [] from r2)
    split at p
    · rename_i xs zs hc hz
      obtain ⟨vs, e, rr⟩ := m.obj l a _ q (memAt_some hc)
      obtain ⟨b, ws, eb, rb, sb⟩ := lstOf_r m r1 hz
      split at p
      · rename_i hl
        rw [sapp_eq, sset_eq] at p
        subst eb
        exact ⟨a, b, vs, ws, eu, ew, e, sb, by rw [← rr.len, ← rb.len, sizeLine_eq]; omega, p ρ _ _ (m.write q (rr.app rb)) (Ext.writeAt m q) rfl⟩
      · exact p.elim
    · exact p.elim
  · exact p.elim
def gSub (o i : Sl → M CV) : CV → Sl → M Sl := fun v τ => bnd (o τ) fun x => bnd (i τ) fun k h => match x, k with
  | .ref l, .int k => match memAt h l with
    | some xs => match L2.ixN xs.length k with
      | some j => frV 3 v fun v => sset xs j v fun xs => sset h l (.lst xs) fun h => .ok τ h
      | none => .bad
    | none => .bad
  | _, _ => .bad
theorem ValsR.set {G : Cfg} {ρ : Wd} {H : Hp} {x : CV} {u : V} (q : ValR G ρ H x u) : ∀ {xs : List CV} {us : List V} (j : Nat), ValsR G ρ H xs us → ValsR G ρ H (xs.set j x) (us.set j u)
  | [], _, j, r => by rw [show _ = [] from r]; exact rfl
  | y :: ys, _, 0, ⟨w, t, e, r1, r2⟩ => by subst e; exact ⟨u, t, rfl, q, r2⟩
  | y :: ys, _, j + 1, ⟨w, t, e, r1, r2⟩ => by subst e; exact ⟨w, _, rfl, r1, r2.set q j⟩
theorem tM_noexc {α β : Type} {G : Cfg} {R : Wd → Hp → α → β → Prop} {m : Sl → M α} {σ : L2.St} {ρ : Wd} {h : Mem} {H : Hp} {τ : Sl} {C : β → Hp → Prop} {W : WX} (mm : MemR G ρ h H) (s : SlR G ρ H τ σ) {a : α} {h1 : Mem} (e : m τ h = .ok a h1)
    (hC : ∀ ρ1 H1 b, MemR G ρ1 h1 H1 → Ext ρ H ρ1 H1 → SlR G ρ1 H1 τ σ → R ρ1 H1 a b → C b H1) : tM G W R m σ H C :=
  ⟨ρ, h, τ, mm, s, by rw [e]; exact fun ρ1 H1 b m1 e1 r => hC ρ1 H1 b m1 e1 (s.ext mm e1) r⟩
theorem sg_sub {G : Cfg} {W : WX} {X : Cx} {pos : Pos} {o i : Expr} {mo mi : Sl → M CV} (ho : SE G W X o mo) (hi : SE G W X i mi) 
    (ha : ∀ v, assign (.Subscript o i pos) X.env v = (holding [v] (eval o X.env) >>= fun ov => holding [v, ov] (eval i X.env) >>= fun iv => standAt pos >>= fun _ => holding [v, ov, iv] (setItem ov iv v) >>= fun _ => release [v, ov, iv] []) := by intro _; rfl) : SG G X (.Subscript o i pos) (gSub mo mi) :=
  (pg_sub ho hi set_list ha).wk fun v σ H Q ⟨ρ, h, τ, x, m, s, r, p⟩ => by
    unfold gSub bnd at p
    cases e : mo τ h with
    | ok ov h1 =>
      rw [e] at p
      simp only at p
      refine tM_noexc m s e fun ρ1 H1 u m1 e1 s1 r1 => ?_
      cases e2 : mi τ h1 with
      | ok iv h2 =>
        rw [e2] at p
        simp only at p
        refine tM_noexc m1 s1 e2 fun ρ2 H2 w m2 e2' s2 r2 => ?_
        split at p
        · rename_i τ' h' he
          split at he
          · rename_i l k
            cases hc : memAt h2 l with
            | none => simp [hc] at he
            | some xs =>
              simp only [hc] at he
              obtain ⟨a, q, eu⟩ := r1.ext m1 e2'
              obtain ⟨ys, ea, rr⟩ := m2.obj l a _ q (memAt_some hc)
              cases hj : L2.ixN xs.length k with
              | none => simp [hj] at he
              | some j =>
                simp only [hj, frV_eq, sset_eq] at he
                cases he
                refine ⟨a, ys, k, j, eu, r2, ea, by rw [← rr.len]; exact hj, ?_⟩
                have rv := (r.ext m e1).ext m1 e2'
                exact p ρ2 _ _ (m2.write q (rr.set rv j)) ((e1.trans e2').trans (Ext.writeAt m2 q)) (s2.ext m2 (Ext.writeAt m2 q))
          · cases he
        · exact p.elim
      | exc _ _ => rw [e2] at p; exact p.elim
      | bad => rw [e2] at p; exact p.elim
    | exc _ _ => rw [e] at p; exact p.elim
    | bad => rw [e] at p; exact p.elim
end VE

noncomputable section
namespace VE
open PySem PySem.Spec PyProof.Rows L2
def mNever : MS := fun _ _ => .bad
def mPar (i j : Nat) (ml : Sl → M (List CV)) : MS := fun τ => inS (ml τ) τ fun xs h => match xs with
  | [x, y] => frV 3 x fun x => frV 3 y fun y => sset τ i (some x) fun τ => sset τ j (some y) fun τ => .mk (.nx τ) h
  | _ => .bad
def mPar3 (i j l : Nat) (ml : Sl → M (List CV)) : MS := fun τ => inS (ml τ) τ fun xs h => match xs with
  | [x, y, z] => frV 3 x fun x => frV 3 y fun y => frV 3 z fun z => sset τ i (some x) fun τ => sset τ j (some y) fun τ => sset τ l (some z) fun τ => .mk (.nx τ) h
  | _ => .bad
section
variable {G : Cfg} {W : WX} {X : Cx} {pos : Pos} {st : Stmt}
theorem ss_never : SS G W X st mNever := ps_never.wk fun D σ H ⟨ρ, h, τ, m, s, p⟩ => p.elim
theorem ss_par {i j : Nat} {x y : Str} {a b : Expr} {ml : Sl → M (List CV)} {px py pt : Pos} {kt k2 pt2} (hc : X.calm = true) (hN : X.N.Nodup) (hi : X.N[i]? = some x) (hj : X.N[j]? = some y) (hij : i ≠ j)
    (hx : X.env.scope.names.lookup x = some .local) (hy : X.env.scope.names.lookup y = some .local) (ha : SA G W X [a, b] ml) (hw : swappedStores [.Tuple [.Name x px, .Name y py] kt pt] (.Tuple [a, b] k2 pt2) X.env = pure (some [x, y])) (hs : swapsWithSole [.Tuple [.Name x px, .Name y py] kt pt] (.Tuple [a, b] k2 pt2) pos.line X.env = pure false := by rfl) (f1 : G.fr i = true := by rfl) (f2 : G.fr j = true := by rfl) :
    SS G W X (.Assign [.Tuple [.Name x px, .Name y py] kt pt] (.Tuple [a, b] k2 pt2) pos) (mPar i j ml) :=
  (ps_par hc hN hi hj hij hx hy ha hw hs).wk fun D σ H ⟨ρ, h, τ, m, s, p⟩ => tM_inS m s p fun xs h1 ρ1 H1 us m1 e1 s1 r1 p1 => by
    split at p1
    · obtain ⟨u, t, e, q1, u2, t2, e2, q2, q3⟩ := r1
      cases (show t2 = [] from q3)
      subst e2
      simp only [frV_eq, sset_eq] at p1
      exact ⟨u, u2, e, p1 ρ1 H1 _ m1 Ext.refl ((s1.set i q1 f1).set j q2 f2)⟩
    · exact p1.elim
theorem ss_par3 {i j l : Nat} {x y z : Str} {a b c : Expr} {ml : Sl → M (List CV)} {px py pz pt : Pos} {kt k2 pt2} (hc : X.calm = true) (hN : X.N.Nodup) (hi : X.N[i]? = some x) (hj : X.N[j]? = some y) (hl : X.N[l]? = some z) (hij : i ≠ j) (hil : i ≠ l) (hjl : j ≠ l)
    (hx : X.env.scope.names.lookup x = some .local) (hy : X.env.scope.names.lookup y = some .local) (hz : X.env.scope.names.lookup z = some .local) (ha : SA G W X [a, b, c] ml) (hw : swappedStores [.Tuple [.Name x px, .Name y py, .Name z pz] kt pt] (.Tuple [a, b, c] k2 pt2) X.env = pure (some [x, y, z])) (hs : swapsWithSole [.Tuple [.Name x px, .Name y py, .Name z pz] kt pt] (.Tuple [a, b, c] k2 pt2) pos.line X.env = pure false := by rfl) (f1 : G.fr i = true := by rfl) (f2 : G.fr j = true := by rfl) (f3 : G.fr l = true := by rfl) :
    SS G W X (.Assign [.Tuple [.Name x px, .Name y py, .Name z pz] kt pt] (.Tuple [a, b, c] k2 pt2) pos) (mPar3 i j l ml) :=
  (ps_par3 hc hN hi hj hl hij hil hjl hx hy hz ha hw hs).wk fun D σ H ⟨ρ, h, τ, m, s, p⟩ => tM_inS m s p fun xs h1 ρ1 H1 us m1 e1 s1 r1 p1 => by
    split at p1
    · obtain ⟨u, t, e, q1, u2, t2, e2, q2, u3, t3, e3, q3, q4⟩ := r1
      cases (show t3 = [] from q4)
      subst e3 e2
      simp only [frV_eq, sset_eq] at p1
      exact ⟨u, u2, u3, e, p1 ρ1 H1 _ m1 Ext.refl (((s1.set i q1 f1).set j q2 f2).set l q3 f3)⟩
    · exact p1.elim
end
def pyIAdd (x y : CV) : M CV := match x, y with
  | .int i, .int j => ret (.int (i + j))
  | _, _ => stuck
theorem iadd_ok {G : Cfg} : Op2 G (rI0 fun i j => .int (i + j)) pyIAdd := by
  intro W σ ρ h H x y u v Q m rx ry p
  unfold pyIAdd at p
  split at p
  · exact ⟨_, _, rx, ry, p ρ H _ m Ext.refl rfl⟩
  · exact p.elim
def pyIMul (x y : CV) : M CV := match x, y with
  | .int i, .int j => if (fit i && fit j) = true then ret (.int (i * j)) else stuck
  | _, _ => stuck
theorem imul_ok {G : Cfg} : Op2 G (rI CMulW fun i j => .int (i * j)) pyIMul := by
  intro W σ ρ h H x y u v Q m rx ry p
  unfold pyIMul at p
  split at p
  · split at p
    · rename_i hc
      exact ⟨_, _, rx, ry, fit_mul hc, p ρ H _ m Ext.refl rfl⟩
    · exact p.elim
  · exact p.elim
theorem iop_mulW {X : Cx} : OpR X (inplaceOp .Mult) (rI CMulW fun i j => .int (i * j)) := opI fun _ _ _ _ _ _ _ hc q => imul_int q hc.ok
theorem cx_no {P : Program} {w : World} {H : Hp} {s s' : Shared} {e : Value} (z : L2.CX P w [] H s (fun _ _ _ => False) e s') : False := by
  obtain ⟨_, _, _, _, _, _, _, _, _, _, _, _, z⟩ := z
  exact z
theorem law_sp {G : Cfg} {F : List CV → M CV} {H : Hp} {a : Addr} {ns : List Int} (hT : G.T = []) (hx : G.exi = none) (hy : G.lam = none) (hO : Only H) (hS : SqL G.K H a (ns.map V.int)) (hF : ∃ h, F [.frz (ns.map CV.int)] [] = .ok (.bl true) h) :
    spH G 1 F [.ref a] H (fun v _ => v = .bl true) fun _ _ _ => False := by
  have nh : ∀ a, ¬ (⟨[], []⟩ : Wd).has a := fun a z => by
    rcases z with z | z <;> simp at z
  have hints : ∀ (ρ : Wd) (H : Hp) (ns : List Int), ValsR G ρ H (ns.map CV.int) (ns.map V.int) := fun ρ H ns => by
    induction ns with
    | nil => rfl
    | cons n ns ih => exact ⟨.int n, _, rfl, rfl, ih⟩
  refine ⟨rfl, ⟨[], []⟩, [], [.frz (ns.map CV.int)], ⟨rfl, List.nodup_nil, fun i a co e1 => by simp at e1, fun a ha => by simp at ha, fun p hp => by (rw [hT] at hp; simp at hp), fun e he => by (rw [hx] at he; cases he), fun e he => by rw [hy] at he; cases he⟩, ⟨_, _, rfl, ⟨a, _, rfl, ?_, hints _ _ ns⟩, rfl⟩, ?_⟩
  · rcases hS with hS | hS
    · exact .inl ⟨nh a, hS⟩
    · exact .inr (.inr hS)
  · obtain ⟨h, e⟩ := hF
    rw [e]
    exact fun ρ' H' u m' e' r => r

/-- law's promise: a list of at most 63 ints is handed in, True comes out -/
def spLaw (K : PySem.W.Frag) : Sp := fun vs H Q _ => ∃ (a : Addr) (ns : List Int), vs = [.ref a] ∧ SqL K H a (ns.map V.int) ∧ ns.length ≤ 63 ∧ ∀ H', Q (.bl true) H'
theorem spLaw_of {G : Cfg} {F : List CV → M CV} (hT : G.T = []) (hx : G.exi = none) (hy : G.lam = none) (hF : ∀ ns : List Int, ns.length ≤ 63 → ∃ h, F [.frz (ns.map CV.int)] [] = .ok (.bl true) h) (vs : List V) (H : Hp) (Q : VK) (E : XK) (h : spLaw G.K vs H Q E) : spH G 1 F vs H Q E := by
  obtain ⟨a, ns, rfl, hS, hl, q⟩ := h
  have nh : ∀ a, ¬ (⟨[], []⟩ : Wd).has a := fun a z => by
    rcases z with z | z <;> simp at z
  have hints : ∀ (ρ : Wd) (H : Hp) (ns : List Int), ValsR G ρ H (ns.map CV.int) (ns.map V.int) := fun ρ H ns => by
    induction ns with
    | nil => rfl
    | cons n ns ih => exact ⟨.int n, _, rfl, rfl, ih⟩
  refine ⟨rfl, ⟨[], []⟩, [], [.frz (ns.map CV.int)], ⟨rfl, List.nodup_nil, fun i a co e1 => by simp at e1, fun a ha => by simp at ha, fun p hp => by (rw [hT] at hp; simp at hp), fun e he => by (rw [hx] at he; cases he), fun e he => by rw [hy] at he; cases he⟩, ⟨_, _, rfl, ⟨a, _, rfl, ?_, hints _ _ ns⟩, rfl⟩, ?_⟩
  · rcases hS with hS | hS
    · exact .inl ⟨nh a, hS⟩
    · exact .inr (.inr hS)
  · obtain ⟨h, e⟩ := hF ns hl
    rw [e]
    exact fun ρ' H' u m' e' r => by rw [show u = .bl true from r]; exact q H'
theorem def_mk {K : PySem.W.Frag} {h : Heap} {mg : Str → Option Value} (X : K.In h) (G : h.Ns mainGlobals mg) {x : Str} {st : Stmt} {f : Addr} {od an : Option Addr} {osl : Array (Option Value)} {oc kV doc pm cdv ct : Value} (a : PySem.W.nsIn K mainGlobals x = some (some (.ref f)))
    (l : K.lookup f = some ⟨oc, od, .func (PySem.W.fnOf x x (defArgs st) (defBody st) (defScope st) .none kV doc pm an cdv ct), osl⟩) (c : PySem.W.codeIn K cdv x = true) (k : PySem.W.keepIn K (.ref f) = true) :
    ∃ (f : Addr) (fd : FuncData), mg x = some (.ref f) ∧ Fun K x x st f fd := ⟨f, _, PySem.W.mg_of X G a, fun_mk l c k⟩
theorem int_mk {K : PySem.W.Frag} {h : Heap} {mg : Str → Option Value} (X : K.In h) (G : h.Ns mainGlobals mg) {x : Str} {i : Int} {t : Tok} (a : PySem.W.nsIn K mainGlobals x = some (some (.int i t))) : ∃ t, mg x = some (.int i t) := ⟨t, PySem.W.mg_of X G a⟩
theorem str_mk {K : PySem.W.Frag} {h : Heap} {mg : Str → Option Value} (X : K.In h) (G : h.Ns mainGlobals mg) {x : Str} {i : Str} {t : Tok} (a : PySem.W.nsIn K mainGlobals x = some (some (.str i t))) : ∃ t, mg x = some (.str i t) := ⟨t, PySem.W.mg_of X G a⟩
theorem walk_law {l : PySem.W.OpenLaw} {q : Program} {loose : List Str} {XP : (Str → Option Value) → Heap → Prop} {YP : World → Heap → Prop} {d : DefRec} {K : Params → PySem.W.Frag} {k : Nat} (hr : Room k callerA) (hn : l.most = some 63) (hdf : d.params.defaults = [])
    (hY : ∀ (w : World) (h : Heap), YP w h → (K w.params).In h)
    (F : ∀ (w : World) (mg : Str → Option Value) (fa : Addr) (h : Heap), (K w.params).In h → h.Ns mainGlobals mg → mg d.name = some (.ref fa) →
      ∃ fd : FuncData, (∀ (s : Shared) (u : Value), BindsTo s fd ⟨[u], []⟩ [("script", u)]) ∧ ∀ base : Heap, (K w.params).In base → base.Ns mainGlobals mg → FnOk l.prog w (K w.params) mg base (L2.CX l.prog w) k fa fd ["script"] (spLaw (K w.params))) :
    PySem.W.WalkO q loose XP YP l.row.toRowW d [] (fun f vs => PySem.call f vs) :=
  L2.walk_of (n := 63) (k := k) (x := "script") (CX := fun w => L2.CX l.prog w) (sp := fun w => spLaw (K w.params)) hn (by decide) hdf hr hY F (fun _ _ a ns hl _ hS => ⟨a, ns, rfl, hS, hl, fun _ => rfl⟩) fun _ _ _ _ _ z => cx_no z
end VE

namespace VE
open PySem PySem.Spec PyProof.Rows PyProof.V L2 PySem.W
open PySem hiding Program
set_option maxHeartbeats 4000000 in
theorem meets_enum1 {v : Value} {o : Obj} {H : Heap → Prop} (B : Begins v o H) :
    Meets (Builtin.«enumerate.__new__» ⟨[.type "enumerate", v], []⟩) (fun _ R s => H s.heap ∧
      R (.ok (.ret (.ref (s.heap.push o).objs.size))) { s with heap := (s.heap.push o).push { cls := .type "enumerate", data := .fields #[.none, .bool false, .ref s.heap.objs.size, rawInt 0, .none, .none] } }) :=
  .of_wp fun prog w A R s h => by
    obtain ⟨has, out⟩ := h
    obtain ⟨heap, gs, dr, tk, os⟩ := s
    have below := sub_enumerate
    have begun : ∀ {A1 : Around} {E1 : Value → Shared → Prop} {Q1 : Value → Shared → Prop}, Q1 (.ref heap.objs.size) ⟨heap.push o, gs, dr, tk, os⟩ → wpAny (model prog w) A1 (pyIter v) Q1 E1 ⟨heap, gs, dr, tk, os⟩ := fun z => B.iter prog w _ _ ⟨heap, gs, dr, tk, os⟩ _ has z
    wp_walk using begun
    refine wpAny_stack_any fun _ => wpAny_pure ?_
    split
    all_goals first
      | (rename_i c _ _ _ _ _; cases (c == Value.type "enumerate") <;> (wp_walk using begun; exact ⟨_, rfl, out⟩))
      | (wp_walk using begun; exact ⟨_, rfl, out⟩)
section
variable {prog : PySem.Program} {w : World} {A : Around} {E : Value → Shared → Prop} {s : Shared}
theorem enum1_begins {v : Value} {o : Obj} {Has : Heap → Prop} {Q : Value → Shared → Prop} (B : Begins v o Has) (has : Has s.heap)
    (next : ∀ hp, IsEnum hp (s.heap.objs.size + 1) s.heap.objs.size 0 .none → hp.get? s.heap.objs.size = some o → hp.objs.size = s.heap.objs.size + 2 →
      (∀ b ob, s.heap.get? b = some ob → hp.get? b = some ob) → Q (.ref (s.heap.objs.size + 1)) { s with heap := hp }) :
    wpAny (model prog w) A (call (.type "enumerate") [v]) Q E s := by
  have size1 : (s.heap.push o).objs.size = s.heap.objs.size + 1 := by simp [Heap.size_push]
  have two : IsEnum ((s.heap.push o).push { cls := .type "enumerate", data := .fields #[.none, .bool false, .ref s.heap.objs.size, rawInt 0, .none, .none] }) (s.heap.objs.size + 1) s.heap.objs.size 0 .none :=
    size1 ▸ Heap.get?_push_size (s.heap.push o) (o := { cls := .type "enumerate", data := .fields #[.none, .bool false, .ref s.heap.objs.size, rawInt 0, .none, .none] }) rfl
  have tyE := F.typeCall_enumerate_1 v
  refine callType_new F.called_enumerate (by decide) tyE (F.newCall_enumerate_1 v) (fun ob => F.args_object_init_2 ob v) F.entry_enumerate_new (meets_enum1 B) ⟨has, ?_⟩
  refine (show _ ∧ _ from ?_)
  rw [size1]
  have first := Heap.get?_push_size s.heap (o := o) B.free
  exact ⟨⟨_, two, rfl⟩, next _ two (Heap.get?_push_of_some _ first) (by rw [Heap.size_push, size1]) fun b ob z => Heap.get?_push_of_some _ (Heap.get?_push_of_some _ z)⟩
theorem sumT_raw {l : Addr} {its : List Value} {ns : List Int} {Q : Value → Shared → Prop} (calm : A.handled = none) (tp : s.heap.IsTuple l its.toArray) (allInt : IntsAre its ns)
    (next : ∀ hp tk tok, (∀ b ob, s.heap.get? b = some ob → hp.get? b = some ob) → Q (.int ns.sum tok) { s with heap := hp, toks := tk }) : wpAny (model prog w) A (call (.builtin "sum") [.ref l]) Q E s := by
  obtain ⟨xs, shape⟩ := allInt.allInts.items
  have nums : numsOf (intItems xs).toList = ns := shape ▸ allInt.numsOf
  rw [nums_intItems] at nums
  refine PySem.W.ktm_sumG calm (shape ▸ tp) fun hp tk tok kept => ?_
  rw [preSum_eq, List.take_of_length_le (by simp), nums]
  exact next hp tk tok kept
theorem wpAny_pyNext_enum_endT {en ti l : Addr} {n : Nat} {items : Array Value} {was : Value} {Q : Option Value → Shared → Prop} (calm : A.handled = none)
    (ge : IsEnum s.heap en ti n was) (hi : s.heap.IsTupleIter ti l n) (tp : s.heap.IsTuple l items) (over : items[n]? = none)
    (next : ∀ hp, Heap.ExtBut ti s.heap hp → Q none { s with heap := hp }) : wpAny (model prog w) A (pyNext (.ref en)) Q E s := by
  unfold pyNext
  have ty : s.TypeIs (.ref en) "enumerate" := ⟨_, ge, rfl⟩
  refine wpAny_bind (wpAny_attempt (wpAny_callSpecial?_slot (name := Str.ofString "__next__") ty F.slot_enumerate_next (wpAny_call_entry F.slot_enumerate_next ty F.entry_enumerate_next ?_ (F.args_enumerate_next_1 _))))
  refine (show wpAny (model prog w) _ (field (.ref en) 2 >>= _) _ _ _ from wpAny_bind (wpAny_field ge rfl (x := .ref ti) rfl (wpAny_bind (wpAny_nextOf_tuple_end calm hi tp over fun hp stop but is => ?_))))
  obtain ⟨ob, go, cl⟩ := is
  exact wpAny_bind (wpAny_isInstance (T := "StopIteration") (b := true) ⟨ob, go, cl⟩ isSubtype_stop (wpAny_pure (next _ but)))
end
def rSumT (K : PySem.W.Frag) : List V → Hp → VK → Prop := fun vs H Q => ∃ (a : Addr) (ns : List Int), vs = [V.ref a] ∧ SqT K H a (ns.map V.int) ∧ Q (.int ns.sum) H
theorem cr_sumT {X : Cx} (hc : X.calm = true) : CallR X (.builtin "sum") (rSumT X.K) := by
  intro pins sh σ Hh vs us Q inv rel ⟨t, ns, ev, sq, next⟩
  subst ev
  obtain ⟨its, rv, tp, _⟩ := inv.tuple sq
  obtain rfl : us = [.ref t] := Vals.ref1 rel
  exact sumT_raw (inv.ok.hd hc) tp rv.ints fun hp tk tok kept => ⟨.int _, Hh, inv.kept kept, ⟨_, rfl⟩, next⟩
theorem callR_or {X : Cx} {f : Value} {r r' : List V → Hp → VK → Prop} (h : CallR X f r) (h' : CallR X f r') : CallR X f (fun vs H Q => r vs H Q ∨ r' vs H Q) := by
  intro pins s σ H vs us Q I rr q
  exact q.elim (fun q => h pins s σ H vs us Q I rr q) fun q => h' pins s σ H vs us Q I rr q
def rSum2 (K : PySem.W.Frag) : List V → Hp → VK → Prop := fun vs H Q => rSum K vs H Q ∨ rSumT K vs H Q
theorem cr_sum2 {X : Cx} (hc : X.calm = true) : CallR X (.builtin "sum") (rSum2 X.K) := callR_or (cr_sum hc) (cr_sumT hc)
noncomputable section
def pySum2 (x : CV) : M CV := fun h => match seqOf x h with
  | some xs => match intsOf xs with
    | some bs => .ok (.int bs.sum) h
    | none => .bad
  | none => .bad
theorem sum2_ok {G : Cfg} : OpL G (rSum2 G.K) (one pySum2) := one_ok fun W σ ρ h H x u Q m rx p => by
  unfold pySum2 at p
  cases e : seqOf x h with
  | none => rw [e] at p; exact p.elim
  | some xs =>
    rw [e] at p
    simp only at p
    cases q : intsOf xs with
    | none => rw [q] at p; exact p.elim
    | some bs =>
      rw [q] at p
      obtain ⟨a, ys, eu, rr, sq⟩ := seqOf_r m rx e
      by_cases ht : isTup x = true
      · rw [if_pos ht] at sq
        exact .inr ⟨a, bs, by rw [eu], by rw [← intsOf_r q rr]; exact sq, p ρ H _ m Ext.refl rfl⟩
      · rw [if_neg ht] at sq
        exact .inl ⟨a, bs, by rw [eu], by rw [← intsOf_r q rr]; exact sq, p ρ H _ m Ext.refl rfl⟩
end
/-- what a walk that counts hands out: the tuple's items, each behind its number in a pair made for it -/
def IteT (K : PySem.W.Frag) (t : Addr) : It where
  go i Hh := ∃ (us : List V) (u : V), us[i]? = some u ∧ SqT K Hh t us
  yld i Hh w Hh' := ∃ T u, Hh T = none ∧ w = .ref T ∧ Hh' = upd Hh T (.tup [.int (i : Nat), u]) ∧ ∀ us, SqT K Hh t us → us[i]? = some u
  stop i Hh := ∃ us : List V, us.length ≤ i ∧ SqT K Hh t us
/-- a pair (number, item) behind all that there is, while only the walk's own two cells were touched -/
theorem pair_new {X : Cx} {pins : List (Addr × Obj)} {σ : L2.St} {Hh : Hp} {sh : Shared} {en ti : Addr} {n : Nat} {k : Tok} {u : V} {v : Value} {hp : Heap} {tk : Nat} (inv : Inv X pins σ Hh sh)
    (own : ∀ b ∈ [en, ti], FpOk X pins Hh b) (same : ∀ b ob, b ≠ en → b ≠ ti → sh.heap.get? b = some ob → hp.get? b = some ob)
    (at_ : hp.get? sh.heap.objs.size = some { cls := .type "tuple", data := .seq #[.int (n : Int) k, v] }) (rel : RelV u v) :
    Inv X pins σ (upd Hh sh.heap.objs.size (.tup [.int (n : Nat), u])) { sh with heap := hp, toks := tk } := by
  refine inv.turnedNew (ch := [en, ti]) (fun b ob nb q => same b ob (fun z => nb (by rw [z]; exact List.mem_cons_self ..)) (fun z => nb (by rw [z]; exact List.mem_cons_of_mem _ (List.mem_singleton.mpr rfl))) q) own (Nat.le_refl _) ?_
  exact ⟨(by decide : (2 : Nat) ≤ sizeLine), [.int (n : Int) k, v], .cons ⟨k, rfl⟩ (.cons rel .nil), _, at_, rfl, 0, rfl⟩
theorem two_of {b x y : Addr} (h : b ∈ [x, y]) : b = x ∨ b = y := by simpa using h
theorem turn_enumT {P : PySem.Program} {w : World} {K : PySem.W.Frag} {elts : List Expr} {kk : Nat} {tpos : Pos} (t en ti : Addr) (ht : ti ≠ t) (he : en ≠ t) :
    Turn P w K (.Tuple elts kk tpos) (IteT K t) [en, ti] en (fun n h => en ≠ ti ∧ h.IsTupleIter ti t n ∧ ∃ was, IsEnum h en ti ((n : Nat) : Int) was) := by
  constructor
  case mem => exact List.mem_cons_self ..
  case obj =>
    rintro n h ⟨_, ⟨oi, gi, _, di⟩, was, ge⟩ b hb
    rcases two_of hb with rfl | rfl
    · exact ⟨_, ge, fun _ z => nomatch z⟩
    · exact ⟨oi, gi, fun _ z => by rw [di] at z; cases z⟩
  case keep =>
    rintro n h hn ⟨ne, hi, was, ge⟩ kp
    exact ⟨ne, hi.at (fun o z => kp ti (by simp) o z), was, kp en (by simp) _ ge⟩
  case self => exact fun A n sh Q E st z => wpAny_pyIter_enum st.2.2.choose_spec z
  case item =>
    intro X e1 e2 e3 calm n pins sh σ Hh E inv own ⟨ne, hi, was, ge⟩ ⟨us, u, hu, sq⟩
    subst e1 e2 e3
    obtain ⟨vs, rel, tp, _⟩ := inv.tuple sq
    obtain ⟨v, hv, rv⟩ := rel.get hu
    have room : n < vs.toArray.size := (List.getElem?_eq_some_iff.mp hv).1
    have dr := Draws.tuple (prog := X.prog) (w := X.w) (A := X.A.in1) (inv.ok.hd calm) ti t (Ne.symm ht) vs.toArray
    refine wpAny_pyNext_enum_itemD (P := fun j x => vs.toArray[j]? = some x) dr ge ⟨hi, tp⟩ room ne (by simp [ne, he]) fun x h1 tk hx out st1 fresh _ only => ?_
    have same : x = v := Option.some.inj (hx.symm.trans (show vs.toArray[n]? = some v by simpa using hv))
    rw [same] at out fresh
    refine ⟨_, rfl, wpAny_letOwnedTupleGo_enum (s := { sh with heap := h1, toks := tk + 1 }) out fun h2 ge2 but => ?_⟩
    have live : ∀ b ∈ [en, ti], b < sh.heap.objs.size := fun b hb => by
      rcases two_of hb with rfl | rfl
      · exact Heap.lt_size ge
      · exact hi.elim fun _ z => Heap.lt_size z.1
    have inv2 := pair_new (tk := tk + 1) (hp := h2) inv own (fun b ob n1 n2 q => (but.2 b n1).trans (only b ob n1 n2 q)) ((but.2 _ (Nat.ne_of_gt (live en (by simp)))).trans fresh) rv
    refine ⟨.ref sh.heap.objs.size, _, inv2, rfl, ⟨_, u, inv.hok.fresh (Nat.le_refl _), rfl, rfl, fun us' z => by rw [inv.tuple_inj z sq, hu]⟩, ⟨ne, st1.1.at (fun o z => (but.2 ti (Ne.symm ne)).trans z), v, ?_⟩, fun b hb => ?_⟩
    · rw [Int.natCast_add]; exact ge2
    · exact (upd_ne (Nat.ne_of_lt (live b hb))).trans (own b hb).1
  case done =>
    intro X e1 e2 e3 calm n pins sh σ Hh E inv own ⟨ne, hi, was, ge⟩ ⟨us, le, sq⟩
    subst e1 e2 e3
    obtain ⟨vs, rel, tp, _⟩ := inv.tuple sq
    have over : vs.toArray[n]? = none := by
      have := rel.length
      simp; omega
    obtain ⟨z0, z1, z2, z3, z4, z5⟩ := own ti (by simp)
    exact wpAny_pyNext_enum_endT (inv.ok.hd calm) ge hi tp over fun h2 but => ⟨rfl, inv.turned (t' := sh.toks) (fun b o nb q => but b o nb q) z0 z1 z3 z4 z5⟩
def iEnumT (K : PySem.W.Frag) (ta : TA) : TI := fun σ Hh R => ta σ Hh fun vs H1 => ∃ t us, SqT K H1 t us ∧ vs = [.ref t] ∧ R (IteT K t) H1
theorem pi_enumT {X : Cx} {e : Expr} {ta : TA} {p pos tpos : Pos} {elts : List Expr} {kk : Nat} (hg : Gl X "enumerate") (free : X.mg "enumerate" = none) (arg : PA X [e] ta) (hs : starEach [e] X.env = [(false, eval e X.env)] := by rfl) :
    PI X (.Tuple elts kk tpos) (.Call (.Name "enumerate" p) [e] [] pos) (iEnumT X.K ta) := by
  constructor
  intro pins sh σ Hh R inv want
  refine Call_ (ld_blt inv hg free boot_enumerate (PyProof.Rows.callWith_type1 (thn (arg.run pos pins sh σ Hh _ inv want) fun us s1 got => ?_) hs rfl))
  obtain ⟨_, H1, inv1, rel, t, vs, sq, rfl, next⟩ := got
  obtain rfl : us = [.ref t] := Vals.ref1 rel
  obtain ⟨its, _, tp, _⟩ := inv1.tuple sq
  have tl : t < s1.heap.objs.size := tp.elim fun _ z => Heap.lt_size z.1
  refine enum1_begins (begins_tuple t its.toArray) tp fun h2 ge hi _ kept => wpAny_pyIter_enum ge ?_
  refine ⟨_, [s1.heap.objs.size + 1, s1.heap.objs.size], _, _, H1, rfl, inv1.kept (t' := s1.toks) kept, turn_enumT t _ s1.heap.objs.size (Nat.ne_of_gt tl) (Nat.ne_of_gt (Nat.lt_succ_of_lt tl)), ⟨Nat.succ_ne_self _, ⟨_, hi, rfl, rfl⟩, .none, ge⟩, fun b hb => ?_, next⟩
  have behind : s1.heap.objs.size ≤ b := by rcases two_of hb with rfl | rfl <;> omega
  exact inv1.fpOk behind (inv1.hok.fresh behind)
section
variable {G : Cfg} {ρ : Wd} {h : Mem} {H : Hp} {a : Addr} {ys : List V} {xs : List CV}
theorem itR_enumT (m : MemR G ρ h H) (s : SqT G.K H a ys) (r : ValsR G ρ H xs ys) : ItR G ρ H (IteT G.K a) (enumL 0 xs) := by
  intro ρ1 h1 H1 m1 e1
  have s1 : SqT G.K H1 a ys := e1.sqT m s
  have r1 := r.extH m e1
  have ln : (enumL 0 xs).length = ys.length := by rw [enumL_len, r1.len]
  refine ⟨fun i hi => ⟨ys, ys[i]'(by omega), by simp, s1⟩, ⟨ys, by omega, s1⟩, fun i x u H' q y => ?_⟩
  obtain ⟨T, w, hT, eu, eH, hw⟩ := y
  subst eu eH
  obtain ⟨z, h1, h2⟩ := enumL_get q
  subst h2
  obtain ⟨w', q3, r3⟩ := r1.get h1
  rw [hw ys s1] at q3
  cases q3
  refine ⟨m1.laid hT, Ext.laid hT, T, _, rfl, SqT.of upd_same, _, _, rfl, (by rw [Nat.zero_add]; exact (rfl : V.int _ = V.int _)), _, _, rfl, r3.ext m1 (Ext.laid hT), rfl⟩
end
noncomputable section
def ftOf (x : CV) : Option (List CV) := match x with
  | .tup ys => some ys
  | x => frzOf x
def enumOf2 (xs : List CV) : M (List CV) := match xs with
  | [x] => match ftOf x with
    | some ys => ret (enumL 0 ys)
    | none => stuck
  | _ => stuck
theorem tM_bindE {α γ δ β : Type} {G : Cfg} {W : WX} {R : Wd → Hp → α → β → Prop} {S : Wd → Hp → γ → δ → Prop} {ρ : Wd} {h : Mem} {H : Hp} {τ : Sl} {σ : L2.St} {ma : Sl → M α} {k : α → M γ} {Q : δ → Hp → Prop} {C : β → Hp → Prop} (m : MemR G ρ h H) (s : SlR G ρ H τ σ) (p : Post G W S σ ρ H (bnd (ma τ) k h) Q)
    (hC : ∀ a h1 ρ1 H1 b, ma τ h = .ok a h1 → MemR G ρ1 h1 H1 → Ext ρ H ρ1 H1 → SlR G ρ1 H1 τ σ → R ρ1 H1 a b → Post G W S σ ρ1 H1 (k a h1) Q → C b H1) : tM G W R ma σ H C := by
  refine ⟨ρ, h, τ, m, s, ?_⟩
  unfold bnd at p
  cases e : ma τ h with
  | ok a h1 =>
    rw [e] at p
    exact fun ρ1 H1 b m1 e1 r => hC a h1 ρ1 H1 b e m1 e1 (s.ext m e1) r (Post.ext (G := G) (W := W) p e1)
  | exc x h1 => rw [e] at p; exact p
  | bad => rw [e] at p; exact p
theorem si_enum2 {G : Cfg} {W : WX} {X : Cx} {e : Expr} {ml : Sl → M (List CV)} {p pos : Pos} {elts : List Expr} {kk : Nat} {tpos : Pos} (hK : G.K = X.K) (hg : Gl X "enumerate") (hm : X.mg "enumerate" = none) (ha : SA G W X [e] ml) (hs : starEach [e] X.env = [(false, eval e X.env)] := by rfl) :
    SI G W X (.Tuple elts kk tpos) (.Call (.Name "enumerate" p) [e] [] pos) (iArgs enumOf2 ml) :=
  ((pi_enum hg hm ha hs).or (pi_enumT hg hm ha hs)).wk fun σ H R ⟨ρ, h, τ, m, s, p⟩ => by
    by_cases c : ∃ ys h1, ml τ h = .ok [.tup ys] h1
    · obtain ⟨ys, hh, c⟩ := c
      refine .inr (tM_bindE m s p fun xs h1 ρ1 H1 us eq m1 e1 s1 r1 p1 => ?_)
      rw [c] at eq
      cases eq
      obtain ⟨y, t, eu, ⟨a, vs, ea, z, r⟩, rt⟩ := r1
      cases (show t = [] from rt)
      subst ea
      rw [← hK]
      exact ⟨a, vs, z, eu, p1 ρ1 H1 _ m1 Ext.refl (itR_enumT m1 z r)⟩
    · refine .inl (tM_bindE m s p fun xs h1 ρ1 H1 us eq m1 e1 s1 r1 p1 => ?_)
      rw [← hK]
      cases xs with
      | nil => exact p1.elim
      | cons x t =>
        cases t with
        | cons _ _ => exact p1.elim
        | nil =>
          simp only [enumOf2] at p1
          cases q : ftOf x with
          | none => rw [q] at p1; exact p1.elim
          | some ys =>
            rw [q] at p1
            have q2 : frzOf x = some ys := by
              cases x with
              | tup zs => exact absurd ⟨zs, h1, eq⟩ c
              | _ => exact q
            obtain ⟨y, t, eu, ry, rt⟩ := r1
            cases (show t = [] from rt)
            obtain ⟨a, vs, ea, z, r⟩ := frzOf_r ry q2
            subst ea
            exact ⟨a, vs, eu, z.l, p1 ρ1 H1 _ m1 Ext.refl (itR_enum m1 z r)⟩
end
end VE

noncomputable section
namespace VE
open PySem PySem.Spec
section
variable {α β : Type} {a : α} {h : Mem} {x : Exn} {k : α → M β} {τ : Sl} {f : Fl}
theorem rd_bnd (m : M α) (k : α → M β) : bnd m k h = match m h with | .ok a h' => k a h' | .exc x h' => .exc x h' | .bad => .bad := by unfold bnd; cases m h <;> rfl
theorem rd_inS (m : M α) (τ : Sl) (k : α → Mem → OS) : inS m τ k h = match m h with | .ok a h' => k a h' | .exc x h' => .mk (.ex x τ) h' | .bad => .bad := by unfold inS; cases m h <;> rfl
theorem rd_eVar (i : Nat) : eVar i τ h = match τ[i]? with | some (some v) => .ok v h | _ => .bad := by
  unfold eVar; rw [sget_eq]; rcases τ[i]? with _ | _ | v <;> rfl
theorem rd_eC (v : CV) : eC v τ h = .ok v h := rfl
theorem rd_ret (v : α) : ret v h = .ok v h := rfl
theorem rd_stuck : (stuck : M α) h = .bad := rfl
theorem rd_eOp (g : CV → CV → M CV) (a b : Sl → M CV) : eOp g a b τ h = match a τ h with | .ok x h' => (match b τ h' with | .ok y h'' => g x y h'' | .exc x h' => .exc x h' | .bad => .bad) | .exc x h' => .exc x h' | .bad => .bad := by
  unfold eOp; rw [rd_bnd]; cases a τ h <;> simp only [rd_bnd]; try cases b τ _ <;> rfl
theorem rd_eUn (g : CV → M CV) (a : Sl → M CV) : eUn g a τ h = match a τ h with | .ok x h' => g x h' | .exc x h' => .exc x h' | .bad => .bad := by
  unfold eUn; rw [rd_bnd]; try cases a τ h <;> rfl
theorem rd_eNilA : eNilA τ h = .ok [] h := rfl
theorem rd_eConsA (a : Sl → M CV) (r : Sl → M (List CV)) : eConsA a r τ h = match a τ h with | .ok x h' => (match r τ h' with | .ok y h'' => .ok (x :: y) h'' | .exc x h' => .exc x h' | .bad => .bad) | .exc x h' => .exc x h' | .bad => .bad := by
  unfold eConsA; rw [rd_bnd]; cases a τ h <;> simp only [rd_bnd]; try cases r τ _ <;> rfl
theorem rd_mSeq (a b : MS) : mSeq a b τ h = match a τ h with | .mk (.nx τ') h' => b τ' h' | .mk (.rt v) h' => .mk (.rt v) h' | .mk (.bk τ') h' => .mk (.bk τ') h' | .mk (.ct τ') h' => .mk (.ct τ') h' | .mk (.ex x τ') h' => .mk (.ex x τ') h' | .bad => .bad := by
  unfold mSeq; rcases a τ h with ⟨f, _⟩ | _ <;> try rfl
  cases f <;> rfl
theorem rd_mAsg (g : CV → Sl → M Sl) (e : Sl → M CV) : mAsg g e τ h = match e τ h with | .ok x h' => (match g x τ h' with | .ok τ' h'' => .mk (.nx τ') h'' | _ => .bad) | .exc x h' => .mk (.ex x τ) h' | .bad => .bad := by
  unfold mAsg; rw [rd_inS]; cases e τ h <;> try rfl
  dsimp only; cases g _ τ _ <;> rfl
theorem rd_gSet (i : Nat) (v : CV) : gSet i v τ h = .ok (τ.set i (some v)) h := by
  unfold gSet; rw [frV_eq, sset_eq]
theorem rd_mIf (c : Sl → M Bool) (a b : MS) : mIf c a b τ h = match c τ h with | .ok true h' => a τ h' | .ok false h' => b τ h' | .exc x h' => .mk (.ex x τ) h' | .bad => .bad := by
  unfold mIf; rw [rd_inS]; rcases c τ h with ⟨k, _⟩ | _ | _ <;> try rfl
  cases k <;> rfl
theorem rd_mRet (e : Sl → M CV) : mRet e τ h = match e τ h with | .ok x h' => .mk (.rt x) h' | .exc x h' => .mk (.ex x τ) h' | .bad => .bad := by
  unfold mRet; rw [rd_inS]; cases e τ h <;> rfl
theorem rd_mRetN : mRetN τ h = .mk (.rt .non) h := rfl
theorem rd_mNil : mNil τ h = .mk (.nx τ) h := rfl
theorem rd_mExpr (e : Sl → M CV) : mExpr e τ h = match e τ h with | .ok x h' => .mk (.nx τ) h' | .exc x h' => .mk (.ex x τ) h' | .bad => .bad := by
  unfold mExpr; rw [rd_inS]; cases e τ h <;> rfl
theorem rd_mAug (i : Nat) (g : CV → CV → M CV) (e : Sl → M CV) : mAug i g e τ h = match τ[i]? with
    | some (some x) => (match e τ h with
      | .ok y h' => (match g x y h' with
        | .ok z h'' => .mk (.nx (τ.set i (some z))) h''
        | _ => .bad)
      | .exc x h' => .mk (.ex x τ) h'
      | .bad => .bad)
    | _ => .bad := by
  unfold mAug; rw [sget_eq]; rcases τ[i]? with _ | _ | x <;> try rfl
  dsimp only; rw [rd_inS]; cases e τ h <;> try rfl
  dsimp only; cases g x _ _ <;> try rfl
  dsimp only; rw [frV_eq, sset_eq]
theorem rd_endB_rt (v : CV) : endB (.mk (.rt v) h) = .ok v h := rfl
theorem rd_endB_nx : endB (.mk (.nx τ) h) = .ok .non h := rfl
theorem rd_endB_bad : endB .bad = .bad := rfl
theorem rd_endB_ex : endB (.mk (.ex x τ) h) = .exc x h := rfl
theorem rd_isB (b : Bool) : isB (.bl b) h = .ok b h := rfl
theorem rd_bOf (e : Sl → M CV) : bOf e τ h = match e τ h with | .ok x h' => isB x h' | .exc x h' => .exc x h' | .bad => .bad := by
  unfold bOf; rw [rd_bnd]; cases e τ h <;> rfl
theorem rd_bNot (e : Sl → M Bool) : bNot e τ h = match e τ h with | .ok x h' => .ok (!x) h' | .exc x h' => .exc x h' | .bad => .bad := by
  unfold bNot; rw [rd_bnd]; cases e τ h <;> rfl
theorem rd_bOr (a b : Sl → M Bool) : bOr a b τ h = match a τ h with | .ok true h' => .ok true h' | .ok false h' => b τ h' | .exc x h' => .exc x h' | .bad => .bad := by
  unfold bOr; rw [rd_bnd]; rcases a τ h with ⟨k, _⟩ | _ | _ <;> try rfl
  cases k <;> rfl
theorem rd_bAnd (a b : Sl → M Bool) : bAnd a b τ h = match a τ h with | .ok true h' => b τ h' | .ok false h' => .ok false h' | .exc x h' => .exc x h' | .bad => .bad := by
  unfold bAnd; rw [rd_bnd]; rcases a τ h with ⟨k, _⟩ | _ | _ <;> try rfl
  cases k <;> rfl
theorem rd_eIf (c : Sl → M Bool) (a b : Sl → M CV) : eIf c a b τ h = match c τ h with | .ok true h' => a τ h' | .ok false h' => b τ h' | .exc x h' => .exc x h' | .bad => .bad := by
  unfold eIf; rw [rd_bnd]; rcases c τ h with ⟨k, _⟩ | _ | _ <;> try rfl
  cases k <;> rfl
theorem rd_eAnd (a b : Sl → M CV) : eAnd a b τ h = match a τ h with | .ok (.bl true) h' => b τ h' | .ok (.bl false) h' => .ok (.bl false) h' | .ok _ _ => .bad | .exc x h' => .exc x h' | .bad => .bad := by
  unfold eAnd; rw [rd_bnd]; rcases a τ h with ⟨k, _⟩ | _ | _ <;> try rfl
  dsimp only; rw [rd_bnd]; cases k <;> try rfl
  rename_i k; cases k <;> rfl
theorem rd_eNot (a : Sl → M CV) : eNot a τ h = match a τ h with | .ok (.bl b) h' => .ok (.bl !b) h' | .ok _ _ => .bad | .exc x h' => .exc x h' | .bad => .bad := by
  unfold eNot; rw [rd_bnd]; rcases a τ h with ⟨k, _⟩ | _ | _ <;> try rfl
  dsimp only; rw [rd_bnd]; cases k <;> try rfl
theorem rd_eCall (np : Nat) (F : List CV → M CV) (ml : Sl → M (List CV)) : eCall np F ml τ h = match ml τ h with | .ok xs h' => (if xs.length = np then F xs h' else .bad) | .exc x h' => .exc x h' | .bad => .bad := by
  unfold eCall; rw [rd_bnd]; rcases ml τ h with ⟨k, _⟩ | _ | _ <;> try rfl
  dsimp only; split <;> rfl
theorem rd_eB (F : List CV → M CV) (ml : Sl → M (List CV)) : eB F ml τ h = match ml τ h with | .ok xs h' => F xs h' | .exc x h' => .exc x h' | .bad => .bad := by
  unfold eB; rw [rd_bnd]; cases ml τ h <;> rfl
theorem rd_iArgs (F : List CV → M (List CV)) (ml : Sl → M (List CV)) : iArgs F ml τ h = match ml τ h with | .ok xs h' => F xs h' | .exc x h' => .exc x h' | .bad => .bad := by
  unfold iArgs; rw [rd_bnd]; cases ml τ h <;> rfl
theorem rd_memAt (l : Nat) : memAt h l = match h[l]? with | some (.lst xs) => some xs | _ => none := by
  unfold memAt; rw [sget_eq]; rcases h[l]? with _ | _ | _ <;> rfl
theorem rd_mFor (it : Sl → M (List CV)) (g : CV → Sl → M Sl) (b : MS) : mFor it g b τ h = match it τ h with | .ok xs h' => mForL g b xs τ h' | .exc x h' => .mk (.ex x τ) h' | .bad => .bad := by
  unfold mFor; rw [rd_inS]; cases it τ h <;> rfl
theorem rd_eNew (ml : Sl → M (List CV)) : eNew ml τ h = match ml τ h with | .ok xs h' => (if xs.length ≤ 1000 then .ok (.ref h'.length) (h' ++ [.lst xs]) else .bad) | .exc x h' => .exc x h' | .bad => .bad := by
  unfold eNew; rw [rd_bnd]; rcases ml τ h with ⟨k, _⟩ | _ | _ <;> try rfl
  dsimp only; split
  · rw [frLs_eq (frV_eq 3), frN_eq, sapp_eq]
  · rfl
theorem rd_pyAtN (xs : List CV) (n : Nat) : pyAt xs (n : Int) = xs[n]? := sget_eq xs n
theorem rd_pyAtL (xs : List CV) (n : Nat) : pyAt xs (@OfNat.ofNat Int n instOfNat) = xs[n]? := sget_eq xs n
theorem rd_pyAt0 (xs : List CV) : pyAt xs 0 = xs[0]? := sget_eq xs 0
theorem rd_pyAt1 (xs : List CV) : pyAt xs 1 = xs[1]? := sget_eq xs 1
theorem rd_pyAt2 (xs : List CV) : pyAt xs 2 = xs[2]? := sget_eq xs 2
theorem rd_pyAt3 (xs : List CV) : pyAt xs 3 = xs[3]? := sget_eq xs 3
theorem rd_pyAt4 (xs : List CV) : pyAt xs 4 = xs[4]? := sget_eq xs 4
theorem rd_pyAtM (xs : List CV) (n : Nat) : pyAt xs (Int.negSucc n) = if n < xs.length then xs[xs.length - (n + 1)]? else none := by
  show (if n < xs.length then sget xs (xs.length - (n + 1)) else none) = _
  rw [sget_eq]
end
theorem mSeq_nx {a b : MS} {τ τ' : Sl} {h h' : Mem} (e : a τ h = .mk (.nx τ') h') : mSeq a b τ h = b τ' h' := by rw [rd_mSeq, e]
theorem mSeq_rt {a b : MS} {τ : Sl} {v : CV} {h h' : Mem} (e : a τ h = .mk (.rt v) h') : mSeq a b τ h = .mk (.rt v) h' := by rw [rd_mSeq, e]
theorem mFor_nx {it : Sl → M (List CV)} {g : CV → Sl → M Sl} {b : MS} {τ : Sl} {h h1 : Mem} {xs : List CV} (e : it τ h = .ok xs h1) : mFor it g b τ h = mForL g b xs τ h1 := by rw [rd_mFor, e]
theorem mRet_ok {e : Sl → M CV} {τ : Sl} {v : CV} {h h' : Mem} (q : e τ h = .ok v h') : mRet e τ h = .mk (.rt v) h' := by rw [rd_mRet, q]
theorem mAsg_ok {e : Sl → M CV} {i : Nat} {τ : Sl} {v : CV} {h h' : Mem} (q : e τ h = .ok v h') : mAsg (gSet i) e τ h = .mk (.nx (τ.set i (some v))) h' := by rw [rd_mAsg, q]; simp only [rd_gSet]
theorem mExpr_ok {e : Sl → M CV} {τ : Sl} {v : CV} {h h' : Mem} (q : e τ h = .ok v h') : mExpr e τ h = .mk (.nx τ) h' := by rw [rd_mExpr, q]
theorem mIf_f {c : Sl → M Bool} {a b : MS} {τ : Sl} {h h' : Mem} (q : c τ h = .ok false h') : mIf c a b τ h = b τ h' := by rw [rd_mIf, q]
theorem mIf_t {c : Sl → M Bool} {a b : MS} {τ : Sl} {h h' : Mem} (q : c τ h = .ok true h') : mIf c a b τ h = a τ h' := by rw [rd_mIf, q]
theorem run_rt {np nl : Nat} {b : MS} {xs : List CV} {v : CV} {h h' : Mem} (hl : xs.length = np) (q : b (startC nl xs) h = .mk (.rt v) h') : runB np nl b xs h = .ok v h' := by rw [runB_eq, if_pos hl, q]; rfl
theorem callF_read {np : Nat} {F : List CV → M CV} {xs : List CV} {h h' : Mem} {v v' : CV} (e : F xs [] = .ok v h') (hn : noRefs xs = true) (hl : xs.length = np) (hf : frzV 9 (lockM h') v = some v') : callF np F xs h = .ok v' h := by
  unfold callF
  rw [if_pos hl, if_pos hn, e]
  simp only [hf]
theorem eOp_ok {g : CV → CV → M CV} {a b : Sl → M CV} {τ : Sl} {x y z : CV} {h h1 h2 h3 : Mem} (e1 : a τ h = .ok x h1) (e2 : b τ h1 = .ok y h2) (e3 : g x y h2 = .ok z h3) : eOp g a b τ h = .ok z h3 := by rw [rd_eOp, e1]; simp only [e2, e3]
theorem eVar_ok {i : Nat} {τ : Sl} {v : CV} {h : Mem} (e : τ[i]? = some (some v)) : eVar i τ h = .ok v h := by rw [rd_eVar, e]
theorem eB_ok {F : List CV → M CV} {ml : Sl → M (List CV)} {τ : Sl} {xs : List CV} {v : CV} {h h1 h2 : Mem} (e1 : ml τ h = .ok xs h1) (e2 : F xs h1 = .ok v h2) : eB F ml τ h = .ok v h2 := by rw [rd_eB, e1]; exact e2
theorem eCall_ok {np : Nat} {F : List CV → M CV} {ml : Sl → M (List CV)} {τ : Sl} {xs : List CV} {v : CV} {h h1 h2 : Mem} (e1 : ml τ h = .ok xs h1) (hl : xs.length = np) (e2 : F xs h1 = .ok v h2) : eCall np F ml τ h = .ok v h2 := by rw [rd_eCall, e1]; simp only [if_pos hl]; exact e2
theorem eNil_ok {τ : Sl} {h : Mem} : eNilA τ h = .ok [] h := rfl
theorem eC_ok {v : CV} {τ : Sl} {h : Mem} : eC v τ h = .ok v h := rfl
theorem eCons_ok {a : Sl → M CV} {r : Sl → M (List CV)} {τ : Sl} {x : CV} {xs : List CV} {h h1 h2 : Mem} (e1 : a τ h = .ok x h1) (e2 : r τ h1 = .ok xs h2) : eConsA a r τ h = .ok (x :: xs) h2 := by rw [rd_eConsA, e1]; simp only [e2]
theorem iArgs_ok {F : List CV → M (List CV)} {ml : Sl → M (List CV)} {τ : Sl} {xs ys : List CV} {h h1 h2 : Mem} (e1 : ml τ h = .ok xs h1) (e2 : F xs h1 = .ok ys h2) : iArgs F ml τ h = .ok ys h2 := by rw [rd_iArgs, e1]; exact e2
theorem bOf_ok {e : Sl → M CV} {τ : Sl} {b : Bool} {h h1 : Mem} (q : e τ h = .ok (.bl b) h1) : bOf e τ h = .ok b h1 := by rw [rd_bOf, q]; rfl
theorem bNot_ok {e : Sl → M Bool} {τ : Sl} {b : Bool} {h h1 : Mem} (q : e τ h = .ok b h1) : bNot e τ h = .ok (!b) h1 := by rw [rd_bNot, q]
theorem bOr_ff {a b : Sl → M Bool} {τ : Sl} {h h1 h2 : Mem} (q : a τ h = .ok false h1) (q2 : b τ h1 = .ok false h2) : bOr a b τ h = .ok false h2 := by rw [rd_bOr, q]; exact q2
theorem mPar_ok {i j : Nat} {ml : Sl → M (List CV)} {τ : Sl} {x y : CV} {h h1 : Mem} (q : ml τ h = .ok [x, y] h1) : mPar i j ml τ h = .mk (.nx ((τ.set i (some x)).set j (some y))) h1 := by
  unfold mPar; rw [rd_inS, q]; simp only [frV_eq, sset_eq]
theorem mPar3_ok {i j l : Nat} {ml : Sl → M (List CV)} {τ : Sl} {x y z : CV} {h h1 : Mem} (q : ml τ h = .ok [x, y, z] h1) : mPar3 i j l ml τ h = .mk (.nx (((τ.set i (some x)).set j (some y)).set l (some z))) h1 := by
  unfold mPar3; rw [rd_inS, q]; simp only [frV_eq, sset_eq]
/-- a for, by what stands before each turn -/
theorem forL_inv {g : CV → Sl → M Sl} {b : MS} (I : Nat → Sl → Mem → Prop) : ∀ (xs : List CV) (k : Nat) (τ : Sl) (h : Mem), I k τ h →
    (∀ i x τ h, xs[i]? = some x → I (k + i) τ h → ∃ τ1 h1 τ2 h2, g x τ h = .ok τ1 h1 ∧ b τ1 h1 = .mk (.nx τ2) h2 ∧ I (k + i + 1) τ2 h2) → ∃ τ' h', mForL g b xs τ h = .mk (.nx τ') h' ∧ I (k + xs.length) τ' h'
  | [], k, τ, h, h0, _ => ⟨τ, h, rfl, h0⟩
  | x :: xs, k, τ, h, h0, st => by
    obtain ⟨τ1, h1, τ2, h2, e1, e2, e3⟩ := st 0 x τ h rfl h0
    obtain ⟨τ', h', q1, q2⟩ := forL_inv I xs (k + 1) τ2 h2 e3 (fun i y τ h hy hi => by
      have := st (i + 1) y τ h (by simpa using hy) (by rw [show k + (i + 1) = k + 1 + i by omega]; exact hi)
      rw [show k + (i + 1) + 1 = k + 1 + i + 1 by omega] at this
      exact this)
    refine ⟨τ', h', ?_, by rw [List.length_cons, show k + (xs.length + 1) = k + 1 + xs.length by omega]; exact q2⟩
    show Out.rec (motive := fun _ => OS) (fun τ1 h1 => turn (mForL g b xs) (b τ1 h1)) (fun _ _ => .bad) .bad (g x τ h) = _
    rw [e1]
    show turn (mForL g b xs) (b τ1 h1) = _
    rw [e2]
    exact q1
/-- a while, by a measure -/
theorem while_inv {c : Sl → M Bool} {b : MS} (I : Nat → Sl → Mem → Prop) (st : ∀ k τ h, I (k + 1) τ h → ∃ h0 τ2 h2, c τ h = .ok true h0 ∧ b τ h0 = .mk (.nx τ2) h2 ∧ ∃ j, j ≤ k ∧ I j τ2 h2) (en : ∀ τ h, I 0 τ h → c τ h = .ok false h) :
    ∀ (n k : Nat) (τ : Sl) (h : Mem), k < n → I k τ h → ∃ τ' h', mWhile c b n τ h = .mk (.nx τ') h' ∧ I 0 τ' h'
  | 0, k, _, _, hk, _ => absurd hk (by omega)
  | n + 1, 0, τ, h, _, hi => by
    refine ⟨τ, h, ?_, hi⟩
    show inS (c τ) τ (fun k h => Bool.rec (.mk (.nx τ) h) (turn (mWhile c b n) (b τ h)) k) h = _
    rw [rd_inS, en τ h hi]
  | n + 1, k + 1, τ, h, hk, hi => by
    obtain ⟨h0, τ2, h2, e1, e2, j, hj, e3⟩ := st k τ h hi
    obtain ⟨τ', h', q1, q2⟩ := while_inv I st en n j τ2 h2 (by omega) e3
    refine ⟨τ', h', ?_, q2⟩
    show inS (c τ) τ (fun k h => Bool.rec (.mk (.nx τ) h) (turn (mWhile c b n) (b τ h)) k) h = _
    rw [rd_inS, e1]
    show turn (mWhile c b n) (b τ h0) = _
    rw [e2]
    exact q1
/-- a list comprehension, item by item -/
theorem lc_ok {g : CV → Sl → M Sl} {te : Sl → M CV} {τ : Sl} {h : Mem} (f : Nat → CV) : ∀ (xs : List CV) (k : Nat), (∀ i x, xs[i]? = some x → ∃ τ1, g x τ h = .ok τ1 h ∧ te τ1 h = .ok (f (k + i)) h) → lcL g bYes te τ xs h = .ok ((List.range xs.length).map fun i => f (k + i)) h
  | [], k, _ => rfl
  | x :: xs, k, st => by
    obtain ⟨τ1, e1, e2⟩ := st 0 x rfl
    have ih := lc_ok (g := g) (te := te) (τ := τ) (h := h) f xs (k + 1) (fun i y hy => by
      have := st (i + 1) y (by simpa using hy)
      rw [show k + (i + 1) = k + 1 + i by omega] at this
      exact this)
    rw [lcL_eq] at ih ⊢
    unfold lcR
    simp only [e1, bYes, rd_ret, e2, ih, List.length_cons, List.range_succ_eq_map, List.map_cons, List.map_map, Nat.add_zero]
    refine congrArg (fun l => Out.ok (f k :: l) h) (List.map_congr_left fun i _ => ?_)
    show f (k + 1 + i) = f (k + (i + 1))
    rw [show k + (i + 1) = k + 1 + i by omega]
end VE

namespace VE
open PySem PySem.Spec PyProof.Rows L2
/-- comb with counts that the library's rule takes -/
def combR : List V → Hp → VK → Prop := fun us H Q => ∃ n k : Int, us = [.int n, .int k] ∧ (0 ≤ n ∧ 0 ≤ k ∧ n ≤ 18000) ∧ Q (.int (PySem.W.mcComb n k)) H
theorem comb_run {X : Cx} : CallR X (.builtin "math.comb") combR := by
  intro pins s σ H vs us Q I r h
  obtain ⟨n, k, rfl, ⟨h0, h1, h2⟩, q⟩ := h
  obtain ⟨t, u, rfl⟩ := Vals.int2 r
  exact PySem.W.mc_comb h0 h1 (by omega) (.inr h2) fun _ => ⟨.int _, H, I.tok _, ⟨_, rfl⟩, q⟩
def pyGcd (xs : List CV) : M CV := match xs with
  | [.int i, .int j] => ret (.int ((Nat.gcd i.natAbs j.natAbs : Nat) : Int))
  | _ => stuck
def pyComb (xs : List CV) : M CV := match xs with
  | [.int i, .int j] => if 0 ≤ i ∧ 0 ≤ j ∧ i ≤ 18000 then ret (.int (PySem.W.mcComb i j)) else stuck
  | _ => stuck
theorem pyGcd_ok {G : Cfg} : OpL G rGcd pyGcd := by
  intro W σ ρ h H xs us Q m r p
  unfold pyGcd at p
  split at p
  · rename_i i j
    obtain ⟨y, t, e, r1, y2, t2, e2, r2, r3⟩ := r
    cases (show t2 = [] from r3)
    cases (show y = V.int i from r1)
    cases (show y2 = V.int j from r2)
    subst e2
    exact ⟨i, j, e, p ρ H _ m Ext.refl rfl⟩
  · exact p.elim
theorem pyComb_ok {G : Cfg} : OpL G combR pyComb := by
  intro W σ ρ h H xs us Q m r p
  unfold pyComb at p
  split at p
  · rename_i i j
    by_cases c : 0 ≤ i ∧ 0 ≤ j ∧ i ≤ 18000
    · rw [if_pos c] at p
      obtain ⟨y, t, e, r1, y2, t2, e2, r2, r3⟩ := r
      cases (show t2 = [] from r3)
      cases (show y = V.int i from r1)
      cases (show y2 = V.int j from r2)
      subst e2
      exact ⟨i, j, e, c, p ρ H _ m Ext.refl rfl⟩
    · rw [if_neg c] at p
      exact p.elim
  · exact p.elim
section
variable {G : Cfg} {W : WX} {X : Cx} {pos p : Pos} {e : Expr} {es : List Expr} {ml : Sl → M (List CV)} {x : Str}
/-- f(e, ..), f a name of a module's built-in function -/
theorem se_callBf {id : String} {r : List V → Hp → VK → Prop} {g : List CV → M CV} (hc : CallR X (.builtin id) r) (hgr : OpL G r g) (hg : Gl X x) (hm : X.mg x = some (.builtin id)) (ha : SA G W X (e :: es) ml)
    (hdb : (x == ("__debug__" : Str)) = false := by decide) (he : starEach (e :: es) X.env = (false, eval e X.env) :: starEach es X.env := by rfl) (hpl : (backTo pos (starEach es X.env)).any (·.1) = false := by rfl) :
    SE G W X (.Call (.Name x p) (e :: es) [] pos) (eB g ml) :=
  (pe_callBfun hc hg hm ha hdb he hpl).wk fun σ H Q ⟨ρ, h, τ, m, s, q⟩ => tM_bind m s q fun xs h1 ρ1 H1 us m1 e1 s1 r1 p1 => hgr W σ ρ1 h1 H1 xs us Q m1 r1 p1
end

mutual
def KV (K : PySem.W.Frag) : CV → Value → Prop
  | .non, v => v = .none
  | .bl b, v => v = .bool b
  | .int i, v => ∃ t, v = .int i t
  | .str x, v => ∃ t, v = .str x t
  | .tup xs, v => ∃ a o its n, v = .ref a ∧ K.lookup a = some o ∧ o.cls = .type "tuple" ∧ o.data = .seq its n ∧ its.size ≤ sizeLine ∧ KVs K xs its.toList
  | .frz xs, v => ∃ a o its n, v = .ref a ∧ K.lookup a = some o ∧ o.cls = .type "list" ∧ o.dict = none ∧ o.data = .seq its n ∧ its.size ≤ sizeLine ∧ KVs K xs its.toList
  | _, _ => False
def KVs (K : PySem.W.Frag) : List CV → List Value → Prop
  | [], vs => vs = []
  | x :: xs, vs => ∃ v r, vs = v :: r ∧ KV K x v ∧ KVs K xs r
end
mutual
theorem KV.at {G : Cfg} : ∀ {c : CV} {v : Value}, KV G.K c v → ∃ u : V, RelV u v ∧ ∀ ρ H, ValR G ρ H c u
  | .non, v, h => ⟨.non, h, fun _ _ => rfl⟩
  | .bl b, v, h => ⟨.bl b, h, fun _ _ => rfl⟩
  | .int i, v, h => ⟨.int i, h, fun _ _ => rfl⟩
  | .str x, v, h => ⟨.str x, h, fun _ _ => rfl⟩
  | .tup xs, v, ⟨a, o, its, n, e, l, hc, hd, hs, r⟩ => by
      obtain ⟨ys, ry, rv⟩ := KVs.at r
      exact ⟨.ref a, e, fun ρ H => ⟨a, ys, rfl, .inr ⟨o, its, n, l, hc, hd, hs, ry⟩, rv ρ H⟩⟩
  | .frz xs, v, ⟨a, o, its, n, e, l, hc, hdi, hd, hs, r⟩ => by
      obtain ⟨ys, ry, rv⟩ := KVs.at r
      exact ⟨.ref a, e, fun ρ H => ⟨a, ys, rfl, .inr (.inr ⟨o, its, n, l, hc, hdi, hd, hs, ry⟩), rv ρ H⟩⟩
  | .lst _, _, h => (h : False).elim
  | .ref _, _, h => (h : False).elim
  | .cls _, _, h => (h : False).elim
  | .fn _, _, h => (h : False).elim
  | .ty _, _, h => (h : False).elim
theorem KVs.at {G : Cfg} : ∀ {cs : List CV} {vs : List Value}, KVs G.K cs vs → ∃ us : List V, Vals us vs ∧ ∀ ρ H, ValsR G ρ H cs us
  | [], vs, h => by cases (show vs = [] from h); exact ⟨[], .nil, fun _ _ => rfl⟩
  | c :: cs, vs, ⟨v, r, e, h1, h2⟩ => by
      obtain ⟨u, ru, rv⟩ := KV.at h1
      obtain ⟨us, rus, rvs⟩ := KVs.at h2
      subst e
      exact ⟨u :: us, .cons ru rus, fun ρ H => ⟨u, us, rfl, rv ρ H, rvs ρ H⟩⟩
end
theorem se_gk {G : Cfg} {W : WX} {X : Cx} {pos : Pos} {x : Str} {c : CV} (hg : Gl X x) (hm : ∃ v, X.mg x = some v ∧ KV G.K c v) (hd : (x == ("__debug__" : Str)) = false := by decide) : SE G W X (.Name x pos) (eC c) := by
  obtain ⟨v, e, k⟩ := hm
  obtain ⟨u, ru, rv⟩ := k.at
  exact se_glo hg e ru rv hd
theorem tup_mk {K : PySem.W.Frag} {a : Addr} {d : Option Addr} {its : Array Value} {n : Nat} {sl : Array (Option Value)} {xs : List CV} (l : K.lookup a = some ⟨.type "tuple", d, .seq its n, sl⟩) (hs : its.size ≤ sizeLine) (r : KVs K xs its.toList) : KV K (.tup xs) (.ref a) :=
  ⟨a, _, its, n, rfl, l, rfl, rfl, hs, r⟩
theorem gk_mk {K : PySem.W.Frag} {h : Heap} {mg : Str → Option Value} (X : K.In h) (G : h.Ns mainGlobals mg) {x : Str} {v : Value} {c : CV} (a : PySem.W.nsIn K mainGlobals x = some (some v)) (k : KV K c v) : ∃ v, mg x = some v ∧ KV K c v := ⟨v, PySem.W.mg_of X G a, k⟩
end VE

noncomputable section
namespace VE
open PySem PySem.Spec PyProof.Rows L2
inductive Src where
  | fix (xs : List CV) | mem (en : Bool) (l : Nat)
def wr (en : Bool) (i : Nat) (x : CV) : CV := Bool.rec x (.tup [.int (Int.ofNat i), x]) en
def rdAt (en : Bool) (l i : Nat) (h : Mem) : Option (Option CV) := match memAt h l with
  | some xs => match sget xs i with
    | some x => some (some (wr en i x))
    | none => some none
  | none => none
def mForR (en : Bool) (l : Nat) (g : CV → Sl → M Sl) (b : MS) (n : Nat) : Nat → MS := Nat.rec (fun _ _ _ => .bad) (fun _ ih i τ h => match rdAt en l i h with
  | none => .bad
  | some none => .mk (.nx τ) h
  | some (some x) => Out.rec (fun τ1 h1 => turn (frN (i + 1) ih) (b τ1 h1)) (fun _ _ => .bad) .bad (g x τ h)) n
def mForA (it : Sl → M Src) (g : CV → Sl → M Sl) (b : MS) : MS := fun τ => inS (it τ) τ fun s h => match s with
  | .fix xs => mForL g b xs τ h
  | .mem en l => mForR en l g b 1000000 0 τ h
def ItM (G : Cfg) (ρ0 : Wd) (H0 : Hp) (J : It) (en : Bool) (l : Nat) : Prop :=
  ∀ ρ h H, MemR G ρ h H → ExtH ρ0 H0 ρ H → ∀ xs, memAt h l = some xs → (∀ i, i < xs.length → J.go i H) ∧ (∀ i, xs.length ≤ i → J.stop i H) ∧ ∀ (i : Nat) (x : CV) (u : V) (H' : Hp), xs[i]? = some x → J.yld i H u H' → MemR G ρ h H' ∧ Ext ρ H ρ H' ∧ ValR G ρ H' (wr en i x) u
def SrcR (G : Cfg) (ρ : Wd) (H : Hp) (s : Src) (J : It) : Prop := match s with
  | .fix xs => ItR G ρ H J xs
  | .mem en l => ItM G ρ H J en l
def tItA (G : Cfg) (W : WX) (it : Sl → M Src) : TI := fun σ H R => tM G W (SrcR G) it σ H R
abbrev SIA (G : Cfg) (W : WX) (X : Cx) (tg e : Expr) (it : Sl → M Src) : Prop := PI X tg e (tItA G W it)
theorem rdAt_cases {en : Bool} {l i : Nat} {h : Mem} : rdAt en l i h = none ∨ (∃ xs, memAt h l = some xs ∧ xs.length ≤ i ∧ rdAt en l i h = some none) ∨ ∃ xs x, memAt h l = some xs ∧ xs[i]? = some x ∧ rdAt en l i h = some (some (wr en i x)) := by
  unfold rdAt
  cases memAt h l with
  | none => exact .inl rfl
  | some xs =>
    simp only [sget_eq]
    cases q : xs[i]? with
    | none => exact .inr (.inl ⟨xs, rfl, List.getElem?_eq_none_iff.mp q, rfl⟩)
    | some x => exact .inr (.inr ⟨xs, x, rfl, q, rfl⟩)
section
variable {G : Cfg} {ρ : Wd} {h : Mem} {H : Hp} {a : Addr} {l : Nat}
theorem mem_at {xs : List CV} (m : MemR G ρ h H) (hl : ρ.r[l]? = some a) (e : memAt h l = some xs) : ∃ ys, H a = some (.lst ys) ∧ ValsR G ρ H xs ys := m.obj l a _ hl (memAt_some e)
theorem itM_list (hl : ρ.r[l]? = some a) : ItM G ρ H (Itl G.K a) false l := by
  intro ρ1 h1 H1 m1 e1 xs e
  obtain ⟨ys, s, r1⟩ := mem_at m1 (e1.pre l a hl) e
  have s1 : SqL G.K H1 a ys := SqL.of s
  refine ⟨fun i hi => ⟨ys, ys[i]'(by rw [← r1.len]; exact hi), s1, by simp [← r1.len, hi]⟩, fun i hi => ⟨ys, s1, by rw [← r1.len]; exact hi⟩, fun i x u H' q y => ?_⟩
  obtain ⟨eh, y⟩ := y
  subst eh
  have q2 := y ys s1
  obtain ⟨w, q3, r3⟩ := r1.get q
  rw [q2] at q3
  cases q3
  exact ⟨m1, Ext.refl, r3⟩
theorem itM_enum (hl : ρ.r[l]? = some a) : ItM G ρ H (Ite G.K a) true l := by
  intro ρ1 h1 H1 m1 e1 xs e
  obtain ⟨ys, s, r1⟩ := mem_at m1 (e1.pre l a hl) e
  have s1 : SqL G.K H1 a ys := SqL.of s
  refine ⟨fun i hi => ⟨ys, ys[i]'(by rw [← r1.len]; exact hi), s1, by simp [← r1.len, hi]⟩, fun i hi => ⟨ys, s1, by rw [← r1.len]; exact hi⟩, fun i x u H' q y => ?_⟩
  obtain ⟨T, w, eu, hT, eH, hw⟩ := y
  subst eu eH
  have q2 := hw ys s1
  obtain ⟨w', q3, r3⟩ := r1.get q
  rw [q2] at q3
  cases q3
  exact ⟨m1.laid hT, Ext.laid hT, T, _, rfl, SqT.of upd_same, _, _, rfl, (rfl : V.int _ = V.int _), _, _, rfl, r3.ext m1 (Ext.laid hT), rfl⟩
end
def memS (en : Bool) (l : Nat) : M Src := fun h => match memAt h l with
  | some _ => .ok (.mem en l) h
  | none => .bad
def seqS (x : CV) : M Src := match x with
  | .ref l => memS false l
  | x => bnd (itOf x) fun xs => ret (.fix xs)
def enumS (xs : List CV) : M Src := match xs with
  | [.ref l] => memS true l
  | xs => bnd (enumOf2 xs) fun xs => ret (.fix xs)
def iSeqA (e : Sl → M CV) : Sl → M Src := fun τ => bnd (e τ) seqS
def iEnumA (ml : Sl → M (List CV)) : Sl → M Src := fun τ => bnd (ml τ) enumS
section
variable {G : Cfg} {W : WX} {X : Cx} {pos p : Pos} {e e2 tg : Expr} {es : List Expr} {me : Sl → M CV} {ml : Sl → M (List CV)}
theorem tItA_fix {it : Sl → M (List CV)} {σ : L2.St} {H : Hp} {R : It → Hp → Prop} (q : tItA G W (fun τ => bnd (it τ) fun xs => ret (.fix xs)) σ H R) : tIt G W it σ H R := by
  obtain ⟨ρ, h, τ, m, s, p⟩ := q
  exact tM_bind m s p fun xs h1 ρ1 H1 J m1 e1 s1 r1 p1 => p1 ρ1 H1 J m1 Ext.refl r1
theorem memS_r {en : Bool} {l : Nat} {σ : L2.St} {ρ : Wd} {h : Mem} {H : Hp} {a : Addr} {R : It → Hp → Prop} {J : It} (m : MemR G ρ h H) (hl : ρ.r[l]? = some a) (r : ItM G ρ H J en l) (p : Post G W (SrcR G) σ ρ H (memS en l h) R) : (∃ ys, SqL G.K H a ys) ∧ R J H := by
  unfold memS at p
  cases q : memAt h l with
  | none => rw [q] at p; exact p.elim
  | some xs =>
    rw [q] at p
    obtain ⟨ys, z, _⟩ := mem_at m hl q
    exact ⟨⟨ys, SqL.of z⟩, p ρ H _ m Ext.refl r⟩
theorem si_seqA (hK : G.K = X.K) (he : SE G W X e me) : SIA G W X tg e (iSeqA me) :=
  ((si_seq hK he).or (pi_list he)).wk fun σ H R ⟨ρ, h, τ, m, s, p⟩ => by
    by_cases c : ∃ l h1, me τ h = .ok (.ref l) h1
    · obtain ⟨l, h1, c⟩ := c
      refine .inr (tM_bindE m s p fun x h2 ρ1 H1 u eq m1 e1 s1 r1 p1 => ?_)
      rw [c] at eq
      cases eq
      obtain ⟨a, hl, eu⟩ := r1
      rw [← hK]
      obtain ⟨q1, q2⟩ := memS_r m1 hl (itM_list hl) p1
      exact ⟨a, eu, q1, q2⟩
    · refine .inl (tItA_fix ⟨ρ, h, τ, m, s, ?_⟩)
      have e : iSeqA me τ h = bnd (iSeq me τ) (fun xs => ret (.fix xs)) h := by
        unfold iSeqA iSeq bnd
        cases q : me τ h with
        | exc x h1 => simp only
        | bad => simp only
        | ok x h1 =>
          cases x with
          | ref l => exact absurd ⟨l, h1, q⟩ c
          | _ => rfl
      rw [e] at p
      exact p
theorem si_enumA {elts : List Expr} {kk : Nat} {tpos : Pos} (hK : G.K = X.K) (hg : Gl X "enumerate") (hm : X.mg "enumerate" = none) (ha : SA G W X [e] ml) (hs : starEach [e] X.env = [(false, eval e X.env)] := by rfl) :
    SIA G W X (.Tuple elts kk tpos) (.Call (.Name "enumerate" p) [e] [] pos) (iEnumA ml) :=
  ((si_enum2 hK hg hm ha hs).or (pi_enum hg hm ha hs)).wk fun σ H R ⟨ρ, h, τ, m, s, p⟩ => by
    by_cases c : ∃ l h1, ml τ h = .ok [.ref l] h1
    · obtain ⟨l, h1, c⟩ := c
      refine .inr (tM_bindE m s p fun x h2 ρ1 H1 u eq m1 e1 s1 r1 p1 => ?_)
      rw [c] at eq
      cases eq
      obtain ⟨y, t, eu, ⟨a, hl, ey⟩, rt⟩ := r1
      cases (show t = [] from rt)
      subst ey
      rw [← hK]
      obtain ⟨⟨ys, q1⟩, q2⟩ := memS_r m1 hl (itM_enum hl) p1
      exact ⟨a, ys, eu, q1, q2⟩
    · refine .inl (tItA_fix ⟨ρ, h, τ, m, s, ?_⟩)
      have e : iEnumA ml τ h = bnd (iArgs enumOf2 ml τ) (fun xs => ret (.fix xs)) h := by
        unfold iEnumA iArgs bnd
        cases q : ml τ h with
        | exc x h1 => simp only
        | bad => simp only
        | ok x h1 =>
          have e2 : enumS x = bnd (enumOf2 x) fun xs => ret (.fix xs) := by
            unfold enumS
            split
            · exact absurd ⟨_, h1, q⟩ c
            · rfl
          exact congrFun e2 h1
      rw [e] at p
      exact p
theorem mForR_s {en : Bool} {l : Nat} {g : CV → Sl → M Sl} {b : MS} {n i : Nat} {τ : Sl} {h : Mem} : mForR en l g b (n + 1) i τ h = match rdAt en l i h with
  | none => .bad
  | some none => .mk (.nx τ) h
  | some (some x) => match g x τ h with
    | .ok τ1 h1 => turn (mForR en l g b n (i + 1)) (b τ1 h1)
    | _ => .bad := by
  show (match rdAt en l i h with
  | none => .bad
  | some none => .mk (.nx τ) h
  | some (some x) => Out.rec (fun τ1 h1 => turn (frN (i + 1) (mForR en l g b n)) (b τ1 h1)) (fun _ _ => .bad) .bad (g x τ h) : OS) = _
  rw [frN_eq]
  cases rdAt en l i h with
  | none => rfl
  | some o => cases o with
    | none => rfl
    | some x => simp only; cases g x τ h <;> rfl
theorem ss_forA {body : List Stmt} {mb : MS} {it : Sl → M Src} {g : CV → Sl → M Sl} (hp : PassesOwn (model X.prog X.w) X.A X.env X.xe) (hc : X.calm = true) (hi : SIA G W X tg e it) (hg : SG G X tg g) (hb : SSs G W X body mb)
    (hs : ∀ x, foldedSetIterable e X.env x = pure x := by intro _; rfl) : SS G W X (.For tg e body [] pos) (mForA it g mb) :=
  (ps_for hp hc hi hg hb hs).wk fun D σ H ⟨ρ, h, τ, m, s, p⟩ => by
    refine tM_inS m s p fun sc h1 ρ1 H1 J m1 e1 s1 r1 p1 => ?_
    cases sc with
    | fix xs =>
      refine ⟨fun i n σ H => i + n = xs.length ∧ ∃ ρ h τ, MemR G ρ h H ∧ Ext ρ1 H1 ρ H ∧ SlR G ρ H τ σ ∧ PostS G W ρ H (mForL g mb (xs.drop i) τ h) D, ⟨xs.length, Nat.zero_add _, ρ1, h1, τ, m1, Ext.refl, s1, p1⟩, ?_⟩
      rintro i n σ H ⟨hi, ρ, h, τ, m, ex, s, p⟩
      obtain ⟨go, stop, yld⟩ := (show ItR G ρ1 H1 J xs from r1) ρ h H m ex.toH
      cases n with
      | zero =>
        have ei : i = xs.length := by omega
        subst ei
        rw [List.drop_length] at p
        exact .inl ⟨stop, p.nx' m s⟩
      | succ n =>
        have hlt : i < xs.length := by omega
        refine .inr ⟨go i hlt, _, fun σ' H' q => ⟨n, Nat.lt_succ_self n, q⟩, fun u H' y => ?_⟩
        obtain ⟨m', e', r'⟩ := yld i xs[i] u H' (by simp [hlt]) y
        rw [List.drop_eq_getElem_cons hlt] at p
        refine ⟨ρ, h, τ, xs[i], m', s.ext m e', r', ?_⟩
        rw [mForL_cons] at p
        cases q : g xs[i] τ h with
        | ok τ1 h2 =>
          simp only [q] at p
          intro ρ2 H2 σ2 m2 e2 s2
          refine ⟨ρ2, h2, τ1, m2, s2, ?_⟩
          have p : PostS G W ρ H (turn (mForL g mb (xs.drop (i + 1))) (mb τ1 h2)) D := p
          cases q2 : mb τ1 h2 with
          | mk f h3 =>
            rw [q2] at p
            cases f with
            | nx τ' => exact fun ρ3 H3 σ3 m3 e3 s3 => ⟨by omega, ρ3, h3, τ', m3, ex.trans (e'.trans (e2.trans e3)), s3, PostS.ext (G := G) (W := W) p (e'.trans (e2.trans e3))⟩
            | ct τ' => exact fun ρ3 H3 σ3 m3 e3 s3 => ⟨by omega, ρ3, h3, τ', m3, ex.trans (e'.trans (e2.trans e3)), s3, PostS.ext (G := G) (W := W) p (e'.trans (e2.trans e3))⟩
            | bk τ' => exact fun ρ3 H3 σ3 m3 e3 s3 => p ρ3 H3 σ3 m3 (e'.trans (e2.trans e3)) s3
            | rt v => exact fun ρ3 H3 σ3 m3 e3 s3 => p ρ3 H3 σ3 m3 (e'.trans (e2.trans e3)) s3
            | ex x τ' => exact fun ρ3 H3 c d σ3 m3 e3 s3 z => p ρ3 H3 c d σ3 m3 (e'.trans (e2.trans e3)) s3 z
          | bad => rw [q2] at p; exact p
        | exc x h2 => simp only [q] at p; exact p
        | bad => simp only [q] at p; exact p
    | mem en l =>
      refine ⟨fun i n σ H => ∃ ρ h τ, MemR G ρ h H ∧ Ext ρ1 H1 ρ H ∧ SlR G ρ H τ σ ∧ PostS G W ρ H (mForR en l g mb n i τ h) D, ⟨1000000, ρ1, h1, τ, m1, Ext.refl, s1, p1⟩, ?_⟩
      rintro i n σ H ⟨ρ, h, τ, m, ex, s, p⟩
      cases n with
      | zero => exact p.elim
      | succ n =>
        rw [mForR_s] at p
        rcases rdAt_cases (en := en) (l := l) (i := i) (h := h) with c | ⟨xs, c1, c2, c⟩ | ⟨xs, x, c1, c2, c⟩
        · rw [c] at p; exact p.elim
        · rw [c] at p
          obtain ⟨go, stop, yld⟩ := (show ItM G ρ1 H1 J en l from r1) ρ h H m ex.toH xs c1
          exact .inl ⟨stop i c2, p.nx' m s⟩
        · rw [c] at p
          simp only at p
          obtain ⟨go, stop, yld⟩ := (show ItM G ρ1 H1 J en l from r1) ρ h H m ex.toH xs c1
          refine .inr ⟨go i (List.getElem?_eq_some_iff.mp c2).1, _, fun σ' H' q => ⟨n, Nat.lt_succ_self n, q⟩, fun u H' y => ?_⟩
          obtain ⟨m', e', r'⟩ := yld i x u H' c2 y
          refine ⟨ρ, h, τ, wr en i x, m', s.ext m e', r', ?_⟩
          cases q : g (wr en i x) τ h with
          | ok τ1 h2 =>
            simp only [q] at p
            intro ρ2 H2 σ2 m2 e2 s2
            refine ⟨ρ2, h2, τ1, m2, s2, ?_⟩
            cases q2 : mb τ1 h2 with
            | mk f h3 =>
              rw [q2] at p
              cases f with
              | nx τ' => exact fun ρ3 H3 σ3 m3 e3 s3 => ⟨ρ3, h3, τ', m3, ex.trans (e'.trans (e2.trans e3)), s3, PostS.ext (G := G) (W := W) p (e'.trans (e2.trans e3))⟩
              | ct τ' => exact fun ρ3 H3 σ3 m3 e3 s3 => ⟨ρ3, h3, τ', m3, ex.trans (e'.trans (e2.trans e3)), s3, PostS.ext (G := G) (W := W) p (e'.trans (e2.trans e3))⟩
              | bk τ' => exact fun ρ3 H3 σ3 m3 e3 s3 => p ρ3 H3 σ3 m3 (e'.trans (e2.trans e3)) s3
              | rt v => exact fun ρ3 H3 σ3 m3 e3 s3 => p ρ3 H3 σ3 m3 (e'.trans (e2.trans e3)) s3
              | ex x τ' => exact fun ρ3 H3 c d σ3 m3 e3 s3 z => p ρ3 H3 c d σ3 m3 (e'.trans (e2.trans e3)) s3 z
            | bad => rw [q2] at p; exact p
          | exc x h2 => simp only [q] at p; exact p.elim
          | bad => simp only [q] at p; exact p.elim
end
def lcM (en : Bool) (l : Nat) (g : CV → Sl → M Sl) (tt : Sl → M Bool) (te : Sl → M CV) (τ : Sl) (n : Nat) : Nat → M (List CV) :=
  Nat.rec (fun _ _ => .bad) (fun _ ih i h => match rdAt en l i h with
    | none => .bad
    | some none => .ok [] h
    | some (some x) => Out.rec (fun τ1 h1 => Out.rec (fun b h2 => Bool.rec (frN (i + 1) ih h2) (Out.rec (fun y h3 => frV 3 y fun y => Out.rec (fun ys h4 => .ok (y :: ys) h4) (fun _ _ => .bad) .bad (frN (i + 1) ih h3)) (fun _ _ => .bad) .bad (te τ1 h2)) b) (fun _ _ => .bad) .bad (tt τ1 h1)) (fun _ _ => .bad) .bad (g x τ h)) n
theorem lcM_s {en : Bool} {l : Nat} {g : CV → Sl → M Sl} {tt : Sl → M Bool} {te : Sl → M CV} {τ : Sl} {n i : Nat} {h : Mem} : lcM en l g tt te τ (n + 1) i h = match rdAt en l i h with
    | none => .bad
    | some none => .ok [] h
    | some (some x) => match g x τ h with
      | .ok τ1 h1 => match tt τ1 h1 with
        | .ok true h2 => match te τ1 h2 with
          | .ok y h3 => match lcM en l g tt te τ n (i + 1) h3 with
            | .ok ys h4 => .ok (y :: ys) h4
            | _ => .bad
          | _ => .bad
        | .ok false h2 => lcM en l g tt te τ n (i + 1) h2
        | _ => .bad
      | _ => .bad := by
  show (match rdAt en l i h with
    | none => .bad
    | some none => .ok [] h
    | some (some x) => Out.rec (fun τ1 h1 => Out.rec (fun b h2 => Bool.rec (frN (i + 1) (lcM en l g tt te τ n) h2) (Out.rec (fun y h3 => frV 3 y fun y => Out.rec (fun ys h4 => .ok (y :: ys) h4) (fun _ _ => .bad) .bad (frN (i + 1) (lcM en l g tt te τ n) h3)) (fun _ _ => .bad) .bad (te τ1 h2)) b) (fun _ _ => .bad) .bad (tt τ1 h1)) (fun _ _ => .bad) .bad (g x τ h) : Out (List CV)) = _
  cases rdAt en l i h with
  | none => rfl
  | some o => cases o with
    | none => rfl
    | some x =>
      simp only [frN_eq, frV_eq]
      cases g x τ h with
      | ok τ1 h1 =>
        simp only
        cases tt τ1 h1 with
        | ok b h2 =>
          cases b with
          | true =>
            simp only
            cases te τ1 h2 with
            | ok y h3 =>
              simp only
              cases lcM en l g tt te τ n (i + 1) h3 <;> rfl
            | exc _ _ => rfl
            | bad => rfl
          | false => rfl
        | exc _ _ => rfl
        | bad => rfl
      | exc _ _ => rfl
      | bad => rfl

theorem lc_coreM {G : Cfg} {g : TG} {gg : CV → Sl → M Sl} {tt : Sl → M Bool} {te : Sl → M CV} {vs : List Nat} {τ : Sl} {σ : L2.St} {ρ1 : Wd} {H1 : Hp} {h1 : Mem} {J : It} {en : Bool} {l : Nat} {D : Addr} {Q : VK}
    (m1 : MemR G ρ1 h1 H1) (s1 : SlR G ρ1 H1 τ σ) (r1 : ItM G ρ1 H1 J en l) (hD : H1 D = none) (hg : LcG G g gg vs) (hfv : vs.all G.fr = true) {ys : List CV} {hf : Mem} (e : lcM en l gg tt te (wipeC τ vs) 1000000 0 h1 = .ok ys hf)
    (fin : ∀ r H us, MemR G ⟨D :: ρ1.d, r⟩ hf H → Ext ρ1 H1 ⟨ρ1.d, r⟩ H → H D = some (.lst us) → ValsR G ⟨D :: ρ1.d, r⟩ H ys us → Q (.ref D) H) :
    ∃ W : Nat → Nat → Hp → Prop, (∃ m, W 0 m (upd H1 D (.lst []))) ∧ ∀ i m H, W i m H →
      (J.stop i H ∧ Q (.ref D) H) ∨ (J.go i H ∧ ∃ Nx : Hp → Prop, (∀ H', Nx H' → ∃ m', m' < m ∧ W (i + 1) m' H') ∧ ∀ x H', J.yld i H x H' → g x (L2.wipe σ vs) H' fun σ2 H2 => L2.wipe σ2 vs = L2.wipe σ vs ∧ tBo G W0 tt σ2 H2 fun b H3 =>
        if b = true then tV G W0 te σ2 H3 fun y H4 => ∃ acc, H4 D = some (.lst acc) ∧ acc.length < sizeLine ∧ Nx (upd H4 D (.lst (acc ++ [y]))) else Nx H3) := by
  refine ⟨fun i n H => i + n = 1000000 ∧ ∃ r h done acc rest, MemR G ⟨D :: ρ1.d, r⟩ h H ∧ Ext ρ1 H1 ⟨ρ1.d, r⟩ H ∧ H D = some (.lst acc) ∧ ValsR G ⟨D :: ρ1.d, r⟩ H done acc ∧ done.length ≤ i ∧ lcM en l gg tt te (wipeC τ vs) n i h = .ok rest hf ∧ ys = done ++ rest, ⟨1000000, Nat.zero_add _, ρ1.r, h1, [], [], ys, m1.hide hD, Ext.laid hD, upd_same, rfl, Nat.le_refl _, e, rfl⟩, ?_⟩
  rintro i n H ⟨hin, r, h, done, acc, rest, m, ex, hacc, rd, hdl, el, ey⟩
  have exH : ExtH ρ1 H1 ⟨D :: ρ1.d, r⟩ H := ⟨fun a ha => by
    rcases List.mem_cons.mp ha with z | z
    · exact .inr (z ▸ hD)
    · exact .inl z, ex.pre, ex.keep, ex.new⟩
  have hDd : D ∈ (⟨D :: ρ1.d, r⟩ : Wd).d := List.mem_cons_self
  have hDr : D ∉ r := (m.hid D hDd).2
  cases n with
  | zero => cases el
  | succ n =>
    rw [lcM_s] at el
    rcases rdAt_cases (en := en) (l := l) (i := i) (h := h) with c | ⟨xs, c1, c2, c⟩ | ⟨xs, x, c1, c2, c⟩
    · rw [c] at el; cases el
    · rw [c] at el
      obtain ⟨go, stop, yld⟩ := r1 _ h H m exH xs c1
      cases el
      rw [List.append_nil] at ey
      subst ey
      exact .inl ⟨stop i c2, fin r H acc m ex hacc rd⟩
    · rw [c] at el
      simp only at el
      obtain ⟨go, stop, yld⟩ := r1 _ h H m exH xs c1
      have fin' : ∀ (ρ4 : Wd) (h4 : Mem) (H4 : Hp), MemR G ρ4 h4 H4 → Ext ⟨D :: ρ1.d, r⟩ H ρ4 H4 → ρ4.d = D :: ρ1.d ∧ H4 D = some (.lst acc) ∧ Ext ρ1 H1 ⟨ρ1.d, ρ4.r⟩ H4 := fun ρ4 h4 H4 m4 e4 => by
        refine ⟨e4.hid, e4.keep D _ hacc hDr (fun _ z => by cases z), rfl, fun i a q => e4.pre i a (ex.pre i a q), fun a o q n t => ?_, fun a ps q => ?_, fun a q => ?_⟩
        · refine e4.keep a o (ex.keep a o q n t) (fun z => ?_) t
          rcases ex.new a z with z | z
          · exact n z
          · rw [q] at z; cases z
        · obtain ⟨p1, q1⟩ := ex.tbl a ps q
          exact e4.tbl a p1 q1
        · rcases e4.new a q with z | z
          · exact ex.new a z
          · by_cases hx : a ∈ ρ1.r
            · exact .inl hx
            · cases q1 : H1 a with
              | none => exact .inr rfl
              | some o => exact absurd z (ex.there q1 hx)
      refine .inr ⟨go i (List.getElem?_eq_some_iff.mp c2).1, fun H' => i + 1 + n = 1000000 ∧ ∃ r h done acc rest, MemR G ⟨D :: ρ1.d, r⟩ h H' ∧ Ext ρ1 H1 ⟨ρ1.d, r⟩ H' ∧ H' D = some (.lst acc) ∧ ValsR G ⟨D :: ρ1.d, r⟩ H' done acc ∧ done.length ≤ i + 1 ∧ lcM en l gg tt te (wipeC τ vs) n (i + 1) h = .ok rest hf ∧ ys = done ++ rest, fun H' q => ⟨n, Nat.lt_succ_self n, q⟩, fun u H' y => ?_⟩
      obtain ⟨m', e', r'⟩ := yld i x u H' c2 y
      have s' : SlR G ⟨D :: ρ1.d, r⟩ H' (wipeC τ vs) (L2.wipe σ vs) := by
        have q : SlR G ⟨D :: ρ1.d, r⟩ H τ σ := ⟨s1.1, fun i v q => let ⟨u, a, b⟩ := s1.2.1 i v q; ⟨u, a, b.extH m1 exH⟩, s1.2.2⟩
        exact (q.ext m e').wipe vs hfv
      cases q : gg (wr en i x) (wipeC τ vs) h with
      | ok τ1 h2 =>
        rw [q] at el
        refine hg _ h H' _ _ _ u τ1 h2 _ m' s' r' q fun σ2 eh s2 w2 => ?_
        subst eh
        refine ⟨w2.trans wipe_wipe, ⟨_, h2, τ1, m', s2, ?_⟩⟩
        simp only at el
        cases q2 : tt τ1 h2 with
        | ok b h3 =>
          rw [q2] at el
          intro ρ3 H3 b' m3 e3 eb
          subst eb
          have s3 := s2.ext m' e3
          cases b with
          | true =>
            rw [if_pos rfl]
            simp only at el
            refine ⟨ρ3, h3, τ1, m3, s3, ?_⟩
            cases q3 : te τ1 h3 with
            | ok z h4 =>
              rw [q3] at el
              simp only at el
              intro ρ4 H4 w m4 e4 r4
              obtain ⟨f1, f2, f3⟩ := fin' ρ4 h4 H4 m4 (e'.trans (e3.trans e4))
              obtain ⟨d4, r4'⟩ := ρ4
              cases f1
              have hacl : acc.length ≤ i := by rw [← rd.len]; exact hdl
              refine ⟨acc, f2, by rw [sizeLine_eq]; omega, by omega, r4', h4, done ++ [z], acc ++ [w], ?_⟩
              cases q4 : lcM en l gg tt te (wipeC τ vs) n (i + 1) h4 with
              | ok zs h5 =>
                rw [q4] at el
                cases el
                refine ⟨zs, m4.hidwr List.mem_cons_self, ?_, upd_same, ?_, by simp; omega, rfl, by rw [ey, List.append_assoc]; rfl⟩
                · refine ⟨rfl, f3.pre, fun a o z n t => ?_, fun a ps z => ?_, f3.new⟩
                  · rw [upd_ne (ne_of_none z hD)]
                    exact f3.keep a o z n t
                  · rw [upd_ne (ne_of_none z hD)]
                    exact f3.tbl a ps z
                · exact ((rd.ext m (e'.trans (e3.trans e4))).app (show ValsR G _ H4 [z] [w] from ⟨w, [], rfl, r4, rfl⟩)).wr (.inr List.mem_cons_self) ⟨_, f2, .inl ⟨_, rfl⟩⟩
              | exc _ _ => rw [q4] at el; cases el
              | bad => rw [q4] at el; cases el
            | exc _ _ => rw [q3] at el; cases el
            | bad => rw [q3] at el; cases el
          | false =>
            rw [if_neg Bool.false_ne_true]
            simp only at el
            obtain ⟨f1, f2, f3⟩ := fin' ρ3 h3 H3 m3 (e'.trans e3)
            obtain ⟨d3, r3⟩ := ρ3
            cases f1
            exact ⟨by omega, r3, h3, done, acc, rest, m3, f3, f2, rd.ext m (e'.trans e3), by omega, el, ey⟩
        | exc _ _ => rw [q2] at el; cases el
        | bad => rw [q2] at el; cases el
      | exc _ _ => rw [q] at el; cases el
      | bad => rw [q] at el; cases el
def lcA (g : CV → Sl → M Sl) (tt : Sl → M Bool) (te : Sl → M CV) (τ : Sl) (s : Src) : M (List CV) := match s with
  | .fix xs => fun h => if xs.length ≤ 1000000 then lcL g tt te τ xs h else .bad
  | .mem en l => lcM en l g tt te τ 1000000 0
def eLcA (it : Sl → M Src) (g : CV → Sl → M Sl) (tt : Sl → M Bool) (te : Sl → M CV) (vs : List Nat) : Sl → M CV := fun τ => bnd (it τ) fun s h => match lcA g tt te (wipeC τ vs) s h with
  | .ok ys h' => .ok (.lst ys) h'
  | _ => .bad
def eLcNA (it : Sl → M Src) (g : CV → Sl → M Sl) (tt : Sl → M Bool) (te : Sl → M CV) (vs : List Nat) : Sl → M CV := fun τ => bnd (it τ) fun s h => match lcA g tt te (wipeC τ vs) s h with
  | .ok ys h' => frN h'.length fun n => sapp h' [.lst ys] fun h'' => .ok (.ref n) h''
  | _ => .bad
theorem lc_coreA {G : Cfg} {g : TG} {gg : CV → Sl → M Sl} {tt : Sl → M Bool} {te : Sl → M CV} {vs : List Nat} {τ : Sl} {σ : L2.St} {ρ1 : Wd} {H1 : Hp} {h1 : Mem} {J : It} {sc : Src} {D : Addr} {Q : VK}
    (m1 : MemR G ρ1 h1 H1) (s1 : SlR G ρ1 H1 τ σ) (r1 : SrcR G ρ1 H1 sc J) (hD : H1 D = none) (hg : LcG G g gg vs) (hfv : vs.all G.fr = true) {ys : List CV} {hf : Mem} (e : lcA gg tt te (wipeC τ vs) sc h1 = .ok ys hf)
    (fin : ∀ r H us, MemR G ⟨D :: ρ1.d, r⟩ hf H → Ext ρ1 H1 ⟨ρ1.d, r⟩ H → H D = some (.lst us) → ValsR G ⟨D :: ρ1.d, r⟩ H ys us → Q (.ref D) H) :
    ∃ W : Nat → Nat → Hp → Prop, (∃ m, W 0 m (upd H1 D (.lst []))) ∧ ∀ i m H, W i m H →
      (J.stop i H ∧ Q (.ref D) H) ∨ (J.go i H ∧ ∃ Nx : Hp → Prop, (∀ H', Nx H' → ∃ m', m' < m ∧ W (i + 1) m' H') ∧ ∀ x H', J.yld i H x H' → g x (L2.wipe σ vs) H' fun σ2 H2 => L2.wipe σ2 vs = L2.wipe σ vs ∧ tBo G W0 tt σ2 H2 fun b H3 =>
        if b = true then tV G W0 te σ2 H3 fun y H4 => ∃ acc, H4 D = some (.lst acc) ∧ acc.length < sizeLine ∧ Nx (upd H4 D (.lst (acc ++ [y]))) else Nx H3) := by
  cases sc with
  | fix xs =>
    have e' : (if xs.length ≤ 1000000 then lcL gg tt te (wipeC τ vs) xs h1 else .bad) = .ok ys hf := e
    by_cases hl : xs.length ≤ 1000000
    · rw [if_pos hl, lcL_eq] at e'
      exact lc_core' (W' := fun _ _ _ _ => True) m1 s1 r1 hD hg hfv hl e' fin
    · rw [if_neg hl] at e'; cases e'
  | mem en l => exact lc_coreM m1 s1 r1 hD hg hfv e fin
theorem lc_redA {G : Cfg} {W : WX} {it : Sl → M Src} {g : TG} {gg : CV → Sl → M Sl} {tt : Sl → M Bool} {te : Sl → M CV} {vs : List Nat} (hg : LcG G g gg vs) (hfv : vs.all G.fr = true) {σ : L2.St} {H : Hp} {Q : VK} (q : tV G W (eLcA it gg tt te vs) σ H Q) : tLc (tItA G W it) g (tBo G W0 tt) (tV G W0 te) vs σ H Q := by
  obtain ⟨ρ, h, τ, m, s, p⟩ := q
  refine tM_bind m s p fun xs h1 ρ1 H1 J m1 e1 s1 r1 p1 D hD => ?_
  cases e : lcA gg tt te (wipeC τ vs) xs h1 with
  | ok ys hf =>
    rw [e] at p1
    refine lc_coreA m1 s1 r1 hD hg hfv e fun r H2 us m2 e2 hus rus => ?_
    refine p1 ⟨ρ1.d, r⟩ H2 _ m2.unhid e2 ⟨D, us, rfl, fun z => ?_, hus, rus.unhid⟩
    rcases z with z | z
    · exact (m2.hid D List.mem_cons_self).2 z
    · obtain ⟨⟨_, w, _⟩, _⟩ := m1.hid D z
      rw [hD] at w; cases w
  | exc _ _ => rw [e] at p1; exact p1.elim
  | bad => rw [e] at p1; exact p1.elim
theorem lc_redNA {G : Cfg} {W : WX} {it : Sl → M Src} {g : TG} {gg : CV → Sl → M Sl} {tt : Sl → M Bool} {te : Sl → M CV} {vs : List Nat} (hg : LcG G g gg vs) (hfv : vs.all G.fr = true) {σ : L2.St} {H : Hp} {Q : VK} (q : tV G W (eLcNA it gg tt te vs) σ H Q) : tLc (tItA G W it) g (tBo G W0 tt) (tV G W0 te) vs σ H Q := by
  obtain ⟨ρ, h, τ, m, s, p⟩ := q
  refine tM_bind m s p fun xs h1 ρ1 H1 J m1 e1 s1 r1 p1 D hD => ?_
  cases e : lcA gg tt te (wipeC τ vs) xs h1 with
  | ok ys hf =>
    rw [e] at p1
    simp only [frN_eq, sapp_eq] at p1
    refine lc_coreA m1 s1 r1 hD hg hfv e fun r H2 us m2 e2 hus rus => ?_
    have nD : D ∉ r := (m2.hid D List.mem_cons_self).2
    have ndd : D ∉ ρ1.d := fun z => by
      obtain ⟨⟨_, w, _⟩, _⟩ := m1.hid D z
      rw [hD] at w; cases w
    refine p1 ⟨ρ1.d, r ++ [D]⟩ H2 _ (m2.unhidN rus hus ndd) ?_ ⟨D, ?_, rfl⟩
    · refine ⟨rfl, fun i a z => ?_, e2.keep, e2.tbl, fun a z => ?_⟩
      · have z2 := e2.pre i a z
        have hi : i < r.length := (List.getElem?_eq_some_iff.mp z2).1
        show (r ++ [D])[i]? = some a
        rw [List.getElem?_append_left hi]; exact z2
      · rcases List.mem_append.mp z with z | z
        · exact e2.new a z
        · rw [List.mem_singleton.mp z]; exact .inr hD
    · show (r ++ [D])[hf.length]? = some D
      rw [← m2.len]; simp
  | exc _ _ => rw [e] at p1; exact p1.elim
  | bad => rw [e] at p1; exact p1.elim
section
variable {G : Cfg} {W : WX} {X : Cx} {pos : Pos}
theorem se_lcA {elt tg iter : Expr} {ifs : List Expr} {scope : Scope} {own : List (Str × Nat)} {it : Sl → M Src} {g : TG} {gg : CV → Sl → M Sl} {tt : Sl → M Bool} {te : Sl → M CV} (hc : X.calm = true) (hN : X.N.Nodup) (hi : SIA G W X tg iter it) (ok : BlkOk X.N X.env.scope scope own)
    (hgg : LcG G g gg (own.map (·.2))) (hg : Blk X scope fun Y => PG Y tg g) (ht : Blk X scope fun Y => PTs Y ifs (tBo G W0 tt)) (he : Blk X scope fun Y => SE G W0 Y elt te) (hs : ∀ x, foldedSetIterable iter X.env x = pure x := by intro _; rfl) (hfv : (own.map (·.2)).all G.fr = true := by rfl) :
    SE G W X (.ListComp elt [⟨tg, iter, ifs, 0⟩] scope pos) (eLcA it gg tt te (own.map (·.2))) := (pe_lc hc hN hi ok hg ht he hs).wk fun σ H Q q => lc_redA hgg hfv q
theorem se_lcNA {elt tg iter : Expr} {ifs : List Expr} {scope : Scope} {own : List (Str × Nat)} {it : Sl → M Src} {g : TG} {gg : CV → Sl → M Sl} {tt : Sl → M Bool} {te : Sl → M CV} (hc : X.calm = true) (hN : X.N.Nodup) (hi : SIA G W X tg iter it) (ok : BlkOk X.N X.env.scope scope own)
    (hgg : LcG G g gg (own.map (·.2))) (hg : Blk X scope fun Y => PG Y tg g) (ht : Blk X scope fun Y => PTs Y ifs (tBo G W0 tt)) (he : Blk X scope fun Y => SE G W0 Y elt te) (hs : ∀ x, foldedSetIterable iter X.env x = pure x := by intro _; rfl) (hfv : (own.map (·.2)).all G.fr = true := by rfl) :
    SE G W X (.ListComp elt [⟨tg, iter, ifs, 0⟩] scope pos) (eLcNA it gg tt te (own.map (·.2))) := (pe_lc hc hN hi ok hg ht he hs).wk fun σ H Q q => lc_redNA hgg hfv q
theorem ss_setLcA {i : Nat} {y : Str} {py spos : Pos} {elt tg iter : Expr} {ifs : List Expr} {scope : Scope} {own : List (Str × Nat)} {it : Sl → M Src} {g : TG} {gg : CV → Sl → M Sl} {tt : Sl → M Bool} {te : Sl → M CV} (hc : X.calm = true) (hN : X.N.Nodup) (hy : X.N[i]? = some y) (hyl : X.env.scope.names.lookup y = some .local)
    (hsw : swapsWith (.ListComp elt [⟨tg, iter, ifs, 0⟩] scope pos) (some (.Name y py)) spos.line X.env = pure true) (hi : SIA G W X tg iter it) (ok : BlkOk X.N X.env.scope scope own)
    (hgg : LcG G g gg (own.map (·.2))) (hg : Blk X scope fun Y => PG Y tg g) (ht : Blk X scope fun Y => PTs Y ifs (tBo G W0 tt)) (he : Blk X scope fun Y => SE G W0 Y elt te) (hs : ∀ x, foldedSetIterable iter X.env x = pure x := by intro _; rfl) (hfv : (own.map (·.2)).all G.fr = true := by rfl) (hfr : G.fr i = true := by rfl) :
    SS G W X (.Assign [.Name y py] (.ListComp elt [⟨tg, iter, ifs, 0⟩] scope pos) spos) (mAsg (gSet i) (eLcA it gg tt te (own.map (·.2)))) := (ps_setLc hc hN hy hyl hsw hi ok hg ht he hs).wk fun D σ H q => asg_red (fun σ H Q q => lc_redA hgg hfv q) hfr q
theorem ss_setLcNA {i : Nat} {y : Str} {py spos : Pos} {elt tg iter : Expr} {ifs : List Expr} {scope : Scope} {own : List (Str × Nat)} {it : Sl → M Src} {g : TG} {gg : CV → Sl → M Sl} {tt : Sl → M Bool} {te : Sl → M CV} (hc : X.calm = true) (hN : X.N.Nodup) (hy : X.N[i]? = some y) (hyl : X.env.scope.names.lookup y = some .local)
    (hsw : swapsWith (.ListComp elt [⟨tg, iter, ifs, 0⟩] scope pos) (some (.Name y py)) spos.line X.env = pure true) (hi : SIA G W X tg iter it) (ok : BlkOk X.N X.env.scope scope own)
    (hgg : LcG G g gg (own.map (·.2))) (hg : Blk X scope fun Y => PG Y tg g) (ht : Blk X scope fun Y => PTs Y ifs (tBo G W0 tt)) (he : Blk X scope fun Y => SE G W0 Y elt te) (hs : ∀ x, foldedSetIterable iter X.env x = pure x := by intro _; rfl) (hfv : (own.map (·.2)).all G.fr = true := by rfl) (hfr : G.fr i = true := by rfl) :
    SS G W X (.Assign [.Name y py] (.ListComp elt [⟨tg, iter, ifs, 0⟩] scope pos) spos) (mAsg (gSet i) (eLcNA it gg tt te (own.map (·.2)))) := (ps_setLc hc hN hy hyl hsw hi ok hg ht he hs).wk fun D σ H q => asg_red (fun σ H Q q => lc_redNA hgg hfv q) hfr q
end
end VE

namespace SupX
open PySem PySem.W PySem.Calls PyProof.Rows PySem.HandSPX PySem.Builtin PySem.Builtin.ObjectAttr
def iA (f : Str) (p1 p2 : Pos) : Arguments :=
  { posonlyargs := [], args := [⟨"self", none, p1⟩, ⟨f, none, p2⟩], vararg := none, kwonlyargs := [], kw_defaults := [], kwarg := none, defaults := [] }
def iB1 (f : Str) (p0 p1 p2 p3 p4 p5 : Pos) : Stmt := .Expr (.Call (.Attribute (.Call (.Name "super" p0) [] [] p1) "__init__" p2) [.Name f p3] [] p4) p5
def iB2 (f : Str) (p6 p7 p8 p9 : Pos) : Stmt := .Assign [.Attribute (.Name "self" p6) f p7] (.Name f p8) p9
def iS (f : Str) : Scope := { kind := .function, names := [("self", .local), (f, .local), ("__class__", .free), ("super", .globalImplicit)], isGenerator := false, isCoroutine := false, more := [] }
/-- what is asked of a base class's name -/
structure BaseX (B newId initId : String) (bmB : List Value) : Prop where
  F : ExcBaseFacts B newId initId bmB
  KF : KxsFacts B initId
  ob : bmB.contains (.type "object") = true
  pass : ∀ self, refuseLoop self "__setattr__" bmB = pure ()
/-- what the written part says of the class at C, named cn, its __init__ at fI; its one field is f -/
structure SupTxt (P : Program) (K : Frag) (mg : Str → Option Value) (C fI : Addr) (cn f : Str) (B newId initId : String) (bmB : List Value) : Prop where
  bx : BaseX B newId initId bmB
  gC : mg cn = some (.ref C)
  gS : mg "super" = none
  cls : ∃ nm q N bs bm sn sub ab col dd k0 k1 k2 k3 k5, K.lookup C = some (excClassObj nm q C N bs bm true sn sub ab col dd k0 k1 k2 k3 k5 newId) ∧
    (∀ X : String, bm.contains (.type X) = bmB.contains (.type X)) ∧ ∀ self, refuseLoop self "__setattr__" (.ref C :: bm) = pure ()
  sa : findIn K (.ref C) "__setattr__" = some (some (.builtin "object.__setattr__"))
  ga : findIn K (.ref C) "__getattribute__" = some (some (.builtin "BaseException.__getattribute__"))
  gg : findIn K (.ref C) "__getattr__" = some none
  noN : findIn K (.ref C) f = some none
  iC : findIn K (.ref C) "__init__" = some (some (.ref fI))
  tC : typeIn K (.ref fI) = some (.type "function")
  kC : keepIn K (.ref C) = true
  exC : subIn K (.ref C) (.type "BaseException") = some true
  suB : subIn K (.ref C) (.type B) = some true
  suC : subIn K (.ref C) (.ref C) = some true
  tyC : typeIn K (.ref C) = some (.type "type")
  hdC : hasDictIn K C = true
  isC : isClsIn K C = true
  sup : ks_superIn K C C "__init__" = some (some (.builtin initId))
  any : nsIn K cStatics "thirdparty.any" = some none
  nf : (f == ("__debug__" : Str)) = false ∧ f ≠ "self" ∧ f ≠ "super" ∧ f ≠ "__class__"
  fn : ∃ (oc : Value) (od : Option Addr) (doc pm : Value) (an : Option Addr) (cda cc : Addr) (ct : Value) (osl : Array (Option Value)) (p1 p2 q0 q1 q2 q3 q4 q5 q6 q7 q8 q9 : Pos)
      (cl ccl : Value) (cld cdd : Option Addr) (csl ccs : Array (Option Value)) (vs : Array Value) (file : Str) (tf : Tok),
    K.lookup fI = some ⟨oc, od, .func (ksFn "__init__" (cn ++ ".__init__") (iA f p1 p2) [iB1 f q0 q1 q2 q3 q4 q5, iB2 f q6 q7 q8 q9] (iS f) .none .none doc pm an (.ref cda) ct cc), osl⟩ ∧
    codeIn K (.ref cda) (cn ++ ".__init__") = true ∧ K.lookup cc = some ⟨cl, cld, .cell (some (.ref C)), csl⟩ ∧ K.lookup cda = some ⟨ccl, cdd, .fields vs, ccs⟩ ∧ vs[2]? = some (.str file tf) ∧ ((P.main.file : Str) == file) = true ∧
    (∀ (s : Shared) (a b : Value), BindsTo s (ksFn "__init__" (cn ++ ".__init__") (iA f p1 p2) [iB1 f q0 q1 q2 q3 q4 q5, iB2 f q6 q7 q8 q9] (iS f) .none .none doc pm an (.ref cda) ct cc) ⟨[a, b], []⟩ [("self", a), (f, b)]) ∧
    ∃ pl : Sem Bool, ∀ env : Env, eval (.Call (.Attribute (.Call (.Name "super" q0) [] [] q1) "__init__" q2) [.Name f q3] [] q4) env = (do
      let ov ← attributeBase (.Call (.Name "super" q0) [] [] q1) "__init__" env (eval (.Call (.Name "super" q0) [] [] q1) env)
      standAt q2.atName
      let (g, first) ← holding [ov] (getMethod ov "__init__" pl)
      callWith q4 g first (backTo q4 (starEach [.Name f q3] env)) [])
  top : (P.main.scope.names.lookup ("super" : Str)).isSome = false
end SupX
namespace SupX
open PySem PySem.W PySem.Calls PyProof.Rows PySem.HandSPX PySem.Builtin PySem.Builtin.ObjectAttr
section
variable {prog : Program} {w : World} {A : Around} {E : Value → Shared → Prop} {R : Result → Shared → Prop} {K : Frag} {mg : Str → Option Value}
/-- the first field of a made exception, whatever its base -/
theorem first_field {hp : Heap} {g : Array GenState} {d : Drawn} {t : Nat} {os : OsState} {name : Str} {tk : Tok} {v : Value} {x C : Addr} {fv : Array Value} {cd : ClassData} (X : K.In hp) (hx : hp.get? x = some { cls := .ref C, data := .fields fv })
    (hcd : clsIn K C = some cd) (hne : cd.mro.isEmpty = false) (hob : cd.mro.contains (.type "object") = true) (hps : ∀ self, refuseLoop self "__setattr__" cd.mro = pure ()) (hh : cd.hasDict = true) (ha : findIn K (.ref C) name = some none)
    (hq : ∀ h' tk' dx, (∀ b o, b ≠ x → hp.get? b = some o → h'.get? b = some o) → hp.objs.size ≤ dx → dx ≠ x → h'.get? x = some { cls := .ref C, dict := some dx, data := .fields fv } → h'.Ns1 dx (fun y => if y = name then some v else none) → R (.ok (.ret .none)) ⟨h', g, d, tk', os⟩) :
    codeAny (model prog w) A (.call (.builtin "object.__setattr__") ⟨[.ref x, .str name tk, v], []⟩) R ⟨hp, g, d, t, os⟩ := by
  have inst : InstAt hp x { cls := .ref C, data := .fields fv } C none := ⟨hx, rfl, rfl, trivial⟩
  have xn : x ≠ hp.objs.size := Nat.ne_of_lt (Heap.lt_size hx)
  have isOb : Looks (model prog w) hp (isInstance (.ref x) (.type "object")) true := inst.type.andThen (looks_mroIn X (by unfold mroIn; rw [hcd, Option.bind_some, if_neg (by rw [hne]; decide), hob]))
  have lm : Looks (model prog w) hp (mroOf (.ref C)) cd.mro := (looks_clsIn X hcd).andThen .now
  have lc : Looks (model prog w) hp (classData C) cd := looks_clsIn X hcd
  have ls : Looks (model prog w) hp (storeTaker? none) none := .now
  refine codeAny_call_builtin F.store_object.slot.plain F.store_object.entry (@check_slot (model prog w) _ _ ⟨hp, g, d, t, os⟩ "object.__setattr__" "object" "__setattr__" (.ref x) [.str name tk, v] [] _ F.store_object.kind F.store_object.split isOb (F.store_object.args (.ref x) (.str name tk) v) ?_)
  rw [osa_eq, refuse_eq]
  refine wpAny_bind (wpAny_bind (inst.type.at (wpAny_bind (lm.at ?_))))
  rw [hps]
  refine wpAny_pure (wpAny_bind (inst.type.at (wpAny_bind ((looks_findIn X ha).at (wpAny_bind (ls.at ?_))))))
  show wpAny _ _ (storeInOwnDict (.ref x) (.ref C) (.str name tk) name v false) _ _ _
  obtain ⟨nm, bs, mro, ns, qn, hd, sn, sb, ab, col, del⟩ := cd
  have hh : hd = true := hh
  subst hh
  unfold storeInOwnDict ownDictForStores
  repeat (first | with_reducible refine store_in_new ?_ ?_ | with_reducible refine wpAny_loadPart_at hx ?_ | with_reducible refine lc.at ?_ | wp_step)
  · exact ⟨_, #[], _, (Heap.get?_update_ne _ _ _ _ xn.symm).trans (Heap.get?_push_at rfl rfl), rfl, fun e he => absurd he (by simp), fun _ => rfl⟩
  · intro h' tk' hn' hs
    refine hq h' tk' hp.objs.size (fun b o hb ho => ?_) (Nat.le_refl _) xn.symm ((hs.2 x xn).trans (Heap.get?_update_self _ (Heap.get?_push_of_some { cls := .type "dict", data := .dict #[] } hx) rfl)) hn'
    exact (hs.2 b (Nat.ne_of_lt (Heap.lt_size ho))).trans ((Heap.get?_update_ne _ _ _ _ hb).trans (Heap.get?_push_of_some _ ho))
theorem ldLoc {env : Env} {s : Shared} {m : Str → Option Value} {x : Str} {pos : Pos} {v : Value} {Q : Value → Shared → Prop} (hn : s.heap.Ns env.locals m) (hv : m x = some v) (h : Q v s)
    (hk : env.scope.kind = .function) (hl : env.kindOf x = some .local) (hd : (x == ("__debug__" : Str)) = false) : wpAny (model prog w) A (eval (.Name x pos) env) Q E s := wpAny_Name (wpAny_loadName_local hk hl hn hv h) hd
/-- the built-in __init__, bound, called: the args are laid anew -/
theorem call_mw {B newId initId : String} {bmB : List Value} {nm q : Str} {C N u x t0 : Addr} {bs bm : List Value} {hdct : Bool} {sn : List Str} {sub : List Value} {ab : Bool} {col : Option Bool} {dd : Option Addr} {k0 k1 k2 k3 k5 : Option Value} {s : Shared} {rest : List Value} {Q : Value → Shared → Prop}
    (F : ExcBaseFacts B newId initId bmB) (hC : s.heap.get? C = some (excClassObj nm q C N bs bm hdct sn sub ab col dd k0 k1 k2 k3 k5 newId)) (hx : s.heap.get? x = some (excO C t0)) (hu : s.heap.get? u = some (kxs_mw initId x)) (hz : rest.length ≤ sizeLine)
    (hq : ∀ h' t1, (∀ b o, b ≠ x → s.heap.get? b = some o → h'.get? b = some o) → h'.get? x = some (excO C t1) → Q .none { s with heap := h' }) : wpAny (model prog w) A (call (.ref u) rest) Q E s := by
  obtain ⟨hh, g, d, tk, os⟩ := s
  refine wpAny_call (codeAny_of_tree ?_)
  show wpAny (model prog w) A.in1 (callAny (.ref u) ⟨rest, []⟩) _ _ _
  simp only [callAny]
  refine wpAny_bind (wpAny_load hu ?_)
  simp only [kxs_mw, show (Value.type "method-wrapper" == Value.type "method" || Value.type "method-wrapper" == Value.type "builtin_function_or_method" || Value.type "method-wrapper" == Value.type "method-wrapper") = true by decide, if_true]
  refine KFB.if_so (by decide) (wpAny_bind (check_bound_init F.toExcCallFacts hC hx rfl (wpAny_bind (wpAny_pure (wpAny_pure ⟨plainId_quiet F.init.plain _, codeAny_builtin F.initEntry ?_⟩)))))
  exact exc_init_tree (cls := .ref C) (t0 := t0) (dv := none) (c2 := .none) (c3 := .none) (b4 := .bool false) hx hz fun h' k e _ => hq h' _ k e
end
end SupX
namespace SupX
open PySem PySem.W PySem.Calls PyProof.Rows PySem.HandSPX PySem.Builtin PySem.Builtin.ObjectAttr
section
variable {prog : Program} {w : World} {A : Around} {E : Value → Shared → Prop} {R : Result → Shared → Prop} {K : Frag} {mg : Str → Option Value} {C fI : Addr} {cn f : Str} {B newId initId : String} {bmB : List Value}
theorem lk_self (f : Str) : (iS f).names.lookup ("self" : Str) = some .local := rfl
theorem lk_f {f : Str} (n : f ≠ "self") : (iS f).names.lookup f = some .local := by
  show (match f == ("self" : Str) with | true => some NameKind.local | false => _) = _
  rw [beq_eq_false_iff_ne.mpr n]
  show (match f == f with | true => some NameKind.local | false => _) = _
  rw [beq_self_eq_true]
theorem lk_cls {f : Str} (n : f ≠ "__class__") : (iS f).names.lookup ("__class__" : Str) = some .free := by
  show (match ("__class__" : Str) == f with | true => some NameKind.local | false => _) = _
  rw [beq_eq_false_iff_ne.mpr (Ne.symm n)]
  rfl
theorem lk_super {f : Str} (n : f ≠ "super") : (iS f).names.lookup ("super" : Str) = some .globalImplicit := by
  show (match ("super" : Str) == f with | true => some NameKind.local | false => _) = _
  rw [beq_eq_false_iff_ne.mpr (Ne.symm n)]
  rfl
theorem sup_init (T : SupTxt prog K mg C fI cn f B newId initId bmB) {s : Shared} {base : Heap} {x t0 : Addr} {v : Value} (M : L2.Mod K mg base) (kb : ∀ b o, base.get? b = some o → s.heap.get? b = some o) (hx : s.heap.get? x = some (excO C t0)) (hxb : base.get? x = none) (hroom : A.depth < recursionLimit)
    (hq : ∀ h' tk dx t1, (∀ b o, b ≠ x → s.heap.get? b = some o → h'.get? b = some o) → h'.get? x = some { cls := .ref C, dict := some dx, data := .fields #[.ref t1, .none, .none, .none, .bool false, .none] } → s.heap.objs.size ≤ dx → dx ≠ x → h'.Ns1 dx (fun y => if y = f then some v else none) → R (.ok (.ret .none)) { s with heap := h', toks := tk }) :
    codeAny (model prog w) A (.call (.ref fI) ⟨[.ref x, v], []⟩) R s := by
  obtain ⟨oc, od, doc, pm, an, cda, cc, ct, osl, p1, p2, q0, q1, q2, q3, q4, q5, q6, q7, q8, q9, cl, ccl, cld, cdd, csl, ccs, vs, file, tf, ho, hcd, hcc, hcda, hvs, hfile, hbind, pl, hev⟩ := T.fn
  obtain ⟨nm, q, N, bs, bm, sn, sub, ab, col, dd, k0, k1, k2, k3, k5, hC, hbm, hpass⟩ := T.cls
  obtain ⟨nd, nself, nsup, ncls⟩ := T.nf
  have X : K.In s.heap := M.kin.keeps kb
  have hcl : clsIn K C = some { name := nm, bases := bs, mro := .ref C :: bm, ns := N, qualname := q, hasDict := true, slotNames := sn, subclasses := sub, abstract := ab, collection := col, hasDel := false } := by unfold clsIn; rw [hC] <;> rfl
  obtain ⟨mb, hmb, hbb⟩ := M.blt
  refine ks_codeAny_call_defAt (binds := [("self", .ref x), (f, v)]) hroom (X _ _ ho) rfl (M.nolimit.keeps kb) (codeRec_of X hcd) rfl (hbind s (.ref x) v) ?_ ?_ (fun h₁ hns kp => ?_) rfl rfl rfl
  · intro y hy
    have hy : y ∈ [(("self" : Str), NameKind.local), (f, .local), ("__class__", .free), ("super", .globalImplicit)] := hy
    simp only [List.mem_cons, List.not_mem_nil, or_false] at hy
    rcases hy with rfl | rfl | rfl | rfl <;> (intro z; cases z)
  · intro y hy
    simp only [List.mem_cons, List.not_mem_nil, or_false] at hy
    rcases hy with rfl | rfl
    · exact lk_self f
    · exact lk_f nself
  show _root_.PySem.wpAt (model prog w) (A.deeper (ksEnv (cn ++ ".__init__") (iS f) s.heap.objs.size fI (.ref cda) cc)) (.func _ (ksEnv (cn ++ ".__init__") (iS f) s.heap.objs.size fI (.ref cda) cc)) (execs _ (ksEnv (cn ++ ".__init__") (iS f) s.heap.objs.size fI (.ref cda) cc)) _ _ _
  have kb₁ : ∀ b o, base.get? b = some o → h₁.get? b = some o := fun b o e => kp b o (kb b o e)
  have X₁ : K.In h₁ := M.kin.keeps kb₁
  have hx₁ := kp _ _ hx
  have vself : ([("self", Value.ref x), (f, v)] : List (Str × Value)).reverse.lookup ("self" : Str) = some (.ref x) := by
    show (match ("self" : Str) == f with | true => some v | false => _) = _
    rw [beq_eq_false_iff_ne.mpr (Ne.symm nself)]
    rfl
  have vf : ([("self", Value.ref x), (f, v)] : List (Str × Value)).reverse.lookup f = some v := by
    show (match f == f with | true => some v | false => _) = _
    rw [beq_self_eq_true]
  have nxC : x ≠ C := fun z => by
    have e := X _ _ hC
    rw [← z, hx] at e
    cases e
  -- super().__init__(f)
  refine ks_wpAt_execs_cons (ks_wpAt_Expr_any (ks_wpAt_MethodCall (pl := pl) ?_ (hev _)))
  refine ks_wpAt_super_base (of := _) (lk_super nsup) (lk_cls ncls) (by decide) rfl (X₁ _ _ ho) rfl rfl rfl (X₁ _ _ hcda) rfl hvs hfile T.top ?_
  refine ks_loadName_global rfl (lk_super nsup) (loadGlobal_builtin (M.glob.keeps kb₁) T.gS (hmb.keeps kb₁) ((hbb "super" (by decide)).trans (by first | boot_by_name | rfl | kernel_rfl)) ⟨rfl, ?_⟩)
  refine wpAny_loadName_free rfl (lk_cls ncls) rfl ⟨_, X₁ _ _ hcc, rfl⟩ ?_
  refine wpAny_loadName_local rfl (lk_self f) hns vself ?_
  refine ks_wpAny_isType_cls (X₁ _ _ hC) rfl ⟨rfl, ?_⟩
  have hsub : mroIn K C (.ref C) = some true := by
    unfold mroIn
    rw [hcl, Option.bind_some, if_neg (show ¬ (List.isEmpty (Value.ref C :: bm) = true) from Bool.false_ne_true), List.contains_cons, beq_self_eq_true, Bool.true_or]
  refine ks_wpAny_call_super (X₁ _ _ hC) rfl hx₁ rfl (fun c e => by cases e) (looks_mroIn X₁ hsub) (fun h₂ hso k₂ => ?_)
  have kb₂ : ∀ b o, base.get? b = some o → h₂.get? b = some o := fun b o e => k₂ b o (kb₁ b o e)
  have X₂ : K.In h₂ := M.kin.keeps kb₂
  have hx₂ := k₂ _ _ hx₁
  have inst₂ : InstAt h₂ x (excO C t0) C none := ⟨hx₂, rfl, rfl, trivial⟩
  have hal : alongIn K "__init__" (((Value.ref C :: bm).dropWhile (· != .ref C)).drop 1) = some (some (.builtin initId)) := by
    have e := T.sup
    unfold ks_superIn at e
    rw [hcl, Option.bind_some] at e
    exact e
  refine kxs_getMethod T.bx.KF hso (looks_opaque X₂ T.any) (l₀ := .ref C :: bm) (fun A Q E s k q => wpAny_bind ((looks_clsIn X₂ hcl) A _ E s k (wpAny_pure q))) rfl X₂ hal (inst₂.type.andThen (looks_subIn X₂ T.suB)) nxC (by decide) ?_
  have k₃ : ∀ b o, h₁.get? b = some o → (h₂.push (kxs_mw initId x)).get? b = some o := fun b o e => Heap.get?_push_of_some _ (k₂ b o e)
  have hu : (h₂.push (kxs_mw initId x)).get? h₂.objs.size = some (kxs_mw initId x) := Heap.get?_push_size _ rfl
  refine kxs_callWith (i := initId) (x := x) rfl (evalArgs_plain (spliced_cons (ldLoc (hns.keeps k₃) vf (spliced_nil ⟨hu, ?_⟩) rfl (lk_f nself) nd)))
  refine call_mw T.bx.F (k₃ _ _ (X₁ _ _ hC)) (k₃ _ _ hx₁) hu (by rw [sizeLine_eq]; show 1 ≤ _; omega) (fun h₄ t1 k₄ hx₄ => ?_)
  have kb₄ : ∀ b o, base.get? b = some o → h₄.get? b = some o := fun b o e => k₄ b o (fun z => by rw [z, hxb] at e; cases e) (k₃ b o (kb₁ b o e))
  have X₄ : K.In h₄ := M.kin.keeps kb₄
  have hns₄ : h₄.Ns s.heap.objs.size (fun y => ([("self", Value.ref x), (f, v)] : List (Str × Value)).reverse.lookup y) := by
    obtain ⟨oL, es, ep, hL, r⟩ := hns
    exact ⟨oL, es, ep, k₄ _ _ (Nat.ne_of_gt (Heap.lt_size hx)) (k₃ _ _ hL), r⟩
  -- self.f = f
  refine ks_wpAt_execs_cons (_root_.PySem.wpAt_of_wpAny (plainObj_wpAny_Assign_Attribute (ldLoc hns₄ vf (ldLoc hns₄ vself (set_plain X₄ (ox := excO C t1) (od := none) ⟨hx₄, rfl, rfl, trivial⟩ T.sa ?_) rfl (lk_self f) (by decide)) rfl (lk_f nself) nd)))
  refine first_field X₄ hx₄ hcl rfl (by rw [List.contains_cons, hbm, T.bx.ob, Bool.or_true]) hpass rfl T.noN (fun h₅ tk₅ dx k₅ dn dne hx₅ hn₅ => ?_)
  have sz : s.heap.objs.size < h₄.objs.size := hns₄.lt
  refine _root_.PySem.wpAt_of_wpAny (wpAny_execs_nil ?_)
  exact hq h₅ tk₅ dx t1 (fun b o hb e => k₅ b o hb (k₄ b o hb (k₃ b o (kp b o e)))) hx₅ (Nat.le_of_lt (Nat.lt_of_lt_of_le sz dn)) dne hn₅
end
end SupX
namespace SupX
open PySem PySem.W PySem.Calls PyProof.Rows PySem.HandSPX
section
variable {prog : Program} {w : World} {A : Around} {R : Result → Shared → Prop} {K : Frag} {mg : Str → Option Value} {C fI : Addr} {cn f : Str} {B newId initId : String} {bmB : List Value}
/-- a made exception: it stands at e, its dict at d holds its field -/
structure SupMade (h h' : Heap) (e C d : Addr) (f : Str) (v : Value) : Prop where
  keep : ∀ b o, h.get? b = some o → h'.get? b = some o
  new : h.objs.size ≤ e
  obj : ∃ t, h'.get? e = some { cls := .ref C, dict := some d, data := .fields #[.ref t, .none, .none, .none, .bool false, .none] }
  dbig : h.objs.size ≤ d
  dne : d ≠ e
  ns : h'.Ns1 d (fun y => if y = f then some v else none)
theorem sup_made (T : SupTxt prog K mg C fI cn f B newId initId bmB) {s : Shared} {base : Heap} {v : Value} (M : L2.Mod K mg base) (kb : ∀ b o, base.get? b = some o → s.heap.get? b = some o) (hroom : A.depth + 1 < recursionLimit)
    (hq : ∀ h' tk e d, SupMade s.heap h' e C d f v → R (.ok (.ret (.ref e))) { s with heap := h', toks := tk }) : codeAny (model prog w) A (.call (.ref C) ⟨[v], []⟩) R s := by
  obtain ⟨nm, q, N, bs, bm, sn, sub, ab, col, dd, k0, k1, k2, k3, k5, hC, hbm, _⟩ := T.cls
  have X : K.In s.heap := M.kin.keeps kb
  obtain ⟨hp, g, dr, tk, os⟩ := s
  have up : ∀ b o, hp.get? b = some o → ((hp.push (kdv_tup [v])).push (excO C hp.objs.size)).get? b = some o := fun b o e => Heap.get?_push_of_some _ (Heap.get?_push_of_some _ e)
  have new : base.get? (hp.objs.size + 1) = none := by
    cases e : base.get? (hp.objs.size + 1) with
    | none => rfl
    | some o =>
      have := Heap.lt_size (kb _ _ e)
      exact absurd this (show ¬ hp.objs.size + 1 < hp.objs.size by omega)
  refine call_own T.bx.F hbm (X _ _ hC) (looks_findIn X T.iC) (fun self => bind_fn X self T.tC) (by rw [sizeLine_eq]; show 1 ≤ _; omega) ?_
  refine sup_init (s := ⟨(hp.push (kdv_tup [v])).push (excO C hp.objs.size), g, dr, tk, os⟩) T M (fun b o e => up b o (kb b o e)) (by heap_get) new hroom fun h' tk' dx t1 k' hx dn dne hns => ?_
  have sz : ((hp.push (kdv_tup [v])).push (excO C hp.objs.size)).objs.size = hp.objs.size + 2 := by rw [Heap.size_push, Heap.size_push]
  have dn : hp.objs.size + 2 ≤ dx := by rw [← sz]; exact dn
  exact ⟨rfl, hq h' tk' (hp.objs.size + 1) dx ⟨fun b o e => k' b o (Nat.ne_of_lt (Nat.lt_succ_of_lt (Heap.lt_size e))) (up b o e), Nat.le_succ _, ⟨t1, hx⟩, (by show hp.objs.size ≤ dx; omega), dne, hns⟩⟩
end
end SupX
noncomputable section
namespace VE
open PySem PySem.Spec PyProof.Rows L2
section
variable {X : Cx} {C fI : Addr} {cn f : Str} {B newId initId : String} {bmB : List Value}
/-- X(e) -/
def tMkS (C : Addr) (f : Str) (ta : TA) : L2.St → Hp → XK → Prop := fun σ H Q => ta σ H fun vs H1 => ∃ v, vs = [v] ∧ ∀ d, H1 d = none → Q (.ref C) (some d) (upd H1 d (.xd [(f, v)]))
theorem relO_one {v : V} {u : Value} {f : Str} (r : RelV v u) (g : Str) : RelO (List.lookup g [(f, v)]) (if g = f then some u else none) := by
  by_cases hw : g = f
  · subst hw
    rw [if_pos rfl, show List.lookup g [(g, v)] = some v by simp [List.lookup]]
    exact r
  · rw [if_neg hw, show List.lookup g [(f, v)] = none by simp [List.lookup, show (g == f) = false by simpa using hw]]
    trivial
theorem pmk_sup {a : Expr} {ta : TA} {p pos : Pos} {k : Nat} (T : SupX.SupTxt X.prog X.K X.mg C fI cn f B newId initId bmB) (hr : Room k X.A) (ha : PA X [a] ta) (hg : Gl X cn) (hdb : (cn == ("__debug__" : Str)) = false := by decide)
    (he : starEach (a :: []) X.env = (false, eval a X.env) :: starEach [] X.env := by rfl) (hpl : (backTo pos (starEach [] X.env)).any (·.1) = false := by rfl) : PMk X (.Call (.Name cn p) [a] [] pos) (tMkS C f ta) := by
  intro pins s σ H Q I h
  refine wpAny_Call_Name_kw (ld_glob I hg T.gC ?_ hdb)
  refine PySem.W.callWith_K (h₀ := X.base) I.ok.mod.kin T.kC (thn (ha.run pos pins s σ H _ I h) fun us s1 ⟨vs, H1, I1, r1, v, ev, q1⟩ => ⟨I1.kIn, ?_⟩) he hpl
  subst ev
  obtain ⟨v', rfl, rv⟩ : ∃ v', us = [v'] ∧ RelV v v' := by
    cases r1 with
    | cons r rr => cases rr; exact ⟨_, rfl, r⟩
  · show wpAny _ _ (call (.ref C) [v']) _ _ _
    have mod := I1.mod
    have bk := I1.bk
    obtain ⟨hp, g, dr, tk, os⟩ := s1
    refine wpAny_call (SupX.sup_made T mod bk (by have := hr.dp; omega) fun h' tk' e d M => ?_)
    show MkP X pins σ Q (.ref e) ⟨h', g, dr, tk', os⟩
    obtain ⟨t, ho⟩ := M.obj
    obtain ⟨G', g1, g2⟩ := restrict h' fun b => decide (b ≠ e)
    have gk : ∀ b, b ≠ e → G'.get? b = h'.get? b := fun b hb => g1 b (decide_eq_true hb)
    have ge : G'.get? e = none := g2 e (by simp)
    have old : ∀ b o, hp.get? b = some o → G'.get? b = some o := fun b o q => (gk b (Nat.ne_of_lt (Nat.lt_of_lt_of_le (Heap.lt_size q) M.new))).trans (M.keep b o q)
    have J : Inv X pins σ (upd H1 d (.xd [(f, v)])) ⟨G', g, dr, tk', os⟩ := I1.laid (t' := tk') old M.dbig ⟨_, M.ns.at (fun o q => (gk d M.dne).trans q), fun g => relO_one rv g⟩
    refine ⟨e, _, _, ⟨G', g, dr, tk', os⟩, _, .ref C, some d, rfl, J, fun b o q => ?_, ge, ho, ⟨rfl, rfl⟩, rfl, rfl, ?_, rfl, I1.bare, raises_own T.exC T.tyC, q1 d (I1.hok.fresh M.dbig)⟩
    · by_cases hb : b = e
      · have q : G'.get? b = some o := q
        rw [hb, ge] at q; cases q
      · exact (gk b hb).symm.trans q
    · rw [upd_ne (Ne.symm M.dne)]
      exact I1.hok.fresh M.new
/-- an exception that keeps its argument -/
def xArg (k : Nat) (e : Sl → M CV) : Sl → M Exn := fun τ => bnd (e τ) fun x => ret ⟨k, [x]⟩
theorem sx_sup {G : Cfg} {W : WX} {a : Expr} {me : Sl → M CV} {p pos : Pos} {k j : Nat} (T : SupX.SupTxt X.prog X.K X.mg C fI cn f B newId initId bmB) (hr : Room j X.A) (hk : G.cls k = C) (hf : G.fld k = [f]) (ha : SE G W X a me) (hg : Gl X cn) (hdb : (cn == ("__debug__" : Str)) = false := by decide)
    (he : starEach (a :: []) X.env = (false, eval a X.env) :: starEach [] X.env := by rfl) (hpl : (backTo pos (starEach [] X.env)).any (·.1) = false := by rfl) : SX G W X (.Call (.Name cn p) [a] [] pos) (xArg k me) := by
  intro pins s σ H Q I h
  refine pmk_sup T hr (pa_cons ha pa_nil he) hg hdb he hpl pins s σ H Q I ?_
  obtain ⟨ρ, h, τ, m, s, p⟩ := h
  refine ⟨ρ, h, τ, m, s, ?_⟩
  unfold xArg at p
  cases e : me τ h with
  | ok x h1 =>
    simp only [bnd, e] at p
    intro ρ1 H1 u m1 e1 r1
    refine ⟨u, rfl, fun d hd => p ρ1 _ _ _ (m1.laid hd) (e1.trans (Ext.laid hd)) ⟨by rw [hk], .inr ⟨d, _, rfl, upd_same, by rw [hf]; rfl, u, [], rfl, r1.ext m1 (Ext.laid hd), rfl⟩⟩⟩
  | exc x h1 => simp only [bnd, e] at p; exact p
  | bad => simp only [bnd, e] at p
end
end VE

noncomputable section
namespace VE
open PySem PySem.Spec PyProof.Rows L2
abbrev Cl := Value × Option Nat × (Addr → Value → Option Addr → TS)
/-- the ends, with slot i emptied -/
def offAt (i : Nat) (D : Ends) : Ends := ⟨fun σ H => D.nx (σ.set i none) H, D.rt, fun σ H => D.bk (σ.set i none) H, fun σ H => D.ct (σ.set i none) H⟩
def wMix (K : PySem.W.Frag) (Wo : WX) (D : Ends) : List Cl → WX
  | [] => Wo
  | (c, none, ts) :: r => fun cls d σ H => ∃ b, PySem.W.exmOne K cls c = some b ∧ (b = true → ∀ a, H a = none → ts a cls d D σ H) ∧ (b = false → wMix K Wo D r cls d σ H)
  | (c, some i, ts) :: r => fun cls d σ H => ∃ b, PySem.W.exmOne K cls c = some b ∧ (b = true → ∀ a, H a = none → ts a cls d (offAt i D) (σ.set i (some (.ref a))) H) ∧ (b = false → wMix K Wo D r cls d σ H)
/-- the suite of a clause, the exception at a -/
def SuOk (X : Cx) (su : List Stmt) (ts : Addr → Value → Option Addr → TS) : Prop :=
  ∀ (a : Addr) (oe : Obj) (cls : Value) (d : Option Addr) (pn : List (Addr × Obj)), Zc cls d oe → (∃ vs, oe.data = .fields vs) → PSs (X.suite a ((a, oe) :: pn)) su (ts a cls d)
inductive ClsOk (X : Cx) : List ExceptHandler → List Cl → Prop
  | nil : ClsOk X [] []
  | bare {x : Str} {c : Value} {ts : Addr → Value → Option Addr → TS} {b₀ : Stmt} {su : List Stmt} {np ps : Pos} {hs : List ExceptHandler} {l : List Cl} (hc : Names X x c) (hu : SuOk X (b₀ :: su) ts) (r : ClsOk X hs l) :
      ClsOk X (.ExceptHandler (some (.Name x np)) none (b₀ :: su) ps :: hs) ((c, none, ts) :: l)
  | named {x n : Str} {i : Nat} {c : Value} {ts : Addr → Value → Option Addr → TS} {b₀ : Stmt} {su : List Stmt} {np ps : Pos} {hs : List ExceptHandler} {l : List Cl} (hc : Names X x c) (hN : X.N.Nodup) (hi : X.N[i]? = some n) (hn : X.env.kindOf n = some .local)
      (hu : SuOk X (b₀ :: su) ts) (r : ClsOk X hs l) : ClsOk X (.ExceptHandler (some (.Name x np)) (some n) (b₀ :: su) ps :: hs) ((c, some i, ts) :: l)
section
variable {X : Cx} {body : List Stmt} {e₀ : ExceptHandler} {es : List ExceptHandler} {l : List Cl} {pos : Pos} {tb : WX → TS} {Wo : WX}
/-- an exception in the air of X, at a, noted and unset; sI: the state without it -/
structure Air (X : Cx) (pins : List (Addr × Obj)) (B : Heap) (a : Addr) (cls : Value) (d : Option Addr) (σ : L2.St) (H : Hp) (sI sx : Shared) : Prop where
  inv : Inv X pins σ H sI
  nb : ∀ b o, sI.heap.get? b = some o → b ∉ frs X.stack → B.get? b = some o
  up : sI.heap.UpToSlots sx.heap
  fl : HandSPX.FlyingZ B (X.env :: X.outer) a (Zc cls d) sx.heap
  na : H a = none
  os : sx.os = sI.os
  ag : AllBare sx.gens
variable {pins : List (Addr × Obj)} {B : Heap} {a : Addr} {cls : Value} {d : Option Addr} {σ : L2.St} {H : Hp} {sI sx : Shared} {D : Ends}
theorem Air.next (A : Air X pins B a cls d σ H sI sx) {h : Heap} (fl : HandSPX.FlyingZ B (X.env :: X.outer) a (Zc cls d) h) (up : sx.heap.UpToSlots h) : Air X pins B a cls d σ H sI { sx with heap := h } :=
  ⟨A.inv, A.nb, A.up.trans up, fl, A.na, A.os, A.ag⟩
/-- the state within a clause -/
theorem Air.inside (A : Air X pins B a cls d σ H sI sx) (hf : X.env.frame = some X.env.locals) : ∃ oe, Zc cls d oe ∧ (∃ vs, oe.data = .fields vs) ∧ sx.heap.get? a = some oe ∧ Inv (X.suite a ((a, oe) :: (X.pn ++ pins))) [] σ H sx := by
  obtain ⟨oe, vs, at_, z, dt⟩ := A.fl.there
  have out : a ∉ frs (X.env :: X.outer) := fun m => by
    obtain ⟨_, o, e, n⟩ := A.fl.2.2.1.mem m
    rw [at_] at e
    cases e
    exact n _ dt
  refine ⟨oe, z, ⟨vs, dt⟩, at_, (A.inv.landed A.nb A.fl.1 A.up A.os A.ag).suite at_ dt A.na (fun q => out ?_) fun m => out ?_⟩
  · exact List.mem_filterMap.mpr ⟨X.env, List.mem_cons_self, by rw [hf, q]⟩
  · obtain ⟨v, m1, m2⟩ := List.mem_filterMap.mp m
    exact List.mem_filterMap.mpr ⟨v, List.mem_cons_of_mem _ m1, m2⟩
/-- the name in a clause's head, asked within -/
theorem head_name {x : Str} {c : Value} {np : Pos} (hc : Names X x c) {oe : Obj} {Q : Value → Shared → Prop} {E : Value → Shared → Prop} (S : Inv (X.suite a ((a, oe) :: (X.pn ++ pins))) [] σ H sx) (q : Q c sx) :
    wpAny (model X.prog X.w) (X.A.mark (some (.ref a))) (eval (.Name x np) X.env) Q E sx := by
  obtain ⟨hg, hdb, q1 | ⟨q1, q2, q3⟩⟩ := hc
  · exact ld_glob (X := X.suite a ((a, oe) :: (X.pn ++ pins))) S hg q1 q hdb
  · exact ld_blt (X := X.suite a ((a, oe) :: (X.pn ++ pins))) S hg q1 q2 q q3 hdb
theorem Air.clauses (hs : X.stack = X.env :: X.outer) (hf : X.env.frame = some X.env.locals) (tk : Takes X Wo) (ok : X.Ok) : ∀ {hds : List ExceptHandler} {l : List Cl}, ClsOk X hds l → ∀ {sx : Shared}, Air X pins B a cls d σ H sI sx → wMix X.K Wo D l cls d σ H →
    wpAny (model X.prog X.w) X.A (handleBy (.ref a) X.env hds) (SP X pins D) X.xe sx := by
  intro hds l hk
  induction hk with
  | nil =>
    intro sx A w
    refine wpAny_handleBy_nil ?_
    obtain ⟨_, _, _, oe, vs, T, oT, ts, he, _, hd, h1, _⟩ := id A.fl
    unfold PySem.passOn
    refine wpAny_bind (wpAny_field he hd h1 ?_)
    rw [if_neg (show ¬ ((Value.ref T == Value.none) = true) by simp)]
    have out : wpAny (model X.prog X.w) X.A (setFlight (.ref a) X.env.frame) (fun _ s4 => wpAny (model X.prog X.w) X.A (throw (.ref a) : Sem Flow) (SP X pins D) X.xe s4) X.xe sx := by
      rw [hf]
      exact HandSPX.setFlight_upZ A.fl fun h4 hh up => wpAny_throw (tk _ _ ⟨a, B, sI, pins, σ, H, cls, d, rfl, A.inv, A.nb, A.up.trans up, .inr (.inr (hs ▸ hh)), A.na, A.os, A.ag, w⟩)
    first | exact wpAny_bind (wpAny_pure (wpAny_bind out)) | exact wpAny_bind out
  | @bare x c ts b₀ su np ps hds2 l2 hc hu r ih =>
    intro sx A w
    obtain ⟨b, hb, yes, no⟩ := w
    obtain ⟨oe, z, dt, at_, S⟩ := A.inside hf
    refine wpAny_handleBy_cons (codeAny_handlers_test (head_name hc S ?_)) (fun q => nomatch q)
    have ty : PySem.W.Looks (model X.prog X.w) sx.heap (typeOf (.ref a)) cls := fun A Q E s k q => wpAny_typeOf_ref (k _ _ at_) (z.1 ▸ q)
    refine (PySem.W.exm_one (M := model X.prog X.w) S.kIn ty hb).here ?_
    cases b with
    | false => exact ih A (no rfl)
    | true =>
      refine codeAny_handlers_suite (HandSPX.lands_againZ A.fl fun h4 fl4 up4 => ?_)
      have A4 := A.next fl4 up4
      obtain ⟨oe4, z4, dt4, _, S4⟩ := A4.inside hf
      refine wpAny_mono ((hu a oe4 cls d (X.pn ++ pins) z4 dt4).run [] _ _ H _ S4 (yes rfl a A.na)) (fun f s6 q => ?_) (fun _ _ q => False.elim q)
      cases f with
      | ret u => obtain ⟨v, σ6, H6, S6, rv, q6⟩ := q; exact ⟨v, σ6, H6, S6.unsuite ok, rv, q6⟩
      | next => obtain ⟨σ6, H6, S6, q6⟩ := q; exact ⟨σ6, H6, S6.unsuite ok, q6⟩
      | brk => obtain ⟨σ6, H6, S6, q6⟩ := q; exact ⟨σ6, H6, S6.unsuite ok, q6⟩
      | cont => obtain ⟨σ6, H6, S6, q6⟩ := q; exact ⟨σ6, H6, S6.unsuite ok, q6⟩
  | @named x n i c ts b₀ su np ps hds2 l2 hc hN hi hn hu r ih =>
    intro sx A w
    obtain ⟨b, hb, yes, no⟩ := w
    obtain ⟨oe, z, dt, at_, S⟩ := A.inside hf
    refine wpAny_handleBy_cons (codeAny_handlers_test (head_name hc S ?_)) (fun q => nomatch q)
    have ty : PySem.W.Looks (model X.prog X.w) sx.heap (typeOf (.ref a)) cls := fun A Q E s k q => wpAny_typeOf_ref (k _ _ at_) (z.1 ▸ q)
    refine (PySem.W.exm_one (M := model X.prog X.w) S.kIn ty hb).here ?_
    cases b with
    | false => exact ih A (no rfl)
    | true =>
      refine codeAny_handlers_suite_as (HandSPX.lands_againZ A.fl fun h4 fl4 up4 => ?_)
      have A4 := A.next fl4 up4
      obtain ⟨oe4, z4, dt4, _, S4⟩ := A4.inside hf
      refine store_ok (X := X.suite a ((a, oe4) :: (X.pn ++ pins))) (v := .ref a) S4 hN hi (.inl hn) rfl (fun s5 S5 => ?_) (.inr hn)
      refine wpAny_mono ((hu a oe4 cls d (X.pn ++ pins) z4 dt4).run [] s5 _ H _ S5 (yes rfl a A.na)) (fun f s6 q => ?_) (fun _ _ q => False.elim q)
      cases f with
      | ret u => obtain ⟨v, σ6, H6, S6, rv, q6⟩ := q; exact gone_ok (S6.unsuite ok) hN hi hn fun s7 J => ⟨v, _, H6, J, rv, q6⟩
      | next => obtain ⟨σ6, H6, S6, q6⟩ := q; exact gone_ok (S6.unsuite ok) hN hi hn fun s7 J => ⟨_, H6, J, q6⟩
      | brk => obtain ⟨σ6, H6, S6, q6⟩ := q; exact gone_ok (S6.unsuite ok) hN hi hn fun s7 J => ⟨_, H6, J, q6⟩
      | cont => obtain ⟨σ6, H6, S6, q6⟩ := q; exact gone_ok (S6.unsuite ok) hN hi hn fun s7 J => ⟨_, H6, J, q6⟩
theorem ps_tryMix (hs : X.stack = X.env :: X.outer) (hf : X.env.frame = some X.env.locals) (tk : Takes X Wo)
    (hb : ∀ (W : WX) (pn : List (Addr × Obj)) (xe : Value → Shared → Prop), Takes (X.tr pn xe) W → PassesOwn (model X.prog X.w) X.A X.env xe → PSs (X.tr pn xe) body (tb W)) (hh : ClsOk X (e₀ :: es) l) :
    PS X (.Try body (e₀ :: es) [] [] pos) (fun D σ H => tb (wMix X.K Wo D l) D σ H) := by
  refine ⟨fun pins s σ H D I h => wpAny_Try_except ?_⟩
  have ok := I.ok
  have fr : X.A.frames = some (X.env :: X.outer) := hs ▸ ok.frames
  refine wpAny_mono ((hb (wMix X.K Wo D l) (X.pn ++ pins) _ (fun u s' xx => ?_) PassesOwn.looking).run [] s σ H D (I.toTry _) h) (fun f s1 q => ?_) (fun e s1 he => he)
  · obtain ⟨a, B, sI, _, σ', H', cls, d, rfl, J, nb, up, sky, na, os, ag, w⟩ := xx
    show wpAny (model X.prog X.w) X.A (noteFrame (.ref a) X.env) _ _ s'
    exact Sky.land Zc.steady fr hf (show Sky B (X.env :: X.outer) a (Zc cls d) X.env.locals s'.heap from hs ▸ sky) fun h3 fl3 up3 =>
      Air.clauses (D := D) hs hf tk ok hh (sx := { s' with heap := h3 }) ⟨J.ofTry ok, nb, up.trans up3, fl3, na, os, ag⟩ w
  · cases f with
    | next => obtain ⟨σ', H', J, q⟩ := q; exact wpAny_execs_nil ⟨σ', H', J.ofTry ok, q⟩
    | brk => obtain ⟨σ', H', J, q⟩ := q; exact ⟨σ', H', J.ofTry ok, q⟩
    | cont => obtain ⟨σ', H', J, q⟩ := q; exact ⟨σ', H', J.ofTry ok, q⟩
    | ret u => obtain ⟨v, σ', H', J, r, q⟩ := q; exact ⟨v, σ', H', J.ofTry ok, r, q⟩
end
end VE

noncomputable section
namespace VE
open PySem PySem.Spec PyProof.Rows L2
/-- the same, with other things at hand -/
def Cfg.sw (G : Cfg) (e : Option XI) (l : Option LI) : Cfg := { G with exi := e, lam := l }
abbrev Cfg.hold (G : Cfg) (e : Option XI) : Cfg := G.sw e G.lam
section
variable {G : Cfg} {ρ : Wd} {H : Hp} {e : Option XI} {l : Option LI} {h : Mem}
mutual
theorem ValR.sw : ∀ {x : CV} {v : V}, ValR G ρ H x v → ValR (G.sw e l) ρ H x v
  | .non, _, r => r
  | .bl _, _, r => r
  | .int _, _, r => r
  | .str _, _, r => r
  | .cls _, _, r => r
  | .fn _, _, r => r
  | .ty _, _, r => r
  | .ref l, _, r => r
  | .tup xs, _, ⟨x, ys, e, s, r⟩ => ⟨x, ys, e, s, ValsR.sw r⟩
  | .lst xs, _, ⟨x, ys, e, n, s, r⟩ => ⟨x, ys, e, n, s, ValsR.sw r⟩
  | .frz xs, _, ⟨x, ys, e, s, r⟩ => ⟨x, ys, e, s, ValsR.sw r⟩
  | .ins k xs, _, ⟨x, dx, fs, us, e, n, s, f, r⟩ => ⟨x, dx, fs, us, e, n, s, f, ValsR.sw r⟩
  | .dic n ks vs, _, ⟨x, ob, e, nh, p1, p2⟩ => ⟨x, ob, e, nh, fun z => let ⟨es, us, ws, q1, q2, q3, q4, q5, q6⟩ := p1 z; ⟨es, us, ws, q1, q2, q3, q4, ValsR.sw q5, ValsR.sw q6⟩,
      fun z => let ⟨es, ws, q1, q2, q3, q4⟩ := p2 z; ⟨es, ws, q1, q2, q3, ValsR.sw q4⟩⟩
theorem ValsR.sw : ∀ {xs : List CV} {vs : List V}, ValsR G ρ H xs vs → ValsR (G.sw e l) ρ H xs vs
  | [], _, r => r
  | x :: xs, _, ⟨y, r, q, z, s⟩ => ⟨y, r, q, ValR.sw z, ValsR.sw s⟩
end
theorem ObjR.sw {co : CO} {a : Addr} (r : ObjR G ρ H co a) : ObjR (G.sw e l) ρ H co a := by
  cases co with
  | lst xs => obtain ⟨ys, w, z⟩ := r; exact ⟨ys, w, z.sw⟩
  | dic lk n ks vs =>
    obtain ⟨u, q1, q2, d⟩ := r
    exact ⟨u, q1, q2, fun z => let ⟨es, w1, w2, w3, w4⟩ := d.1 z; ⟨es, w1, w2, w3.sw, w4.sw⟩, fun z => let ⟨es, w1, w2, w3⟩ := d.2 z; ⟨es, w1, w2, w3.sw⟩⟩
  | ins k xs => obtain ⟨dx, fs, us, w, f, z⟩ := r; exact ⟨dx, fs, us, w, f, z.sw⟩
  | none_ => exact r.elim
theorem ExcR.sw {x : Exn} {c : Value} {d : Option Addr} (r : ExcR G ρ H x c d) : ExcR (G.sw e l) ρ H x c d := ⟨r.1, r.2.elim .inl fun ⟨da, fs, e1, e2, e3, e4⟩ => .inr ⟨da, fs, e1, e2, e3, e4.sw⟩⟩
theorem SlV.sw {τ : Sl} {σ : L2.St} (r : SlV G ρ H τ σ) : SlV (G.sw e l) ρ H τ σ := ⟨r.1, fun i v q => let ⟨u, a, b⟩ := r.2 i v q; ⟨u, a, b.sw⟩⟩
theorem MemR.sw (m : MemR G ρ h H) (hx : ∀ x, e = some x → ExcR G ρ H x.x x.cls x.d) (hl : ∀ L, l = some L → SlV G ρ H L.τ L.σ ∧ H L.c = some (LamX.CodeO L.c L.q)) : MemR (G.sw e l) ρ h H :=
  ⟨m.len, m.nd, fun i a co e1 e2 => (m.obj i a co e1 e2).sw, m.hid, m.tab, fun x he => (hx x he).sw, fun L he => ⟨(hl L he).1.sw, (hl L he).2⟩⟩
theorem MemR.hold (m : MemR G ρ h H) (hx : ∀ x, e = some x → ExcR G ρ H x.x x.cls x.d) : MemR (G.hold e) ρ h H := m.sw hx m.lam
theorem hold_self (h : G.exi = e) : G.hold e = G := by subst h; rfl
end
/-- a clause: which classes it meets; its name's slot; its suite -/
abbrev Hd := (Nat → Option Bool) × Option Nat × (Exn → MS)
/-- behind a suite its name is gone -/
def offS (i : Nat) (o : OS) : OS := OS.rec (fun f h => Fl.rec (fun τ => sset τ i none fun τ => .mk (.nx τ) h) (fun v => .mk (.rt v) h) (fun τ => sset τ i none fun τ => .mk (.bk τ) h) (fun τ => sset τ i none fun τ => .mk (.ct τ) h) (fun _ _ => .bad) f) .bad o
/-- a suite without a name -/
def onS (o : OS) : OS := OS.rec (fun f h => Fl.rec (fun τ => .mk (.nx τ) h) (fun v => .mk (.rt v) h) (fun τ => .mk (.bk τ) h) (fun τ => .mk (.ct τ) h) (fun _ _ => .bad) f) .bad o
def tryL (l : List Hd) (x : Exn) (τ : Sl) (h : Mem) : OS := List.rec (.mk (.ex x τ) h) (fun c _ ih => Option.rec .bad (fun b => Bool.rec ih (Option.rec (onS (c.2.2 x τ h)) (fun i => Option.rec .bad (fun _ => sset τ i none fun τ => offS i (c.2.2 x τ h)) (sget τ i)) c.2.1) b) (c.1 x.cls)) l
def mTry (b : MS) (l : List Hd) : MS := fun τ h => OS.rec (fun f h' => Fl.rec (fun τ' => .mk (.nx τ') h') (fun v => .mk (.rt v) h') (fun τ' => .mk (.bk τ') h') (fun τ' => .mk (.ct τ') h') (fun x τ' => tryL l x τ' h') f) .bad (b τ h)
/-- a clause's text does what the clause does -/
structure HdOk (G : Cfg) (X : Cx) (t : ExceptHandler) (c : Hd) : Prop where
  ex : ∃ (x : Str) (v : Value) (n : Option Str) (b₀ : Stmt) (su : List Stmt) (np ps : Pos), t = .ExceptHandler (some (.Name x np)) n (b₀ :: su) ps ∧ Names X x v ∧ (∀ k b, c.1 k = some b → PySem.W.exmOne X.K (.ref (G.cls k)) v = some b) ∧
    match c.2.1 with
    | none => n = none ∧ ∀ (a : Addr) (oe : Obj) (cls : Value) (d : Option Addr) (pn : List (Addr × Obj)) (x : Exn), SSs G W0 (X.suite a ((a, oe) :: pn)) (b₀ :: su) (c.2.2 x)
    | some i => X.N.Nodup ∧ G.fr i = true ∧ (∃ y, n = some y ∧ X.N[i]? = some y ∧ X.env.kindOf y = some .local) ∧
        ∀ (a : Addr) (oe : Obj) (cls : Value) (d : Option Addr) (pn : List (Addr × Obj)) (x : Exn), Zc cls d oe → (∃ vs, oe.data = .fields vs) → SSs (G.hold (some ⟨i, a, cls, d, x⟩)) W0 (X.suite a ((a, oe) :: pn)) (b₀ :: su) (c.2.2 x)
inductive HdsA (G : Cfg) (X : Cx) : List ExceptHandler → List Hd → Prop
  | nil : HdsA G X [] []
  | cons {t : ExceptHandler} {c : Hd} {ts : List ExceptHandler} {cs : List Hd} : HdOk G X t c → HdsA G X ts cs → HdsA G X (t :: ts) (c :: cs)
theorem pss_ex {X : Cx} {su : List Stmt} {α : Type} {t : α → TS} (h : ∀ x, PSs X su (t x)) : PSs X su (fun D σ H => ∃ x, t x D σ H) := ⟨fun pins s σ H D I ⟨x, q⟩ => (h x).run pins s σ H D I q⟩
section
variable {G : Cfg} {W : WX} {X : Cx}
theorem SlR.holdOff {ρ : Wd} {H : Hp} {τ : Sl} {σ : L2.St} {e : XI} (hx : G.exi = none) (s : SlR (G.hold (some e)) ρ H τ σ) (i : Nat) (hf : G.fr i = true) : SlR G ρ H (τ.set i none) (σ.set i none) := by
  have b : G = (G.hold (some e)).hold none := (hold_self hx).symm
  have s' : SlR G ρ H τ σ := ⟨s.1, fun j v q => let ⟨u, z, r⟩ := s.2.1 j v q; ⟨u, z, b ▸ r.sw⟩, fun e he => by (rw [hx] at he; cases he), s.2.2.2⟩
  exact s'.unset i hf
theorem try_cl (hx : G.exi = none) : ∀ {ts : List ExceptHandler} {cs : List Hd}, HdsA G X ts cs → ∃ l : List Cl, ClsOk X ts l ∧ ∀ (D : Ends) (x : Exn) (τ : Sl) (h : Mem) (ρ : Wd) (H : Hp) (c : Value) (d : Option Addr) (σ : L2.St), MemR G ρ h H → SlR G ρ H τ σ → ExcR G ρ H x c d → PostS G W ρ H (tryL cs x τ h) D → wMix X.K W D l c d σ H := by
  intro ts cs hk
  induction hk with
  | nil => exact ⟨[], .nil, fun D x τ h ρ H c d σ m s r p => p ρ H c d σ m Ext.refl s r⟩
  | @cons t c ts cs hc _ ih =>
    obtain ⟨l, ok, ih⟩ := ih
    obtain ⟨x, v, n, b₀, su, np, ps, rfl, hn, hm, hb⟩ := hc.ex
    obtain ⟨mt, sl, f⟩ := c
    have b0 : ∀ e, G = (G.hold (some e)).hold none := fun e => (hold_self hx).symm
    cases sl with
    | none =>
      obtain ⟨rfl, hb⟩ := hb
      refine ⟨(v, none, fun a cls d D σ H => ∃ x, tS G W0 (f x) D σ H) :: l, .bare hn (fun a oe cls d pn _ _ => pss_ex fun x => hb a oe cls d pn x) ok, fun D x τ h ρ H c d σ m s r p => ?_⟩
      have p : PostS G W ρ H (Option.rec .bad (fun b => Bool.rec (tryL cs x τ h) (onS (f x τ h)) b) (mt x.cls)) D := p
      cases q : mt x.cls with
      | none => rw [q] at p; exact p.elim
      | some b =>
        rw [q] at p
        refine ⟨b, by rw [r.1]; exact hm _ _ q, fun hb' a na => ⟨x, ρ, h, τ, m, s, ?_⟩, fun hb' => ih D x τ h ρ H c d σ m s r (by subst hb'; exact p)⟩
        subst hb'
        have p : PostS G W ρ H (onS (f x τ h)) D := p
        unfold onS at p
        cases q2 : f x τ h with
        | bad => rw [q2] at p; exact p
        | mk fl h2 =>
          rw [q2] at p
          cases fl with
          | ex y τ2 => exact p.elim
          | _ => exact p
    | some i =>
      obtain ⟨nd, hfi, ⟨y, rfl, hi, hl⟩, hb⟩ := hb
      refine ⟨(v, some i, fun a cls d D σ H => ∃ x, tS (G.hold (some ⟨i, a, cls, d, x⟩)) W0 (f x) D σ H) :: l, .named hn nd hi hl (fun a oe cls d pn z1 z2 => pss_ex fun x => hb a oe cls d pn x z1 z2) ok, fun D x τ h ρ H c d σ m s r p => ?_⟩
      have p : PostS G W ρ H (Option.rec .bad (fun b => Bool.rec (tryL cs x τ h) (Option.rec .bad (fun _ => sset τ i none fun τ => offS i (f x τ h)) (sget τ i)) b) (mt x.cls)) D := p
      cases q : mt x.cls with
      | none => rw [q] at p; exact p.elim
      | some b =>
        rw [q] at p
        refine ⟨b, by rw [r.1]; exact hm _ _ q, fun hb' a na => ?_, fun hb' => ih D x τ h ρ H c d σ m s r (by subst hb'; exact p)⟩
        subst hb'
        have p : PostS G W ρ H (Option.rec .bad (fun _ => sset τ i none fun τ => offS i (f x τ h)) (sget τ i)) D := p
        rw [sget_eq] at p
        cases qi : τ[i]? with
        | none => rw [qi] at p; exact p.elim
        | some _ =>
          rw [qi] at p
          have p : PostS G W ρ H (sset τ i none fun τ => offS i (f x τ h)) D := p
          rw [sset_eq] at p
          have il : i < τ.length := (List.getElem?_eq_some_iff.mp qi).1
          refine ⟨x, ρ, h, τ.set i none, m.hold fun z hz => by cases hz; exact r, ⟨by simpa using s.1, fun j w e => ?_, fun z hz => by (cases hz; exact List.getElem?_set_self (by rw [← s.1]; exact il)), fun L hL => by rw [List.getElem?_set_ne (fr_ne0 hfi hL)]; exact s.2.2.2 L hL⟩, ?_⟩
          · by_cases hj : i = j
            · subst hj; rw [List.getElem?_set_self il] at e; cases e
            · rw [List.getElem?_set_ne hj] at e
              obtain ⟨u, z1, z2⟩ := s.2.1 j w e
              exact ⟨u, by rw [List.getElem?_set_ne hj]; exact z1, z2.sw⟩
          · unfold offS at p
            cases q2 : f x (τ.set i none) h with
            | bad => rw [q2] at p; exact p
            | mk fl h2 =>
              rw [q2] at p
              have mb : ∀ {ρ1 H1}, MemR (G.hold (some ⟨i, a, c, d, x⟩)) ρ1 h2 H1 → MemR G ρ1 h2 H1 := fun m1 => by rw [b0 ⟨i, a, c, d, x⟩]; exact m1.hold fun z hz => by cases hz
              cases fl with
              | nx τ2 => simp only [sset_eq] at p; exact fun ρ1 H1 σ1 m1 e1 s1 => p ρ1 H1 _ (mb m1) e1 (s1.holdOff hx i hfi)
              | bk τ2 => simp only [sset_eq] at p; exact fun ρ1 H1 σ1 m1 e1 s1 => p ρ1 H1 _ (mb m1) e1 (s1.holdOff hx i hfi)
              | ct τ2 => simp only [sset_eq] at p; exact fun ρ1 H1 σ1 m1 e1 s1 => p ρ1 H1 _ (mb m1) e1 (s1.holdOff hx i hfi)
              | rt v => exact fun ρ1 H1 u m1 e1 r1 => p ρ1 H1 u (mb m1) e1 (by rw [b0 ⟨i, a, c, d, x⟩]; exact r1.sw)
              | ex x2 τ2 => exact p.elim
theorem ss_try {body : List Stmt} {t : ExceptHandler} {ts : List ExceptHandler} {cs : List Hd} {mb : MS} {pos : Pos} (B : Bx G W X) (hx : G.exi = none) (hs : X.stack = X.env :: X.outer) (hf : X.env.frame = some X.env.locals)
    (hb : ∀ (W' : WX) (pn : List (Addr × Obj)) (xe : Value → Shared → Prop), Bx G W' (X.tr pn xe) → PassesOwn (model X.prog X.w) X.A X.env xe → SSs G W' (X.tr pn xe) body mb) (hh : HdsA G X (t :: ts) cs) : SS G W X (.Try body (t :: ts) [] [] pos) (mTry mb cs) := by
  obtain ⟨l, ok, cl⟩ := try_cl (W := W) hx hh
  refine (ps_tryMix (tb := fun W' => tS G W' mb) hs hf B.tk (fun W' pn xe tk po => hb W' pn xe ⟨B.k, B.p, B.w, tk⟩ po) ok).wk fun D σ H ⟨ρ, h, τ, m, s, p⟩ => ⟨ρ, h, τ, m, s, ?_⟩
  unfold mTry at p
  cases q : mb τ h with
  | bad => rw [q] at p; exact p
  | mk f h' =>
    rw [q] at p
    cases f with
    | ex x τ' => exact fun ρ1 H1 c d σ1 m1 e1 s1 r1 => cl D x τ' h' ρ1 H1 c d σ1 m1 s1 r1 (PostS.ext (G := G) (W := W) p e1)
    | _ => exact p
/-- e.f in the suite that holds e; e's one field is f -/
def eXf (k : Nat) (x : Exn) : Sl → M CV := fun _ h => Bool.rec .bad (match x.args with
  | [v] => .ok v h
  | _ => .bad) (Nat.beq x.cls k)
theorem se_xf {a : Addr} {oe : Obj} {pn : List (Addr × Obj)} {C : Addr} {i k : Nat} {n y : Str} {x : Exn} {cls : Value} {d : Option Addr} {p pos : Pos} (G0 : Cfg) (T : XfC X.K C) (hK : G0.cls k = C) (hno : PySem.W.findIn X.K (.ref C) n = some none) (hz : Zc cls d oe) (hf : ∃ vs, oe.data = .fields vs)
    (hj : G0.fld k = [n]) (hN : X.N[i]? = some y) (hv : Vis X.env.scope y) (hd : (y == ("__debug__" : Str)) = false := by decide) (hcd : (y == ("__classdict__" : Str)) = false := by decide)
    (hb : attributeBase (.Name y p) n X.env (eval (.Name y p) X.env) = eval (.Name y p) X.env := by rfl) :
    SE (G0.hold (some ⟨i, a, cls, d, x⟩)) W (X.suite a ((a, oe) :: pn)) (.Attribute (.Name y p) n pos) (eXf k x) :=
  (pe_xf T hno hz hf (pe_var (X := X.suite a ((a, oe) :: pn)) hN hv hd hcd) hb).wk fun σ H Q ⟨ρ, h, τ, m, s, q⟩ => by
    unfold eXf at q
    cases hk : Nat.beq x.cls k with
    | false => rw [hk] at q; exact q.elim
    | true =>
      have ek : x.cls = k := Nat.eq_of_beq_eq_true hk
      rw [hk] at q
      have q : Post _ W (ValR _) σ ρ H (match x.args with | [v] => .ok v h | _ => .bad) Q := q
      split at q
      · rename_i v ha
        obtain ⟨ec, r⟩ := m.exc _ rfl
        have ec : cls = .ref (G0.cls x.cls) := ec
        refine ⟨_, s.2.2.1 _ rfl, rfl, by rw [ec, ek, hK], ?_⟩
        rcases r with r | ⟨da, fs, e1, e2, e3, e4⟩
        · have r : x.args = [] := r
          rw [ha] at r; cases r
        · have e3 : fs.map (·.1) = G0.fld x.cls := e3
          rw [ek, hj] at e3
          have e4 : ValsR _ ρ H x.args (fs.map (·.2)) := e4
          rw [ha] at e4
          match fs, e3, e4 with
          | [(g, u)], e3, e4 =>
            cases e3
            obtain ⟨w, t, z1, z2, z3⟩ := e4
            cases (show t = [] from z3)
            cases z1
            exact ⟨da, _, u, e1, e2, by simp [List.lookup], q ρ H u m Ext.refl z2⟩
      · exact q.elim
end
end VE

noncomputable section
namespace VE
open PySem PySem.Spec PyProof.Rows L2 LamX
section
variable {X : Cx} {pins : List (Addr × Obj)} {σ : L2.St} {H : Hp} {s : Shared}
/-- what a lambda's making leaves of the heap: its code's record is there already, or is laid and noted in the table -/
def LamH (P : Addr) (q : Str) (c' : Addr) (H H1 : Hp) : Prop := H1 = H ∨ ∃ ps ps', H P = some (.tbl ps) ∧ H c' = none ∧ H1 = upd (upd H P (.tbl ps')) c' (CodeO c' q)
theorem lam_made {T : List (Addr × Str)} {c P : Addr} {params : Arguments} {body : Expr} {scope : Scope} {pos : Pos} {q : Str} {E : Value → Shared → Prop} {Q : Value → Shared → Prop} (I : Inv X pins σ H s) (TB : TabB X.base X.mg c P) (hcode : X.env.code = .ref c) (eq : q = X.env.qual ++ "<lambda>")
    (hm : (P, q) ∈ T) (hu : ∀ p ∈ T, p.1 = P → p.2 = q) (hT : Tabs T H) (hdef : defaultsOf params X.env = ([], [])) (hfree : ∀ y ∈ scope.names, y.2 = .free → ∃ c, X.env.cells.lookup y.1 = some c)
    (h : ∀ (f c' : Addr) (pm ctv : Value) (H1 : Hp) (s' : Shared), Inv X pins σ H1 s' → LamH P q c' H H1 → Tabs T H1 → s'.heap.get? f = some (PySem.W.kla_obj "<lambda>" q params body scope (cloFrom X.env.cells scope.names []) pm c' ctv) → H1 f = none → f ∉ frs X.stack → H1 c' = some (CodeO c' q) → Q (.ref f) s') :
    wpAny (model X.prog X.w) X.A (eval (.Lambda params body scope pos) X.env) Q E s := by
  subst eq
  obtain ⟨ps, hP, ht, ha⟩ := hT _ hm
  have atP : s.heap.get? P = some { cls := .none, data := .fields ps } := I.hok P _ hP
  have nofr : ∀ f, s.heap.objs.size ≤ f → f ∉ frs X.stack := fun f hf z => (List.mem_cons.mp (I.stkSub _ z)).elim (fun e => absurd (e ▸ I.lt : f < s.heap.objs.size) (Nat.not_lt.mpr hf)) (fun e => I.nofs hf e)
  refine PySem.W.kla_eval hdef ?_
  cases hc : codeAmong pos ps.toList with
  | some cv =>
    obtain ⟨c', rfl, hco⟩ := ha pos cv hc
    refine PySem.W.kla_makeFunctionHit (mg := X.mg) (c := c) (P := P) (ps := ps) (closure_ok hfree) I.ok.glob (I.mod.glob.keeps I.bk) hcode (TB.code.keeps I.bk) atP ht hc (TB.bm.keeps I.bk) fun ctv h' tk hx hsz => ?_
    exact h h'.objs.size c' ((X.mg "__name__").getD .none) ctv H _ (I.kept (t' := tk) fun b o e => Heap.get?_push_of_some _ (hx b o e)) (.inl rfl) hT (Heap.get?_push_size _ rfl) (I.hok.fresh hsz) (nofr _ hsz) hco
  | none =>
    refine PySem.W.kla_makeFunction (mg := X.mg) (c := c) (P := P) (ps := ps) (closure_ok hfree) I.ok.glob (I.mod.glob.keeps I.bk) hcode (TB.code.keeps I.bk) atP ht hc TB.gP (TB.bm.keeps I.bk) fun c' ctv h' tk hx hge hlt hrec htb => ?_
    obtain ⟨c2, oc, vs, t, e2, hoc, hd, hv⟩ := hrec
    cases e2
    have sz : s.heap.objs.size ≤ h'.objs.size := Nat.le_trans hge (Nat.le_of_lt hlt)
    have nC : H c' = none := I.hok.fresh hge
    have J := inv_table (t' := tk) (more := #[rawInt pos.line, rawInt pos.col, .ref c']) (h' := h'.push (PySem.W.kla_obj "<lambda>" (X.env.qual ++ "<lambda>") params body scope (cloFrom X.env.cells scope.names []) ((X.mg "__name__").getD .none) c' ctv)) I hP
      (fun b o hb e => Heap.get?_push_of_some _ (hx b o hb e)) (Heap.get?_push_of_some _ htb) hge ⟨oc, vs, t, Heap.get?_push_of_some _ hoc, hd, hv⟩
    have kp : ∀ b c0 q0, H b = some (CodeO c0 q0) → upd (upd H P (.tbl (ps ++ #[rawInt pos.line, rawInt pos.col, .ref c']))) c' (CodeO c' (X.env.qual ++ "<lambda>")) b = some (CodeO c0 q0) := fun b c0 q0 e => by
      rw [upd_ne (ne_of_none e nC), upd_ne (ne_of e hP (codeO_ne ps))]; exact e
    refine h h'.objs.size c' ((X.mg "__name__").getD .none) ctv _ _ J (.inr ⟨ps, _, hP, nC, rfl⟩) (fun p hp => ?_) (Heap.get?_push_size _ rfl) ?_ (nofr _ sz) upd_same
    · by_cases hb : p.1 = P
      · have eL : (ps ++ #[rawInt pos.line, rawInt pos.col, .ref c']).toList = ps.toList ++ [rawInt pos.line, rawInt pos.col, .ref c'] := by simp
        rw [hu p hp hb, hb]
        refine ⟨_, by rw [upd_ne (ne_of_none hP nC), upd_same], eL ▸ PySem.TriplesOk_snoc _ _ _ _ ht, fun p' cv hcv => ?_⟩
        rw [eL] at hcv
        rcases among_app _ ht hcv with z | z
        · obtain ⟨c0, e1, e2⟩ := ha p' cv z
          exact ⟨c0, e1, kp _ _ _ e2⟩
        · exact ⟨c', z, upd_same⟩
      · obtain ⟨ps', a1, a2, a3⟩ := hT p hp
        refine ⟨ps', by rw [upd_ne (ne_of_none a1 nC), upd_ne hb]; exact a1, a2, fun p' cv hcv => ?_⟩
        obtain ⟨c0, e1, e2⟩ := a3 p' cv hcv
        exact ⟨c0, e1, kp _ _ _ e2⟩
    · rw [upd_ne (Nat.ne_of_gt hlt), upd_ne (Nat.ne_of_gt (Nat.lt_of_lt_of_le (Heap.lt_size atP) sz))]
      exact I.hok.fresh sz
end
theorem LamH.ext {G : Cfg} {ρ : Wd} {h : Mem} {P : Addr} {q : Str} {c' : Addr} {H H1 : Hp} (m : MemR G ρ h H) (l : LamH P q c' H H1) : Ext ρ H ρ H1 := by
  rcases l with rfl | ⟨ps, ps', hP, hc, rfl⟩
  · exact Ext.refl
  · exact ⟨rfl, fun _ _ e => e, fun a o e _ n => by rw [upd_ne (ne_of_none e hc), upd_ne (ne_of e hP (n ps))]; exact e,
      fun a ps2 e => by
        by_cases z : a = P
        · exact ⟨ps', by rw [z, upd_ne (ne_of_none hP hc), upd_same]⟩
        · exact ⟨ps2, by rw [upd_ne (ne_of_none e hc), upd_ne z]; exact e⟩, fun _ e => .inl e⟩
theorem LamH.mem {G : Cfg} {ρ : Wd} {h : Mem} {P : Addr} {q : Str} {c' : Addr} {H H1 : Hp} (m : MemR G ρ h H) (l : LamH P q c' H H1) (t : Tabs G.T H1) (hx : G.exi = none) (hy : G.lam = none) : MemR G ρ h H1 := by
  have ex := l.ext m
  have same : ∀ a o, H a = some o → MutO G a o → H1 a = H a := fun a o e mo => by
    rcases l with rfl | ⟨ps, ps', hP, hc, rfl⟩
    · rfl
    · rw [upd_ne (ne_of_none e hc), upd_ne (ne_of e hP (fun z => notMut_tbl (G := G) (a := a) (ps := ps) (z ▸ mo)))]
  refine ⟨m.len, m.nd, fun i a co e1 e2 => ?_, fun a ha => ?_, t, fun e he => by (rw [hx] at he; cases he), fun e he => by rw [hy] at he; cases he⟩
  · have r := m.obj i a co e1 e2
    obtain ⟨o, e, mo⟩ := r.there
    exact objR_ext m ex (same a o e mo) r
  · obtain ⟨⟨o, e, mo⟩, n⟩ := m.hid a ha
    exact ⟨⟨o, (same a o e mo).trans e, mo⟩, n⟩
end VE
noncomputable section
namespace VE
open PySem PySem.Spec PyProof.Rows L2 LamX
/-- the body of a def that got a lambda, at the lambda's behaviour; its slots are empty but for the lambda's -/
def endL (o : OS) : Out CV := OS.rec (fun f h' => Fl.rec (fun _ => .ok .non h') (fun v => .ok v h') (fun _ => .bad) (fun _ => .bad) (fun _ _ => .bad) f) .bad o
def eLam (nl : Nat) (b : M CV → MS) (mb : Sl → M CV) : Sl → M CV := fun τ h => endL (b (mb τ) (List.replicate nl none) h)
section
variable {G : Cfg} {W : WX} {X : Cx}
/-- the context of a def g that was called from X's code -/
abbrev gCx (X : Cx) (Ng : List Str) (qg : Str) (sg : Scope) (g : Addr) (cdg : Value) (s : Shared) (H : Hp) : Cx := cxOf C8.CX0 X.prog X.w X.K X.mg X.base Ng qg sg g cdg X.A X.stack s H C8.E0
theorem act_run {pins : List (Addr × Obj)} {σ : L2.St} {H : Hp} {s : Shared} {Ng : List Str} {qg : Str} {sg : Scope} {g f c' : Addr} {cdg pm ctv : Value} {params : Arguments} {body : Expr} {scope : Scope} {k i : Nat} {a q : Str} {pn : List (Addr × Obj)} {xe : Value → Shared → Prop} {W' : WX} {tb : XK → TE} {p1 p2 : Pos}
    (I : Inv X pins σ H s) (L : LamS X.env.scope scope) (eq : q = X.env.qual ++ "<lambda>") (hf : s.heap.get? f = some (PySem.W.kla_obj "<lambda>" q params body scope (cloFrom X.env.cells scope.names []) pm c' ctv)) (hfn : H f = none) (hfr : f ∉ frs X.stack)
    (hbind : bindArgs (PySem.W.kla_fn "<lambda>" q params body scope (cloFrom X.env.cells scope.names []) pm (.ref c') ctv) ⟨[], []⟩ = pure []) (tk : Takes ((gCx X Ng qg sg g cdg s H).tr pn xe) W') (hr : Room (k + 1) (X.A.deeper (envOfC qg sg s.heap.objs.size g cdg)))
    (hbody : ∀ (E : XK) (A : Around) (outer : List Env) (s : Shared) (H : Hp), Room k (A.deeper (lamEnv X scope s.heap.objs.size f c')) → PE (lamCx X A outer s H E scope f c') body (tb E))
    (hN : Ng[i]? = some a) (hv : Vis sg a) (hd : (a == ("__debug__" : Str)) = false := by decide) (hcd : (a == ("__classdict__" : Str)) = false := by decide) :
    PE ((gCx X Ng qg sg g cdg s H).tr pn xe) (.Call (.Name a p1) [] [] p2) (fun σZ HZ Q => σZ[i]? = some (some (.ref f)) ∧ HZ c' = some (CodeO c' q) ∧ tb (WE W' σZ) σ HZ Q) := by
  subst eq
  refine ⟨fun pinsZ sZ σZ HZ Q IZ ⟨at_, hc, ht⟩ => ?_⟩
  refine wpAny_Call_Name_kw (thn ((pe_var (pos := p1) (i := i) hN hv hd hcd).run pinsZ sZ σZ HZ (fun v H1 => v = .ref f ∧ H1 = HZ) IZ ⟨.ref f, at_, rfl, rfl⟩) fun u s1 ⟨v, H1, I1, r1, ev, eH⟩ => ?_)
  subst ev
  cases eH
  obtain rfl : u = Value.ref f := r1
  have of1 := I1.base.keep f _ hf hfn hfr (fun z => absurd (show f ∈ ([] : List Addr) from z) (by simp))
  refine PySem.W.callWith_F0 ⟨_, _, _, _, of1⟩ ?_
  obtain ⟨⟨oc, vs, t, hoc, hdc, hvc⟩, _, _⟩ := I1.hok c' _ hc
  have rc : codeAny (model X.prog X.w) (X.A.deeper (envOfC qg sg s.heap.objs.size g cdg)) (.call (.ref f) ⟨[], []⟩) (CR (L2.CX X.prog X.w) (envOfC qg sg s.heap.objs.size g cdg :: X.stack) X.prog X.w HZ s1 Q (WE W' σZ)) s1 := by
    refine PySem.W.kla_callFunE hr.depth of1 rfl L.co L.gen rfl ⟨c', oc, vs, t, rfl, hoc, hdc, hvc⟩ ?_
    rw [hbind]
    refine wpAny_pure (wpAny_newFunctionEnv (fun y hy => (L.own y hy).2) (fun y hy => absurd hy (by simp)) (fun h₁ hns hsb => ⟨I1.nolimit.fresh _ hsb, ?_⟩) L.kind)
    show codeAny _ _ (.expr body (lamEnv X scope s1.heap.objs.size f c')) _ _
    have J : Inv (lamCx X (X.A.deeper (envOfC qg sg s.heap.objs.size g cdg)) (envOfC qg sg s.heap.objs.size g cdg :: X.stack) s1 HZ (WE W' σZ) scope f c') [] σ HZ { s1 with heap := h₁, toks := s1.toks + ([] : List (Str × Value)).length } :=
      lam_start2 I L I1.env0 hr.hd I1.base hns (fun b o e => hsb.extBut b o (Nat.ne_of_lt (Heap.lt_size e)) (Heap.get?_push_of_some _ e))
    exact PySem.W.kla_codeExpr (wpAny_mono ((hbody _ _ _ s1 HZ (hr.deeper _)).run [] _ _ HZ Q J ht) (fun v s' ⟨w', H', J', rv, q⟩ => ⟨w', H', J'.os, J'.bare, J'.base, J'.hok, rv, q⟩) fun e s' hq => hq)
  refine wpAny_call (codeAny_mono rc fun r s' hq => ?_)
  cases r with
  | error e => exact passAt tk σZ pinsZ HZ s1 e s' I1 hq
  | ok fl =>
    cases fl with
    | ret u => exact I1.after hq
    | _ => exact False.elim hq
/-- what stands in the place of a() within the def that got the lambda -/
def Acts (G : Cfg) (Z : Cx) (L : LI) (a : Str) (m : M CV) : Prop :=
  ∀ (W' : WX) (pn : List (Addr × Obj)) (xe : Value → Shared → Prop) (p1 p2 : Pos), Takes (Z.tr pn xe) W' → SE (G.sw none (some L)) W' (Z.tr pn xe) (.Call (.Name a p1) [] [] p2) (fun _ => m)
theorem act_se {Z : Cx} {L : LI} {e : Expr} {mb : Sl → M CV} {W' : WX} (hx : G.exi = none) (hy : G.lam = none) (h : PE Z e (fun σZ HZ Q => σZ[0]? = some (some (.ref L.f)) ∧ HZ L.c = some (CodeO L.c L.q) ∧ tV G (fun c d _ H => WE W' σZ c d H) mb L.σ HZ Q)) : SE (G.sw none (some L)) W' Z e (fun _ => mb L.τ) :=
  h.wk fun σZ HZ Q ⟨ρ, h, τ, m, s, p⟩ => by
    have b : G = (G.sw none (some L)).sw none none := by
      obtain ⟨_, _, _, _, _, _, _, _, _⟩ := G
      cases hx
      cases hy
      rfl
    have mb' : ∀ {ρ1 h1 H1}, MemR (G.sw none (some L)) ρ1 h1 H1 → MemR G ρ1 h1 H1 := fun m1 => by rw [b]; exact m1.sw (fun _ z => nomatch z) (fun _ z => nomatch z)
    refine ⟨s.2.2.2 L rfl, (m.lam L rfl).2, ρ, h, L.τ, mb' m, ?_, ?_⟩
    · have sv : SlV G ρ HZ L.τ L.σ := by rw [b]; exact (m.lam L rfl).1.sw
      exact ⟨sv.1, sv.2, fun e he => by (rw [hx] at he; cases he), fun e he => by rw [hy] at he; cases he⟩
    · have up : ∀ {ρ1 h1 H1}, Ext ρ HZ ρ1 H1 → MemR G ρ1 h1 H1 → MemR (G.sw none (some L)) ρ1 h1 H1 := fun e1 m1 => m1.sw (fun _ z => nomatch z) fun L' z => by
        cases z
        have := m.lamE e1 L rfl
        exact ⟨by rw [b]; exact this.1.sw, this.2⟩
      have p : Post (G.sw none (some L)) W' (ValR (G.sw none (some L))) σZ ρ HZ (mb L.τ h) Q := p
      cases q : mb L.τ h with
      | ok x h' => rw [q] at p; exact fun ρ1 H1 v m1 e1 r1 => p ρ1 H1 v (up e1 m1) e1 r1.sw
      | exc x h' => rw [q] at p; exact fun ρ1 H1 c d m1 e1 r1 => p ρ1 H1 c d (up e1 m1) e1 r1.sw
      | bad => rw [q] at p; exact p
theorem se_lam {Ng : List Str} {x a q : Str} {g c P : Addr} {k nl : Nat} {st : Stmt} {fd : FuncData} {params : Arguments} {body : Expr} {scope : Scope} {mb : Sl → M CV} {b : M CV → MS} {p lpos pos : Pos} (hx : G.exi = none) (hy : G.lam = none) (hK : G.K = X.K)
    (hg : Gl X x) (hm : X.mg x = some (.ref g)) (F : Fun X.K x x st g fd) (Sg : FnScope Ng [a] (defScope st)) (hnl : Ng.length = nl) (hNg : Ng[0]? = some a) (hva : Vis (defScope st) a)
    (TB : TabB X.base X.mg c P) (hcode : X.env.code = .ref c) (eq : q = X.env.qual ++ "<lambda>") (hmT : (P, q) ∈ G.T) (hu : ∀ p ∈ G.T, p.1 = P → p.2 = q) (hr : Room (k + 2) X.A) (L : LamS X.env.scope scope) (hdef : defaultsOf params X.env = ([], []))
    (hb : L2.Binds X.K fd [a] []) (hbind : ∀ (q : Str) (cl : List (Str × Addr)) (pm cv ctv : Value), bindArgs (PySem.W.kla_fn "<lambda>" q params body scope cl pm cv ctv) ⟨[], []⟩ = pure [])
    (hbody : ∀ (A : Around) (outer : List Env) (s : Shared) (H : Hp) (E : XK) (f c' : Addr), Room k (A.deeper (lamEnv X scope s.heap.objs.size f c')) → SE G (fun c d _ H => E c d H) (lamCx X A outer s H E scope f c') body mb)
    (hcal : ∀ (cdg : Value) (s : Shared) (H : Hp) (L : LI) (m : M CV), Acts G (gCx X Ng x (defScope st) g cdg s H).nox L a m → SSs (G.sw none (some L)) W0 (gCx X Ng x (defScope st) g cdg s H).nox (defBody st) (b m))
    (hdb : (x == ("__debug__" : Str)) = false := by decide) (hd : (a == ("__debug__" : Str)) = false := by decide) (hcd : (a == ("__classdict__" : Str)) = false := by decide) :
    SE G W X (.Call (.Name x p) [.Lambda params body scope lpos] [] pos) (eLam nl b mb) := by
  refine ⟨fun pins s σ H Q I ⟨ρ, h, τ, m, sl, pp⟩ => ?_⟩
  obtain ⟨oc, od, kV, doc, pm, an, cdv, ct, osl, efd, lk, hcg⟩ := F.ex
  subst efd
  refine wpAny_Call_Name_kw (ld_glob I hg hm ?_ hdb)
  refine PySem.W.callWith_K (h₀ := X.base) I.ok.mod.kin F.kp ?_ (by rfl) (by rfl)
  show wpAny _ _ (spliced ((false, eval (.Lambda params body scope lpos) X.env) :: backTo pos (starEach [] X.env))) _ _ s
  refine Calls.spliced_cons (lam_made I TB hcode eq hmT hu m.tab hdef (L.has I.ok) fun f c' pm' ctv H1 s' I1 lh T1 hf hfn hfr hco => Calls.spliced_nil ⟨I1.kIn, ?_⟩)
  have e1 := lh.ext m
  have m1 := lh.mem m T1 hx hy
  have rc : codeAny (model X.prog X.w) X.A (.call (.ref g) ⟨[.ref f], []⟩) (CR C8.CX0 X.stack X.prog X.w H1 s' Q C8.E0) s' := by
    refine run_ofS (N := Ng) (ps := [a]) (us := [.ref f]) (vs := [.ref f]) lk hcg Sg hr I1.env0 (hb s' [.ref f] I1.kIn rfl) (.cons rfl .nil) rfl fun hr' => ?_
    have acts : Acts G (gCx X Ng x (defScope st) g cdv s' H1).nox ⟨τ, σ, f, c', q⟩ a (mb τ) := fun W' pn xe p1 p2 tk =>
      act_se (L := ⟨τ, σ, f, c', q⟩) (mb := mb) hx hy (act_run (i := 0) (tb := fun E => tV G (fun c d _ H => E c d H) mb) I1 L eq hf hfn hfr (hbind _ _ _ _ _) tk hr' (fun E A outer s H hr2 => hbody A outer s H E f c' hr2) hNg hva hd hcd)
    refine ⟨_, (hcal cdv s' H1 ⟨τ, σ, f, c', q⟩ (mb τ) acts).nox, ρ, h, List.replicate nl none, m1.sw (fun _ z => nomatch z) (fun L' z => by cases z; exact ⟨⟨sl.1, fun i v q => let ⟨u, w1, w2⟩ := sl.2.1 i v q; ⟨u, w1, w2.ext m e1⟩⟩, hco⟩), ⟨?_, fun i v e => ?_, (fun e z => nomatch z), fun L' z => by cases z; rfl⟩, ?_⟩
    · have l1 := (List.getElem?_eq_some_iff.mp hNg).1
      unfold L2.start
      rw [List.length_replicate, List.length_append, List.length_map, List.length_replicate, ← hnl]
      show Ng.length = 1 + (Ng.length - 1)
      omega
    · rw [List.getElem?_replicate] at e
      split at e <;> cases e
    · have b0 : G = (G.sw none (some ⟨τ, σ, f, c', q⟩)).sw none none := by
        obtain ⟨_, _, _, _, _, _, _, _, _⟩ := G
        cases hx
        cases hy
        rfl
      have back : ∀ {ρ1 h1 H1}, MemR (G.sw none (some ⟨τ, σ, f, c', q⟩)) ρ1 h1 H1 → MemR G ρ1 h1 H1 := fun m1 => by rw [b0]; exact m1.sw (fun _ z => nomatch z) (fun _ z => nomatch z)
      have pp : Post G W (ValR G) σ ρ H (endL (b (mb τ) (List.replicate nl none) h)) Q := pp
      unfold endL at pp
      cases qb : b (mb τ) (List.replicate nl none) h with
      | bad => rw [qb] at pp; exact pp
      | mk fl h2 =>
        rw [qb] at pp
        cases fl with
        | nx τ2 => exact fun ρ2 H2 σ2 m2 e2 s2 => pp ρ2 H2 .non (back m2) (e1.trans e2) rfl
        | rt v => exact fun ρ2 H2 u m2 e2 r2 => pp ρ2 H2 u (back m2) (e1.trans e2) (by rw [b0]; exact r2.sw)
        | _ => exact pp.elim
  refine wpAny_call (codeAny_mono rc fun r s2 hq => ?_)
  cases r with
  | error e => exact (show False from hq).elim
  | ok fl =>
    cases fl with
    | ret u => exact I1.after hq
    | _ => exact False.elim hq
end
end VE

noncomputable section
namespace VE
open PySem PySem.Spec PyProof.Rows L2 LamX
/-- the room of a call, and nothing is under a repr -/
structure RoomG (k : Nat) (A : Around) : Prop where
  r : Room k A
  g : A.guards = some []
theorem RoomG.mono {j k : Nat} {A : Around} (r : RoomG k A) (h : j ≤ k) : RoomG j A := ⟨r.r.mono h, r.g⟩
theorem RoomG.deeper {k : Nat} {A : Around} (r : RoomG (k + 1) A) (env : Env) : RoomG k (A.deeper env) := ⟨r.r.deeper env, r.g⟩
/-- a def's promise where no repr is under way -/
structure FnG (P : Program) (w : World) (K : PySem.W.Frag) (mg : Str → Option Value) (base : Heap) (k : Nat) (f : Addr) (fd : FuncData) (ps : List Str) (sp : Sp) : Prop where
  len : ∀ xs H Q E, sp xs H Q E → xs.length = ps.length
  run : ∀ (A : Around) (out : List Env) (s : Shared) (H : Hp) (ar : Args) (us : List Value) (xs : List V) (Q : VK) (E : XK), RoomG k A → Env0 P w K mg base A out s H → BindsTo s fd ar (ps.zip us) → Vals xs us → sp xs H Q E →
    codeAny (model P w) A (.call (.ref f) ar) (CR (L2.CX P w) out P w H s Q E) s
section
variable {P : Program} {w : World} {K : PySem.W.Frag} {mg : Str → Option Value} {base : Heap} {k : Nat} {f : Addr} {fd : FuncData} {ps : List Str} {sp : Sp}
theorem FnG.of (F : FnOk P w K mg base (L2.CX P w) k f fd ps sp) : FnG P w K mg base k f fd ps sp := ⟨F.len, fun A o s H a us xs Q E r => F.run A o s H a us xs Q E r.r⟩
theorem FnG.mono {j : Nat} (F : FnG P w K mg base j f fd ps sp) (h : j ≤ k) : FnG P w K mg base k f fd ps sp := ⟨F.len, fun A o s H a us xs Q E r => F.run A o s H a us xs Q E (r.mono h)⟩
theorem FnG.imp {sp' : Sp} (F : FnG P w K mg base k f fd ps sp) (h : ∀ xs H Q E, sp' xs H Q E → sp xs H Q E) : FnG P w K mg base k f fd ps sp' :=
  ⟨fun xs H Q E q => F.len xs H Q E (h _ _ _ _ q), fun A o s H a us xs Q E r e b v q => F.run A o s H a us xs Q E r e b v (h _ _ _ _ q)⟩
/-- a def's own body -/
theorem fun_g0 {x qual : Str} {st : Stmt} {N : List Str} {oc kV doc pm cdv ct : Value} {od an : Option Addr} {osl : Array (Option Value)} (lk : K.lookup f = some ⟨oc, od, .func (PySem.W.fnOf x qual (defArgs st) (defBody st) (defScope st) .none kV doc pm an cdv ct), osl⟩) (hcd : PySem.W.codeIn K cdv qual = true) (S : FnScope N ps (defScope st)) (len : ∀ xs H Q E, sp xs H Q E → xs.length = ps.length)
    (hb : ∀ (A : Around) (out : List Env) (s : Shared) (H : Hp) (xs : List V) (Q : VK) (E : XK), RoomG k (A.deeper (envOfC qual (defScope st) s.heap.objs.size f cdv)) → sp xs H Q E →
      ∃ t, PSs (cxOf (L2.CX P w) P w K mg base N qual (defScope st) f cdv A out s H E) (defBody st) t ∧ t { nx := fun _ H2 => Q .non H2, rt := Q } (L2.start N xs) H) : FnG P w K mg base (k + 1) f (PySem.W.fnOf x qual (defArgs st) (defBody st) (defScope st) .none kV doc pm an cdv ct) ps sp := by
  refine ⟨len, fun A out s H ar us xs Q E room e0 bind rel q => ?_⟩
  have same : ∀ b o, base.get? b = some o → s.heap.get? b = some o := fun b o z => (e0.bs b o z).1
  have inK : K.In s.heap := e0.mod.kin.keeps same
  refine codeAny_call_function room.r.depth (inK _ _ lk) rfl S.co S.gen rfl (PySem.W.codeRec_of inK hcd) (bind _ _ _ _ (wpAny_newFunctionEnv_cells S.kind (fun ⟨n, v⟩ hy => (S.par n (List.of_mem_zip hy).1).imp id fun z => ⟨z, PySem.W.cellsFrom_some _ _ _ (.inl z)⟩) fun env he s1 x => ?_))
  cases he
  obtain ⟨t, ht, go⟩ := hb A out s H xs Q E (room.deeper _) q
  refine ⟨(e0.mod.nolimit.keeps same).keeps x.toInCall.keep, codeAny_func (wpAny_mono (ht.run [] s1 (L2.start N xs) H _ (inv_start S room.r.hd e0 (len _ _ _ _ q) rel x) go) (fun fl s2 z => ?_) fun _ _ z => z)⟩
  cases fl with
  | ret u => exact let ⟨v, _, H2, J, rv, z⟩ := z; ⟨v, H2, J.os, J.bare, J.base, J.hok, rv, z⟩
  | next => exact let ⟨_, H2, J, z⟩ := z; ⟨.non, H2, J.os, J.bare, J.base, J.hok, rfl, z⟩
  | brk => exact (let ⟨_, _, _, z⟩ := z; z : False).elim
  | cont => exact (let ⟨_, _, _, z⟩ := z; z : False).elim
/-- a def whose code's record is known -/
structure FunC (K : PySem.W.Frag) (x qual : Str) (st : Stmt) (f : Addr) (fd : FuncData) (c : Addr) : Prop where
  ex : ∃ (oc : Value) (od : Option Addr) (kV doc pm : Value) (an : Option Addr) (ct : Value) (osl : Array (Option Value)), fd = PySem.W.fnOf x qual (defArgs st) (defBody st) (defScope st) .none kV doc pm an (.ref c) ct ∧
    K.lookup f = some ⟨oc, od, .func (PySem.W.fnOf x qual (defArgs st) (defBody st) (defScope st) .none kV doc pm an (.ref c) ct), osl⟩ ∧ PySem.W.codeIn K (.ref c) qual = true
theorem fun_g {x qual : Str} {st : Stmt} {N : List Str} {c : Addr} (F : FunC K x qual st f fd c) (S : FnScope N ps (defScope st)) (len : ∀ xs H Q E, sp xs H Q E → xs.length = ps.length)
    (hb : ∀ (A : Around) (out : List Env) (s : Shared) (H : Hp) (xs : List V) (Q : VK) (E : XK), RoomG k (A.deeper (envOfC qual (defScope st) s.heap.objs.size f (.ref c))) → sp xs H Q E →
      ∃ t, PSs (cxOf (L2.CX P w) P w K mg base N qual (defScope st) f (.ref c) A out s H E) (defBody st) t ∧ t { nx := fun _ H2 => Q .non H2, rt := Q } (L2.start N xs) H) : FnG P w K mg base (k + 1) f fd ps sp := by
  obtain ⟨oc, od, kV, doc, pm, an, ct, osl, rfl, lk, hcd⟩ := F.ex
  exact fun_g0 lk hcd S len hb
end
section
variable {X : Cx} {k : Nat} {f : Addr} {fd : FuncData} {ps : List Str} {sp : Sp} {E : L2.St → XK} {x : Str} {p pos : Pos} {e : Expr} {es : List Expr} {t : TA}
theorem run_g {pins : List (Addr × Obj)} {σ : L2.St} {H : Hp} {s : Shared} {Q : VK} {us : List Value} {xs : List V} (F : FnG X.prog X.w X.K X.mg X.base k f fd ps sp) (room : RoomG k X.A) (hb : Binds X.K fd ps []) (hx : PassesAt (L2.CX X.prog X.w) X σ (E σ))
    (I : Inv X pins σ H s) (rel : Vals xs us) (q : sp xs H Q (E σ)) : wpAny (model X.prog X.w) X.A (call (.ref f) us) (EP X pins σ Q) X.xe s := by
  have b := hb s us I.kIn (by rw [List.append_nil, ← rel.length]; exact F.len _ _ _ _ q)
  rw [List.append_nil] at b
  refine wpAny_call (codeAny_mono (F.run _ _ s H _ us xs Q _ room I.env0 b rel q) fun r s2 z => ?_)
  match r, z with
  | .error ev, z => exact hx pins H s ev s2 I z
  | .ok (.ret u), z => exact I.after z
theorem pe_callG (F : FnG X.prog X.w X.K X.mg X.base k f fd ps sp) (room : RoomG k X.A) (hg : Gl X x) (hm : X.mg x = some (.ref f)) (hk : PySem.W.keepIn X.K (.ref f) = true) (hb : Binds X.K fd ps []) (hx : ∀ σ, PassesAt (L2.CX X.prog X.w) X σ (E σ))
    (ha : PA X (e :: es) t) (hdb : (x == ("__debug__" : Str)) = false := by decide) (he : starEach (e :: es) X.env = (false, eval e X.env) :: starEach es X.env := by rfl) (hpl : (backTo pos (starEach es X.env)).any (·.1) = false := by rfl) :
    PE X (.Call (.Name x p) (e :: es) [] pos) (tCallS sp E t) :=
  ⟨fun pins s σ H Q I h => wpAny_Call_Name_kw (ld_glob I hg hm (PySem.W.callWith_K (h₀ := X.base) I.ok.mod.kin hk (thn (ha.run pos pins s σ H _ I h) fun us s1 ⟨xs, H1, I1, rel, q⟩ => ⟨I1.kIn, run_g F room hb (hx σ) I1 rel q⟩) he hpl) hdb)⟩
end

section
variable {P : Program} {w : World} {K : PySem.W.Frag} {mg mb : Str → Option Value} {a : Addr} {cs : List (Addr × Addr)} {s1 : Shared} {vs : List Value} {ns : List Int}
def lstO (vs : List Value) : Obj := { cls := .type "list", data := .seq vs.toArray }
def tabO : Obj := { cls := .none, data := .fields #[] }
/-- the script (where it is not of the text's own) and the tables -/
def H0 (K : PySem.W.Frag) (a : Addr) (cs : List (Addr × Addr)) (vs : List Value) (ns : List Int) : Hp := fun b =>
  if b ∈ cs.map (·.2) then some (.tbl #[]) else if b = a ∧ K.lookup a = none then some (.frz (lstO vs) (.lst (ns.map V.int))) else none
structure AtEnd (K : PySem.W.Frag) (mg mb : Str → Option Value) (a : Addr) (cs : List (Addr × Addr)) (s1 : Shared) (vs : List Value) (ns : List Int) : Prop where
  kin : K.In s1.heap
  glo : s1.heap.Ns mainGlobals mg
  blt : s1.heap.Ns builtinsNs mb
  boot : ∀ x : Str, x ≠ "__name__" → mb x = bootBuiltins x
  lim : s1.heap.NoLimit
  gens : s1.gens = #[]
  tab : ∀ p ∈ cs, s1.heap.get? p.2 = some tabO
  out : ∀ p ∈ cs, K.lookup p.2 = none
  hd : ∀ p ∈ cs, PySem.W.CodeHd s1.heap p.1 p.2
  bm : ∃ (m : Addr) (ob : Obj), mg "__builtins__" = some (.ref m) ∧ m ≠ builtinsNs ∧ s1.heap.get? m = some ob ∧ ob.cls = .type "module" ∧ ob.dict = some builtinsNs ∧ ob.data = .plain
  scr : s1.heap.get? a = some (lstO vs)
  whole : IntsAre vs ns
  size : ns.length ≤ sizeLine
variable (Z : AtEnd K mg mb a cs s1 vs ns)
include Z
theorem AtEnd.isTab {b : Addr} (hb : b ∈ cs.map (·.2)) : s1.heap.get? b = some tabO ∧ K.lookup b = none ∧ H0 K a cs vs ns b = some (.tbl #[]) := by
  obtain ⟨p, hp, rfl⟩ := List.mem_map.mp hb
  exact ⟨Z.tab p hp, Z.out p hp, if_pos hb⟩
theorem AtEnd.cases (b : Addr) : H0 K a cs vs ns b = none ∨ b ∈ cs.map (·.2) ∨ (b = a ∧ b ∉ cs.map (·.2) ∧ K.lookup a = none ∧ H0 K a cs vs ns b = some (.frz (lstO vs) (.lst (ns.map V.int)))) := by
  by_cases c : b ∈ cs.map (·.2)
  · exact .inr (.inl c)
  · by_cases c2 : b = a ∧ K.lookup a = none
    · exact .inr (.inr ⟨c2.1, c, c2.2, (if_neg c).trans (if_pos c2)⟩)
    · exact .inl ((if_neg c).trans (if_neg c2))
/-- what is neither a list nor a table is not written -/
theorem AtEnd.free {b : Addr} {o : Obj} (e : s1.heap.get? b = some o) (h1 : o ≠ lstO vs) (h2 : o ≠ tabO) : H0 K a cs vs ns b = none := by
  rcases Z.cases b with c | c | ⟨c, _⟩
  · exact c
  · exact absurd (Option.some.inj (e.symm.trans (Z.isTab c).1)) h2
  · subst c
    exact absurd (Option.some.inj (e.symm.trans Z.scr)) h1
theorem AtEnd.keep {b : Addr} {o : Obj} (e : s1.heap.get? b = some o) (h1 : ∀ xs n, o.data ≠ .seq xs n) (h2 : o.data ≠ .fields #[]) : (hidT s1.heap (H0 K a cs vs ns)).get? b = some o :=
  hidT_get e (Z.free e (fun z => h1 _ _ (congrArg Obj.data z)) fun z => h2 (congrArg Obj.data z))
theorem AtEnd.nsp {b : Addr} {m : Str → Option Value} (h : s1.heap.Ns b m) : (hidT s1.heap (H0 K a cs vs ns)).Ns b m := by
  obtain ⟨o, es, ep, e, d, r⟩ := h
  exact ⟨o, es, ep, Z.keep e (fun xs n z => by rw [d] at z; cases z) (fun z => by rw [d] at z; cases z), d, r⟩
theorem AtEnd.kin' : K.In (hidT s1.heap (H0 K a cs vs ns)) := fun b o e => hidT_get (Z.kin b o e) (by
  rcases Z.cases b with c | c | ⟨c, _, c2, _⟩
  · exact c
  · rw [(Z.isTab c).2.1] at e; cases e
  · rw [c, c2] at e; cases e)
theorem AtEnd.mod : L2.Mod K mg (hidT s1.heap (H0 K a cs vs ns)) := ⟨Z.kin', Z.nsp Z.glo, ⟨mb, Z.nsp Z.blt, Z.boot⟩, let ⟨mc, h1, h2⟩ := Z.lim; ⟨mc, Z.nsp h1, h2⟩⟩
theorem AtEnd.hok : HOk P w (H0 K a cs vs ns) s1.heap := fun b u e => by
  rcases Z.cases b with c | c | ⟨c, _, _, c3⟩
  · rw [c] at e; cases e
  · obtain ⟨q1, _, q3⟩ := Z.isTab c
    rw [q3] at e
    cases e
    exact q1
  · rw [c3] at e
    cases e
    rw [c]
    exact ⟨Z.scr, by rw [List.length_map]; exact Z.size, vs, _, vals_ints Z.whole, Z.scr⟩
theorem AtEnd.env : Env0 P w K mg (hidT s1.heap (H0 K a cs vs ns)) callerA [] s1 (H0 K a cs vs ns) :=
  ⟨rfl, Z.mod, fun b o e => of_hidT e, Nat.le_of_eq (hidT_size _ _), trivial, fun b hb => (nomatch (show b ∈ ([] : List Addr) from hb)), Z.hok, .of_eq Z.gens⟩
theorem AtEnd.sql : SqL K (H0 K a cs vs ns) a (ns.map V.int) := by
  cases q : K.lookup a with
  | some o =>
    have e := (Z.kin a o q).symm.trans Z.scr
    cases e
    exact .inr ⟨_, vs.toArray, _, q, rfl, rfl, rfl, by rw [List.size_toArray, Z.whole.length]; exact Z.size, by simpa using vals_ints Z.whole⟩
  | none =>
    have nt : a ∉ cs.map (·.2) := fun z => by
      have e := Z.scr.symm.trans (Z.isTab z).1
      cases e
    exact .inl (.inr ⟨lstO vs, (if_neg nt).trans (if_pos ⟨rfl, q⟩)⟩)
theorem AtEnd.tabB {p : Addr × Addr} (hp : p ∈ cs) : TabB (hidT s1.heap (H0 K a cs vs ns)) mg p.1 p.2 := by
  have tp := Z.tab p hp
  refine ⟨?_, ?_, fun z => ?_⟩
  · obtain ⟨o, us, file, tf, flags, tg, inF, text, tt, e1, r1, r2, r3, r⟩ := Z.hd p hp
    refine ⟨o, us, file, tf, flags, tg, inF, text, tt, Z.keep e1 (fun xs n z => ?_) (fun z => ?_), r1, r2, r3, r⟩
    · rw [r2] at z; cases z
    · rw [r2] at z; cases z; simp at r3
  · obtain ⟨m, ob, b1, b2, b3, b4, b5, b6⟩ := Z.bm
    refine ⟨m, ob, b1, b2, fun z => ?_, fun z => ?_, Z.keep b3 (fun xs n z => ?_) (fun z => ?_), b4, b5, b6⟩
    · obtain ⟨o, es, ep, e, d, _⟩ := Z.glo
      rw [z, e] at b3; cases b3; rw [d] at b6; cases b6
    · rw [z, tp] at b3; cases b3; cases b6
    · rw [b6] at z; cases z
    · rw [b6] at z; cases z
  · obtain ⟨o, es, ep, e, d, _⟩ := Z.glo
    rw [z, tp] at e; cases e; cases d
/-- behind the call the heap is as it was, but for grown tables -/
theorem AtEnd.old {H2 : Hp} {h2 : Heap} (un : Un [] [] (H0 K a cs vs ns) H2 s1.heap h2) (ok : HOk P w H2 h2) : OldK s1.heap h2 := by
  have kept : ∀ b o, b ∉ cs.map (·.2) → s1.heap.get? b = some o → h2.get? b = some o := fun b o nb e => by
    rcases Z.cases b with c | c | ⟨_, _, _, c3⟩
    · exact un.keep b o e c (List.not_mem_nil) (List.not_mem_nil)
    · exact absurd c nb
    · have q1 := (Z.hok (P := P) (w := w) b _ c3).1
      rw [e] at q1
      cases q1
      exact (ok b _ (un.frzs b _ _ c3)).1
  have more : ∀ b, b ∈ cs.map (·.2) → ∃ m : Array Value, h2.get? b = some { cls := .none, data := .fields m } := fun b hb =>
    let ⟨_, z⟩ := un.tbls b #[] (Z.isTab hb).2.2
    ⟨_, ok b _ z⟩
  refine ⟨fun b o e => ?_, fun b o e => ?_⟩
  · by_cases c : b ∈ cs.map (·.2)
    · obtain ⟨m, hm⟩ := more b c
      have eo := e.symm.trans (Z.isTab c).1
      cases eo
      obtain ⟨p, hp, rfl⟩ := List.mem_map.mp c
      exact .inr (.inl ⟨((Z.hd p hp).tab (Z.tab p hp)).isCodeTable, rfl, #[], m, rfl, by rw [Array.empty_append]; exact hm⟩)
    · exact .inl (kept b o c e)
  · by_cases c : b ∈ cs.map (·.2)
    · exact let ⟨m, hm⟩ := more b c; ⟨_, hm⟩
    · exact ⟨o, kept b o c e⟩
theorem AtEnd.call {k : Nat} {fa : Addr} {fd : FuncData} {x : Str} {sp : Sp} (room : Room k callerA) (F : ∀ base : Heap, K.In base → base.Ns mainGlobals mg → (∀ p ∈ cs, TabB base mg p.1 p.2) → FnG P w K mg base k fa fd [x] sp)
    (hb : ∀ (s : Shared) (u : Value), BindsTo s fd ⟨[u], []⟩ [(x, u)]) (hsp : ∀ H : Hp, (∀ p ∈ cs, H p.2 = some (.tbl #[])) → SqL K H a (ns.map V.int) → sp [.ref a] H (fun v _ => v = .bl true) fun _ _ _ => False) :
    codeAny (model P w) callerA (.call (.ref fa) ⟨[.ref a], []⟩) (fun r s2 => r = .ok (.ret (.bool true)) ∧ OldK s1.heap s2.heap ∧ s2.os = s1.os ∧ AllBare s2.gens) s1 := by
  refine codeAny_mono ((F _ Z.kin' (Z.nsp Z.glo) fun p hp => Z.tabB hp).run callerA [] s1 _ _ [.ref a] [.ref a] _ _ ⟨room, rfl⟩ Z.env (hb s1 (.ref a)) (.cons rfl .nil) (hsp _ (fun p hp => (Z.isTab (List.mem_map.mpr ⟨p, hp, rfl⟩)).2.2) Z.sql)) fun r s2 z => ?_
  match r, z with
  | .error ev, z => exact (cx_no z).elim
  | .ok (.ret u), ⟨v, H2, os, bare, un, ok, rv, q⟩ =>
    cases (show v = .bl true from q)
    cases (show u = .bool true from rv)
    exact ⟨rfl, Z.old un ok, os, bare⟩
end

section
variable {G : Cfg} {W : WX} {X : Cx} {P : Program} {w : World} {K : PySem.W.Frag} {mg : Str → Option Value} {base : Heap}
theorem fnG {x qual : Str} {st : Stmt} {f : Addr} {fd : FuncData} {N ps : List Str} {k : Nat} (np nl : Nat) {mb : MS} {FF : List CV → M CV} (hFF : FF = runB np nl mb) {c : Addr} (F : FunC K x qual st f fd c) (S : FnScope N ps (defScope st)) (hnp : ps.length = np) (hnl : N.length = nl) (hG : G.K = K) (hGP : G.P = P) (hGw : G.w = w) (hGx : G.exi = none) (hGl : G.lam = none)
    (hbody : ∀ (A : Around) (outer : List Env) (s : Shared) (H : Hp) (E : XK), RoomG k (A.deeper (envOfC qual (defScope st) s.heap.objs.size f (.ref c))) →
      Bx G (fun c d _ H => E c d H) (cxOf (L2.CX P w) P w K mg base N qual (defScope st) f (.ref c) A outer s H E) → PassesOwn (model P w) (cxOf (L2.CX P w) P w K mg base N qual (defScope st) f (.ref c) A outer s H E).A (cxOf (L2.CX P w) P w K mg base N qual (defScope st) f (.ref c) A outer s H E).env (cxOf (L2.CX P w) P w K mg base N qual (defScope st) f (.ref c) A outer s H E).xe →
      SSs G (fun c d _ H => E c d H) (cxOf (L2.CX P w) P w K mg base N qual (defScope st) f (.ref c) A outer s H E) (defBody st) mb) : FnG P w K mg base (k + 1) f fd ps (spH G np FF) := by
  subst hnp hnl hFF
  refine fun_g F S (fun vs H Q E h => h.1) fun A outer s H vs Q E hr h => ?_
  obtain ⟨hl, ρ, h, xs, m, r, p⟩ := h
  refine ⟨_, hbody A outer s H E hr ⟨hG, hGP, hGw, takes_of rfl rfl rfl rfl⟩ (passes_of rfl), ρ, h, _, m, SlR.start r hGx hGl, ?_⟩
  rw [runB_eq] at p
  by_cases hx : xs.length = ps.length
  · rw [if_pos hx] at p
    have e0 : startC N.length xs = xs.map some ++ List.replicate (N.length - xs.length) none := rfl
    rw [e0] at p
    cases q : mb (xs.map some ++ List.replicate (N.length - xs.length) none) h with
    | mk f h' =>
      rw [q] at p
      cases f with
      | nx τ => exact fun ρ1 H1 σ1 m1 e1 s1 => p ρ1 H1 .non m1 e1 rfl
      | rt v => exact p
      | ex x τ => exact fun ρ1 H1 c d σ1 m1 e1 s1 z => p ρ1 H1 c d m1 e1 z
      | bk τ => exact p.elim
      | ct τ => exact p.elim
    | bad => rw [q] at p; exact p.elim
  · rw [if_neg hx] at p; exact p.elim
variable {k : Nat} {f : Addr} {fd : FuncData} {ps : List Str} {x : Str} {p pos : Pos} {e : Expr} {es : List Expr} {ml : Sl → M (List CV)} {F : List CV → M CV} {np : Nat}
theorem se_callG (B : Bx G W X) (ok : FnG X.prog X.w X.K X.mg X.base k f fd ps (spH G np F)) (hr : RoomG k X.A) (hg : Gl X x) (hm : X.mg x = some (.ref f)) (hk : PySem.W.keepIn X.K (.ref f) = true) (hb : Binds X.K fd ps [])
    (ha : SA G W X (e :: es) ml) (hdb : (x == ("__debug__" : Str)) = false := by decide) (he : starEach (e :: es) X.env = (false, eval e X.env) :: starEach es X.env := by rfl) (hpl : (backTo pos (starEach es X.env)).any (·.1) = false := by rfl) :
    SE G W X (.Call (.Name x p) (e :: es) [] pos) (eCall np F ml) :=
  (pe_callG ok hr hg hm hk hb (fun σ => passAt B.tk σ) ha hdb he hpl).wk fun σ H Q ⟨ρ, h, τ, m, s, p⟩ => tM_bind m s p fun xs h1 ρ1 H1 us m1 e1 s1 r1 p1 => by
    by_cases hl : xs.length = np
    · rw [if_pos hl] at p1
      exact ⟨r1.len.symm.trans hl, ρ1, h1, xs, m1, r1, Post.wx (σ := σ) p1 fun _ _ _ z => z⟩
    · rw [if_neg hl] at p1; exact p1.elim
theorem se_callFG (B : Bx G W X) (hx : G.exi = none) (hy : G.lam = none) (ok : FnG X.prog X.w X.K X.mg X.base k f fd ps (spH G np F)) (hr : RoomG k X.A) (hg : Gl X x) (hm : X.mg x = some (.ref f)) (hk : PySem.W.keepIn X.K (.ref f) = true) (hb : Binds X.K fd ps [])
    (ha : SA G W X (e :: es) ml) (hdb : (x == ("__debug__" : Str)) = false := by decide) (he : starEach (e :: es) X.env = (false, eval e X.env) :: starEach es X.env := by rfl) (hpl : (backTo pos (starEach es X.env)).any (·.1) = false := by rfl) :
    SE G W X (.Call (.Name x p) (e :: es) [] pos) (eB (callF np F) ml) :=
  (pe_lk (pe_callG ok hr hg hm hk hb (fun σ => passAt B.tk σ) ha hdb he hpl)).wk fun σ H Q ⟨ρ, h, τ, m, s, p⟩ => tM_bind m s p fun xs h1 ρ1 H1 us m1 e1 s1 r1 p1 => callF_ok hx hy m1 r1 p1 fun _ _ _ z => z
end
/-- the law's promise, tables beside the script -/
def spLawT (K : PySem.W.Frag) (T : List (Addr × Str)) : Sp := fun vs H Q _ => ∃ (a : Addr) (ns : List Int), vs = [.ref a] ∧ SqL K H a (ns.map V.int) ∧ ns.length ≤ 63 ∧ (∀ p ∈ T, H p.1 = some (.tbl #[])) ∧ ∀ H', Q (.bl true) H'
theorem spLawT_of {G : Cfg} {F : List CV → M CV} (hx : G.exi = none) (hy : G.lam = none) (hF : ∀ ns : List Int, ns.length ≤ 63 → ∃ h, F [.frz (ns.map CV.int)] [] = .ok (.bl true) h) (vs : List V) (H : Hp) (Q : VK) (E : XK) (h : spLawT G.K G.T vs H Q E) : spH G 1 F vs H Q E := by
  obtain ⟨a, ns, rfl, hS, hl, hT, q⟩ := h
  have nh : ∀ a, ¬ (⟨[], []⟩ : Wd).has a := fun a z => z.elim (fun z => nomatch z) fun z => nomatch z
  have hw : ∀ (ρ : Wd) (H : Hp) (ns : List Int), ValsR G ρ H (ns.map CV.int) (ns.map V.int) := fun ρ H ns => by
    induction ns with
    | nil => rfl
    | cons n ns ih => exact ⟨.int n, _, rfl, rfl, ih⟩
  refine ⟨rfl, ⟨[], []⟩, [], [.frz (ns.map CV.int)], ⟨rfl, List.nodup_nil, fun i a co e1 => (nomatch e1), fun a ha => (nomatch ha), fun p hp => ⟨#[], hT p hp, trivial, fun _ _ z => by cases z⟩, fun e he => (by rw [hx] at he; cases he), fun e he => by rw [hy] at he; cases he⟩, ⟨_, _, rfl, ⟨a, _, rfl, ?_, hw _ _ ns⟩, rfl⟩, ?_⟩
  · exact hS.elim (fun z => .inl ⟨nh a, z⟩) fun z => .inr (.inr z)
  · obtain ⟨h, e⟩ := hF ns hl
    rw [e]
    exact fun ρ' H' u m' e' r => by rw [show u = .bl true from r]; exact q H'
theorem walk_lawG {l : PySem.W.OpenLaw} {q : Program} {loose : List Str} {XP : (Str → Option Value) → Heap → Prop} {YP : World → Heap → Prop} {d : DefRec} {K : Params → PySem.W.Frag} {k : Nat} (hr : Room k callerA) (hn : l.most = some 63) (hdf : d.params.defaults = [])
    (hY : ∀ (w : World) (h : Heap), YP w h → (K w.params).In h)
    (F : ∀ (w : World) (mg : Str → Option Value) (fa : Addr) (h : Heap), YP w h → (K w.params).In h → h.Ns mainGlobals mg → mg d.name = some (.ref fa) →
      ∃ (fd : FuncData) (cs : List (Addr × Addr)) (T : List (Addr × Str)), (∀ p ∈ cs, h.get? p.2 = some tabO) ∧ (∀ p ∈ cs, (K w.params).lookup p.2 = none) ∧ (∀ p ∈ cs, PySem.W.CodeHd h p.1 p.2) ∧ (∀ p ∈ T, p.1 ∈ cs.map (·.2)) ∧ (∀ (s : Shared) (u : Value), BindsTo s fd ⟨[u], []⟩ [("script", u)]) ∧
        ∀ base : Heap, (K w.params).In base → base.Ns mainGlobals mg → (∀ p ∈ cs, TabB base mg p.1 p.2) → FnG l.prog w (K w.params) mg base k fa fd ["script"] (spLawT (K w.params) T)) :
    PySem.W.WalkO q loose XP YP l.row.toRowW d [] (fun f vs => PySem.call f vs) := by
  refine Att.attach_callB hn hdf fun w s0 s1 mg mb fa o pm cd doc a vs ns Gr Y ho hd hcd hm hobj hw hlen hbits hg => ?_
  obtain ⟨fd, cs, T, t1, t2, t3, t4, t5, t6⟩ := F w mg fa _ Y (hY w _ Y) Gr.T.g hm
  have Z : AtEnd (K w.params) mg mb a cs s1 vs ns := ⟨hY w _ Y, Gr.T.g, Gr.T.b, Gr.T.builtins, Gr.T.nolimit, hg, t1, t2, t3, Gr.T.bmain, hobj, hw, Nat.le_trans hlen (by decide)⟩
  exact Z.call hr t6 t5 fun H hH hS => ⟨a, ns, rfl, hS, hlen, fun p hp => (by obtain ⟨c, hc, e⟩ := List.mem_map.mp (t4 p hp); rw [← e]; exact hH c hc), fun _ => rfl⟩
end VE

noncomputable section
namespace VE
open PySem PySem.Spec PyProof.Rows L2 LamX
/-- what a value is to be shown as -/
def shoD (x : CV) (h : Mem) : Option PyData := match x with
  | .dic false [] [] => some (.dict [])
  | .dic _ _ _ => none
  | x => datM x h
def pyRepr (x : CV) : M CV := fun h => match shoD x h with
  | some d => if (d.showable && Nat.ble d.shown.length 1000000 && Nat.ble d.depth 100 ) = true then .ok (.str d.shown) h else .bad
  | none => .bad
def NoKeys (H : Hp) (v : V) : Prop := ∃ a ob, v = .ref a ∧ H a = some (.frz ob (.dK []))
def rRepr (K : PySem.W.Frag) : List V → Hp → VK → Prop := fun us H Q => ∃ v d, us = [v] ∧ ((Dp K H v d ∧ d.hasDict = false) ∨ (NoKeys H v ∧ d = .dict [])) ∧ d.showable = true ∧ d.shown.length ≤ sizeLine ∧ d.depth ≤ 100 ∧ Q (.str d.shown) H
section
variable {X : Cx}
theorem repr_reads (hg : X.A.guards = some []) (hu : X.A.units + 110 < cLine) {pins : List (Addr × Obj)} {σ : L2.St} {H : Hp} {s : Shared} {Q : VK} {d : PyData} {v : V} {u : Value} {as : List Addr} (I : Inv X pins σ H s) (rv : RelV v u) (r : Reads s.heap u d as) (hs : d.showable = true) (hm : d.hasDict = true → sysModules ∉ as) (hz : d.shown.length ≤ sizeLine) (hd : d.depth ≤ 100) (q : Q (.str d.shown) H) :
    wpAny (model X.prog X.w) X.A (call (.builtin "repr") [u]) (EP X pins σ Q) X.xe s := by
  have un : X.A.units + (d.depth + 1) < cLine := by omega
  cases r with
  | none => exact PySem.P.repr_of_none ⟨.str _, H, I.tok _, ⟨s.toks, by simp only [PyData.shown]⟩, q⟩
  | bool b => exact PySem.P.repr_of_bool ⟨.str _, H, I.tok _, ⟨s.toks, by simp only [PyData.shown]⟩, q⟩
  | int i t => exact PySem.P.repr_of_int (by simpa [PyData.showable] using hs) ⟨.str _, H, I.tok _, ⟨s.toks, by simp only [PyData.shown]⟩, q⟩
  | str x t => exact PySem.P.repr_of_str ⟨.str _, H, I.tok _, ⟨s.toks, by simp only [PyData.shown]⟩, q⟩ (by simpa [PyData.shown] using hz)
  | list h1 h2 h3 h4 => exact PySem.repr_of_reads' (.list h1 h2 h3 h4) hs hm hg un (fun _ _ e => e) (fun h' u tk hk => ⟨.str _, H, I.kept (t' := tk) hk, ⟨_, rfl⟩, q⟩) hz
  | tuple h1 h2 h3 h4 => exact PySem.repr_of_reads' (.tuple h1 h2 h3 h4) hs hm hg un (fun _ _ e => e) (fun h' u tk hk => ⟨.str _, H, I.kept (t' := tk) hk, ⟨_, rfl⟩, q⟩) hz
  | dict h1 h2 h3 h4 h5 => exact PySem.repr_of_reads' (.dict h1 h2 h3 h4 h5) hs hm hg un (fun _ _ e => e) (fun h' u tk hk => ⟨.str _, H, I.kept (t' := tk) hk, ⟨_, rfl⟩, q⟩) hz
theorem cr_reprU (hg : X.A.guards = some []) (hu : X.A.units + 110 < cLine) : CallR X (.builtin "repr") (rRepr X.K) := by
  intro pins s σ H xs us Q I r h
  obtain ⟨v, d, rfl, hv, hs, hz, hd, q⟩ := h
  cases r with
  | cons ru rn =>
    rename_i u us'
    cases rn
    rcases hv with ⟨hv, hn⟩ | ⟨⟨a, ob, ev, ha⟩, rfl⟩
    · obtain ⟨as, rd⟩ := hv.reads I d v u ru
      exact repr_reads hg hu I ru rd hs (fun z => by rw [hn] at z; cases z) hz hd q
    · subst ev
      cases (show u = .ref a from ru)
      obtain ⟨_, _, hsys, vs, kv, o, es, ep, e1, e2, e3, e4, e5, _⟩ := I.hok a _ ha
      cases kv
      have e6 : es.toList = [] := by (generalize es.toList = l at e5; cases e5; rfl)
      have rd : Reads s.heap (.ref a) (.dict []) (a :: [] ++ []) := .dict e1 e2.1 e3 (by rw [e6]; exact .nil) (by rw [e6]; exact .nil)
      exact repr_reads hg hu I (show RelV (.ref a) (.ref a) from rfl) rd hs (fun _ z => by
        have z' : sysModules = a := by simpa using z
        rw [← z'] at hsys
        simp at hsys) hz hd q
end
theorem cr_repr {X : Cx} {k : Nat} (room : RoomG k X.A) : CallR X (.builtin "repr") (rRepr X.K) := cr_reprU room.g (by have := room.r.un; omega)
/-- in a suite of a def that is called -/
theorem cr_reprS {X : Cx} {k : Nat} {A : Around} (room : RoomG k A) (h1 : X.A.guards = A.guards := by rfl) (h2 : X.A.units = A.units + 3 := by rfl) : CallR X (.builtin "repr") (rRepr X.K) := cr_reprU (h1.trans room.g) (by rw [h2]; have := room.r.un; omega)
theorem shoD_dic {n : Bool} {ks vs : List CV} {h : Mem} {d : PyData} (e : shoD (.dic n ks vs) h = some d) : n = false ∧ ks = [] ∧ vs = [] ∧ d = .dict [] := by
  unfold shoD at e
  split at e
  · rename_i q
    cases q
    exact ⟨rfl, rfl, rfl, (Option.some.inj e).symm⟩
  · cases e
  · rename_i q
    exact absurd rfl (q _ _ _)
theorem shoD_oth {x : CV} {h : Mem} (hd : ¬ ∃ n ks vs, x = .dic n ks vs) : shoD x h = datM x h := by
  unfold shoD
  split
  · exact absurd ⟨_, _, _, rfl⟩ hd
  · exact absurd ⟨_, _, _, rfl⟩ hd
  · rfl
mutual
theorem dp_noDict {K : PySem.W.Frag} {H : Hp} : ∀ {v : V} {d : PyData}, Dp K H v d → d.hasDict = false
  | _, _, .non => by simp only [PyData.hasDict]
  | _, _, .bl _ => by simp only [PyData.hasDict]
  | _, _, .int _ => by simp only [PyData.hasDict]
  | _, _, .str _ => by simp only [PyData.hasDict]
  | _, _, .lst _ h => by simp only [PyData.hasDict]; exact dps_noDict h
  | _, _, .tup _ h => by simp only [PyData.hasDict]; exact dps_noDict h
theorem dps_noDict {K : PySem.W.Frag} {H : Hp} : ∀ {vs : List V} {ds : List PyData}, DpAll K H vs ds → PyData.hasDictAll ds = false
  | _, _, .nil => by simp only [PyData.hasDictAll]
  | _, _, .cons h t => by simp only [PyData.hasDictAll, dp_noDict h, dps_noDict t, Bool.or_self]
end
theorem repr_ok {G : Cfg} : OpL G (rRepr G.K) (one pyRepr) := one_ok fun W σ ρ h H x u Q m rx p => by
  unfold pyRepr at p
  cases e : shoD x h with
  | none => rw [e] at p; exact p.elim
  | some d =>
    rw [e] at p
    simp only at p
    by_cases c : (d.showable && Nat.ble d.shown.length 1000000 && Nat.ble d.depth 100) = true
    · rw [if_pos c] at p
      simp only [Bool.and_eq_true] at c
      obtain ⟨⟨c1, c2⟩, c3⟩ := c
      have q := p ρ H (.str d.shown) m Ext.refl rfl
      have z : d.shown.length ≤ sizeLine := lineM (Nat.ble_eq.mp c2)
      by_cases hd : ∃ n ks vs, x = .dic n ks vs
      · obtain ⟨n, ks, vs, rfl⟩ := hd
        obtain ⟨rfl, rfl, rfl, rfl⟩ := shoD_dic e
        obtain ⟨a, ob, w, eu, _, hw, dr⟩ := valR_dic.mp rx
        obtain ⟨kvs, ew, ek, _⟩ := dr.2 rfl
        have ez : kvs = [] := List.map_eq_nil_iff.mp ek.symm
        subst ez
        subst ew
        exact ⟨u, _, rfl, .inr ⟨⟨a, ob, eu, hw⟩, rfl⟩, c1, z, Nat.ble_eq.mp c3, q⟩
      · have e2 : datM x h = some d := (shoD_oth hd).symm.trans e
        have dp := datM_r m rx e2
        have hn : d.hasDict = false := dp_noDict dp
        exact ⟨u, d, rfl, .inl ⟨dp, hn⟩, c1, z, Nat.ble_eq.mp c3, q⟩
    · rw [if_neg c] at p; exact p.elim
end VE

noncomputable section
namespace VE
open PySem PySem.Spec PyProof.Rows L2
theorem u65 {k : Nat} {A : Around} (r : Room k A) : A.units + 65 < cLine := by have := r.un; omega
def isNonC : CV → Bool
  | .non => true
  | _ => false
theorem isNonC_r {G : Cfg} {ρ : Wd} {H : Hp} {x : CV} {u : V} (r : ValR G ρ H x u) : decide (u = .non) = isNonC x := by
  cases x with
  | non => cases (show u = .non from r); rfl
  | bl b => cases (show u = .bl b from r); rfl
  | int i => cases (show u = .int i from r); rfl
  | str z => cases (show u = .str z from r); rfl
  | tup xs => obtain ⟨a, ys, e, _⟩ := r; subst e; rfl
  | lst xs => obtain ⟨a, ys, e, _⟩ := r; subst e; rfl
  | frz xs => obtain ⟨a, ys, e, _⟩ := r; subst e; rfl
  | ref l => obtain ⟨a, _, e⟩ := r; subst e; rfl
  | cls k => cases (show u = .ref (G.cls k) from r); rfl
  | fn k => cases (show u = .ref (G.fn k) from r); rfl
  | ty n => cases (show u = .ty n from r); rfl
  | ins k xs => obtain ⟨a, ob, fs, us, e, _⟩ := r; subst e; rfl
  | dic n ks vs => obtain ⟨a, ob, e, _⟩ := r; subst e; rfl
def pyIs (neg : Bool) (x y : CV) : M CV := match y with
  | .non => ret (.bl (neg ^^ isNonC x))
  | _ => stuck
theorem is_ok {G : Cfg} : Op2 G (fun x y H Q => y = .non ∧ Q (.bl (decide (x = .non))) H) (pyIs false) := by
  intro W σ ρ h H x y u v Q m rx ry p
  unfold pyIs at p
  split at p
  · refine ⟨ry, p ρ H _ m Ext.refl ?_⟩
    rw [isNonC_r rx, Bool.false_xor]; rfl
  · exact p.elim
theorem isnot_ok {G : Cfg} : Op2 G (fun x y H Q => y = .non ∧ Q (.bl (!decide (x = .non))) H) (pyIs true) := by
  intro W σ ρ h H x y u v Q m rx ry p
  unfold pyIs at p
  split at p
  · refine ⟨ry, p ρ H _ m Ext.refl ?_⟩
    rw [isNonC_r rx, Bool.true_xor]; rfl
  · exact p.elim
def pyInS (neg : Bool) (i j : Str) : M CV := match i.cps.toList with
  | [c] => ret (.bl (neg ^^ j.cps.toList.contains c))
  | _ => stuck
def pyInL (neg : Bool) (x y : CV) : M CV := fun h => match datM x h, datM y h with
  | some d, some (.list ds) => if (SeqAt.shaped d && SeqAt.shaped (.list ds)) = true then .ok (.bl (neg ^^ ds.any fun z => PyData.eqv z d)) h else .bad
  | _, _ => .bad
def txtOf : CV → Option Str
  | .str i => some i
  | _ => none
theorem txtOf_s {x : CV} {i : Str} (e : txtOf x = some i) : x = .str i := by
  cases x <;> first | (cases e; rfl) | cases e
def pyIn (neg : Bool) (x y : CV) : M CV := match txtOf x, txtOf y with
  | some i, some j => pyInS neg i j
  | _, _ => pyInL neg x y
def rInA (K : PySem.W.Frag) (neg : Bool) : R2 := fun x y H Q => (∃ (c : Nat) (z : Str), x = .str ⟨#[c]⟩ ∧ y = .str z ∧ Q (.bl (neg ^^ decide (c ∈ z.cps.toList))) H) ∨
  ∃ d ds, Dp K H x d ∧ Dp K H y (.list ds) ∧ SeqAt.shaped d = true ∧ SeqAt.shaped (.list ds) = true ∧ Q (.bl (neg ^^ ds.any fun z => PyData.eqv z d)) H
theorem op_inA {X : Cx} {k : Nat} (hr : Room k X.A) : OpR X (compareOp .In) (rInA X.K false) := fun pins s σ H x y v u Q I rx ry h => by
  rcases h with ⟨c, z, e1, e2, q⟩ | ⟨d, ds, h1, h2, h3, h4, q⟩
  · exact op_in_sign pins s σ H x y v u Q I rx ry ⟨c, z, e1, e2, by rw [Bool.false_xor] at q; exact q⟩
  · exact op_inD (u65 hr) pins s σ H x y v u Q I rx ry ⟨d, ds, h1, h2, h3, h4, by rw [Bool.false_xor] at q; exact q⟩
theorem op_ninA {X : Cx} {k : Nat} (hr : Room k X.A) : OpR X (compareOp .NotIn) (rInA X.K true) := fun pins s σ H x y v u Q I rx ry h => by
  rcases h with ⟨c, z, e1, e2, q⟩ | ⟨d, ds, h1, h2, h3, h4, q⟩
  · exact op_notIn_sign pins s σ H x y v u Q I rx ry ⟨c, z, e1, e2, by rw [Bool.true_xor] at q; exact q⟩
  · exact op_notInD (u65 hr) pins s σ H x y v u Q I rx ry ⟨d, ds, h1, h2, h3, h4, by rw [Bool.true_xor] at q; exact q⟩
theorem inL_ok {G : Cfg} {neg : Bool} : Op2 G (rInA G.K neg) (pyInL neg) := by
  intro W σ ρ h H x y u v Q m rx ry p
  unfold pyInL at p
  cases e1 : datM x h with
  | none => rw [e1] at p; exact p.elim
  | some d =>
    cases e2 : datM y h with
    | none => rw [e1, e2] at p; exact p.elim
    | some dy =>
      rw [e1, e2] at p
      cases dy with
      | list ds =>
        simp only at p
        by_cases c : (SeqAt.shaped d && SeqAt.shaped (.list ds)) = true
        · rw [if_pos c] at p
          rw [Bool.and_eq_true] at c
          exact .inr ⟨d, ds, datM_r m rx e1, datM_r m ry e2, c.1, c.2, p ρ H _ m Ext.refl rfl⟩
        · rw [if_neg c] at p; exact p.elim
      | _ => exact p.elim
theorem in_ok {G : Cfg} {neg : Bool} : Op2 G (rInA G.K neg) (pyIn neg) := by
  intro W σ ρ h H x y u v Q m rx ry p
  unfold pyIn at p
  cases ex : txtOf x with
  | none => rw [ex] at p; exact inL_ok W σ ρ h H x y u v Q m rx ry p
  | some i =>
    cases ey : txtOf y with
    | none => rw [ex, ey] at p; exact inL_ok W σ ρ h H x y u v Q m rx ry p
    | some j =>
      rw [ex, ey] at p
      simp only at p
      cases txtOf_s ex
      cases txtOf_s ey
      unfold pyInS at p
      cases el : i.cps.toList with
      | nil => rw [el] at p; exact p.elim
      | cons c t =>
        cases t with
        | cons _ _ => rw [el] at p; exact p.elim
        | nil =>
          rw [el] at p
          cases (show u = .str i from rx)
          cases (show v = .str j from ry)
          have ei : i = ⟨#[c]⟩ := by
            cases i with
            | mk cps => exact congrArg Str.mk (by rw [← Array.toArray_toList (xs := cps), el])
          refine .inl ⟨c, j, by rw [ei], rfl, ?_⟩
          have q := p ρ H (.bl (neg ^^ j.cps.toList.contains c)) m Ext.refl rfl
          rw [List.contains_eq_mem] at q
          exact q
def cutC (xs : List CV) (lo hi : Option Int) : List CV := (xs.drop (HT.sIx xs.length 0 lo)).take (HT.sIx xs.length xs.length hi - HT.sIx xs.length 0 lo)
theorem ValsR.drop {G : Cfg} {ρ : Wd} {H : Hp} : ∀ {xs : List CV} {us : List V} (n : Nat), ValsR G ρ H xs us → ValsR G ρ H (xs.drop n) (us.drop n)
  | xs, us, 0, r => r
  | [], us, n + 1, r => by cases (show us = [] from r); exact rfl
  | x :: xs, us, n + 1, ⟨y, t, e, _, r⟩ => by subst e; exact ValsR.drop (xs := xs) n r
theorem ValsR.take {G : Cfg} {ρ : Wd} {H : Hp} : ∀ {xs : List CV} {us : List V} (n : Nat), ValsR G ρ H xs us → ValsR G ρ H (xs.take n) (us.take n)
  | xs, us, 0, r => rfl
  | [], us, n + 1, r => by cases (show us = [] from r); exact rfl
  | x :: xs, us, n + 1, ⟨y, t, e, r1, r⟩ => by subst e; exact ⟨y, _, rfl, r1, ValsR.take (xs := xs) n r⟩
theorem cut_r {G : Cfg} {ρ : Wd} {H : Hp} {xs : List CV} {us : List V} {lo hi : Option Int} (r : ValsR G ρ H xs us) : ValsR G ρ H (cutC xs lo hi) (cutV us lo hi) := by
  unfold cutC cutV
  rw [r.len]
  exact (r.drop _).take _
def pySlice (lo hi : Option Int) (x : CV) : M CV := fun h => match txtOf x with
  | some z => if z.length ≤ 1000000 then .ok (.str (cutS z lo hi)) h else .bad
  | none => match lisOf x h with
    | some xs => .ok (.lst (cutC xs lo hi)) h
    | none => match x with
      | .tup xs => .ok (.tup (cutC xs lo hi)) h
      | _ => .bad
/-- the bounds: constants -/
def oPart (e : Option (Sl → M CV)) (τ : Sl) : M (Option Int) := match e with
  | none => ret none
  | some e => bnd (e τ) fun x => match x with
    | .int i => ret (some i)
    | _ => stuck
def eSlice (o : Sl → M CV) (lo hi : Option (Sl → M CV)) : Sl → M CV := fun τ => bnd (o τ) fun x => bnd (oPart lo τ) fun l => bnd (oPart hi τ) fun u => pySlice l u x
def rSlX (K : PySem.W.Frag) : V → Option Int → Option Int → Hp → VK → Prop := fun x lo hi H Q => rSlS x lo hi H Q ∨ rSlL K x lo hi H Q ∨ rSlA K x lo hi H Q
theorem sl_any {X : Cx} : L2.SlR X (rSlX X.K) := fun pins s σ H x v vl vu lo hi sl Q I rx hs pl pu h => by
  rcases h with h | h | h
  · exact sl_str pins s σ H x v vl vu lo hi sl Q I rx hs pl pu h
  · exact sl_list pins s σ H x v vl vu lo hi sl Q I rx hs pl pu h
  · exact sl_tupA pins s σ H x v vl vu lo hi sl Q I rx hs pl pu h
theorem _root_.L2.PO.wk {X : Cx} {e : Option Expr} {t t' : TO} (h : PO X e t) (w : ∀ σ H Q, t' σ H Q → t σ H Q) : PO X e t' := ⟨fun pins s σ H Q I q => h.run pins s σ H Q I (w σ H Q q)⟩
def tO (G : Cfg) (W : WX) (m : Sl → M (Option Int)) : TO := fun σ H Q => tM G W (fun _ _ (a : Option Int) (b : Option Int) => b = a) m σ H Q
theorem slice_ok {G : Cfg} {W : WX} {σ : L2.St} {ρ : Wd} {h : Mem} {H : Hp} {x : CV} {u : V} {lo hi : Option Int} {Q : VK} (m : MemR G ρ h H) (r : ValR G ρ H x u) (p : Post G W (ValR G) σ ρ H (pySlice lo hi x h) Q) : rSlX G.K u lo hi H Q := by
  unfold pySlice at p
  cases e : txtOf x with
  | some z =>
    rw [e] at p
    simp only at p
    cases txtOf_s e
    by_cases c : z.length ≤ 1000000
    · rw [if_pos c] at p
      exact .inl ⟨z, r, lineM c, p ρ H _ m Ext.refl rfl⟩
    · rw [if_neg c] at p; exact p.elim
  | none =>
    rw [e] at p
    simp only at p
    cases e2 : lisOf x h with
    | some xs =>
      rw [e2] at p
      obtain ⟨a, ys, eu, rr, sq⟩ := lisOf_r m r e2
      exact .inr (.inl ⟨a, ys, eu, sq, fun q hq => Post.newLst m (cut_r rr) p hq⟩)
    | none =>
      rw [e2] at p
      cases x with
      | tup xs =>
        obtain ⟨a, ys, eu, sq, rr⟩ := r
        refine .inr (.inr ⟨a, ys, eu, sq, fun c => ?_, fun _ q hq => Post.newTup m (cut_r rr) p hq⟩)
        have ec : cutV ys lo hi = ys := by
          unfold cutV
          rw [c.1, c.2]; simp
        have rc := cut_r (lo := lo) (hi := hi) rr
        rw [ec] at rc
        exact p ρ H _ m Ext.refl ⟨a, ys, rfl, sq, rc⟩
      | _ => exact p.elim
section
variable {G : Cfg} {W : WX} {X : Cx} {e lo hi : Expr} {me : Sl → M CV} {ml mu : Sl → M (Option Int)} {pos p2 : Pos} {ol oh : Option Expr}
theorem so_none : PO X none (tO G W (oPart none)) := po_none.wk fun σ H Q ⟨ρ, h, τ, m, s, p⟩ => p ρ H none m Ext.refl rfl
theorem so_some {m : Sl → M CV} (he : SE G W X e m) : PO X (some e) (tO G W (oPart (some m))) := (po_some he).wk fun σ H Q ⟨ρ, h, τ, m, s, p⟩ => tM_bind m s p fun x h1 ρ1 H1 u m1 e1 s1 r1 p1 => by
  cases x with
  | int i => exact ⟨i, r1, p1 ρ1 H1 _ m1 Ext.refl rfl⟩
  | _ => exact p1.elim
theorem se_slice {a b : Option (Sl → M CV)} (hK : G.K = X.K) (he : SE G W X e me) (hl : PO X ol (tO G W (oPart a))) (hu : PO X oh (tO G W (oPart b))) : SE G W X (.Subscript e (.Slice ol oh none p2) pos) (eSlice me a b) :=
  (pe_slice sl_any he hl hu).wk fun σ H Q ⟨ρ, h, τ, m, s, p⟩ => tM_bind m s p fun x h1 ρ1 H1 u m1 e1 s1 r1 p1 => tM_bind m1 s1 p1 fun l h2 ρ2 H2 l' m2 e2 s2 r2 p2 => tM_bind m2 s2 p2 fun k h3 ρ3 H3 k' m3 e3 s3 r3 p3 => by
    cases r2
    cases r3
    rw [← hK]
    exact slice_ok (σ := σ) m3 ((r1.ext m1 e2).ext m2 e3) p3
end
def fmtS (x : CV) : Option Str := match x with
  | .str y => if y.length ≤ 1000000 then some y else none
  | .int i => if i.natAbs.log2 < 1920 then some (Str.ofString (toString i)) else none
  | _ => none
def eFmt (e : Sl → M CV) : Sl → M CV := fun τ => bnd (e τ) fun x h => match fmtS x with
  | some y => .ok (.str y) h
  | none => .bad
section
variable {G : Cfg} {W : WX} {X : Cx} {e : Expr} {me : Sl → M CV} {pos : Pos}
theorem se_fmt (he : SE G W X e me) : SE G W X (.FormattedValue e (-1) none pos) (eFmt me) :=
  (pe_fmt he).wk fun σ H Q ⟨ρ, h, τ, m, s, p⟩ => tM_bind m s p fun x h1 ρ1 H1 u m1 e1 s1 r1 p1 => by
    cases x with
    | str y =>
      by_cases c : y.length ≤ 1000000
      · have q : Post G W (ValR G) σ ρ1 H1 (.ok (.str y) h1) Q := by simpa [fmtS, c] using p1
        exact .inl ⟨y, r1, lineM c, q ρ1 H1 _ m1 Ext.refl rfl⟩
      · have q : Post G W (ValR G) σ ρ1 H1 .bad Q := by simpa [fmtS, c] using p1
        exact q.elim
    | int i =>
      by_cases c : i.natAbs.log2 < 1920
      · have q : Post G W (ValR G) σ ρ1 H1 (.ok (.str (Str.ofString (toString i))) h1) Q := by simpa [fmtS, c] using p1
        exact .inr ⟨i, r1, c, q ρ1 H1 _ m1 Ext.refl rfl⟩
      · have q : Post G W (ValR G) σ ρ1 H1 .bad Q := by simpa [fmtS, c] using p1
        exact q.elim
    | _ => exact p1.elim
theorem se_join1 (he : SE G W X e me) : SE G W X (.JoinedStr [e] pos) me := pe_joined1 he
inductive SJ (G : Cfg) (W : WX) (X : Cx) : List Expr → List (Sl → M CV) → Prop where
  | nil : SJ G W X [] []
  | cons {e : Expr} {m : Sl → M CV} {es : List Expr} {ms : List (Sl → M CV)} (h : SE G W X e m) (r : SJ G W X es ms) : SJ G W X (e :: es) (m :: ms)
def eJs : List (Sl → M CV) → Str → Sl → M CV
  | [], acc, _ => ret (.str acc)
  | m :: ms, acc, τ => bnd (m τ) fun x => match x with
    | .str y => if (acc ++ y).length ≤ 1000000 then eJs ms (acc ++ y) τ else stuck
    | _ => stuck
theorem sj_pj : ∀ {es : List Expr} {ms : List (Sl → M CV)}, SJ G W X es ms → PJ X es (ms.map fun m => tV G W m)
  | _, _, .nil => .nil
  | _, _, .cons h r => .cons h (sj_pj r)
theorem js_run {σ : L2.St} {Q : VK} : ∀ (ms : List (Sl → M CV)) (acc : Str) (H : Hp), tV G W (eJs ms acc) σ H Q → tJs (ms.map fun m => tV G W m) acc σ H fun out H1 => Q (.str out) H1
  | [], acc, H, ⟨ρ, h, τ, m, s, p⟩ => p ρ H _ m Ext.refl rfl
  | t :: ts, acc, H, ⟨ρ, h, τ, m, s, p⟩ => tM_bind m s p fun x h1 ρ1 H1 u m1 e1 s1 r1 p1 => by
    cases x with
    | str y =>
      have p1 : Post G W (ValR G) σ ρ1 H1 ((if (acc ++ y).length ≤ 1000000 then eJs ts (acc ++ y) τ else stuck) h1) Q := p1
      by_cases c : (acc ++ y).length ≤ 1000000
      · rw [if_pos c] at p1
        exact ⟨y, r1, lineM c, js_run ts (acc ++ y) H1 ⟨ρ1, h1, τ, m1, s1, p1⟩⟩
      · rw [if_neg c] at p1; exact p1.elim
    | _ => exact p1.elim
theorem se_join {v1 v2 : Expr} {rest : List Expr} {ms : List (Sl → M CV)} (h : SJ G W X (v1 :: v2 :: rest) ms) : SE G W X (.JoinedStr (v1 :: v2 :: rest) pos) (eJs ms Str.empty) :=
  (pe_joined (sj_pj h)).wk fun σ H Q q => js_run ms Str.empty H q
end
end VE

noncomputable section
namespace VE
open PySem PySem.Spec PyProof.Rows L2
def repS (a : Str) (n : Nat) : Str := ⟨(List.replicate n a.cps).foldl (· ++ ·) #[]⟩
theorem rep_size : ∀ (n : Nat) (acc c : Array Nat), ((List.replicate n c).foldl (· ++ ·) acc).size = acc.size + n * c.size
  | 0, acc, c => by simp
  | n + 1, acc, c => by
    rw [List.replicate_succ, List.foldl_cons, rep_size n (acc ++ c) c, Array.size_append, Nat.succ_mul]
    omega
def rMulS : R2 := fun x y H Q => ∃ (a : Str) (n : Nat), x = .str a ∧ y = .int n ∧ 2 ≤ n ∧ n ≤ 1000000 ∧ a.length ≠ 0 ∧ a.length * n ≤ 1000000 ∧ Q (.str (repS a n)) H
theorem op_mulS {X : Cx} : OpR X (binaryOp .Mult) rMulS := fun pins s σ H x y v u Q I rx ry h => by
  obtain ⟨a, n, rfl, rfl, n2, nb, ha, hz, q⟩ := h
  obtain ⟨t, rfl⟩ := rx
  obtain ⟨t', rfl⟩ := ry
  have hl : a.length ≤ 1000000 := Nat.le_trans (Nat.le_mul_of_pos_right a.length (by omega)) hz
  refine PySem.P.mul_str (by rw [decide_eq_false (by omega), decide_eq_false (by omega)]; rfl) (fun _ _ z => ?_) (fun _ _ => ?_) ?_
  · have h1 : ((a.length : Nat) : Int) * (n : Int) ≤ 2 ^ 63 - 1 := by
      have h2 : ((a.length : Nat) : Int) * (n : Int) = ((a.length * n : Nat) : Int) := (Int.natCast_mul _ _).symm
      rw [h2]
      omega
    have h3 : ((a.length : Nat) : Int) ≤ (2 ^ 63 - 1) / (n : Int) := Int.le_ediv_of_mul_le (by omega) h1
    omega
  · unfold Builtin.Str.tooLong
    rw [Int.toNat_natCast]
    exact decide_eq_false (by have := lineM hz; omega)
  · rw [if_neg (by omega), if_neg]
    · rw [Int.toNat_natCast]
      exact ⟨lineM (by show (repS a n).cps.size ≤ 1000000; rw [show (repS a n).cps.size = _ from rep_size n #[] a.cps]; rw [show (#[] : Array Nat).size = 0 from rfl, Nat.zero_add, Nat.mul_comm]; exact hz), .str (repS a n), H, I.tok _, ⟨_, rfl⟩, q⟩
    · intro z
      rw [Bool.or_eq_true, beq_iff_eq, beq_iff_eq] at z
      omega
def pyTimes (x y : CV) : M CV := match txtOf x with
  | some a => match y with
    | .int i => if (2 : Int) ≤ i ∧ i ≤ 1000000 ∧ a.length ≠ 0 ∧ a.length * i.toNat ≤ 1000000 then ret (.str (repS a i.toNat)) else stuck
    | _ => stuck
  | none => pyMul x y
def rTimesS (K : PySem.W.Frag) : R2 := fun x y H Q => rTimes K x y H Q ∨ rMulS x y H Q
theorem op_timesS {X : Cx} : OpR X (binaryOp .Mult) (rTimesS X.K) := op_times.or op_mulS
theorem timesS_ok {G : Cfg} : Op2 G (rTimesS G.K) pyTimes := by
  intro W σ ρ h H x y u v Q m rx ry p
  unfold pyTimes at p
  cases e : txtOf x with
  | none => rw [e] at p; exact .inl (times_ok W σ ρ h H x y u v Q m rx ry p)
  | some a =>
    rw [e] at p
    cases txtOf_s e
    cases y with
    | int i =>
      simp only at p
      by_cases c : (2 : Int) ≤ i ∧ i ≤ 1000000 ∧ a.length ≠ 0 ∧ a.length * i.toNat ≤ 1000000
      · rw [if_pos c] at p
        have ei : ((i.toNat : Nat) : Int) = i := Int.toNat_of_nonneg (by omega)
        exact .inr ⟨a, i.toNat, rx, by rw [ei]; exact ry, by omega, by omega, c.2.2.1, c.2.2.2, p ρ H _ m Ext.refl rfl⟩
      · rw [if_neg c] at p; exact p.elim
    | _ => exact p.elim
def pySplit (x : CV) (xs : List CV) : M CV := match txtOf x, xs with
  | some a, [y] => match txtOf y with
    | some b => if b.length ≠ 0 ∧ a.length + 2 ≤ 1000000 then ret (.lst ((Txt.split a b).map CV.str)) else stuck
    | none => stuck
  | _, _ => stuck
theorem strs_r {G : Cfg} {ρ : Wd} {H : Hp} : ∀ l : List Str, ValsR G ρ H (l.map CV.str) (l.map V.str)
  | [] => rfl
  | x :: l => ⟨.str x, _, rfl, rfl, strs_r l⟩
theorem split_ok {G : Cfg} : Mt G (fun x xs H Q => ∃ a b, x = .str a ∧ xs = [.str b] ∧ (b.length == 0) = false ∧ a.length + 2 ≤ sizeLine ∧ rNewStrs (Txt.split a b) H Q) pySplit := by
  intro W σ ρ h H x u xs us Q m rx rs p
  unfold pySplit at p
  cases e : txtOf x with
  | none => rw [e] at p; exact p.elim
  | some a =>
    rw [e] at p
    cases txtOf_s e
    match xs, rs, p with
    | [], _, p => exact p.elim
    | _ :: _ :: _, _, p => exact p.elim
    | [y], rs, p =>
      simp only at p
      cases e2 : txtOf y with
      | none => rw [e2] at p; exact p.elim
      | some b =>
        rw [e2] at p
        cases txtOf_s e2
        simp only at p
        by_cases c : b.length ≠ 0 ∧ a.length + 2 ≤ 1000000
        · rw [if_pos c] at p
          obtain ⟨v, t, ev, r1, r2⟩ := rs
          cases (show t = [] from r2)
          cases (show v = .str b from r1)
          exact ⟨a, b, rx, ev, beq_eq_false_iff_ne.mpr c.1, lineM c.2, fun q hq => Post.newLst m (strs_r _) p hq⟩
        · rw [if_neg c] at p; exact p.elim
theorem se_dict0 {G : Cfg} {W : WX} {X : Cx} {pos : Pos} : SE G W X (.Dict [] [] pos) (eC (.dic false [] [])) :=
  (pe_lk pe_dnewK).wk fun σ H Q ⟨ρ, h, τ, m, s, p⟩ q hq => by
    refine .lock upd_same trivial fun od => .done ?_
    have e : upd (upd H q (.dK [])) q (.frz od (.dK [])) = upd H q (.frz od (.dK [])) := by
      funext b
      by_cases c : b = q
      · subst c; rw [upd_same, upd_same]
      · rw [upd_ne c, upd_ne c, upd_ne c]
    rw [e]
    refine p ρ _ _ (m.laid hq) (Ext.laid hq) (valR_dic.mpr ⟨q, od, _, rfl, m.free hq, upd_same, fun z => (nomatch z), fun _ => ⟨[], rfl, rfl, rfl⟩⟩)
end VE

noncomputable section
namespace VE
open PySem PySem.Spec PyProof.Rows L2
/-- the defs that a name may hold: number, parameters, meaning -/
abbrev Disp := List (Nat × Nat × (List CV → M CV))
def dispAt (D : Disp) (k : Nat) : Option (Nat × (List CV → M CV)) := List.rec none (fun d _ ih => Bool.rec ih (some d.2) (Nat.beq d.1 k)) D
def eDyn (i : Nat) (D : Disp) (ml : Sl → M (List CV)) : Sl → M CV := fun τ => match sget τ i with
  | some (some (.fn k)) => match dispAt D k with
    | some d => bnd (ml τ) (callF d.1 d.2)
    | none => stuck
  | _ => stuck
inductive Holds (G : Cfg) (X : Cx) : Disp → Prop
  | nil : Holds G X []
  | cons {k np j : Nat} {F : List CV → M CV} {fd : FuncData} {ps : List Str} {D : Disp} (ok : FnOk X.prog X.w X.K X.mg X.base (L2.CX X.prog X.w) j (G.fn k) fd ps (spH G np F)) (hr : Room j X.A) (hk : PySem.W.keepIn X.K (.ref (G.fn k)) = true) (hb : Binds X.K fd ps []) (r : Holds G X D) : Holds G X ((k, np, F) :: D)
theorem Holds.at_ {G : Cfg} {X : Cx} {k : Nat} : ∀ {D : Disp} {d : Nat × (List CV → M CV)}, Holds G X D → dispAt D k = some d →
    ∃ (j : Nat) (fd : FuncData) (ps : List Str), FnOk X.prog X.w X.K X.mg X.base (L2.CX X.prog X.w) j (G.fn k) fd ps (spH G d.1 d.2) ∧ Room j X.A ∧ PySem.W.keepIn X.K (.ref (G.fn k)) = true ∧ Binds X.K fd ps []
  | _, _, .nil, e => by cases e
  | _, d, .cons (k := k0) (np := np) (F := F) (D := D) ok hr hk hb r, e => by
    have e' : (Bool.rec (dispAt D k) (some (np, F)) (Nat.beq k0 k) : Option (Nat × (List CV → M CV))) = some d := e
    cases q : Nat.beq k0 k with
    | true =>
      rw [q] at e'
      cases e'
      cases Nat.eq_of_beq_eq_true q
      exact ⟨_, _, _, ok, hr, hk, hb⟩
    | false =>
      rw [q] at e'
      exact r.at_ e'
section
variable {X : Cx} {i : Nat} {x : Str} {p pos : Pos} {e : Expr} {es : List Expr} {t : TA} {E : L2.St → XK}
theorem pe_callV {S : Addr → Sp → Prop} (A : ∀ f sp, S f sp → ∃ (j : Nat) (fd : FuncData) (ps : List Str), FnOk X.prog X.w X.K X.mg X.base (L2.CX X.prog X.w) j f fd ps sp ∧ Room j X.A ∧ PySem.W.keepIn X.K (.ref f) = true ∧ Binds X.K fd ps [])
    (hx : ∀ σ, PassesAt (L2.CX X.prog X.w) X σ (E σ)) (hN : X.N[i]? = some x) (hv : Vis X.env.scope x) (ha : PA X (e :: es) t) (hdb : (x == ("__debug__" : Str)) = false := by decide) (hcd : (x == ("__classdict__" : Str)) = false := by decide)
    (he : starEach (e :: es) X.env = (false, eval e X.env) :: starEach es X.env := by rfl) (hpl : (backTo pos (starEach es X.env)).any (·.1) = false := by rfl) :
    PE X (.Call (.Name x p) (e :: es) [] pos) (fun σ H Q => ∃ f sp, σ[i]? = some (some (.ref f)) ∧ S f sp ∧ t σ H fun vs H1 => sp vs H1 Q (E σ)) := by
  refine ⟨fun pins s σ H Q I ⟨f, sp, hs, hS, ht⟩ => ?_⟩
  obtain ⟨j, fd, ps, ok, hr, hk, hb⟩ := A f sp hS
  refine wpAny_Call_Name_kw (thn ((pe_var (pos := p) hN hv hdb hcd).run pins s σ H (fun v H1 => v = .ref f ∧ H1 = H) I ⟨.ref f, hs, rfl, rfl⟩) fun u s1 ⟨v, H1, I1, r1, e1, e2⟩ => ?_)
  subst e1 e2
  cases (show u = .ref f from r1)
  exact PySem.W.callWith_K (h₀ := X.base) I.ok.mod.kin hk (thn (ha.run pos pins s1 σ _ _ I1 ht) fun us s2 ⟨vs, H2, I2, r, q⟩ => ⟨I2.kIn, run_fnS ok hr hb (hx σ) I2 r q⟩) he hpl
variable {G : Cfg} {W : WX} {ml : Sl → M (List CV)} {D : Disp}
theorem se_callV (B : Bx G W X) (hx : G.exi = none) (hy : G.lam = none) (hd : Holds G X D) (hN : X.N[i]? = some x) (hv : Vis X.env.scope x) (ha : SA G W X (e :: es) ml) (hdb : (x == ("__debug__" : Str)) = false := by decide) (hcd : (x == ("__classdict__" : Str)) = false := by decide)
    (he : starEach (e :: es) X.env = (false, eval e X.env) :: starEach es X.env := by rfl) (hpl : (backTo pos (starEach es X.env)).any (·.1) = false := by rfl) : SE G W X (.Call (.Name x p) (e :: es) [] pos) (eDyn i D ml) :=
  (pe_lk (pe_callV (S := fun f sp => ∃ k d, f = G.fn k ∧ dispAt D k = some d ∧ sp = spH G d.1 d.2) (E := fun σ => WE W σ) (fun f sp ⟨k, d, e1, e2, e3⟩ => by subst e1 e3; exact hd.at_ e2) (fun σ => passAt B.tk σ) hN hv ha hdb hcd he hpl)).wk fun σ H Q ⟨ρ, h, τ, m, s, p⟩ => by
    unfold eDyn at p
    rw [sget_eq] at p
    cases q : τ[i]? with
    | none => rw [q] at p; exact p.elim
    | some o =>
      cases o with
      | none => rw [q] at p; exact p.elim
      | some v =>
        rw [q] at p
        cases v with
        | fn k =>
          simp only at p
          cases q2 : dispAt D k with
          | none => rw [q2] at p; exact p.elim
          | some d =>
            rw [q2] at p
            obtain ⟨u, hu, ru⟩ := s.2.1 i _ q
            cases (show u = .ref (G.fn k) from ru)
            exact ⟨_, _, hu, ⟨k, d, rfl, q2, rfl⟩, tM_bind m s p fun xs h1 ρ1 H1 us m1 e1 s1 r1 p1 => callF_ok hx hy m1 r1 p1 fun _ _ _ z => z⟩
        | _ => exact p.elim
end
end VE

noncomputable section
namespace VE
open PySem PySem.Spec PyProof.Rows L2
theorem bx_IndexError : SupX.BaseX "IndexError" "IndexError.__new__" "IndexError.__init__" [.type "IndexError", .type "LookupError", .type "Exception", .type "BaseException", .type "object"] :=
  ⟨PySem.F.excBase_IndexError, PySem.W.kxs_IndexError, by decide +kernel, fun _ => by kernel_rfl⟩
theorem sup_mk {P : Program} {K : PySem.W.Frag} {h : Heap} {mg : Str → Option Value} (X : K.In h) (G : h.Ns mainGlobals mg) {cn f : Str} {B newId initId : String} {bmB : List Value} {C fI N cda cc : Addr} {nm q : Str} {bs bm : List Value} {sn : List Str} {sub : List Value} {ab : Bool} {col : Option Bool} {dd : Option Addr} {k0 k1 k2 k3 k5 : Option Value}
    {oc : Value} {od : Option Addr} {doc pm : Value} {an : Option Addr} {ct : Value} {osl : Array (Option Value)} {p1 p2 q0 q1 q2 q3 q4 q5 q6 q7 q8 q9 : Pos} {cl ccl : Value} {cld cdd : Option Addr} {csl ccs : Array (Option Value)} {vs : Array Value} {file : Str} {tf : Tok}
    (bx : SupX.BaseX B newId initId bmB) (a : PySem.W.nsIn K mainGlobals cn = some (some (.ref C))) (s : PySem.W.nsIn K mainGlobals "super" = some none)
    (l : K.lookup C = some (excClassObj nm q C N bs bm true sn sub ab col dd k0 k1 k2 k3 k5 newId)) (ht : PySem.W.excTail bmB bm = true)
    (sa : PySem.W.findIn K (.ref C) "__setattr__" = some (some (.builtin "object.__setattr__"))) (ga : PySem.W.findIn K (.ref C) "__getattribute__" = some (some (.builtin "BaseException.__getattribute__"))) (gg : PySem.W.findIn K (.ref C) "__getattr__" = some none)
    (noN : PySem.W.findIn K (.ref C) f = some none) (iC : PySem.W.findIn K (.ref C) "__init__" = some (some (.ref fI))) (tC : PySem.W.typeIn K (.ref fI) = some (.type "function")) (kC : PySem.W.keepIn K (.ref C) = true) (exC : PySem.W.subIn K (.ref C) (.type "BaseException") = some true)
    (suB : PySem.W.subIn K (.ref C) (.type B) = some true) (suC : PySem.W.subIn K (.ref C) (.ref C) = some true) (tyC : PySem.W.typeIn K (.ref C) = some (.type "type")) (hdC : PySem.W.hasDictIn K C = true) (isC : PySem.W.isClsIn K C = true) (sup : PySem.W.ks_superIn K C C "__init__" = some (some (.builtin initId)))
    (any : PySem.W.nsIn K cStatics "thirdparty.any" = some none) (nf : (f == ("__debug__" : Str)) = false ∧ f ≠ "self" ∧ f ≠ "super" ∧ f ≠ "__class__")
    (lf : K.lookup fI = some ⟨oc, od, .func (PySem.W.ksFn "__init__" (cn ++ ".__init__") (SupX.iA f p1 p2) [SupX.iB1 f q0 q1 q2 q3 q4 q5, SupX.iB2 f q6 q7 q8 q9] (SupX.iS f) .none .none doc pm an (.ref cda) ct cc), osl⟩)
    (cod : PySem.W.codeIn K (.ref cda) (cn ++ ".__init__") = true) (lc : K.lookup cc = some ⟨cl, cld, .cell (some (.ref C)), csl⟩) (lcd : K.lookup cda = some ⟨ccl, cdd, .fields vs, ccs⟩) (fv : vs[2]? = some (.str file tf)) (fl : ((P.main.file : Str) == file) = true)
    (bnd : ∀ (s : Shared) (a b : Value), BindsTo s (PySem.W.ksFn "__init__" (cn ++ ".__init__") (SupX.iA f p1 p2) [SupX.iB1 f q0 q1 q2 q3 q4 q5, SupX.iB2 f q6 q7 q8 q9] (SupX.iS f) .none .none doc pm an (.ref cda) ct cc) ⟨[a, b], []⟩ [("self", a), (f, b)])
    (ev : ∃ pl : Sem Bool, ∀ env : Env, eval (.Call (.Attribute (.Call (.Name "super" q0) [] [] q1) "__init__" q2) [.Name f q3] [] q4) env = (do
      let ov ← attributeBase (.Call (.Name "super" q0) [] [] q1) "__init__" env (eval (.Call (.Name "super" q0) [] [] q1) env)
      standAt q2.atName
      let (g, first) ← holding [ov] (getMethod ov "__init__" pl)
      callWith q4 g first (backTo q4 (starEach [.Name f q3] env)) []))
    (top : (P.main.scope.names.lookup ("super" : Str)).isSome = false) : ∃ C fI, SupX.SupTxt P K mg C fI cn f B newId initId bmB :=
  ⟨C, fI, ⟨bx, PySem.W.mg_of X G a, PySem.W.mg_none_of X G s, ⟨nm, q, N, bs, bm, sn, sub, ab, col, dd, k0, k1, k2, k3, k5, l, fun Y => PySem.W.excTail_contains Y bm ht, fun self => by rw [refuseLoop_ref]; exact PySem.W.excTail_pass self (bx.pass self) bm ht⟩, sa, ga, gg, noN, iC, tC, kC, exC, suB, suC, tyC, hdC, isC, sup, any, nf,
    ⟨oc, od, doc, pm, an, cda, cc, ct, osl, p1, p2, q0, q1, q2, q3, q4, q5, q6, q7, q8, q9, cl, ccl, cld, cdd, csl, ccs, vs, file, tf, lf, cod, lc, lcd, fv, fl, bnd, ev⟩, top⟩⟩
/-- a def with the table of its lambdas -/
theorem defC_mk {K : PySem.W.Frag} {h : Heap} {mg : Str → Option Value} (X : K.In h) (G : h.Ns mainGlobals mg) {x : Str} {st : Stmt} {f c P : Addr} {od an : Option Addr} {osl : Array (Option Value)} {oc kV doc pm ct : Value} (a : PySem.W.nsIn K mainGlobals x = some (some (.ref f)))
    (l : K.lookup f = some ⟨oc, od, .func (PySem.W.fnOf x x (defArgs st) (defBody st) (defScope st) .none kV doc pm an (.ref c) ct), osl⟩) (cd : PySem.W.codeIn K (.ref c) x = true) (k : PySem.W.keepIn K (.ref f) = true) (hd : PySem.W.codeHdIn K c P = true) (o : K.lookup P = none) :
    ∃ (f : Addr) (fd : FuncData) (c P : Addr), mg x = some (.ref f) ∧ Fun K x x st f fd ∧ FunC K x x st f fd c ∧ PySem.W.codeHdIn K c P = true ∧ K.lookup P = none :=
  ⟨f, _, c, P, PySem.W.mg_of X G a, fun_mk l cd k, ⟨⟨oc, od, kV, doc, pm, an, ct, osl, rfl, l, cd⟩⟩, hd, o⟩
def pyStr (x : CV) : M CV := match x with
  | .int i => if i.natAbs.log2 < 1920 then ret (.str (Str.ofString (toString i))) else stuck
  | _ => stuck
theorem str_ok {G : Cfg} : OpL G (fun xs H Q => ∃ i, xs = [.int i] ∧ i.natAbs.log2 < 1920 ∧ Q (.str (toString i)) H) (one pyStr) := one_ok fun W σ ρ h H x u Q m rx p => by
  cases x with
  | int i =>
    have p : Post G W (ValR G) σ ρ H ((if i.natAbs.log2 < 1920 then ret (.str (Str.ofString (toString i))) else stuck) h) Q := p
    by_cases c : i.natAbs.log2 < 1920
    · rw [if_pos c] at p
      exact ⟨i, by rw [show u = V.int i from rx], c, p ρ H _ m Ext.refl rfl⟩
    · rw [if_neg c] at p; exact p.elim
  | _ => exact p.elim
/-- int(x): an int, a bool, a text -/
def pyIntT (x : CV) : M CV := match x with
  | .int i => ret (.int i)
  | .bl b => ret (.int (if b then 1 else 0))
  | .str a => match PySem.intText? a with
    | some n => if a.length ≤ 640 then ret (.int n) else stuck
    | none => stuck
  | _ => stuck
def rIntT : List V → Hp → VK → Prop := fun xs H Q => ((∃ i, xs = [V.int i] ∧ Q (V.int i) H) ∨ ∃ k, xs = [V.bl k] ∧ Q (V.int (if k then 1 else 0)) H) ∨ ∃ a n, xs = [V.str a] ∧ PySem.intText? a = some n ∧ a.length ≤ 640 ∧ Q (V.int n) H
theorem call_intT {X : Cx} : CallR X (.type "int") rIntT := callR_or call_int1 call_int_str
theorem intT_ok {G : Cfg} : OpL G rIntT (one pyIntT) := one_ok fun W σ ρ h H x u Q m rx p => by
  cases x with
  | int i => exact .inl (.inl ⟨i, by rw [show u = V.int i from rx], p ρ H _ m Ext.refl rfl⟩)
  | bl b => exact .inl (.inr ⟨b, by rw [show u = V.bl b from rx], p ρ H _ m Ext.refl rfl⟩)
  | str a =>
    have p : Post G W (ValR G) σ ρ H ((match PySem.intText? a with | some n => (if a.length ≤ 640 then ret (CV.int n) else stuck : M CV) | none => stuck) h) Q := p
    cases q : PySem.intText? a with
    | none => rw [q] at p; exact p.elim
    | some n =>
      rw [q] at p
      by_cases c : a.length ≤ 640
      · have p : Post G W (ValR G) σ ρ H ((if a.length ≤ 640 then ret (CV.int n) else stuck : M CV) h) Q := p
        rw [if_pos c] at p
        exact .inr ⟨a, n, by rw [show u = V.str a from rx], q, c, p ρ H _ m Ext.refl rfl⟩
      · have p : Post G W (ValR G) σ ρ H ((if a.length ≤ 640 then ret (CV.int n) else stuck : M CV) h) Q := p
        rw [if_neg c] at p; exact p.elim
  | _ => exact p.elim
section
variable {G : Cfg} {W : WX} {X : Cx} {k : Nat} {f : Addr} {fd : FuncData} {x : Str} {p pos : Pos} {F : List CV → M CV}
theorem pe_callS0 {sp : Sp} {E : L2.St → XK} (ok : FnOk X.prog X.w X.K X.mg X.base (L2.CX X.prog X.w) k f fd [] sp) (hr : Room k X.A) (hg : Gl X x) (hm : X.mg x = some (.ref f)) (hk : PySem.W.keepIn X.K (.ref f) = true) (hb : Binds X.K fd [] []) (hx : ∀ σ, PassesAt (L2.CX X.prog X.w) X σ (E σ)) (hdb : (x == ("__debug__" : Str)) = false := by decide) :
    PE X (.Call (.Name x p) [] [] pos) (fun σ H Q => sp [] H Q (E σ)) :=
  ⟨fun pins s σ H Q I h => wpAny_Call_Name_kw (ld_glob I hg hm (PySem.W.callWith_K0 I.kIn hk (run_fnS (us := []) ok hr hb (hx σ) I .nil h)) hdb)⟩
theorem se_callF0 (B : Bx G W X) (hx : G.exi = none) (hy : G.lam = none) (ok : FnOk X.prog X.w X.K X.mg X.base (L2.CX X.prog X.w) k f fd [] (spH G 0 F)) (hr : Room k X.A) (hg : Gl X x) (hm : X.mg x = some (.ref f)) (hk : PySem.W.keepIn X.K (.ref f) = true) (hb : Binds X.K fd [] [])
    (hdb : (x == ("__debug__" : Str)) = false := by decide) : SE G W X (.Call (.Name x p) [] [] pos) (eB (callF 0 F) eNilA) :=
  (pe_lk (pe_callS0 (E := fun σ => WE W σ) ok hr hg hm hk hb (fun σ => passAt B.tk σ) hdb)).wk fun σ H Q ⟨ρ, h, τ, m, s, p⟩ => callF_ok hx hy m (show ValsR G ρ H [] [] from rfl) p fun _ _ _ z => z
end
end VE

noncomputable section
namespace VE
open PySem PySem.Spec PyProof.Rows L2 LamX
theorem bx_ValueError : SupX.BaseX "ValueError" "ValueError.__new__" "ValueError.__init__" [.type "ValueError", .type "Exception", .type "BaseException", .type "object"] := ⟨PySem.F.excBase_ValueError, PySem.W.kxs_ValueError, by decide +kernel, fun _ => by kernel_rfl⟩
theorem bx_ArithmeticError : SupX.BaseX "ArithmeticError" "ArithmeticError.__new__" "ArithmeticError.__init__" [.type "ArithmeticError", .type "Exception", .type "BaseException", .type "object"] := ⟨PySem.F.excBase_ArithmeticError, PySem.W.kxs_ArithmeticError, by decide +kernel, fun _ => by kernel_rfl⟩
theorem bx_RuntimeError : SupX.BaseX "RuntimeError" "RuntimeError.__new__" "RuntimeError.__init__" [.type "RuntimeError", .type "Exception", .type "BaseException", .type "object"] := ⟨PySem.F.excBase_RuntimeError, PySem.W.kxs_RuntimeError, by decide +kernel, fun _ => by kernel_rfl⟩
theorem bx_LookupError : SupX.BaseX "LookupError" "LookupError.__new__" "LookupError.__init__" [.type "LookupError", .type "Exception", .type "BaseException", .type "object"] := ⟨PySem.F.excBase_LookupError, PySem.W.kxs_LookupError, by decide +kernel, fun _ => by kernel_rfl⟩
theorem bx_OverflowError : SupX.BaseX "OverflowError" "OverflowError.__new__" "OverflowError.__init__" [.type "OverflowError", .type "ArithmeticError", .type "Exception", .type "BaseException", .type "object"] := ⟨PySem.F.excBase_OverflowError, PySem.W.kxs_OverflowError, by decide +kernel, fun _ => by kernel_rfl⟩
theorem bx_TypeError : SupX.BaseX "TypeError" "TypeError.__new__" "TypeError.__init__" [.type "TypeError", .type "Exception", .type "BaseException", .type "object"] := ⟨PySem.F.excBase_TypeError, PySem.W.kxs_TypeError, by decide +kernel, fun _ => by kernel_rfl⟩
theorem bx_Exception : SupX.BaseX "Exception" "Exception.__new__" "Exception.__init__" [.type "Exception", .type "BaseException", .type "object"] := ⟨PySem.F.excBase_Exception, PySem.W.kxs_Exception, by decide +kernel, fun _ => by kernel_rfl⟩
/-- a class that keeps its argument -/
structure KeepX (P : Program) (K : PySem.W.Frag) (mg : Str → Option Value) (C : Addr) (cn f : Str) : Prop where
  ex : ∃ fI B newId initId bmB, SupX.SupTxt P K mg C fI cn f B newId initId bmB
/-- a class without an __init__ of its own -/
structure PlainX (K : PySem.W.Frag) (mg : Str → Option Value) (C : Addr) (cn : Str) : Prop where
  ex : ∃ (B newId initId : String) (bmB : List Value), ExcBaseFacts B newId initId bmB ∧ PySem.W.excIn K C bmB newId = true
  gC : mg cn = some (.ref C)
  kC : PySem.W.keepIn K (.ref C) = true
  exC : PySem.W.subIn K (.ref C) (.type "BaseException") = some true
  tyC : PySem.W.typeIn K (.ref C) = some (.type "type")
theorem KeepX.gC {P : Program} {K : PySem.W.Frag} {mg : Str → Option Value} {C : Addr} {cn f : Str} (T : KeepX P K mg C cn f) : mg cn = some (.ref C) := let ⟨_, _, _, _, _, t⟩ := T.ex; t.gC
section
variable {G : Cfg} {W : WX} {X : Cx} {C : Addr} {cn f : Str} {a : Expr} {me : Sl → M CV} {p pos : Pos} {k j : Nat}
theorem sx_keep (T : KeepX X.prog X.K X.mg C cn f) (hr : Room j X.A) (hk : G.cls k = C) (hf : G.fld k = [f]) (ha : SE G W X a me) (hg : Gl X cn) (hdb : (cn == ("__debug__" : Str)) = false := by decide)
    (he : starEach (a :: []) X.env = (false, eval a X.env) :: starEach [] X.env := by rfl) (hpl : (backTo pos (starEach [] X.env)).any (·.1) = false := by rfl) : SX G W X (.Call (.Name cn p) [a] [] pos) (xArg k me) := by
  obtain ⟨_, _, _, _, _, t⟩ := T.ex
  exact sx_sup t hr hk hf ha hg hdb he hpl
theorem sx_plain {m : Str} {j2 : Nat} {p2 : Pos} (T : PlainX X.K X.mg C cn) (hg : Gl X cn) (hk : G.cls k = C) (hdb : (cn == ("__debug__" : Str)) = false := by decide) : SX G W X (.Call (.Name cn p) [.Constant (.str m) j2 p2] [] pos) (xMsg k) := by
  obtain ⟨_, _, _, _, F, q⟩ := T.ex
  exact sx_own F q T.gC T.kC (raises_own T.exC T.tyC) hg hk hdb
/-- e.f in a clause's suite -/
theorem se_keepF {ad : Addr} {oe : Obj} {pn : List (Addr × Obj)} {i : Nat} {y : Str} {x : Exn} {cls : Value} {d : Option Addr} (T : KeepX X.prog X.K X.mg C cn f) (hK : G.cls k = C) (hj : G.fld k = [f]) (hz : Zc cls d oe) (hf : ∃ vs, oe.data = .fields vs)
    (hN : X.N[i]? = some y) (hv : Vis X.env.scope y) (hd : (y == ("__debug__" : Str)) = false := by decide) (hcd : (y == ("__classdict__" : Str)) = false := by decide)
    (hb : attributeBase (.Name y p) f X.env (eval (.Name y p) X.env) = eval (.Name y p) X.env := by rfl) :
    SE (G.hold (some ⟨i, ad, cls, d, x⟩)) W (X.suite ad ((ad, oe) :: pn)) (.Attribute (.Name y p) f pos) (eXf k x) := by
  obtain ⟨_, _, _, _, _, t⟩ := T.ex
  exact se_xf G ⟨t.ga, t.gg, t.exC, t.hdC⟩ hK t.noN hz hf hj hN hv hd hcd hb
end
theorem keep_mk {P : Program} {K : PySem.W.Frag} {mg : Str → Option Value} {cn f : Str} {B newId initId : String} {bmB : List Value} (h : ∃ C fI, SupX.SupTxt P K mg C fI cn f B newId initId bmB) : ∃ C, KeepX P K mg C cn f := let ⟨C, fI, t⟩ := h; ⟨C, ⟨⟨fI, B, newId, initId, bmB, t⟩⟩⟩
theorem plain_mk {K : PySem.W.Frag} {h : Heap} {mg : Str → Option Value} (X : K.In h) (G : h.Ns mainGlobals mg) {cn : Str} {C : Addr} {B newId initId : String} {bmB : List Value} (F : ExcBaseFacts B newId initId bmB) (a : PySem.W.nsIn K mainGlobals cn = some (some (.ref C))) (q : PySem.W.excIn K C bmB newId = true)
    (kC : PySem.W.keepIn K (.ref C) = true) (exC : PySem.W.subIn K (.ref C) (.type "BaseException") = some true) (tyC : PySem.W.typeIn K (.ref C) = some (.type "type")) : ∃ C, PlainX K mg C cn := ⟨C, ⟨⟨B, newId, initId, bmB, F, q⟩, PySem.W.mg_of X G a, kC, exC, tyC⟩⟩
end VE

noncomputable section
namespace VE
open PySem PySem.Spec PyProof.Rows L2 LamX
theorem exm_mk {K : PySem.W.Frag} {h : Heap} {mg : Str → Option Value} (X : K.In h) (G : h.Ns mainGlobals mg) {c d : Str} {C D C1 D1 : Addr} {b : Bool} (gc : mg c = some (.ref C)) (gd : mg d = some (.ref D)) (a : PySem.W.nsIn K mainGlobals c = some (some (.ref C1))) (e : PySem.W.nsIn K mainGlobals d = some (some (.ref D1))) (r : PySem.W.exmOne K (.ref C1) (.ref D1) = some b) : PySem.W.exmOne K (.ref C) (.ref D) = some b := by
  have q1 := gc.symm.trans (PySem.W.mg_of X G a)
  have q2 := gd.symm.trans (PySem.W.mg_of X G e)
  cases q1
  cases q2
  exact r
theorem defP_mk {K : PySem.W.Frag} {h : Heap} {mg : Str → Option Value} (X : K.In h) (G : h.Ns mainGlobals mg) {x : Str} {st : Stmt} {f c P : Addr} {od an od2 : Option Addr} {osl osl2 : Array (Option Value)} {oc kV doc pm ct oc2 : Value} {vs : Array Value} (a : PySem.W.nsIn K mainGlobals x = some (some (.ref f)))
    (l : K.lookup f = some ⟨oc, od, .func (PySem.W.fnOf x x (defArgs st) (defBody st) (defScope st) .none kV doc pm an (.ref c) ct), osl⟩) (cd : PySem.W.codeIn K (.ref c) x = true) (k : PySem.W.keepIn K (.ref f) = true) (lc : K.lookup c = some ⟨oc2, od2, .fields vs, osl2⟩) (h11 : vs[11]? = some (.ref P)) (hd : PySem.W.codeHdIn K c P = true) (o : K.lookup P = none) :
    ∃ (f : Addr) (fd : FuncData) (c : Addr), mg x = some (.ref f) ∧ L2.Fun K x x st f fd ∧ FunC K x x st f fd c ∧ PySem.W.codeHdIn K c P = true ∧ K.lookup P = none :=
  ⟨f, _, c, PySem.W.mg_of X G a, L2.fun_mk l cd k, ⟨⟨oc, od, kV, doc, pm, an, ct, osl, rfl, l, cd⟩⟩, hd, o⟩
theorem defG_mk {K : PySem.W.Frag} {h : Heap} {mg : Str → Option Value} (X : K.In h) (G : h.Ns mainGlobals mg) {x : Str} {st : Stmt} {f c : Addr} {od an : Option Addr} {osl : Array (Option Value)} {oc kV doc pm ct : Value} (a : PySem.W.nsIn K mainGlobals x = some (some (.ref f)))
    (l : K.lookup f = some ⟨oc, od, .func (PySem.W.fnOf x x (defArgs st) (defBody st) (defScope st) .none kV doc pm an (.ref c) ct), osl⟩) (cd : PySem.W.codeIn K (.ref c) x = true) (k : PySem.W.keepIn K (.ref f) = true) :
    ∃ (f : Addr) (fd : FuncData) (c : Addr), mg x = some (.ref f) ∧ L2.Fun K x x st f fd ∧ FunC K x x st f fd c :=
  ⟨f, _, c, PySem.W.mg_of X G a, L2.fun_mk l cd k, ⟨⟨oc, od, kV, doc, pm, an, ct, osl, rfl, l, cd⟩⟩⟩
end VE

noncomputable section
namespace VE
open PySem
/-- the list at l -/
def At (m : Mem) (l : Nat) (xs : List CV) : Prop := m[l]? = some (.lst xs)
section
variable {m : Mem} {l k : Nat} {xs ys : List CV} {o : CO}
theorem At.lt (a : At m l xs) : l < m.length := (List.getElem?_eq_some_iff.mp a).1
theorem At.set_self (a : At m l xs) : At (m.set l (.lst ys)) l ys := by unfold At; simp [a.lt]
theorem At.set_ne (a : At m l xs) (h : k ≠ l) : At (m.set k o) l xs := by unfold At at *; rw [List.getElem?_set_ne h]; exact a
theorem At.push (a : At m l xs) : At (m ++ [o]) l xs := by have b := a.lt; unfold At at *; rw [List.getElem?_append_left b]; exact a
theorem At.last : At (m ++ [.lst xs]) m.length xs := by unfold At; simp
end
theorem mTry_ex {b : MS} {l : List Hd} {τ τ' : Sl} {h h' : Mem} {x : Exn} (e : b τ h = .mk (.ex x τ') h') : mTry b l τ h = tryL l x τ' h' := by unfold mTry; rw [e]
theorem mTry_nx {b : MS} {l : List Hd} {τ τ' : Sl} {h h' : Mem} (e : b τ h = .mk (.nx τ') h') : mTry b l τ h = .mk (.nx τ') h' := by unfold mTry; rw [e]
theorem mExpr_ex {e : Sl → M CV} {τ : Sl} {x : Exn} {h h' : Mem} (q : e τ h = .exc x h') : mExpr e τ h = .mk (.ex x τ) h' := by rw [rd_mExpr, q]
theorem eB_ex {F : List CV → M CV} {ml : Sl → M (List CV)} {τ : Sl} {xs : List CV} {x : Exn} {h h1 h2 : Mem} (e1 : ml τ h = .ok xs h1) (e2 : F xs h1 = .exc x h2) : eB F ml τ h = .exc x h2 := by rw [rd_eB, e1]; exact e2
/-- told is a new list -/
theorem new_ok {i : Nat} {a : Sl → M CV} {τ : Sl} {v : CV} {h : Mem} (q : a τ h = .ok v h) : mAsg (gSet i) (eNew (eConsA a eNilA)) τ h = .mk (.nx (τ.set i (some (.ref h.length)))) (h ++ [.lst [v]]) := by
  refine mAsg_ok ?_
  rw [rd_eNew, eCons_ok q eNil_ok]
  rfl
theorem newL_ok {i : Nat} {a : Sl → M (List CV)} {τ : Sl} {vs : List CV} {h : Mem} (q : a τ h = .ok vs h) (hl : vs.length ≤ 1000) : mAsg (gSet i) (eNew a) τ h = .mk (.nx (τ.set i (some (.ref h.length)))) (h ++ [.lst vs]) := by
  refine mAsg_ok ?_
  rw [rd_eNew, q]
  simp only
  rw [if_pos hl]
theorem isLis_at {h : Mem} {l : Nat} {xs : List CV} (a : At h l xs) : isLis (.ref l) h = true := by
  unfold isLis
  simp only [sget_eq]
  rw [show h[l]? = some (.lst xs) from a]
/-- told.append(a) -/
theorem app_ok {i l : Nat} {a : Sl → M CV} {τ : Sl} {v : CV} {h : Mem} {xs : List CV} (ht : τ[i]? = some (some (.ref l))) (q : a τ h = .ok v h) (hm : At h l xs) (hl : xs.length < 1000000) :
    mExpr (eMt isLis pyAppend (eVar i) (eConsA a eNilA)) τ h = .mk (.nx τ) (h.set l (.lst (xs ++ [v]))) := by
  refine mExpr_ok (v := .non) ?_
  unfold eMt
  rw [rd_bnd, eVar_ok ht]
  simp only
  rw [if_pos (isLis_at hm), rd_bnd, eCons_ok q eNil_ok]
  simp only
  unfold pyAppend
  simp only [rd_memAt]
  rw [show h[l]? = some (.lst xs) from hm]
  simp only
  rw [if_pos hl, frV_eq, sapp_eq, sset_eq]
/-- due.extend(..) -/
theorem ext_ok {i l : Nat} {a : Sl → M CV} {τ : Sl} {v : CV} {h : Mem} {xs zs : List CV} (ht : τ[i]? = some (some (.ref l))) (q : a τ h = .ok v h) (hv : lstOf v h = some zs) (hm : At h l xs) (hl : xs.length + zs.length < 1000000) :
    mExpr (eMt isLis pyExtend (eVar i) (eConsA a eNilA)) τ h = .mk (.nx τ) (h.set l (.lst (xs ++ zs))) := by
  refine mExpr_ok (v := .non) ?_
  unfold eMt
  rw [rd_bnd, eVar_ok ht]
  simp only
  rw [if_pos (isLis_at hm), rd_bnd, eCons_ok q eNil_ok]
  simp only
  unfold pyExtend
  simp only [rd_memAt, hv]
  rw [show h[l]? = some (.lst xs) from hm]
  simp only
  rw [if_pos hl, sapp_eq, sset_eq]
def sho (y : CV) : Str := match shoD y [] with
  | some d => d.shown
  | none => Str.empty
def okR (y : CV) : Bool := (match y with | .ref _ => false | _ => true) && (match shoD y [] with | some d => d.showable && Nat.ble d.shown.length 1000000 && Nat.ble d.depth 100 && PyData.strOk d.shown | none => false)
theorem shoD_h {y : CV} {h : Mem} (n : ∀ l, y ≠ .ref l) : shoD y h = shoD y [] := by
  cases y with
  | ref l => exact absurd rfl (n l)
  | dic b ks vs => cases b <;> cases ks <;> cases vs <;> rfl
  | _ => rfl
theorem repr_okR {y : CV} {h : Mem} (q : okR y = true) : pyRepr y h = .ok (.str (sho y)) h := by
  unfold okR at q
  rw [Bool.and_eq_true] at q
  have n : ∀ l, y ≠ .ref l := fun l e => by subst e; exact absurd q.1 (by simp)
  unfold pyRepr sho
  rw [shoD_h n]
  have q2 := q.2
  cases e : shoD y [] with
  | none => rw [e] at q2; cases q2
  | some d => rw [e] at q2; simp only at q2 ⊢; rw [Bool.and_eq_true] at q2; rw [if_pos q2.1]
theorem okR_str {y : CV} (q : okR y = true) : PyData.strOk (sho y) = true := by
  unfold okR at q
  unfold sho
  rw [Bool.and_eq_true] at q
  have q2 := q.2
  cases e : shoD y [] with
  | none => rw [e] at q2; cases q2
  | some d => rw [e] at q2; simp only at q2 ⊢; rw [Bool.and_eq_true] at q2; exact q2.2
/-- a word of three texts -/
def tx3 (a b : Str) (y : CV) : CV := .tup [.str a, .str b, .str (sho y)]
def d3 (a b s : Str) : PyData := .tuple [.str a, .str b, .str s]
theorem dats_tx3 (a b : Str) : ∀ ys : List CV, dats (ys.map (tx3 a b)) = some (ys.map fun y => d3 a b (sho y))
  | [] => rfl
  | y :: ys => by
    rw [List.map_cons]
    unfold dats
    rw [dats_tx3 a b ys]
    rfl
theorem eqvAll_d3 (a b : Str) : ∀ ys : List CV, PyData.eqvAll (ys.map fun y => d3 a b (sho y)) (ys.map fun y => d3 a b (sho y)) = true
  | [] => rfl
  | y :: ys => by
    rw [List.map_cons]
    unfold PyData.eqvAll
    rw [eqvAll_d3 a b ys, Bool.and_true]
    simp [d3, PyData.eqv, PyData.eqvAll]
theorem canLay_d3 {a b : Str} (ha : PyData.strOk a = true) (hb : PyData.strOk b = true) : ∀ ys : List CV, (∀ y ∈ ys, okR y = true) → PyData.canLayAll0 (ys.map fun y => d3 a b (sho y)) = true
  | [], _ => rfl
  | y :: ys, h => by
    rw [List.map_cons]
    unfold PyData.canLayAll0
    rw [canLay_d3 ha hb ys fun y hy => h y (List.mem_cons_of_mem _ hy), Bool.and_true]
    simp [d3, PyData.canLay0, PyData.canLayAll0, ha, hb, okR_str (h y List.mem_cons_self)]
theorem depth_d3 (a b : Str) : ∀ ys : List CV, PyData.depthAll (ys.map fun y => d3 a b (sho y)) ≤ 2
  | [] => Nat.zero_le _
  | y :: ys => by
    rw [List.map_cons]
    unfold PyData.depthAll
    have := depth_d3 a b ys
    have q : (d3 a b (sho y)).depth ≤ 2 := by simp [d3, PyData.depth, PyData.depthAll]
    omega
theorem shaped_d3 {a b : Str} (ha : PyData.strOk a = true) (hb : PyData.strOk b = true) {ys : List CV} (h : ∀ y ∈ ys, okR y = true) : SeqAt.shaped (.list (ys.map fun y => d3 a b (sho y))) = true := by
  unfold SeqAt.shaped
  rw [Bool.and_eq_true]
  refine ⟨?_, decide_eq_true ?_⟩
  · unfold PyData.canLay0; exact canLay_d3 ha hb ys h
  · have := depth_d3 a b ys
    unfold PyData.depth
    omega
/-- told against due -/
theorem eq_told {neg : Bool} {a b : Str} (ha : PyData.strOk a = true) (hb : PyData.strOk b = true) {ys : List CV} {l : Nat} {h : Mem} (hm : At h l (ys.map (tx3 a b))) (hy : ∀ y ∈ ys, okR y = true) : pyEq neg (.ref l) (.lst (ys.map (tx3 a b))) h = .ok (.bl (!neg)) h := by
  have e1 : datM (.ref l) h = some (.list (ys.map fun y => d3 a b (sho y))) := by
    unfold datM
    simp only [rd_memAt]
    rw [show h[l]? = some (.lst (ys.map (tx3 a b))) from hm]
    simp only
    rw [dats_tx3]; rfl
  have e2 : datM (.lst (ys.map (tx3 a b))) h = some (.list (ys.map fun y => d3 a b (sho y))) := by
    show (dats (ys.map (tx3 a b))).map PyData.list = _
    rw [dats_tx3]; rfl
  have s := shaped_d3 ha hb hy
  have e3 : PyData.eqv (.list (ys.map fun y => d3 a b (sho y))) (.list (ys.map fun y => d3 a b (sho y))) = true := by
    unfold PyData.eqv; exact eqvAll_d3 a b ys
  unfold pyEq
  rw [e1, e2]
  simp only [s, e3]
  cases neg <;> simp
theorem pyEq_at {neg : Bool} {l : Nat} {h : Mem} {xs ys : List CV} (hm : At h l xs) : pyEq neg (.ref l) (.lst ys) h = pyEq neg (.lst xs) (.lst ys) h := by
  have e : datM (.ref l) h = datM (.lst xs) h := by
    show (match memAt h l with | some xs => (dats xs).map PyData.list | none => none) = (dats xs).map PyData.list
    rw [rd_memAt, show h[l]? = some (.lst xs) from hm]
  unfold pyEq
  rw [e]
theorem eTup_ok {a : Sl → M (List CV)} {τ : Sl} {xs : List CV} {h h' : Mem} (e : a τ h = .ok xs h') (hl : xs.length ≤ 1000) : eTup a τ h = .ok (.tup xs) h' := by
  unfold eTup
  rw [rd_bnd, e]
  simp only
  rw [if_pos hl]; rfl
theorem eLst_ok {a : Sl → M (List CV)} {τ : Sl} {xs : List CV} {h h' : Mem} (e : a τ h = .ok xs h') (hl : xs.length ≤ 1000) : eLst a τ h = .ok (.lst xs) h' := by
  unfold eLst
  rw [rd_bnd, e]
  simp only
  rw [if_pos hl]; rfl
theorem eDyn_x {i k : Nat} {D : Disp} {ml : Sl → M (List CV)} {τ : Sl} {h : Mem} {d : Nat × (List CV → M CV)} {xs : List CV} {x : Exn} (e1 : τ[i]? = some (some (.fn k))) (e2 : dispAt D k = some d) (e3 : ml τ h = .ok xs h) (e4 : callF d.1 d.2 xs h = .exc x h) : eDyn i D ml τ h = .exc x h := by
  unfold eDyn
  simp only [sget_eq, e1, e2]
  rw [rd_bnd, e3]
  exact e4
/-- a list told again, each by f -/
theorem lcM_ok {l : Nat} {g : CV → Sl → M Sl} {te : Sl → M CV} {τ : Sl} {h : Mem} {xs : List CV} (f : CV → CV) (hm : At h l xs) (st : ∀ x ∈ xs, ∃ τ1, g x τ h = .ok τ1 h ∧ te τ1 h = .ok (f x) h) :
    ∀ (n i : Nat), i ≤ xs.length → xs.length < i + n → lcM false l g bYes te τ n i h = .ok ((xs.drop i).map f) h
  | 0, i, hi, hl => by omega
  | n + 1, i, hi, hl => by
    rw [lcM_s]
    unfold rdAt
    simp only [rd_memAt, sget_eq]
    rw [show h[l]? = some (.lst xs) from hm]
    simp only
    by_cases c : i < xs.length
    · rw [List.getElem?_eq_getElem c]
      obtain ⟨τ1, e1, e2⟩ := st xs[i] (List.getElem_mem c)
      have e1' : g (wr false i xs[i]) τ h = .ok τ1 h := e1
      simp only [e1']
      have y : (bYes τ1 h : Out Bool) = .ok true h := rfl
      simp only [y, e2]
      rw [lcM_ok f hm st n (i + 1) (by omega) (by omega)]
      simp only [frV_eq, frN_eq]
      rw [List.drop_eq_getElem_cons c, List.map_cons]
    · rw [List.getElem?_eq_none (by omega), List.drop_eq_nil_of_le (by omega)]
      rfl
/-- a list told again -/
theorem eLcA_ok {i l : Nat} {g : CV → Sl → M Sl} {te : Sl → M CV} {vs : List Nat} {τ : Sl} {h : Mem} {xs : List CV} (f : CV → CV) (ht : τ[i]? = some (some (.ref l))) (hm : At h l xs) (hx : xs.length < 1000000) (st : ∀ x ∈ xs, ∃ τ1, g x (wipeC τ vs) h = .ok τ1 h ∧ te τ1 h = .ok (f x) h) :
    eLcA (iSeqA (eVar i)) g bYes te vs τ h = .ok (.lst (xs.map f)) h := by
  unfold eLcA iSeqA
  rw [rd_bnd, rd_bnd, eVar_ok ht]
  have e1 : seqS (.ref l) h = .ok (.mem false l) h := by
    show memS false l h = _
    unfold memS
    rw [rd_memAt, show h[l]? = some (.lst xs) from hm]
  simp only [e1]
  have e2 := lcM_ok f hm st 1000000 0 (Nat.zero_le _) (by omega)
  show (match lcM false l g bYes te (wipeC τ vs) 1000000 0 h with | .ok ys h' => Out.ok (CV.lst ys) h' | _ => .bad) = _
  rw [e2, List.drop_zero]
end VE

noncomputable section
namespace VE
open PySem
theorem fit_of {i : Int} (k : Nat) (h : i.natAbs ≤ 2 ^ k) (hk : k ≤ 400000) : fit i = true := by
  unfold fit big
  exact Nat.ble_eq.mpr (Nat.le_trans h (Nat.pow_le_pow_right (by decide) hk))
theorem fmod_fit {x m : Int} (hm : 0 < m) (h : m.natAbs ≤ 2 ^ 400000) : fit (x.fmod m) = true := by
  have h1 := Int.fmod_nonneg_of_pos x hm
  have h2 := Int.fmod_lt_of_pos x hm
  unfold fit big
  exact Nat.ble_eq.mpr (by omega)
theorem pow_fit {c : Int} {k : Nat} (hc : c.natAbs ≤ 2 ^ 20) (hk : k ≤ 10000) : fit (c ^ k) = true := by
  refine fit_of (20 * k) ?_ (by omega)
  rw [Int.natAbs_pow, Nat.pow_mul]
  exact Nat.pow_le_pow_left hc k
theorem rng1_nat {n : Nat} (h : n < 2 ^ 60) {m : Mem} : rng1 [.int n] m = .ok ((List.range n).map fun (i : Nat) => CV.int (0 + (i : Int))) m := by
  unfold rng1
  simp only
  rw [if_pos (by omega)]
  rfl
theorem upto0_at {n i : Nat} {x : CV} (h : ((List.range n).map fun (i : Nat) => CV.int (0 + (i : Int)))[i]? = some x) : i < n ∧ x = .int i := by
  rw [List.getElem?_map] at h
  by_cases hi : i < n
  · rw [List.getElem?_range hi] at h
    simp only [Option.map_some, Option.some.injEq, Int.zero_add] at h
    exact ⟨hi, h.symm⟩
  · rw [List.getElem?_eq_none (by simpa using hi)] at h; cases h
theorem pyMul_int {a b : Int} {h : Mem} (fa : fit a = true) (fb : fit b = true) : pyMul (.int a) (.int b) h = .ok (.int (a * b)) h := by
  unfold pyMul
  simp only [fa, fb, Bool.and_true, if_true]
theorem nfit {n k : Nat} (h : n ≤ 2 ^ k) (hk : k ≤ 400000) : fit ((n : Nat) : Int) = true := fit_of k (by rw [Int.natAbs_natCast]; exact h) hk
theorem eIf_t {c : Sl → M Bool} {a b : Sl → M CV} {τ : Sl} {v : CV} {h h1 h2 : Mem} (q : c τ h = .ok true h1) (q2 : a τ h1 = .ok v h2) : eIf c a b τ h = .ok v h2 := by rw [rd_eIf, q]; exact q2
theorem eIf_f {c : Sl → M Bool} {a b : Sl → M CV} {τ : Sl} {v : CV} {h h1 h2 : Mem} (q : c τ h = .ok false h1) (q2 : b τ h1 = .ok v h2) : eIf c a b τ h = .ok v h2 := by rw [rd_eIf, q]; exact q2
theorem pow10 {k : Nat} {h : Mem} (hk : k ≤ 1000) : pyPow (.int 10) (.int k) h = .ok (.int (10 ^ k)) h := by
  unfold pyPow
  simp only [rd_ret]
  rw [if_pos ⟨by omega, by omega, by decide⟩]
  rfl
theorem fmodf {x m : Int} (hm : 0 < m) (h : m.natAbs ≤ 2 ^ 1000) : fit (x.fmod m) = true := fmod_fit hm (Nat.le_trans h (Nat.pow_le_pow_right (by decide) (by decide)))
theorem eLc_ok {it : Sl → M (List CV)} {g : CV → Sl → M Sl} {te : Sl → M CV} {vs : List Nat} {τ : Sl} {xs ys : List CV} {h : Mem} (e1 : it τ h = .ok xs h) (hl : xs.length ≤ 1000000) (e2 : lcL g bYes te (wipeC τ vs) xs h = .ok ys h) : eLc it g bYes te vs τ h = .ok (.lst ys) h := by
  unfold eLc
  rw [rd_bnd, e1]
  simp only [if_pos hl, e2]
theorem bAnd_f {a b : Sl → M Bool} {τ : Sl} {h h1 : Mem} (q : a τ h = .ok false h1) : bAnd a b τ h = .ok false h1 := by rw [rd_bAnd, q]
theorem bAnd_t {a b : Sl → M Bool} {τ : Sl} {h h1 h2 : Mem} {k : Bool} (q : a τ h = .ok true h1) (q2 : b τ h1 = .ok k h2) : bAnd a b τ h = .ok k h2 := by rw [rd_bAnd, q]; exact q2
theorem bOr_f {a b : Sl → M Bool} {τ : Sl} {h h1 h2 : Mem} {k : Bool} (q : a τ h = .ok false h1) (q2 : b τ h1 = .ok k h2) : bOr a b τ h = .ok k h2 := by rw [rd_bOr, q]; exact q2
theorem callF_m {np : Nat} {F : List CV → M CV} {xs : List CV} {v : CV} {h : Mem} (e : callF np F xs [] = .ok v []) (hn : noRefs xs = true) : callF np F xs h = .ok v h := by
  unfold callF at e ⊢
  by_cases hl : xs.length = np
  · rw [if_pos hl, if_pos hn] at e ⊢
    cases q : F xs [] with
    | ok w h' =>
      rw [q] at e
      simp only at e ⊢
      cases q2 : frzV 9 (lockM h') w with
      | none => rw [q2] at e; cases e
      | some w' => rw [q2] at e; cases e; rfl
    | exc x h' =>
      rw [q] at e
      simp only at e
      cases q2 : mapO (frzV 9 h') x.args with
      | none => rw [q2] at e; cases e
      | some w' => rw [q2] at e; cases e
    | bad => rw [q] at e; cases e
  · rw [if_neg hl] at e; cases e
theorem rd_pyTimes (a b : Int) : pyTimes (.int a) (.int b) = pyMul (.int a) (.int b) := rfl
theorem pyTimes_int {a b : Int} {h : Mem} (fa : fit a = true) (fb : fit b = true) : pyTimes (.int a) (.int b) h = .ok (.int (a * b)) h := by
  rw [rd_pyTimes]; exact pyMul_int fa fb
theorem callF_x {np : Nat} {F : List CV → M CV} {xs : List CV} {x : Exn} {h : Mem} (e : callF np F xs [] = .exc x []) (hn : noRefs xs = true) : callF np F xs h = .exc x h := by
  unfold callF at e ⊢
  by_cases hl : xs.length = np
  · rw [if_pos hl, if_pos hn] at e ⊢
    cases q : F xs [] with
    | ok w h' =>
      rw [q] at e
      simp only at e ⊢
      cases q2 : frzV 9 (lockM h') w with
      | none => rw [q2] at e; cases e
      | some w' => rw [q2] at e; cases e
    | exc x h' =>
      rw [q] at e
      simp only at e ⊢
      cases q2 : mapO (frzV 9 h') x.args with
      | none => rw [q2] at e; cases e
      | some w' => rw [q2] at e; cases e; rfl
    | bad => rw [q] at e; cases e
  · rw [if_neg hl] at e; cases e
/-- a call that ends well -/
def okC (o : Out CV) : Bool := match o with | .ok _ h => h.isEmpty | _ => false
theorem okC_at {np : Nat} {F : List CV → M CV} {xs : List CV} {h : Mem} (e : okC (callF np F xs []) = true) (hn : noRefs xs = true) : ∃ v, callF np F xs h = .ok v h := by
  unfold okC at e
  split at e
  · rename_i v h' q
    rw [List.isEmpty_iff.mp e] at q
    exact ⟨v, callF_m q hn⟩
  · cases e
/-- a call that raises: the class, what it keeps -/
def exC (k : Nat) (o : Out CV) : Option (List CV) := match o with | .exc x h => if (Nat.beq x.cls k && h.isEmpty) = true then some x.args else none | _ => none
theorem exC_at {k : Nat} {np : Nat} {F : List CV → M CV} {xs ys : List CV} {h : Mem} (e : exC k (callF np F xs []) = some ys) (hn : noRefs xs = true) : callF np F xs h = .exc ⟨k, ys⟩ h := by
  unfold exC at e
  split at e
  · rename_i x h' q
    split at e
    · rename_i c
      rw [Bool.and_eq_true] at c
      obtain ⟨cls, args⟩ := x
      cases Nat.eq_of_beq_eq_true c.1
      cases e
      rw [List.isEmpty_iff.mp c.2] at q
      exact callF_x q hn
    · cases e
  · cases e
mutual
/-- equal values, as the kernel sees it -/
def sameV : CV → CV → Bool
  | .non, .non => true
  | .bl a, .bl b => a == b
  | .int a, .int b => decide (a = b)
  | .str a, .str b => decide (a = b)
  | .tup xs, .tup ys => sameVs xs ys
  | .lst xs, .lst ys => sameVs xs ys
  | .dic b [] [], .dic c [] [] => b == c
  | _, _ => false
def sameVs : List CV → List CV → Bool
  | [], [] => true
  | x :: xs, y :: ys => sameV x y && sameVs xs ys
  | _, _ => false
end
mutual
theorem sameV_eq : ∀ {x y : CV}, sameV x y = true → x = y := fun {x y} e => by
  unfold sameV at e
  split at e
  · rfl
  · rw [beq_iff_eq.mp e]
  · rw [of_decide_eq_true e]
  · rw [of_decide_eq_true e]
  · rw [sameVs_eq e]
  · rw [sameVs_eq e]
  · rw [beq_iff_eq.mp e]
  · cases e
theorem sameVs_eq : ∀ {xs ys : List CV}, sameVs xs ys = true → xs = ys
  | [], [], _ => rfl
  | x :: xs, y :: ys, e => by
    unfold sameVs at e
    rw [Bool.and_eq_true] at e
    rw [sameV_eq e.1, sameVs_eq e.2]
  | [], _ :: _, e => by cases e
  | _ :: _, [], e => by cases e
end
/-- a call raises what it was given -/
def isX (k : Nat) (y : CV) (o : Out CV) : Bool := match exC k o with | some [z] => sameV z y | _ => false
theorem isX_at {k : Nat} {y : CV} {np : Nat} {F : List CV → M CV} {xs : List CV} {h : Mem} (e : isX k y (callF np F xs []) = true) (hn : noRefs xs = true) : callF np F xs h = .exc ⟨k, [y]⟩ h := by
  unfold isX at e
  split at e
  · rename_i z q
    rw [sameV_eq e] at q
    exact exC_at q hn
  · cases e
theorem lcV_ok {g : CV → Sl → M Sl} {te : Sl → M CV} {τ : Sl} {h : Mem} (f : CV → CV) : ∀ (xs : List CV), (∀ x ∈ xs, ∃ τ1, g x τ h = .ok τ1 h ∧ te τ1 h = .ok (f x) h) → lcL g bYes te τ xs h = .ok (xs.map f) h
  | [], _ => rfl
  | x :: xs, st => by
    obtain ⟨τ1, e1, e2⟩ := st x List.mem_cons_self
    have ih := lcV_ok (g := g) (te := te) (τ := τ) (h := h) f xs (fun y hy => st y (List.mem_cons_of_mem _ hy))
    rw [lcL_eq] at ih ⊢
    unfold lcR
    simp only [e1, bYes, rd_ret, e2, ih, List.map_cons]
/-- by cases over a list -/
def allV (xs : List CV) (p : CV → Bool) : Bool := List.rec true (fun x _ ih => Bool.rec false ih (p x)) xs
theorem allV_at {p : CV → Bool} : ∀ {xs : List CV}, allV xs p = true → ∀ x ∈ xs, p x = true
  | [], _, x, hx => by cases hx
  | y :: ys, e, x, hx => by
    have e' : (Bool.rec false (allV ys p) (p y) : Bool) = true := e
    cases q : p y with
    | false => rw [q] at e'; cases e'
    | true =>
      rw [q] at e'
      rcases List.mem_cons.mp hx with rfl | hx
      · exact q
      · exact allV_at e' x hx
end VE

noncomputable section
namespace VE
open PySem
/-- nothing but numbers, texts, truth values, tuples and lists; n bounds the depth -/
def safe : Nat → CV → Bool
  | _, .non => true
  | _, .bl _ => true
  | _, .int _ => true
  | _, .str a => PyData.strOk a
  | n + 1, .tup xs => xs.all (safe n)
  | n + 1, .lst xs => xs.all (safe n)
  | _, _ => false
structure Same (n : Nat) (v : CV) (d : PyData) : Prop where
  dt : dat v = some d
  c : d.canLay0 = true
  p : d.depth ≤ n
  e : PyData.eqv d d = true
theorem sames {n : Nat} (ih : ∀ v, safe n v = true → ∃ d, Same n v d) : ∀ xs : List CV, xs.all (safe n) = true → ∃ ds, dats xs = some ds ∧ PyData.canLayAll0 ds = true ∧ PyData.depthAll ds ≤ n ∧ PyData.eqvAll ds ds = true
  | [], _ => ⟨[], rfl, rfl, Nat.zero_le _, rfl⟩
  | x :: xs, h => by
    rw [List.all_cons, Bool.and_eq_true] at h
    obtain ⟨d, a⟩ := ih x h.1
    obtain ⟨ds, b1, b2, b3, b4⟩ := sames ih xs h.2
    refine ⟨d :: ds, ?_, ?_, ?_, ?_⟩
    · unfold dats; rw [a.dt, b1]
    · unfold PyData.canLayAll0; rw [a.c, b2]; rfl
    · unfold PyData.depthAll; have := a.p; omega
    · unfold PyData.eqvAll; rw [a.e, b4]; rfl
theorem safe_same : ∀ (n : Nat) (v : CV), safe n v = true → ∃ d, Same n v d
  | n, .non, _ => ⟨.none, rfl, rfl, Nat.zero_le _, rfl⟩
  | n, .bl b, _ => ⟨.bool b, rfl, rfl, Nat.zero_le _, by simp [PyData.eqv]⟩
  | n, .int i, _ => ⟨.int i, rfl, rfl, Nat.zero_le _, by simp [PyData.eqv]⟩
  | n, .str a, h => ⟨.str a, rfl, by unfold PyData.canLay0; unfold safe at h; exact h, Nat.zero_le _, by simp [PyData.eqv]⟩
  | 0, .tup xs, h => by cases h
  | 0, .lst xs, h => by cases h
  | n + 1, .tup xs, h => by
    unfold safe at h
    obtain ⟨ds, b1, b2, b3, b4⟩ := sames (safe_same n) xs h
    refine ⟨.tuple ds, ?_, ?_, ?_, ?_⟩
    · unfold dat; rw [b1]; rfl
    · unfold PyData.canLay0; exact b2
    · unfold PyData.depth; omega
    · unfold PyData.eqv; exact b4
  | n + 1, .lst xs, h => by
    unfold safe at h
    obtain ⟨ds, b1, b2, b3, b4⟩ := sames (safe_same n) xs h
    refine ⟨.list ds, ?_, ?_, ?_, ?_⟩
    · unfold dat; rw [b1]; rfl
    · unfold PyData.canLay0; exact b2
    · unfold PyData.depth; omega
    · unfold PyData.eqv; exact b4
  | 0, .frz _, h | 0, .ins _ _, h | 0, .dic _ _ _, h | 0, .ref _, h | 0, .fn _, h | 0, .cls _, h | 0, .ty _, h => by cases h
  | _ + 1, .frz _, h | _ + 1, .ins _ _, h | _ + 1, .dic _ _ _, h | _ + 1, .ref _, h | _ + 1, .fn _, h | _ + 1, .cls _, h | _ + 1, .ty _, h => by cases h
theorem datM_safe {n : Nat} {v : CV} {h : Mem} (s : safe n v = true) : datM v h = dat v := by
  cases v with
  | ref l => cases n <;> cases s
  | _ => rfl
theorem pyEq_same {n : Nat} {v : CV} {neg : Bool} {h : Mem} (hn : n ≤ 64) (s : safe n v = true) : pyEq neg v v h = .ok (.bl (!neg)) h := by
  obtain ⟨d, a⟩ := safe_same n v s
  unfold pyEq
  rw [datM_safe s, a.dt]
  have sh : SeqAt.shaped d = true := by
    unfold SeqAt.shaped
    rw [a.c, decide_eq_true (Nat.le_trans a.p hn)]
    rfl
  simp only [sh, a.e]
  cases neg <;> simp
/-- by another name -/
theorem pyEq_of {n : Nat} {v w : CV} {neg : Bool} {h : Mem} (e : v = w) (s : safe n v = true) (hn : n ≤ 64) : pyEq neg v w h = .ok (.bl (!neg)) h := by subst e; exact pyEq_same hn s
theorem pyEq_int {neg : Bool} {a b : Int} {h : Mem} : pyEq neg (.int a) (.int b) h = .ok (.bl (neg ^^ decide (a = b))) h := by
  show (if (SeqAt.shaped (.int a) && SeqAt.shaped (.int b)) = true then Out.ok (CV.bl (neg ^^ PyData.eqv (.int a) (.int b))) h else .bad) = _
  have s : ∀ i : Int, SeqAt.shaped (.int i) = true := fun i => rfl
  rw [s, s]
  have e : PyData.eqv (.int a) (.int b) = decide (a = b) := by
    unfold PyData.eqv
    by_cases c : a = b
    · subst c; simp
    · rw [decide_eq_false c]; simp [c]
  rw [e]
  rfl
end VE

noncomputable section
namespace VE
open PySem SX L2 PySem.NumText PySem.W.KIN
/-- the digits of a number -/
def Dg (n : Nat) : List Nat := (Nat.toDigits 10 n).map Char.toNat
theorem Dg_all (n : Nat) : ∀ c ∈ Dg n, 48 ≤ c ∧ c ≤ 57 := fun c hc => by
  obtain ⟨ch, hch, e⟩ := List.mem_map.mp hc
  have r := PyProof.Rows.digit_range (Nat.isDigit_of_mem_toDigits (by decide) (by decide) hch)
  rw [← e]
  exact r
theorem Dg_ne (n : Nat) : Dg n ≠ [] := fun e => by
  have h := PySem.toDigits_len_ge 10 n
  rw [List.map_eq_nil_iff.mp e] at h
  exact absurd h (by decide)
theorem Dg_len {n k : Nat} (hk : 1 ≤ k) (h : n < 10 ^ k) : (Dg n).length ≤ k := by
  unfold Dg
  rw [List.length_map]
  exact PyProof.Rows.digits10_le hk h
theorem tn_nat (n : Nat) : Str.ofString (toString ((n : Nat) : Int)) = S (Dg n) := TL.ext_tl (PySem.W.KIN.signs_num n)
theorem tn_neg (n : Nat) : Str.ofString (toString (Int.negSucc n)) = S (45 :: Dg (n + 1)) := by
  refine TL.ext_tl ?_
  show (Str.ofString (toString (Int.negSucc n))).cps.toList = 45 :: Dg (n + 1)
  rw [PyProof.Rows.signs_ofString]
  show (("-" ++ Nat.repr (n + 1) : String)).toList.map Char.toNat = _
  rw [String.toList_append, List.map_append, Nat.toList_repr]
  rfl
def sgL (a : Int) : List Nat := if a < 0 then [45] else []
def txL (a : Int) : List Nat := sgL a ++ Dg a.natAbs
theorem tn_int (a : Int) : Str.ofString (toString a) = S (txL a) := by
  unfold txL sgL
  cases a with
  | ofNat n =>
    rw [if_neg (show ¬ (Int.ofNat n < 0) from Int.not_lt.mpr (Int.natCast_nonneg n))]
    exact tn_nat n
  | negSucc n =>
    rw [if_pos (Int.negSucc_lt_zero n)]
    exact tn_neg n
theorem strOk_S {l : List Nat} (h : ∀ c ∈ l, c < 256) : PyData.strOk (S l) = true := by
  unfold PyData.strOk
  rw [← Array.all_toList, List.all_eq_true]
  intro c hc
  have := h c hc
  exact decide_eq_true (by omega)
theorem pyEq_s {neg : Bool} {a b : Str} {h : Mem} (ha : PyData.strOk a = true) (hb : PyData.strOk b = true) : pyEq neg (.str a) (.str b) h = .ok (.bl (neg ^^ (a == b))) h := by
  have sa : SeqAt.shaped (.str a) = true := by unfold SeqAt.shaped; simp [PyData.canLay0, ha, PyData.depth]
  have sb : SeqAt.shaped (.str b) = true := by unfold SeqAt.shaped; simp [PyData.canLay0, hb, PyData.depth]
  show (if SeqAt.shaped (.str a) && SeqAt.shaped (.str b) then Out.ok (CV.bl (neg ^^ PyData.eqv (.str a) (.str b))) h else .bad) = _
  rw [sa, sb]
  unfold PyData.eqv
  rfl
theorem pyEq_S {neg : Bool} {a b : List Nat} {h : Mem} (ha : ∀ c ∈ a, c < 256) (hb : ∀ c ∈ b, c < 256) : pyEq neg (.str (S a)) (.str (S b)) h = .ok (.bl (neg ^^ decide (a = b))) h := by
  rw [pyEq_s (strOk_S ha) (strOk_S hb), S_beq_eq]
theorem pyStr_int {a : Int} (h : a.natAbs ≤ 2 ^ 250) {m : Mem} : pyStr (.int a) m = .ok (.str (S (txL a))) m := by
  have l : a.natAbs.log2 ≤ 250 := log2_of (Nat.ble_eq.mpr h)
  unfold pyStr
  simp only
  rw [if_pos (by omega), tn_int]
  rfl
theorem eFmt_int {a : Int} (h : a.natAbs ≤ 2 ^ 250) {e : Sl → M CV} {τ : Sl} {m m1 : Mem} (q : e τ m = .ok (.int a) m1) : eFmt e τ m = .ok (.str (S (txL a))) m1 := by
  have l : a.natAbs.log2 ≤ 250 := log2_of (Nat.ble_eq.mpr h)
  unfold eFmt
  rw [rd_bnd, q]
  have f : fmtS (.int a) = some (S (txL a)) := by
    unfold fmtS
    simp only
    rw [if_pos (by omega), tn_int]
  simp only [f]
theorem eJs_nil {acc : Str} {τ : Sl} {m : Mem} : eJs [] acc τ m = .ok (.str acc) m := rfl
theorem eJs_cons {e : Sl → M CV} {es : List (Sl → M CV)} {acc y z : Str} {τ : Sl} {m m1 m2 : Mem} (q : e τ m = .ok (.str y) m1) (hl : (acc ++ y).length ≤ 1000000) (r : eJs es (acc ++ y) τ m1 = .ok (.str z) m2) : eJs (e :: es) acc τ m = .ok (.str z) m2 := by
  unfold eJs
  rw [rd_bnd, q]
  simp only
  rw [if_pos hl]
  exact r
theorem pyAdd_S {a b : List Nat} {h : Mem} (hl : a.length + b.length ≤ 1000000) : pyAdd (.str (S a)) (.str (S b)) h = .ok (.str (S (a ++ b))) h := by
  show (if (S a).length + (S b).length ≤ 1000000 then Out.ok (CV.str (S a ++ S b)) h else .bad) = _
  rw [S_len, S_len, if_pos hl, S_cat]
theorem len_S {a : List Nat} {h : Mem} (hl : a.length ≤ 1000000) : pyLen [.str (S a)] h = .ok (.int (a.length : Nat)) h := by
  unfold pyLen
  simp only
  rw [S_len, if_pos hl]
theorem cut1 {c : Nat} {r : List Nat} : cutS (S (c :: r)) none (some 1) = S [c] := by
  unfold cutS
  have l : (S (c :: r)).length = r.length + 1 := S_len _
  rw [l]
  have e1 : HT.sIx (r.length + 1) 0 none = 0 := rfl
  have e2 : HT.sIx (r.length + 1) (r.length + 1) (some 1) = 1 := by
    unfold HT.sIx
    simp
  rw [e1, e2]
  simp
theorem cutR {c : Nat} {r : List Nat} : cutS (S (c :: r)) (some 1) none = S r := by
  unfold cutS
  have l : (S (c :: r)).length = r.length + 1 := S_len _
  rw [l]
  have e1 : HT.sIx (r.length + 1) (r.length + 1) none = r.length + 1 := rfl
  have e2 : HT.sIx (r.length + 1) 0 (some 1) = 1 := by
    unfold HT.sIx
    simp
  rw [e1, e2]
  simp
theorem slice_S {z : Str} {lo hi : Option Int} {h : Mem} (hl : z.length ≤ 1000000) : pySlice lo hi (.str z) h = .ok (.str (cutS z lo hi)) h := by
  unfold pySlice
  simp only [txtOf]
  rw [if_pos hl]
theorem split1 {a : List Nat} (h : 47 ∉ a) : Txt.split (S a) (Str.ofString "/") = [S a] := by
  have e : Str.ofString "/" = S [47] := by decide
  rw [e, split_S (by simp) (by decide), TL.spl_last1 h]
  rfl
theorem split2 {a b : List Nat} (h : 47 ∉ a) (h2 : 47 ∉ b) : Txt.split (S (a ++ 47 :: b)) (Str.ofString "/") = [S a, S b] := by
  have e : Str.ofString "/" = S [47] := by decide
  rw [e, split_S (by simp) (by decide)]
  have q := TL.spl_part1 (S := []) (rest := b) (acc := []) h
  rw [show a ++ 47 :: b = a ++ (47 :: [] ++ b) by simp, q, TL.spl_last1 h2]
  rfl
theorem txt_Dg {n : Nat} (hl : n < 10 ^ 80) : PySem.intText? (S (Dg n)) = some ((n : Nat) : Int) := by
  have l : (Dg n).length ≤ 80 := Dg_len (by decide) hl
  rw [intText_digits (x := S (Dg n)) (Dg_all n) (Dg_ne n) (by rw [S_len]; omega)]
  show some ((digitsVal (Dg n) : Nat) : Int) = _
  unfold Dg
  rw [PySem.W.KIN.val_back]
theorem intT_Dg {n : Nat} {h : Mem} (hl : n < 10 ^ 80) : pyIntT (.str (S (Dg n))) h = .ok (.int (n : Nat)) h := by
  have l : (Dg n).length ≤ 80 := Dg_len (by decide) hl
  unfold pyIntT
  simp only [txt_Dg hl]
  rw [S_len, if_pos (by omega)]
  rfl
end VE

noncomputable section
namespace Lw
open PySem PySem.Spec PyProof.Rows L2 VE
def top (i : Nat) : Stmt := PySem.Challenge.pw_bandrims_k01_whole_numbers_and_their_pro.main.body.getD i (.Pass ⟨0, 0, 0, 0⟩)
abbrev GG (P : Program) (w : World) (K : PySem.W.Frag) (fa ca : Nat → Addr) : Cfg := { P := P, w := w, K := K, cls := ca, fn := fa, fld := fun _ => [], T := [] }
abbrev s_is_whole : Stmt := top 17
abbrev s_is_integer : Stmt := top 18
abbrev s_is_within : Stmt := top 19
abbrev s_is_name : Stmt := top 20
abbrev s_is_fraction : Stmt := top 21
abbrev s_is_number : Stmt := top 22
abbrev s_require_within : Stmt := top 23
abbrev s_require_number : Stmt := top 24
abbrev s_pair_of : Stmt := top 27
abbrev s_both_told : Stmt := top 25
abbrev s_fraction_in : Stmt := top 26
abbrev s_sum_in : Stmt := top 28
abbrev s_less_in : Stmt := top 29
abbrev s_product_in : Stmt := top 30
abbrev s_quotient_in : Stmt := top 31
abbrev s_total_in : Stmt := top 32
abbrev s_order_in : Stmt := top 33
abbrev s_power_in : Stmt := top 34
abbrev s_product_from : Stmt := top 35
abbrev s_bernoulli_row : Stmt := top 36
abbrev s_text_in : Stmt := top 37
abbrev s_digits_told : Stmt := top 38
abbrev s_number_told : Stmt := top 39
abbrev s_fraction : Stmt := top 40
abbrev s_added : Stmt := top 41
abbrev s_less : Stmt := top 42
abbrev s_multiplied : Stmt := top 43
abbrev s_divided : Stmt := top 44
abbrev s_compared : Stmt := top 45
abbrev s_power_of : Stmt := top 46
abbrev s_floor_of : Stmt := top 47
abbrev s_factorial : Stmt := top 48
abbrev s_binomial : Stmt := top 49
abbrev s_odd_product : Stmt := top 50
abbrev s_bernoulli : Stmt := top 51
abbrev s_number_text : Stmt := top 52
abbrev s_number_of_text : Stmt := top 53
abbrev s_law_dice : Stmt := top 55
abbrev s_law_roll : Stmt := top 56
abbrev s_law_pick : Stmt := top 57
abbrev s_law_gcd : Stmt := top 58
abbrev s_law_fraction : Stmt := top 59
abbrev s_law_plus : Stmt := top 60
abbrev s_law_times : Stmt := top 61
abbrev s_law_less : Stmt := top 62
abbrev s_law_over : Stmt := top 63
abbrev s_law_sum : Stmt := top 64
abbrev s_law_power : Stmt := top 65
abbrev s_law_factorial : Stmt := top 66
abbrev s_law_binomial : Stmt := top 67
abbrev s_law_nb_drawn : Stmt := top 68
abbrev s_law_nb_pair : Stmt := top 69
abbrev s_law_sums_right : Stmt := top 70
abbrev s_law_powers_right : Stmt := top 71
abbrev s_law_products_right : Stmt := top 72
abbrev s_law_bernoulli_right : Stmt := top 73
abbrev s_law_judged : Stmt := top 74
abbrev s_law : Stmt := top 75
structure Txt (K : PySem.W.Frag) (mg : Str → Option Value) (fa ca : Nat → Addr) (fd : Nat → FuncData) : Prop where
  d_is_whole : mg "is_whole" = some (.ref (fa 0))
  f_is_whole : Fun K "is_whole" "is_whole" s_is_whole (fa 0) (fd 0)
  d_is_integer : mg "is_integer" = some (.ref (fa 1))
  f_is_integer : Fun K "is_integer" "is_integer" s_is_integer (fa 1) (fd 1)
  d_is_within : mg "is_within" = some (.ref (fa 2))
  f_is_within : Fun K "is_within" "is_within" s_is_within (fa 2) (fd 2)
  d_is_name : mg "is_name" = some (.ref (fa 3))
  f_is_name : Fun K "is_name" "is_name" s_is_name (fa 3) (fd 3)
  d_is_fraction : mg "is_fraction" = some (.ref (fa 4))
  f_is_fraction : Fun K "is_fraction" "is_fraction" s_is_fraction (fa 4) (fd 4)
  d_is_number : mg "is_number" = some (.ref (fa 5))
  f_is_number : Fun K "is_number" "is_number" s_is_number (fa 5) (fd 5)
  d_require_within : mg "require_within" = some (.ref (fa 6))
  f_require_within : Fun K "require_within" "require_within" s_require_within (fa 6) (fd 6)
  d_require_number : mg "require_number" = some (.ref (fa 7))
  f_require_number : Fun K "require_number" "require_number" s_require_number (fa 7) (fd 7)
  d_pair_of : mg "pair_of" = some (.ref (fa 10))
  f_pair_of : Fun K "pair_of" "pair_of" s_pair_of (fa 10) (fd 10)
  d_both_told : mg "both_told" = some (.ref (fa 8))
  f_both_told : Fun K "both_told" "both_told" s_both_told (fa 8) (fd 8)
  d_fraction_in : mg "fraction_in" = some (.ref (fa 9))
  f_fraction_in : Fun K "fraction_in" "fraction_in" s_fraction_in (fa 9) (fd 9)
  d_sum_in : mg "sum_in" = some (.ref (fa 11))
  f_sum_in : Fun K "sum_in" "sum_in" s_sum_in (fa 11) (fd 11)
  d_less_in : mg "less_in" = some (.ref (fa 12))
  f_less_in : Fun K "less_in" "less_in" s_less_in (fa 12) (fd 12)
  d_product_in : mg "product_in" = some (.ref (fa 13))
  f_product_in : Fun K "product_in" "product_in" s_product_in (fa 13) (fd 13)
  d_quotient_in : mg "quotient_in" = some (.ref (fa 14))
  f_quotient_in : Fun K "quotient_in" "quotient_in" s_quotient_in (fa 14) (fd 14)
  d_total_in : mg "total_in" = some (.ref (fa 15))
  f_total_in : Fun K "total_in" "total_in" s_total_in (fa 15) (fd 15)
  d_order_in : mg "order_in" = some (.ref (fa 16))
  f_order_in : Fun K "order_in" "order_in" s_order_in (fa 16) (fd 16)
  d_power_in : mg "power_in" = some (.ref (fa 17))
  f_power_in : Fun K "power_in" "power_in" s_power_in (fa 17) (fd 17)
  d_product_from : mg "product_from" = some (.ref (fa 18))
  f_product_from : Fun K "product_from" "product_from" s_product_from (fa 18) (fd 18)
  d_bernoulli_row : mg "bernoulli_row" = some (.ref (fa 19))
  f_bernoulli_row : Fun K "bernoulli_row" "bernoulli_row" s_bernoulli_row (fa 19) (fd 19)
  d_text_in : mg "text_in" = some (.ref (fa 20))
  f_text_in : Fun K "text_in" "text_in" s_text_in (fa 20) (fd 20)
  d_digits_told : mg "digits_told" = some (.ref (fa 21))
  f_digits_told : Fun K "digits_told" "digits_told" s_digits_told (fa 21) (fd 21)
  d_number_told : mg "number_told" = some (.ref (fa 22))
  f_number_told : Fun K "number_told" "number_told" s_number_told (fa 22) (fd 22)
  d_fraction : mg "fraction" = some (.ref (fa 23))
  f_fraction : Fun K "fraction" "fraction" s_fraction (fa 23) (fd 23)
  d_added : mg "added" = some (.ref (fa 24))
  f_added : Fun K "added" "added" s_added (fa 24) (fd 24)
  d_less : mg "less" = some (.ref (fa 25))
  f_less : Fun K "less" "less" s_less (fa 25) (fd 25)
  d_multiplied : mg "multiplied" = some (.ref (fa 26))
  f_multiplied : Fun K "multiplied" "multiplied" s_multiplied (fa 26) (fd 26)
  d_divided : mg "divided" = some (.ref (fa 27))
  f_divided : Fun K "divided" "divided" s_divided (fa 27) (fd 27)
  d_compared : mg "compared" = some (.ref (fa 28))
  f_compared : Fun K "compared" "compared" s_compared (fa 28) (fd 28)
  d_power_of : mg "power_of" = some (.ref (fa 29))
  f_power_of : Fun K "power_of" "power_of" s_power_of (fa 29) (fd 29)
  d_floor_of : mg "floor_of" = some (.ref (fa 30))
  f_floor_of : Fun K "floor_of" "floor_of" s_floor_of (fa 30) (fd 30)
  d_factorial : mg "factorial" = some (.ref (fa 31))
  f_factorial : Fun K "factorial" "factorial" s_factorial (fa 31) (fd 31)
  d_binomial : mg "binomial" = some (.ref (fa 32))
  f_binomial : Fun K "binomial" "binomial" s_binomial (fa 32) (fd 32)
  d_odd_product : mg "odd_product" = some (.ref (fa 33))
  f_odd_product : Fun K "odd_product" "odd_product" s_odd_product (fa 33) (fd 33)
  d_bernoulli : mg "bernoulli" = some (.ref (fa 34))
  f_bernoulli : Fun K "bernoulli" "bernoulli" s_bernoulli (fa 34) (fd 34)
  d_number_text : mg "number_text" = some (.ref (fa 35))
  f_number_text : Fun K "number_text" "number_text" s_number_text (fa 35) (fd 35)
  d_number_of_text : mg "number_of_text" = some (.ref (fa 36))
  f_number_of_text : Fun K "number_of_text" "number_of_text" s_number_of_text (fa 36) (fd 36)
  d_law_dice : mg "_law_dice" = some (.ref (fa 37))
  f_law_dice : Fun K "_law_dice" "_law_dice" s_law_dice (fa 37) (fd 37)
  d_law_roll : mg "_law_roll" = some (.ref (fa 38))
  f_law_roll : Fun K "_law_roll" "_law_roll" s_law_roll (fa 38) (fd 38)
  d_law_pick : mg "_law_pick" = some (.ref (fa 39))
  f_law_pick : Fun K "_law_pick" "_law_pick" s_law_pick (fa 39) (fd 39)
  d_law_gcd : mg "_law_gcd" = some (.ref (fa 40))
  f_law_gcd : Fun K "_law_gcd" "_law_gcd" s_law_gcd (fa 40) (fd 40)
  d_law_fraction : mg "_law_fraction" = some (.ref (fa 41))
  f_law_fraction : Fun K "_law_fraction" "_law_fraction" s_law_fraction (fa 41) (fd 41)
  d_law_plus : mg "_law_plus" = some (.ref (fa 42))
  f_law_plus : Fun K "_law_plus" "_law_plus" s_law_plus (fa 42) (fd 42)
  d_law_times : mg "_law_times" = some (.ref (fa 43))
  f_law_times : Fun K "_law_times" "_law_times" s_law_times (fa 43) (fd 43)
  d_law_less : mg "_law_less" = some (.ref (fa 44))
  f_law_less : Fun K "_law_less" "_law_less" s_law_less (fa 44) (fd 44)
  d_law_over : mg "_law_over" = some (.ref (fa 45))
  f_law_over : Fun K "_law_over" "_law_over" s_law_over (fa 45) (fd 45)
  d_law_sum : mg "_law_sum" = some (.ref (fa 46))
  f_law_sum : Fun K "_law_sum" "_law_sum" s_law_sum (fa 46) (fd 46)
  d_law_power : mg "_law_power" = some (.ref (fa 47))
  f_law_power : Fun K "_law_power" "_law_power" s_law_power (fa 47) (fd 47)
  d_law_factorial : mg "_law_factorial" = some (.ref (fa 48))
  f_law_factorial : Fun K "_law_factorial" "_law_factorial" s_law_factorial (fa 48) (fd 48)
  d_law_binomial : mg "_law_binomial" = some (.ref (fa 49))
  f_law_binomial : Fun K "_law_binomial" "_law_binomial" s_law_binomial (fa 49) (fd 49)
  d_law_nb_drawn : mg "_law_nb_drawn" = some (.ref (fa 50))
  f_law_nb_drawn : Fun K "_law_nb_drawn" "_law_nb_drawn" s_law_nb_drawn (fa 50) (fd 50)
  d_law_nb_pair : mg "_law_nb_pair" = some (.ref (fa 51))
  f_law_nb_pair : Fun K "_law_nb_pair" "_law_nb_pair" s_law_nb_pair (fa 51) (fd 51)
  d_law_sums_right : mg "_law_sums_right" = some (.ref (fa 52))
  f_law_sums_right : Fun K "_law_sums_right" "_law_sums_right" s_law_sums_right (fa 52) (fd 52)
  d_law_powers_right : mg "_law_powers_right" = some (.ref (fa 53))
  f_law_powers_right : Fun K "_law_powers_right" "_law_powers_right" s_law_powers_right (fa 53) (fd 53)
  d_law_products_right : mg "_law_products_right" = some (.ref (fa 54))
  f_law_products_right : Fun K "_law_products_right" "_law_products_right" s_law_products_right (fa 54) (fd 54)
  d_law_bernoulli_right : mg "_law_bernoulli_right" = some (.ref (fa 55))
  f_law_bernoulli_right : Fun K "_law_bernoulli_right" "_law_bernoulli_right" s_law_bernoulli_right (fa 55) (fd 55)
  d_law_judged : mg "_law_judged" = some (.ref (fa 56))
  f_law_judged : Fun K "_law_judged" "_law_judged" s_law_judged (fa 56) (fd 56)
  d_law : mg "law" = some (.ref (fa 57))
  f_law : Fun K "law" "law" s_law (fa 57) (fd 57)
  z_abs : mg "abs" = none
  z_all : mg "all" = none
  z_bool : mg "bool" = none
  z_enumerate : mg "enumerate" = none
  z_int : mg "int" = none
  z_isinstance : mg "isinstance" = none
  z_len : mg "len" = none
  z_max : mg "max" = none
  z_min : mg "min" = none
  z_range : mg "range" = none
  z_str : mg "str" = none
  z_sum : mg "sum" = none
  z_tuple : mg "tuple" = none
  i_comb : mg "comb" = some (.builtin "math.comb")
  i_gcd : mg "gcd" = some (.builtin "math.gcd")
  c_BOUND : ∃ t, mg "BOUND" = some (.int 1000000000000000000000000000000000000000000000000000000000000 t)
  c_DIGITS : ∃ t, mg "DIGITS" = some (.str (Str.ofString "0123456789") t)
  c_LETTERS : ∃ t, mg "LETTERS" = some (.str (Str.ofString "abcdefghijklmnopqrstuvwxyz") t)
  c_MAX_BERNOULLI : ∃ t, mg "MAX_BERNOULLI" = some (.int 60 t)
  c_MAX_CHOSEN : ∃ t, mg "MAX_CHOSEN" = some (.int 1000 t)
  c_MAX_NAME : ∃ t, mg "MAX_NAME" = some (.int 8 t)
  c_MAX_RAISED : ∃ t, mg "MAX_RAISED" = some (.int 1000 t)
  c_MAX_TEXT : ∃ t, mg "MAX_TEXT" = some (.int 400 t)
  c_ONE : ∃ v, mg "ONE" = some v ∧ KV K (.tup [(.int 1), (.int 1)]) v
  c_ZERO : ∃ v, mg "ZERO" = some v ∧ KV K (.tup [(.int 0), (.int 1)]) v
section
variable {P : Program} {w : World} {K : PySem.W.Frag} {mg : Str → Option Value} {base : Heap} {fa ca : Nat → Addr} {fd : Nat → FuncData}
def b_is_whole : MS := (mRet (eAnd (eUn (isK isInt) (eVar 0)) (eNot (eUn (isK isBool) (eVar 0)))))
def F_is_whole : List CV → M CV := runB 1 1 b_is_whole
theorem sc_is_whole : FnScope ["value"] ["value"] (defScope s_is_whole) := ⟨rfl, rfl, rfl, by decide +kernel, rfl, by decide +kernel, by decide +kernel⟩
theorem bn_is_whole (T : Txt K mg fa ca fd) : Binds K (fd 0) ["value"] [] := T.f_is_whole.binds fun _ _ _ _ _ _ us hl => match us, hl with | [_], _ => rfl
theorem ok_is_whole (T : Txt K mg fa ca fd) : FnOk P w K mg base (L2.CX P w) 1 (fa 0) (fd 0) ["value"] (spH (GG P w K fa ca) 1 F_is_whole) :=
  have nd := sc_is_whole.nd
  fnX (G := GG P w K fa ca) 1 1 (mb := b_is_whole) (by rfl) T.f_is_whole sc_is_whole (by rfl) (by rfl) (by rfl) (by rfl) (by rfl) (by rfl) (by rfl) fun cdv A outer s H E hr B po =>
    (sss_one (ss_ret (se_and (se_isi isInt isInt_ok (by rfl) (by rfl) T.z_isinstance (by rfl) T.z_int (by decide +kernel) (se_var 0)) (se_and1 (se_not (se_isi isBool isBool_ok (by rfl) (by rfl) T.z_isinstance (by rfl) T.z_bool (by decide +kernel) (se_var 0)))))))
def b_is_integer : MS := (mRet (eAnd (eB (callF 1 F_is_whole) (eConsA (eVar 0) eNilA)) (eOp pyLt (eB pyAbs (eConsA (eVar 0) eNilA)) (eC (.int 1000000000000000000000000000000000000000000000000000000000000)))))
def F_is_integer : List CV → M CV := runB 1 1 b_is_integer
theorem sc_is_integer : FnScope ["value"] ["value"] (defScope s_is_integer) := ⟨rfl, rfl, rfl, by decide +kernel, rfl, by decide +kernel, by decide +kernel⟩
theorem bn_is_integer (T : Txt K mg fa ca fd) : Binds K (fd 1) ["value"] [] := T.f_is_integer.binds fun _ _ _ _ _ _ us hl => match us, hl with | [_], _ => rfl
theorem ok_is_integer (T : Txt K mg fa ca fd) : FnOk P w K mg base (L2.CX P w) 2 (fa 1) (fd 1) ["value"] (spH (GG P w K fa ca) 1 F_is_integer) :=
  have nd := sc_is_integer.nd
  fnX (G := GG P w K fa ca) 1 1 (mb := b_is_integer) (by rfl) T.f_is_integer sc_is_integer (by rfl) (by rfl) (by rfl) (by rfl) (by rfl) (by rfl) (by rfl) fun cdv A outer s H E hr B po =>
    (sss_one (ss_ret (se_and (se_callF B (by rfl) (by rfl) (ok_is_whole T) (hr.mono (by decide)) (by rfl) T.d_is_whole T.f_is_whole.kp (bn_is_whole T) (sa_cons (se_var 0) sa_nil)) (se_and1 (se_cmp op_lt cmp_ok (se_callB call_abs abs_ok (by rfl) T.z_abs (by decide +kernel) (sa_cons (se_var 0) sa_nil)) (se_gint (by rfl) T.c_BOUND.choose_spec))))))
def b_is_within : MS := (mRet (eAnd (eB (callF 1 F_is_integer) (eConsA (eVar 0) eNilA)) (eChain pyLe pyLe (eVar 1) (eVar 0) (eVar 2))))
def F_is_within : List CV → M CV := runB 3 3 b_is_within
theorem sc_is_within : FnScope ["value", "least", "most"] ["value", "least", "most"] (defScope s_is_within) := ⟨rfl, rfl, rfl, by decide +kernel, rfl, by decide +kernel, by decide +kernel⟩
theorem bn_is_within (T : Txt K mg fa ca fd) : Binds K (fd 2) ["value", "least", "most"] [] := T.f_is_within.binds fun _ _ _ _ _ _ us hl => match us, hl with | [_, _, _], _ => rfl
theorem ok_is_within (T : Txt K mg fa ca fd) : FnOk P w K mg base (L2.CX P w) 3 (fa 2) (fd 2) ["value", "least", "most"] (spH (GG P w K fa ca) 3 F_is_within) :=
  have nd := sc_is_within.nd
  fnX (G := GG P w K fa ca) 3 3 (mb := b_is_within) (by rfl) T.f_is_within sc_is_within (by rfl) (by rfl) (by rfl) (by rfl) (by rfl) (by rfl) (by rfl) fun cdv A outer s H E hr B po =>
    (sss_one (ss_ret (se_and (se_callF B (by rfl) (by rfl) (ok_is_integer T) (hr.mono (by decide)) (by rfl) T.d_is_integer T.f_is_integer.kp (bn_is_integer T) (sa_cons (se_var 0) sa_nil)) (se_and1 (se_chain op_le cmp_ok op_le cmp_ok (se_var 1) (se_var 0) (se_var 2))))))
def l_is_name_0 : Sl → M CV := (eOp (pyIn false) (eVar 1) (eC (.str (Str.ofString "abcdefghijklmnopqrstuvwxyz"))))
def b_is_name : MS := (mRet (eAnd (eUn (isK isStr) (eVar 0)) (eAnd (eChain pyLe pyLe (eC (.int 1)) (eB pyLen (eConsA (eVar 0) eNilA)) (eC (.int 8))) (eB (one pyAll) (eConsA (eLc (iSeq (eVar 0)) (gSet 1) bYes l_is_name_0 [1]) eNilA)))))
def F_is_name : List CV → M CV := runB 1 2 b_is_name
theorem sc_is_name : FnScope ["value", "sign"] ["value"] (defScope s_is_name) := ⟨rfl, rfl, rfl, by decide +kernel, rfl, by decide +kernel, by decide +kernel⟩
theorem bn_is_name (T : Txt K mg fa ca fd) : Binds K (fd 3) ["value"] [] := T.f_is_name.binds fun _ _ _ _ _ _ us hl => match us, hl with | [_], _ => rfl
theorem ok_is_name (T : Txt K mg fa ca fd) : FnOk P w K mg base (L2.CX P w) 1 (fa 3) (fd 3) ["value"] (spH (GG P w K fa ca) 1 F_is_name) :=
  have nd := sc_is_name.nd
  fnX (G := GG P w K fa ca) 1 2 (mb := b_is_name) (by rfl) T.f_is_name sc_is_name (by rfl) (by rfl) (by rfl) (by rfl) (by rfl) (by rfl) (by rfl) fun cdv A outer s H E hr B po =>
    (sss_one (ss_ret (se_and (se_isi isStr isStr_ok (by rfl) (by rfl) T.z_isinstance (by rfl) T.z_str (by decide +kernel) (se_var 0)) (se_and (se_chain op_le cmp_ok op_le cmp_ok se_int (se_callB call_len len_ok (by rfl) T.z_len (by decide +kernel) (sa_cons (se_var 0) sa_nil)) (se_gint (by rfl) T.c_MAX_NAME.choose_spec)) (se_and1 (se_callB (cr_all rfl) all_ok (by rfl) T.z_all (by decide +kernel) (sa_cons (se_lc (own := [("sign", 1)]) (g := (gName 1)) rfl nd (si_seq (by rfl) (se_var 0)) (blkOk_by (N := ["value", "sign"]) (sc := defScope s_is_name) (by decide +kernel)) (lcg_set (by decide)) (fun _ _ _ _ _ => (pg_name (i := 1) nd rfl (.inl rfl))) (fun _ _ _ _ _ => sts_nil) (fun _ _ _ _ _ => (se_cmp (op_inA hr) in_ok (se_var 1) (se_gstr (by rfl) T.c_LETTERS.choose_spec)))) sa_nil)))))))
def l_is_fraction_0 : Sl → M CV := (eB (callF 1 F_is_whole) (eConsA (eVar 1) eNilA))
def b_is_fraction : MS := (mSeq (mIf (bOr (bNot (bOf (eUn (isK isTupK) (eVar 0)))) (bOr (bOf (eOp (pyEq true) (eB pyLen (eConsA (eVar 0) eNilA)) (eC (.int 2)))) (bNot (bOf (eB (one pyAll) (eConsA (eLc (iSeq (eVar 0)) (gSet 1) bYes l_is_fraction_0 [1]) eNilA)))))) (mRet (eC (.bl false))) mNil)
    (mRet (eAnd (eOp pyGe (eOp pyIx (eVar 0) (eC (.int 1))) (eC (.int 1))) (eOp (pyEq false) (eB pyGcd (eConsA (eOp pyIx (eVar 0) (eC (.int 0))) (eConsA (eOp pyIx (eVar 0) (eC (.int 1))) eNilA))) (eC (.int 1))))))
def F_is_fraction : List CV → M CV := runB 1 2 b_is_fraction
theorem sc_is_fraction : FnScope ["value", "entry"] ["value"] (defScope s_is_fraction) := ⟨rfl, rfl, rfl, by decide +kernel, rfl, by decide +kernel, by decide +kernel⟩
theorem bn_is_fraction (T : Txt K mg fa ca fd) : Binds K (fd 4) ["value"] [] := T.f_is_fraction.binds fun _ _ _ _ _ _ us hl => match us, hl with | [_], _ => rfl
theorem ok_is_fraction (T : Txt K mg fa ca fd) : FnOk P w K mg base (L2.CX P w) 2 (fa 4) (fd 4) ["value"] (spH (GG P w K fa ca) 1 F_is_fraction) :=
  have nd := sc_is_fraction.nd
  fnX (G := GG P w K fa ca) 1 2 (mb := b_is_fraction) (by rfl) T.f_is_fraction sc_is_fraction (by rfl) (by rfl) (by rfl) (by rfl) (by rfl) (by rfl) (by rfl) fun cdv A outer s H E hr B po =>
    (sss_cons (ss_if (st_bool (sw_or (st_not (st_val (se_isi isTupK isTup_ok (by rfl) (by rfl) T.z_isinstance (by rfl) T.z_tuple (by decide +kernel) (se_var 0)))) (sw_or (st_cmp (op_neD hr.units) ne_ok (se_callB call_len len_ok (by rfl) T.z_len (by decide +kernel) (sa_cons (se_var 0) sa_nil)) se_int) (sw_or1 (st_not (st_val (se_callB (cr_all rfl) all_ok (by rfl) T.z_all (by decide +kernel) (sa_cons (se_lc (own := [("entry", 1)]) (g := (gName 1)) rfl nd (si_seq (by rfl) (se_var 0)) (blkOk_by (N := ["value", "entry"]) (sc := defScope s_is_fraction) (by decide +kernel)) (lcg_set (by decide)) (fun _ _ _ _ _ => (pg_name (i := 1) nd rfl (.inl rfl))) (fun _ _ _ _ _ => sts_nil) (fun _ _ _ _ _ => (se_callF ⟨by rfl, by rfl, by rfl, L2.takes0⟩ (by rfl) (by rfl) (ok_is_whole T) (hr.mono (by decide)) (by rfl) T.d_is_whole T.f_is_whole.kp (bn_is_whole T) (sa_cons (se_var 1) sa_nil)))) sa_nil)))))))) (sss_one (ss_ret se_bl)) sss_nil)
    (sss_one (ss_ret (se_and (se_cmp op_ge cmp_ok (se_ix (by rfl) (se_var 0) se_int) se_int) (se_and1 (se_cmp (op_eqD hr.units) eq_ok (se_callBf cr_gcd pyGcd_ok (by rfl) T.i_gcd (sa_cons (se_ix (by rfl) (se_var 0) se_int) (sa_cons (se_ix (by rfl) (se_var 0) se_int) sa_nil))) se_int))))))
def b_is_number : MS := (mRet (eOr (eB (callF 1 F_is_integer) (eConsA (eVar 0) eNilA)) (eB (callF 1 F_is_fraction) (eConsA (eVar 0) eNilA))))
def F_is_number : List CV → M CV := runB 1 1 b_is_number
theorem sc_is_number : FnScope ["value"] ["value"] (defScope s_is_number) := ⟨rfl, rfl, rfl, by decide +kernel, rfl, by decide +kernel, by decide +kernel⟩
theorem bn_is_number (T : Txt K mg fa ca fd) : Binds K (fd 5) ["value"] [] := T.f_is_number.binds fun _ _ _ _ _ _ us hl => match us, hl with | [_], _ => rfl
theorem ok_is_number (T : Txt K mg fa ca fd) : FnOk P w K mg base (L2.CX P w) 3 (fa 5) (fd 5) ["value"] (spH (GG P w K fa ca) 1 F_is_number) :=
  have nd := sc_is_number.nd
  fnX (G := GG P w K fa ca) 1 1 (mb := b_is_number) (by rfl) T.f_is_number sc_is_number (by rfl) (by rfl) (by rfl) (by rfl) (by rfl) (by rfl) (by rfl) fun cdv A outer s H E hr B po =>
    (sss_one (ss_ret (se_or (se_callF B (by rfl) (by rfl) (ok_is_integer T) (hr.mono (by decide)) (by rfl) T.d_is_integer T.f_is_integer.kp (bn_is_integer T) (sa_cons (se_var 0) sa_nil)) (se_and1 (se_callF B (by rfl) (by rfl) (ok_is_fraction T) (hr.mono (by decide)) (by rfl) T.d_is_fraction T.f_is_fraction.kp (bn_is_fraction T) (sa_cons (se_var 0) sa_nil))))))
def b_require_within : MS := (mIf (bNot (bOf (eB (callF 3 F_is_within) (eConsA (eVar 0) (eConsA (eVar 1) (eConsA (eVar 2) eNilA)))))) mNever mNil)
def F_require_within : List CV → M CV := runB 3 3 b_require_within
theorem sc_require_within : FnScope ["value", "least", "most"] ["value", "least", "most"] (defScope s_require_within) := ⟨rfl, rfl, rfl, by decide +kernel, rfl, by decide +kernel, by decide +kernel⟩
theorem bn_require_within (T : Txt K mg fa ca fd) : Binds K (fd 6) ["value", "least", "most"] [] := T.f_require_within.binds fun _ _ _ _ _ _ us hl => match us, hl with | [_, _, _], _ => rfl
theorem ok_require_within (T : Txt K mg fa ca fd) : FnOk P w K mg base (L2.CX P w) 4 (fa 6) (fd 6) ["value", "least", "most"] (spH (GG P w K fa ca) 3 F_require_within) :=
  have nd := sc_require_within.nd
  fnX (G := GG P w K fa ca) 3 3 (mb := b_require_within) (by rfl) T.f_require_within sc_require_within (by rfl) (by rfl) (by rfl) (by rfl) (by rfl) (by rfl) (by rfl) fun cdv A outer s H E hr B po =>
    (sss_one (ss_if (st_not (st_val (se_callF B (by rfl) (by rfl) (ok_is_within T) (hr.mono (by decide)) (by rfl) T.d_is_within T.f_is_within.kp (bn_is_within T) (sa_cons (se_var 0) (sa_cons (se_var 1) (sa_cons (se_var 2) sa_nil)))))) (sss_one ss_never) sss_nil))
def b_require_number : MS := (mIf (bNot (bOf (eB (callF 1 F_is_number) (eConsA (eVar 0) eNilA)))) mNever mNil)
def F_require_number : List CV → M CV := runB 1 1 b_require_number
theorem sc_require_number : FnScope ["value"] ["value"] (defScope s_require_number) := ⟨rfl, rfl, rfl, by decide +kernel, rfl, by decide +kernel, by decide +kernel⟩
theorem bn_require_number (T : Txt K mg fa ca fd) : Binds K (fd 7) ["value"] [] := T.f_require_number.binds fun _ _ _ _ _ _ us hl => match us, hl with | [_], _ => rfl
theorem ok_require_number (T : Txt K mg fa ca fd) : FnOk P w K mg base (L2.CX P w) 4 (fa 7) (fd 7) ["value"] (spH (GG P w K fa ca) 1 F_require_number) :=
  have nd := sc_require_number.nd
  fnX (G := GG P w K fa ca) 1 1 (mb := b_require_number) (by rfl) T.f_require_number sc_require_number (by rfl) (by rfl) (by rfl) (by rfl) (by rfl) (by rfl) (by rfl) fun cdv A outer s H E hr B po =>
    (sss_one (ss_if (st_not (st_val (se_callF B (by rfl) (by rfl) (ok_is_number T) (hr.mono (by decide)) (by rfl) T.d_is_number T.f_is_number.kp (bn_is_number T) (sa_cons (se_var 0) sa_nil)))) (sss_one ss_never) sss_nil))
def b_pair_of : MS := (mRet (eIf (bOf (eUn (isK isTupK) (eVar 0))) (eVar 0) (eTup (eConsA (eVar 0) (eConsA (eC (.int 1)) eNilA)))))
def F_pair_of : List CV → M CV := runB 1 1 b_pair_of
theorem sc_pair_of : FnScope ["number"] ["number"] (defScope s_pair_of) := ⟨rfl, rfl, rfl, by decide +kernel, rfl, by decide +kernel, by decide +kernel⟩
theorem bn_pair_of (T : Txt K mg fa ca fd) : Binds K (fd 10) ["number"] [] := T.f_pair_of.binds fun _ _ _ _ _ _ us hl => match us, hl with | [_], _ => rfl
theorem ok_pair_of (T : Txt K mg fa ca fd) : FnOk P w K mg base (L2.CX P w) 1 (fa 10) (fd 10) ["number"] (spH (GG P w K fa ca) 1 F_pair_of) :=
  have nd := sc_pair_of.nd
  fnX (G := GG P w K fa ca) 1 1 (mb := b_pair_of) (by rfl) T.f_pair_of sc_pair_of (by rfl) (by rfl) (by rfl) (by rfl) (by rfl) (by rfl) (by rfl) fun cdv A outer s H E hr B po =>
    (sss_one (ss_ret (se_if (st_val (se_isi isTupK isTup_ok (by rfl) (by rfl) T.z_isinstance (by rfl) T.z_tuple (by decide +kernel) (se_var 0))) (se_var 0) (se_tup (sa_cons (se_var 0) (sa_cons se_int sa_nil))))))
def b_both_told : MS := (mSeq (mExpr (eB (callF 1 F_require_number) (eConsA (eVar 0) eNilA)))
    (mSeq (mExpr (eB (callF 1 F_require_number) (eConsA (eVar 1) eNilA)))
    (mRet (eTup (eConsA (eB (callF 1 F_pair_of) (eConsA (eVar 0) eNilA)) (eConsA (eB (callF 1 F_pair_of) (eConsA (eVar 1) eNilA)) eNilA))))))
def F_both_told : List CV → M CV := runB 2 2 b_both_told
theorem sc_both_told : FnScope ["one", "other"] ["one", "other"] (defScope s_both_told) := ⟨rfl, rfl, rfl, by decide +kernel, rfl, by decide +kernel, by decide +kernel⟩
theorem bn_both_told (T : Txt K mg fa ca fd) : Binds K (fd 8) ["one", "other"] [] := T.f_both_told.binds fun _ _ _ _ _ _ us hl => match us, hl with | [_, _], _ => rfl
theorem ok_both_told (T : Txt K mg fa ca fd) : FnOk P w K mg base (L2.CX P w) 5 (fa 8) (fd 8) ["one", "other"] (spH (GG P w K fa ca) 2 F_both_told) :=
  have nd := sc_both_told.nd
  fnX (G := GG P w K fa ca) 2 2 (mb := b_both_told) (by rfl) T.f_both_told sc_both_told (by rfl) (by rfl) (by rfl) (by rfl) (by rfl) (by rfl) (by rfl) fun cdv A outer s H E hr B po =>
    (sss_cons (ss_expr (se_callF B (by rfl) (by rfl) (ok_require_number T) (hr.mono (by decide)) (by rfl) T.d_require_number T.f_require_number.kp (bn_require_number T) (sa_cons (se_var 0) sa_nil)))
    (sss_cons (ss_expr (se_callF B (by rfl) (by rfl) (ok_require_number T) (hr.mono (by decide)) (by rfl) T.d_require_number T.f_require_number.kp (bn_require_number T) (sa_cons (se_var 1) sa_nil)))
    (sss_one (ss_ret (se_tup (sa_cons (se_callF B (by rfl) (by rfl) (ok_pair_of T) (hr.mono (by decide)) (by rfl) T.d_pair_of T.f_pair_of.kp (bn_pair_of T) (sa_cons (se_var 0) sa_nil)) (sa_cons (se_callF B (by rfl) (by rfl) (ok_pair_of T) (hr.mono (by decide)) (by rfl) T.d_pair_of T.f_pair_of.kp (bn_pair_of T) (sa_cons (se_var 1) sa_nil)) sa_nil)))))))
def b_fraction_in : MS := (mSeq (mAsg (gSet 2) (eIf (bOf (eOp pyGt (eVar 1) (eC (.int 0)))) (eB pyGcd (eConsA (eVar 0) (eConsA (eVar 1) eNilA))) (eUn pyNeg (eB pyGcd (eConsA (eVar 0) (eConsA (eVar 1) eNilA))))))
    (mRet (eTup (eConsA (eOp pyFdiv (eVar 0) (eVar 2)) (eConsA (eOp pyFdiv (eVar 1) (eVar 2)) eNilA)))))
def F_fraction_in : List CV → M CV := runB 2 3 b_fraction_in
theorem sc_fraction_in : FnScope ["top", "bottom", "share"] ["top", "bottom"] (defScope s_fraction_in) := ⟨rfl, rfl, rfl, by decide +kernel, rfl, by decide +kernel, by decide +kernel⟩
theorem bn_fraction_in (T : Txt K mg fa ca fd) : Binds K (fd 9) ["top", "bottom"] [] := T.f_fraction_in.binds fun _ _ _ _ _ _ us hl => match us, hl with | [_, _], _ => rfl
theorem ok_fraction_in (T : Txt K mg fa ca fd) : FnOk P w K mg base (L2.CX P w) 1 (fa 9) (fd 9) ["top", "bottom"] (spH (GG P w K fa ca) 2 F_fraction_in) :=
  have nd := sc_fraction_in.nd
  fnX (G := GG P w K fa ca) 2 3 (mb := b_fraction_in) (by rfl) T.f_fraction_in sc_fraction_in (by rfl) (by rfl) (by rfl) (by rfl) (by rfl) (by rfl) (by rfl) fun cdv A outer s H E hr B po =>
    (sss_cons (ss_asg (sg_set (i := 2) nd rfl (.inl rfl)) (se_if (st_cmp op_gt cmp_ok (se_var 1) se_int) (se_callBf cr_gcd pyGcd_ok (by rfl) T.i_gcd (sa_cons (se_var 0) (sa_cons (se_var 1) sa_nil))) (se_un un_neg neg_ok (se_callBf cr_gcd pyGcd_ok (by rfl) T.i_gcd (sa_cons (se_var 0) (sa_cons (se_var 1) sa_nil))))))
    (sss_one (ss_ret (se_tup (sa_cons (se_op op_fdivG fdiv_ok (se_var 0) (se_var 2)) (sa_cons (se_op op_fdivG fdiv_ok (se_var 1) (se_var 2)) sa_nil))))))
def b_sum_in : MS := (mRet (eB (callF 2 F_fraction_in) (eConsA (eOp pyAdd (eOp pyTimes (eOp pyIx (eVar 0) (eC (.int 0))) (eOp pyIx (eVar 1) (eC (.int 1)))) (eOp pyTimes (eOp pyIx (eVar 1) (eC (.int 0))) (eOp pyIx (eVar 0) (eC (.int 1))))) (eConsA (eOp pyTimes (eOp pyIx (eVar 0) (eC (.int 1))) (eOp pyIx (eVar 1) (eC (.int 1)))) eNilA))))
def F_sum_in : List CV → M CV := runB 2 2 b_sum_in
theorem sc_sum_in : FnScope ["one", "other"] ["one", "other"] (defScope s_sum_in) := ⟨rfl, rfl, rfl, by decide +kernel, rfl, by decide +kernel, by decide +kernel⟩
theorem bn_sum_in (T : Txt K mg fa ca fd) : Binds K (fd 11) ["one", "other"] [] := T.f_sum_in.binds fun _ _ _ _ _ _ us hl => match us, hl with | [_, _], _ => rfl
theorem ok_sum_in (T : Txt K mg fa ca fd) : FnOk P w K mg base (L2.CX P w) 2 (fa 11) (fd 11) ["one", "other"] (spH (GG P w K fa ca) 2 F_sum_in) :=
  have nd := sc_sum_in.nd
  fnX (G := GG P w K fa ca) 2 2 (mb := b_sum_in) (by rfl) T.f_sum_in sc_sum_in (by rfl) (by rfl) (by rfl) (by rfl) (by rfl) (by rfl) (by rfl) fun cdv A outer s H E hr B po =>
    (sss_one (ss_ret (se_callF B (by rfl) (by rfl) (ok_fraction_in T) (hr.mono (by decide)) (by rfl) T.d_fraction_in T.f_fraction_in.kp (bn_fraction_in T) (sa_cons (se_op op_plus plus_ok (se_op op_timesS timesS_ok (se_ix (by rfl) (se_var 0) se_int) (se_ix (by rfl) (se_var 1) se_int)) (se_op op_timesS timesS_ok (se_ix (by rfl) (se_var 1) se_int) (se_ix (by rfl) (se_var 0) se_int))) (sa_cons (se_op op_timesS timesS_ok (se_ix (by rfl) (se_var 0) se_int) (se_ix (by rfl) (se_var 1) se_int)) sa_nil)))))
def b_less_in : MS := (mRet (eB (callF 2 F_fraction_in) (eConsA (eOp pySub (eOp pyTimes (eOp pyIx (eVar 0) (eC (.int 0))) (eOp pyIx (eVar 1) (eC (.int 1)))) (eOp pyTimes (eOp pyIx (eVar 1) (eC (.int 0))) (eOp pyIx (eVar 0) (eC (.int 1))))) (eConsA (eOp pyTimes (eOp pyIx (eVar 0) (eC (.int 1))) (eOp pyIx (eVar 1) (eC (.int 1)))) eNilA))))
def F_less_in : List CV → M CV := runB 2 2 b_less_in
theorem sc_less_in : FnScope ["one", "other"] ["one", "other"] (defScope s_less_in) := ⟨rfl, rfl, rfl, by decide +kernel, rfl, by decide +kernel, by decide +kernel⟩
theorem bn_less_in (T : Txt K mg fa ca fd) : Binds K (fd 12) ["one", "other"] [] := T.f_less_in.binds fun _ _ _ _ _ _ us hl => match us, hl with | [_, _], _ => rfl
theorem ok_less_in (T : Txt K mg fa ca fd) : FnOk P w K mg base (L2.CX P w) 2 (fa 12) (fd 12) ["one", "other"] (spH (GG P w K fa ca) 2 F_less_in) :=
  have nd := sc_less_in.nd
  fnX (G := GG P w K fa ca) 2 2 (mb := b_less_in) (by rfl) T.f_less_in sc_less_in (by rfl) (by rfl) (by rfl) (by rfl) (by rfl) (by rfl) (by rfl) fun cdv A outer s H E hr B po =>
    (sss_one (ss_ret (se_callF B (by rfl) (by rfl) (ok_fraction_in T) (hr.mono (by decide)) (by rfl) T.d_fraction_in T.f_fraction_in.kp (bn_fraction_in T) (sa_cons (se_op op_sub sub_ok (se_op op_timesS timesS_ok (se_ix (by rfl) (se_var 0) se_int) (se_ix (by rfl) (se_var 1) se_int)) (se_op op_timesS timesS_ok (se_ix (by rfl) (se_var 1) se_int) (se_ix (by rfl) (se_var 0) se_int))) (sa_cons (se_op op_timesS timesS_ok (se_ix (by rfl) (se_var 0) se_int) (se_ix (by rfl) (se_var 1) se_int)) sa_nil)))))
def b_product_in : MS := (mRet (eB (callF 2 F_fraction_in) (eConsA (eOp pyTimes (eOp pyIx (eVar 0) (eC (.int 0))) (eOp pyIx (eVar 1) (eC (.int 0)))) (eConsA (eOp pyTimes (eOp pyIx (eVar 0) (eC (.int 1))) (eOp pyIx (eVar 1) (eC (.int 1)))) eNilA))))
def F_product_in : List CV → M CV := runB 2 2 b_product_in
theorem sc_product_in : FnScope ["one", "other"] ["one", "other"] (defScope s_product_in) := ⟨rfl, rfl, rfl, by decide +kernel, rfl, by decide +kernel, by decide +kernel⟩
theorem bn_product_in (T : Txt K mg fa ca fd) : Binds K (fd 13) ["one", "other"] [] := T.f_product_in.binds fun _ _ _ _ _ _ us hl => match us, hl with | [_, _], _ => rfl
theorem ok_product_in (T : Txt K mg fa ca fd) : FnOk P w K mg base (L2.CX P w) 2 (fa 13) (fd 13) ["one", "other"] (spH (GG P w K fa ca) 2 F_product_in) :=
  have nd := sc_product_in.nd
  fnX (G := GG P w K fa ca) 2 2 (mb := b_product_in) (by rfl) T.f_product_in sc_product_in (by rfl) (by rfl) (by rfl) (by rfl) (by rfl) (by rfl) (by rfl) fun cdv A outer s H E hr B po =>
    (sss_one (ss_ret (se_callF B (by rfl) (by rfl) (ok_fraction_in T) (hr.mono (by decide)) (by rfl) T.d_fraction_in T.f_fraction_in.kp (bn_fraction_in T) (sa_cons (se_op op_timesS timesS_ok (se_ix (by rfl) (se_var 0) se_int) (se_ix (by rfl) (se_var 1) se_int)) (sa_cons (se_op op_timesS timesS_ok (se_ix (by rfl) (se_var 0) se_int) (se_ix (by rfl) (se_var 1) se_int)) sa_nil)))))
def b_quotient_in : MS := (mRet (eB (callF 2 F_fraction_in) (eConsA (eOp pyTimes (eOp pyIx (eVar 0) (eC (.int 0))) (eOp pyIx (eVar 1) (eC (.int 1)))) (eConsA (eOp pyTimes (eOp pyIx (eVar 0) (eC (.int 1))) (eOp pyIx (eVar 1) (eC (.int 0)))) eNilA))))
def F_quotient_in : List CV → M CV := runB 2 2 b_quotient_in
theorem sc_quotient_in : FnScope ["one", "other"] ["one", "other"] (defScope s_quotient_in) := ⟨rfl, rfl, rfl, by decide +kernel, rfl, by decide +kernel, by decide +kernel⟩
theorem bn_quotient_in (T : Txt K mg fa ca fd) : Binds K (fd 14) ["one", "other"] [] := T.f_quotient_in.binds fun _ _ _ _ _ _ us hl => match us, hl with | [_, _], _ => rfl
theorem ok_quotient_in (T : Txt K mg fa ca fd) : FnOk P w K mg base (L2.CX P w) 2 (fa 14) (fd 14) ["one", "other"] (spH (GG P w K fa ca) 2 F_quotient_in) :=
  have nd := sc_quotient_in.nd
  fnX (G := GG P w K fa ca) 2 2 (mb := b_quotient_in) (by rfl) T.f_quotient_in sc_quotient_in (by rfl) (by rfl) (by rfl) (by rfl) (by rfl) (by rfl) (by rfl) fun cdv A outer s H E hr B po =>
    (sss_one (ss_ret (se_callF B (by rfl) (by rfl) (ok_fraction_in T) (hr.mono (by decide)) (by rfl) T.d_fraction_in T.f_fraction_in.kp (bn_fraction_in T) (sa_cons (se_op op_timesS timesS_ok (se_ix (by rfl) (se_var 0) se_int) (se_ix (by rfl) (se_var 1) se_int)) (sa_cons (se_op op_timesS timesS_ok (se_ix (by rfl) (se_var 0) se_int) (se_ix (by rfl) (se_var 1) se_int)) sa_nil)))))
def l_total_in_0 : MS := (mAsg (gSet 1) (eB (callF 2 F_sum_in) (eConsA (eVar 1) (eConsA (eVar 2) eNilA))))
def b_total_in : MS := (mSeq (mAsg (gSet 1) (eC (.tup [(.int 0), (.int 1)])))
    (mSeq (mFor (iSeq (eVar 0)) (gSet 2) l_total_in_0)
    (mRet (eVar 1))))
def F_total_in : List CV → M CV := runB 1 3 b_total_in
theorem sc_total_in : FnScope ["fractions", "found", "one"] ["fractions"] (defScope s_total_in) := ⟨rfl, rfl, rfl, by decide +kernel, rfl, by decide +kernel, by decide +kernel⟩
theorem bn_total_in (T : Txt K mg fa ca fd) : Binds K (fd 15) ["fractions"] [] := T.f_total_in.binds fun _ _ _ _ _ _ us hl => match us, hl with | [_], _ => rfl
theorem ok_total_in (T : Txt K mg fa ca fd) : FnOk P w K mg base (L2.CX P w) 3 (fa 15) (fd 15) ["fractions"] (spH (GG P w K fa ca) 1 F_total_in) :=
  have nd := sc_total_in.nd
  fnX (G := GG P w K fa ca) 1 3 (mb := b_total_in) (by rfl) T.f_total_in sc_total_in (by rfl) (by rfl) (by rfl) (by rfl) (by rfl) (by rfl) (by rfl) fun cdv A outer s H E hr B po =>
    (sss_cons (ss_asg (sg_set (i := 1) nd rfl (.inl rfl)) (se_gk (by rfl) T.c_ZERO))
    (sss_cons (ss_for po rfl (si_seq (by rfl) (se_var 0)) (sg_set (i := 2) nd rfl (.inl rfl)) (sss_one (ss_asg (sg_set (i := 1) nd rfl (.inl rfl)) (se_callF B (by rfl) (by rfl) (ok_sum_in T) (hr.mono (by decide)) (by rfl) T.d_sum_in T.f_sum_in.kp (bn_sum_in T) (sa_cons (se_var 1) (sa_cons (se_var 2) sa_nil))))))
    (sss_one (ss_ret (se_var 1)))))
def b_order_in : MS := (mSeq (mAsg (gSet 2) (eOp pySub (eOp pyTimes (eOp pyIx (eVar 0) (eC (.int 0))) (eOp pyIx (eVar 1) (eC (.int 1)))) (eOp pyTimes (eOp pyIx (eVar 1) (eC (.int 0))) (eOp pyIx (eVar 0) (eC (.int 1))))))
    (mRet (eOp pySub (eB pyInt (eConsA (eOp pyGt (eVar 2) (eC (.int 0))) eNilA)) (eB pyInt (eConsA (eOp pyLt (eVar 2) (eC (.int 0))) eNilA)))))
def F_order_in : List CV → M CV := runB 2 3 b_order_in
theorem sc_order_in : FnScope ["one", "other", "gap"] ["one", "other"] (defScope s_order_in) := ⟨rfl, rfl, rfl, by decide +kernel, rfl, by decide +kernel, by decide +kernel⟩
theorem bn_order_in (T : Txt K mg fa ca fd) : Binds K (fd 16) ["one", "other"] [] := T.f_order_in.binds fun _ _ _ _ _ _ us hl => match us, hl with | [_, _], _ => rfl
theorem ok_order_in (T : Txt K mg fa ca fd) : FnOk P w K mg base (L2.CX P w) 1 (fa 16) (fd 16) ["one", "other"] (spH (GG P w K fa ca) 2 F_order_in) :=
  have nd := sc_order_in.nd
  fnX (G := GG P w K fa ca) 2 3 (mb := b_order_in) (by rfl) T.f_order_in sc_order_in (by rfl) (by rfl) (by rfl) (by rfl) (by rfl) (by rfl) (by rfl) fun cdv A outer s H E hr B po =>
    (sss_cons (ss_asg (sg_set (i := 2) nd rfl (.inl rfl)) (se_op op_sub sub_ok (se_op op_timesS timesS_ok (se_ix (by rfl) (se_var 0) se_int) (se_ix (by rfl) (se_var 1) se_int)) (se_op op_timesS timesS_ok (se_ix (by rfl) (se_var 1) se_int) (se_ix (by rfl) (se_var 0) se_int))))
    (sss_one (ss_ret (se_op op_sub sub_ok (se_callTy call_int1 int_ok (by rfl) T.z_int (by decide +kernel) (sa_cons (se_cmp op_gt cmp_ok (se_var 2) se_int) sa_nil)) (se_callTy call_int1 int_ok (by rfl) T.z_int (by decide +kernel) (sa_cons (se_cmp op_lt cmp_ok (se_var 2) se_int) sa_nil))))))
def l_power_in_0 : MS := (mSeq (mIf (bOf (eOp (pyEq false) (eOp pyMod (eVar 4) (eC (.int 2))) (eC (.int 1)))) (mAug 2 pyIMul (eVar 3)) mNil)
    (mSeq (mAug 3 pyIMul (eVar 3))
    (mAug 4 pyFdiv (eC (.int 2)))))
def b_power_in : MS := (mSeq (mPar3 2 3 4 (eConsA (eC (.int 1)) (eConsA (eVar 0) (eConsA (eVar 1) eNilA))))
    (mSeq (mWhile (bOf (eOp pyGt (eVar 4) (eC (.int 0)))) l_power_in_0 100000)
    (mRet (eVar 2))))
def F_power_in : List CV → M CV := runB 2 5 b_power_in
theorem sc_power_in : FnScope ["number", "many", "found", "here", "left"] ["number", "many"] (defScope s_power_in) := ⟨rfl, rfl, rfl, by decide +kernel, rfl, by decide +kernel, by decide +kernel⟩
theorem bn_power_in (T : Txt K mg fa ca fd) : Binds K (fd 17) ["number", "many"] [] := T.f_power_in.binds fun _ _ _ _ _ _ us hl => match us, hl with | [_, _], _ => rfl
theorem ok_power_in (T : Txt K mg fa ca fd) : FnOk P w K mg base (L2.CX P w) 1 (fa 17) (fd 17) ["number", "many"] (spH (GG P w K fa ca) 2 F_power_in) :=
  have nd := sc_power_in.nd
  fnX (G := GG P w K fa ca) 2 5 (mb := b_power_in) (by rfl) T.f_power_in sc_power_in (by rfl) (by rfl) (by rfl) (by rfl) (by rfl) (by rfl) (by rfl) fun cdv A outer s H E hr B po =>
    (sss_cons (ss_par3 (i := 2) (j := 3) (l := 4) rfl nd rfl rfl rfl (by decide) (by decide) (by decide) rfl rfl rfl (sa_cons se_int (sa_cons (se_var 0) (sa_cons (se_var 1) sa_nil))) (by rfl))
    (sss_cons (ss_while 100000 po (st_cmp op_gt cmp_ok (se_var 4) se_int) (sss_cons (ss_if (st_cmp (op_eqD hr.units) eq_ok (se_op op_modN mod_ok (se_var 4) se_int) se_int) (sss_one (ss_aug (i := 2) iop_mulW imul_ok nd rfl (.inl rfl) (se_var 3))) sss_nil)
    (sss_cons (ss_aug (i := 3) iop_mulW imul_ok nd rfl (.inl rfl) (se_var 3))
    (sss_one (ss_aug (i := 4) iop_fdivG fdiv_ok nd rfl (.inl rfl) se_int)))))
    (sss_one (ss_ret (se_var 2)))))
def l_product_from_0 : MS := (mAug 3 pyIMul (eVar 4))
def b_product_from : MS := (mSeq (mAsg (gSet 3) (eC (.int 1)))
    (mSeq (mFor (iArgs rng3 (eConsA (eVar 0) (eConsA (eOp pyAdd (eVar 1) (eC (.int 1))) (eConsA (eVar 2) eNilA)))) (gSet 4) l_product_from_0)
    (mRet (eVar 3))))
def F_product_from : List CV → M CV := runB 3 5 b_product_from
theorem sc_product_from : FnScope ["least", "most", "step", "found", "number"] ["least", "most", "step"] (defScope s_product_from) := ⟨rfl, rfl, rfl, by decide +kernel, rfl, by decide +kernel, by decide +kernel⟩
theorem bn_product_from (T : Txt K mg fa ca fd) : Binds K (fd 18) ["least", "most", "step"] [] := T.f_product_from.binds fun _ _ _ _ _ _ us hl => match us, hl with | [_, _, _], _ => rfl
theorem ok_product_from (T : Txt K mg fa ca fd) : FnOk P w K mg base (L2.CX P w) 1 (fa 18) (fd 18) ["least", "most", "step"] (spH (GG P w K fa ca) 3 F_product_from) :=
  have nd := sc_product_from.nd
  fnX (G := GG P w K fa ca) 3 5 (mb := b_product_from) (by rfl) T.f_product_from sc_product_from (by rfl) (by rfl) (by rfl) (by rfl) (by rfl) (by rfl) (by rfl) fun cdv A outer s H E hr B po =>
    (sss_cons (ss_asg (sg_set (i := 3) nd rfl (.inl rfl)) se_int)
    (sss_cons (ss_for po rfl (si_rng3 (by rfl) T.z_range (sa_cons (se_var 0) (sa_cons (se_op op_plus plus_ok (se_var 1) se_int) (sa_cons (se_var 2) sa_nil)))) (sg_set (i := 4) nd rfl (.inl rfl)) (sss_one (ss_aug (i := 3) iop_mulW imul_ok nd rfl (.inl rfl) (se_var 4))))
    (sss_one (ss_ret (se_var 3)))))
def l_bernoulli_row_0 : Sl → M CV := (eB (callF 2 F_product_in) (eConsA (eTup (eConsA (eB pyComb (eConsA (eOp pyAdd (eVar 2) (eC (.int 1))) (eConsA (eVar 5) eNilA))) (eConsA (eC (.int 1)) eNilA))) (eConsA (eVar 4) eNilA)))
def l_bernoulli_row_1 : MS := (mSeq (mAsg (gSet 3) (eB (callF 1 F_total_in) (eConsA (eLcA (iEnumA (eConsA (eVar 1) eNilA)) (gUnp 2 (gConsT (gSet 5) (gConsT (gSet 4) gNilT))) bYes l_bernoulli_row_0 [5, 4]) eNilA)))
    (mExpr (eMt isLis pyAppend (eVar 1) (eConsA (eB (callF 2 F_quotient_in) (eConsA (eVar 3) (eConsA (eTup (eConsA (eOp pySub (eUn pyNeg (eVar 2)) (eC (.int 1))) (eConsA (eC (.int 1)) eNilA))) eNilA))) eNilA))))
def b_bernoulli_row : MS := (mSeq (mAsg (gSet 1) (eNew (eConsA (eC (.tup [(.int 1), (.int 1)])) eNilA)))
    (mSeq (mFor (iArgs rng2 (eConsA (eC (.int 1)) (eConsA (eOp pyAdd (eVar 0) (eC (.int 1))) eNilA))) (gSet 2) l_bernoulli_row_1)
    (mRet (eVar 1))))
def F_bernoulli_row : List CV → M CV := runB 1 6 b_bernoulli_row
theorem sc_bernoulli_row : FnScope ["most", "found", "last", "whole", "one", "place"] ["most"] (defScope s_bernoulli_row) := ⟨rfl, rfl, rfl, by decide +kernel, rfl, by decide +kernel, by decide +kernel⟩
theorem bn_bernoulli_row (T : Txt K mg fa ca fd) : Binds K (fd 19) ["most"] [] := T.f_bernoulli_row.binds fun _ _ _ _ _ _ us hl => match us, hl with | [_], _ => rfl
theorem ok_bernoulli_row (T : Txt K mg fa ca fd) : FnOk P w K mg base (L2.CX P w) 4 (fa 19) (fd 19) ["most"] (spH (GG P w K fa ca) 1 F_bernoulli_row) :=
  have nd := sc_bernoulli_row.nd
  fnX (G := GG P w K fa ca) 1 6 (mb := b_bernoulli_row) (by rfl) T.f_bernoulli_row sc_bernoulli_row (by rfl) (by rfl) (by rfl) (by rfl) (by rfl) (by rfl) (by rfl) fun cdv A outer s H E hr B po =>
    (sss_cons (ss_asg (sg_set (i := 1) nd rfl (.inl rfl)) (se_new (sa_cons (se_gk (by rfl) T.c_ONE) sa_nil)))
    (sss_cons (ss_for po rfl (si_rng2 (by rfl) T.z_range (sa_cons se_int (sa_cons (se_op op_plus plus_ok (se_var 0) se_int) sa_nil))) (sg_set (i := 2) nd rfl (.inr rfl)) (sss_cons (ss_asg (sg_set (i := 3) nd rfl (.inl rfl)) (se_callF B (by rfl) (by rfl) (ok_total_in T) (hr.mono (by decide)) (by rfl) T.d_total_in T.f_total_in.kp (bn_total_in T) (sa_cons (se_lcA (own := [("place", 5), ("one", 4)]) (g := (gTup K 2 (gCons (gName 5) (gCons (gName 4) gNil)))) rfl nd (si_enumA (by rfl) (by rfl) T.z_enumerate (sa_cons (se_var 1) sa_nil)) (blkOk_by (N := ["most", "found", "last", "whole", "one", "place"]) (sc := defScope s_bernoulli_row) (by decide +kernel)) (lcg_unp (lcg_cons (lcg_set (by decide)) (lcg_cons (lcg_set (by decide)) lcg_nil))) (fun _ _ _ _ _ => (pg_tup rfl (pgs_cons (pg_name (i := 5) nd rfl (.inl rfl)) (pgs_cons (pg_name (i := 4) nd rfl (.inl rfl)) pgs_nil)))) (fun _ _ _ _ _ => sts_nil) (fun _ _ _ _ _ => (se_callF ⟨by rfl, by rfl, by rfl, L2.takes0⟩ (by rfl) (by rfl) (ok_product_in T) (hr.mono (by decide)) (by rfl) T.d_product_in T.f_product_in.kp (bn_product_in T) (sa_cons (se_tup (sa_cons (se_callBf comb_run pyComb_ok (by rfl) T.i_comb (sa_cons (se_op op_plus plus_ok (se_var 2) se_int) (sa_cons (se_var 5) sa_nil))) (sa_cons se_int sa_nil))) (sa_cons (se_var 4) sa_nil))))) sa_nil)))
    (sss_one (ss_expr (se_mt isLis_ty PySem.F.plainAttrs_list PySem.F.slot_list_append PySem.F.type_list_append mt_append append_ok (se_var 1) (sa_cons (se_callF B (by rfl) (by rfl) (ok_quotient_in T) (hr.mono (by decide)) (by rfl) T.d_quotient_in T.f_quotient_in.kp (bn_quotient_in T) (sa_cons (se_var 3) (sa_cons (se_tup (sa_cons (se_op op_sub sub_ok (se_un un_neg neg_ok (se_var 2)) se_int) (sa_cons se_int sa_nil))) sa_nil))) sa_nil))))))
    (sss_one (ss_ret (se_var 1)))))
def b_text_in : MS := (mRet (eIf (bOf (eOp (pyEq false) (eOp pyIx (eVar 0) (eC (.int 1))) (eC (.int 1)))) (eFmt (eOp pyIx (eVar 0) (eC (.int 0)))) (eJs [(eFmt (eOp pyIx (eVar 0) (eC (.int 0)))), (eC (.str (Str.ofString "/"))), (eFmt (eOp pyIx (eVar 0) (eC (.int 1))))] Str.empty)))
def F_text_in : List CV → M CV := runB 1 1 b_text_in
theorem sc_text_in : FnScope ["number"] ["number"] (defScope s_text_in) := ⟨rfl, rfl, rfl, by decide +kernel, rfl, by decide +kernel, by decide +kernel⟩
theorem bn_text_in (T : Txt K mg fa ca fd) : Binds K (fd 20) ["number"] [] := T.f_text_in.binds fun _ _ _ _ _ _ us hl => match us, hl with | [_], _ => rfl
theorem ok_text_in (T : Txt K mg fa ca fd) : FnOk P w K mg base (L2.CX P w) 1 (fa 20) (fd 20) ["number"] (spH (GG P w K fa ca) 1 F_text_in) :=
  have nd := sc_text_in.nd
  fnX (G := GG P w K fa ca) 1 1 (mb := b_text_in) (by rfl) T.f_text_in sc_text_in (by rfl) (by rfl) (by rfl) (by rfl) (by rfl) (by rfl) (by rfl) fun cdv A outer s H E hr B po =>
    (sss_one (ss_ret (se_if (st_cmp (op_eqD hr.units) eq_ok (se_ix (by rfl) (se_var 0) se_int) se_int) (se_join1 (se_fmt (se_ix (by rfl) (se_var 0) se_int))) (se_join (SJ.cons (se_fmt (se_ix (by rfl) (se_var 0) se_int)) (SJ.cons se_str (SJ.cons (se_fmt (se_ix (by rfl) (se_var 0) se_int)) SJ.nil)))))))
def l_digits_told_0 : Sl → M CV := (eOp (pyIn false) (eVar 1) (eC (.str (Str.ofString "0123456789"))))
def b_digits_told : MS := (mRet (eIf (bAnd (bOf (eOp (pyEq true) (eVar 0) (eC (.str (Str.ofString ""))))) (bOf (eB (one pyAll) (eConsA (eLc (iSeq (eVar 0)) (gSet 1) bYes l_digits_told_0 [1]) eNilA)))) (eB (one pyIntT) (eConsA (eVar 0) eNilA)) (eC .non)))
def F_digits_told : List CV → M CV := runB 1 2 b_digits_told
theorem sc_digits_told : FnScope ["text", "sign"] ["text"] (defScope s_digits_told) := ⟨rfl, rfl, rfl, by decide +kernel, rfl, by decide +kernel, by decide +kernel⟩
theorem bn_digits_told (T : Txt K mg fa ca fd) : Binds K (fd 21) ["text"] [] := T.f_digits_told.binds fun _ _ _ _ _ _ us hl => match us, hl with | [_], _ => rfl
theorem ok_digits_told (T : Txt K mg fa ca fd) : FnOk P w K mg base (L2.CX P w) 1 (fa 21) (fd 21) ["text"] (spH (GG P w K fa ca) 1 F_digits_told) :=
  have nd := sc_digits_told.nd
  fnX (G := GG P w K fa ca) 1 2 (mb := b_digits_told) (by rfl) T.f_digits_told sc_digits_told (by rfl) (by rfl) (by rfl) (by rfl) (by rfl) (by rfl) (by rfl) fun cdv A outer s H E hr B po =>
    (sss_one (ss_ret (se_if (st_bool (sw_and (st_cmp (op_neD hr.units) ne_ok (se_var 0) se_str) (sw_and1 (st_val (se_callB (cr_all rfl) all_ok (by rfl) T.z_all (by decide +kernel) (sa_cons (se_lc (own := [("sign", 1)]) (g := (gName 1)) rfl nd (si_seq (by rfl) (se_var 0)) (blkOk_by (N := ["text", "sign"]) (sc := defScope s_digits_told) (by decide +kernel)) (lcg_set (by decide)) (fun _ _ _ _ _ => (pg_name (i := 1) nd rfl (.inl rfl))) (fun _ _ _ _ _ => sts_nil) (fun _ _ _ _ _ => (se_cmp (op_inA hr) in_ok (se_var 1) (se_gstr (by rfl) T.c_DIGITS.choose_spec)))) sa_nil)))))) (se_callTy call_intT intT_ok (by rfl) T.z_int (by decide +kernel) (sa_cons (se_var 0) sa_nil)) se_non)))
def l_number_told_0 : Sl → M CV := (eB (callF 1 F_digits_told) (eConsA (eVar 4) eNilA))
def b_number_told : MS := (mSeq (mAsg (gSet 1) (eIf (bOf (eOp (pyEq false) (eSlice (eVar 0) none (some (eC (.int 1)))) (eC (.str (Str.ofString "-"))))) (eSlice (eVar 0) (some (eC (.int 1))) none) (eVar 0)))
    (mSeq (mAsg (gSet 2) (eLc (iSeq (eMt isStrV pySplit (eVar 1) (eConsA (eC (.str (Str.ofString "/"))) eNilA))) (gSet 4) bYes l_number_told_0 [4]))
    (mSeq (mIf (bOr (bOf (eOp pyGt (eB pyLen (eConsA (eVar 2) eNilA)) (eC (.int 2)))) (bOr (bOf (eOp (pyIn false) (eC .non) (eVar 2))) (bOf (eOp (pyEq false) (eSlice (eVar 2) (some (eC (.int 1))) none) (eLst (eConsA (eC (.int 0)) eNilA)))))) (mRet (eC .non)) mNil)
    (mSeq (mAsg (gSet 3) (eB (callF 2 F_fraction_in) (eConsA (eOp pyIx (eVar 2) (eC (.int 0))) (eConsA (eIf (bOf (eOp (pyEq false) (eB pyLen (eConsA (eVar 2) eNilA)) (eC (.int 2)))) (eOp pyIx (eVar 2) (eC (.int 1))) (eC (.int 1))) eNilA))))
    (mRet (eIf (bOf (eOp (pyEq true) (eVar 1) (eVar 0))) (eTup (eConsA (eUn pyNeg (eOp pyIx (eVar 3) (eC (.int 0)))) (eConsA (eOp pyIx (eVar 3) (eC (.int 1))) eNilA))) (eVar 3)))))))
def F_number_told : List CV → M CV := runB 1 5 b_number_told
theorem sc_number_told : FnScope ["text", "size", "halves", "found", "half"] ["text"] (defScope s_number_told) := ⟨rfl, rfl, rfl, by decide +kernel, rfl, by decide +kernel, by decide +kernel⟩
theorem bn_number_told (T : Txt K mg fa ca fd) : Binds K (fd 22) ["text"] [] := T.f_number_told.binds fun _ _ _ _ _ _ us hl => match us, hl with | [_], _ => rfl
theorem ok_number_told (T : Txt K mg fa ca fd) : FnOk P w K mg base (L2.CX P w) 2 (fa 22) (fd 22) ["text"] (spH (GG P w K fa ca) 1 F_number_told) :=
  have nd := sc_number_told.nd
  fnX (G := GG P w K fa ca) 1 5 (mb := b_number_told) (by rfl) T.f_number_told sc_number_told (by rfl) (by rfl) (by rfl) (by rfl) (by rfl) (by rfl) (by rfl) fun cdv A outer s H E hr B po =>
    (sss_cons (ss_asg (sg_set (i := 1) nd rfl (.inl rfl)) (se_if (st_cmp (op_eqD hr.units) eq_ok (se_slice (by rfl) (se_var 0) so_none (so_some se_int)) se_str) (se_slice (by rfl) (se_var 0) (so_some se_int) so_none) (se_var 0)))
    (sss_cons (ss_setLc (i := 2) (own := [("half", 4)]) (g := (gName 4)) rfl nd rfl rfl (sw_true rfl rfl rfl (by decide +kernel)) (si_seq (by rfl) (se_mt isStrV_ty PySem.F.plainAttrs_str PySem.F.slot_str_split PySem.F.type_str_split mt_split split_ok (se_var 1) (sa_cons se_str sa_nil))) (blkOk_by (N := ["text", "size", "halves", "found", "half"]) (sc := defScope s_number_told) (by decide +kernel)) (lcg_set (by decide)) (fun _ _ _ _ _ => (pg_name (i := 4) nd rfl (.inl rfl))) (fun _ _ _ _ _ => sts_nil) (fun _ _ _ _ _ => (se_callF ⟨by rfl, by rfl, by rfl, L2.takes0⟩ (by rfl) (by rfl) (ok_digits_told T) (hr.mono (by decide)) (by rfl) T.d_digits_told T.f_digits_told.kp (bn_digits_told T) (sa_cons (se_var 4) sa_nil))))
    (sss_cons (ss_if (st_bool (sw_or (st_cmp op_gt cmp_ok (se_callB call_len len_ok (by rfl) T.z_len (by decide +kernel) (sa_cons (se_var 2) sa_nil)) se_int) (sw_or (st_cmp (op_inA hr) in_ok se_non (se_var 2)) (sw_or1 (st_cmp (op_eqD hr.units) eq_ok (se_slice (by rfl) (se_var 2) (so_some se_int) so_none) (se_lst (sa_cons se_int sa_nil))))))) (sss_one (ss_ret se_non)) sss_nil)
    (sss_cons (ss_asg (sg_set (i := 3) nd rfl (.inl rfl)) (se_callF B (by rfl) (by rfl) (ok_fraction_in T) (hr.mono (by decide)) (by rfl) T.d_fraction_in T.f_fraction_in.kp (bn_fraction_in T) (sa_cons (se_ix (by rfl) (se_var 2) se_int) (sa_cons (se_if (st_cmp (op_eqD hr.units) eq_ok (se_callB call_len len_ok (by rfl) T.z_len (by decide +kernel) (sa_cons (se_var 2) sa_nil)) se_int) (se_ix (by rfl) (se_var 2) se_int) se_int) sa_nil))))
    (sss_one (ss_ret (se_if (st_cmp (op_neD hr.units) ne_ok (se_var 1) (se_var 0)) (se_tup (sa_cons (se_un un_neg neg_ok (se_ix (by rfl) (se_var 3) se_int)) (sa_cons (se_ix (by rfl) (se_var 3) se_int) sa_nil))) (se_var 3))))))))
def b_fraction : MS := (mSeq (mIf (bNot (bOf (eB (callF 1 F_is_whole) (eConsA (eVar 0) eNilA)))) mNever mNil)
    (mSeq (mIf (bOr (bNot (bOf (eB (callF 1 F_is_whole) (eConsA (eVar 1) eNilA)))) (bOf (eOp (pyEq false) (eVar 1) (eC (.int 0))))) mNever mNil)
    (mRet (eB (callF 2 F_fraction_in) (eConsA (eVar 0) (eConsA (eVar 1) eNilA))))))
def F_fraction : List CV → M CV := runB 2 2 b_fraction
theorem sc_fraction : FnScope ["top", "bottom"] ["top", "bottom"] (defScope s_fraction) := ⟨rfl, rfl, rfl, by decide +kernel, rfl, by decide +kernel, by decide +kernel⟩
theorem bn_fraction (T : Txt K mg fa ca fd) : Binds K (fd 23) ["top", "bottom"] [] := T.f_fraction.binds fun _ _ _ _ _ _ us hl => match us, hl with | [_, _], _ => rfl
theorem ok_fraction (T : Txt K mg fa ca fd) : FnOk P w K mg base (L2.CX P w) 2 (fa 23) (fd 23) ["top", "bottom"] (spH (GG P w K fa ca) 2 F_fraction) :=
  have nd := sc_fraction.nd
  fnX (G := GG P w K fa ca) 2 2 (mb := b_fraction) (by rfl) T.f_fraction sc_fraction (by rfl) (by rfl) (by rfl) (by rfl) (by rfl) (by rfl) (by rfl) fun cdv A outer s H E hr B po =>
    (sss_cons (ss_if (st_not (st_val (se_callF B (by rfl) (by rfl) (ok_is_whole T) (hr.mono (by decide)) (by rfl) T.d_is_whole T.f_is_whole.kp (bn_is_whole T) (sa_cons (se_var 0) sa_nil)))) (sss_one ss_never) sss_nil)
    (sss_cons (ss_if (st_bool (sw_or (st_not (st_val (se_callF B (by rfl) (by rfl) (ok_is_whole T) (hr.mono (by decide)) (by rfl) T.d_is_whole T.f_is_whole.kp (bn_is_whole T) (sa_cons (se_var 1) sa_nil)))) (sw_or1 (st_cmp (op_eqD hr.units) eq_ok (se_var 1) se_int)))) (sss_one ss_never) sss_nil)
    (sss_one (ss_ret (se_callF B (by rfl) (by rfl) (ok_fraction_in T) (hr.mono (by decide)) (by rfl) T.d_fraction_in T.f_fraction_in.kp (bn_fraction_in T) (sa_cons (se_var 0) (sa_cons (se_var 1) sa_nil)))))))
def b_added : MS := (mSeq (mAsg (gUnp 2 (gConsT (gSet 2) (gConsT (gSet 3) gNilT))) (eB (callF 2 F_both_told) (eConsA (eVar 0) (eConsA (eVar 1) eNilA))))
    (mRet (eB (callF 2 F_sum_in) (eConsA (eVar 2) (eConsA (eVar 3) eNilA)))))
def F_added : List CV → M CV := runB 2 4 b_added
theorem sc_added : FnScope ["one", "other", "first", "second"] ["one", "other"] (defScope s_added) := ⟨rfl, rfl, rfl, by decide +kernel, rfl, by decide +kernel, by decide +kernel⟩
theorem bn_added (T : Txt K mg fa ca fd) : Binds K (fd 24) ["one", "other"] [] := T.f_added.binds fun _ _ _ _ _ _ us hl => match us, hl with | [_, _], _ => rfl
theorem ok_added (T : Txt K mg fa ca fd) : FnOk P w K mg base (L2.CX P w) 6 (fa 24) (fd 24) ["one", "other"] (spH (GG P w K fa ca) 2 F_added) :=
  have nd := sc_added.nd
  fnX (G := GG P w K fa ca) 2 4 (mb := b_added) (by rfl) T.f_added sc_added (by rfl) (by rfl) (by rfl) (by rfl) (by rfl) (by rfl) (by rfl) fun cdv A outer s H E hr B po =>
    (sss_cons (ss_asg (sg_unp rfl rfl (sgs_cons (sg_set (i := 2) nd rfl (.inl rfl)) (sgs_cons (sg_set (i := 3) nd rfl (.inl rfl)) sgs_nil))) (se_callF B (by rfl) (by rfl) (ok_both_told T) (hr.mono (by decide)) (by rfl) T.d_both_told T.f_both_told.kp (bn_both_told T) (sa_cons (se_var 0) (sa_cons (se_var 1) sa_nil))))
    (sss_one (ss_ret (se_callF B (by rfl) (by rfl) (ok_sum_in T) (hr.mono (by decide)) (by rfl) T.d_sum_in T.f_sum_in.kp (bn_sum_in T) (sa_cons (se_var 2) (sa_cons (se_var 3) sa_nil))))))
def b_less : MS := (mSeq (mAsg (gUnp 2 (gConsT (gSet 2) (gConsT (gSet 3) gNilT))) (eB (callF 2 F_both_told) (eConsA (eVar 0) (eConsA (eVar 1) eNilA))))
    (mRet (eB (callF 2 F_less_in) (eConsA (eVar 2) (eConsA (eVar 3) eNilA)))))
def F_less : List CV → M CV := runB 2 4 b_less
theorem sc_less : FnScope ["one", "other", "first", "second"] ["one", "other"] (defScope s_less) := ⟨rfl, rfl, rfl, by decide +kernel, rfl, by decide +kernel, by decide +kernel⟩
theorem bn_less (T : Txt K mg fa ca fd) : Binds K (fd 25) ["one", "other"] [] := T.f_less.binds fun _ _ _ _ _ _ us hl => match us, hl with | [_, _], _ => rfl
theorem ok_less (T : Txt K mg fa ca fd) : FnOk P w K mg base (L2.CX P w) 6 (fa 25) (fd 25) ["one", "other"] (spH (GG P w K fa ca) 2 F_less) :=
  have nd := sc_less.nd
  fnX (G := GG P w K fa ca) 2 4 (mb := b_less) (by rfl) T.f_less sc_less (by rfl) (by rfl) (by rfl) (by rfl) (by rfl) (by rfl) (by rfl) fun cdv A outer s H E hr B po =>
    (sss_cons (ss_asg (sg_unp rfl rfl (sgs_cons (sg_set (i := 2) nd rfl (.inl rfl)) (sgs_cons (sg_set (i := 3) nd rfl (.inl rfl)) sgs_nil))) (se_callF B (by rfl) (by rfl) (ok_both_told T) (hr.mono (by decide)) (by rfl) T.d_both_told T.f_both_told.kp (bn_both_told T) (sa_cons (se_var 0) (sa_cons (se_var 1) sa_nil))))
    (sss_one (ss_ret (se_callF B (by rfl) (by rfl) (ok_less_in T) (hr.mono (by decide)) (by rfl) T.d_less_in T.f_less_in.kp (bn_less_in T) (sa_cons (se_var 2) (sa_cons (se_var 3) sa_nil))))))
def b_multiplied : MS := (mSeq (mAsg (gUnp 2 (gConsT (gSet 2) (gConsT (gSet 3) gNilT))) (eB (callF 2 F_both_told) (eConsA (eVar 0) (eConsA (eVar 1) eNilA))))
    (mRet (eB (callF 2 F_product_in) (eConsA (eVar 2) (eConsA (eVar 3) eNilA)))))
def F_multiplied : List CV → M CV := runB 2 4 b_multiplied
theorem sc_multiplied : FnScope ["one", "other", "first", "second"] ["one", "other"] (defScope s_multiplied) := ⟨rfl, rfl, rfl, by decide +kernel, rfl, by decide +kernel, by decide +kernel⟩
theorem bn_multiplied (T : Txt K mg fa ca fd) : Binds K (fd 26) ["one", "other"] [] := T.f_multiplied.binds fun _ _ _ _ _ _ us hl => match us, hl with | [_, _], _ => rfl
theorem ok_multiplied (T : Txt K mg fa ca fd) : FnOk P w K mg base (L2.CX P w) 6 (fa 26) (fd 26) ["one", "other"] (spH (GG P w K fa ca) 2 F_multiplied) :=
  have nd := sc_multiplied.nd
  fnX (G := GG P w K fa ca) 2 4 (mb := b_multiplied) (by rfl) T.f_multiplied sc_multiplied (by rfl) (by rfl) (by rfl) (by rfl) (by rfl) (by rfl) (by rfl) fun cdv A outer s H E hr B po =>
    (sss_cons (ss_asg (sg_unp rfl rfl (sgs_cons (sg_set (i := 2) nd rfl (.inl rfl)) (sgs_cons (sg_set (i := 3) nd rfl (.inl rfl)) sgs_nil))) (se_callF B (by rfl) (by rfl) (ok_both_told T) (hr.mono (by decide)) (by rfl) T.d_both_told T.f_both_told.kp (bn_both_told T) (sa_cons (se_var 0) (sa_cons (se_var 1) sa_nil))))
    (sss_one (ss_ret (se_callF B (by rfl) (by rfl) (ok_product_in T) (hr.mono (by decide)) (by rfl) T.d_product_in T.f_product_in.kp (bn_product_in T) (sa_cons (se_var 2) (sa_cons (se_var 3) sa_nil))))))
def b_divided : MS := (mSeq (mAsg (gUnp 2 (gConsT (gSet 2) (gConsT (gSet 3) gNilT))) (eB (callF 2 F_both_told) (eConsA (eVar 0) (eConsA (eVar 1) eNilA))))
    (mSeq (mIf (bOf (eOp (pyEq false) (eOp pyIx (eVar 3) (eC (.int 0))) (eC (.int 0)))) mNever mNil)
    (mRet (eB (callF 2 F_quotient_in) (eConsA (eVar 2) (eConsA (eVar 3) eNilA))))))
def F_divided : List CV → M CV := runB 2 4 b_divided
theorem sc_divided : FnScope ["one", "other", "first", "second"] ["one", "other"] (defScope s_divided) := ⟨rfl, rfl, rfl, by decide +kernel, rfl, by decide +kernel, by decide +kernel⟩
theorem bn_divided (T : Txt K mg fa ca fd) : Binds K (fd 27) ["one", "other"] [] := T.f_divided.binds fun _ _ _ _ _ _ us hl => match us, hl with | [_, _], _ => rfl
theorem ok_divided (T : Txt K mg fa ca fd) : FnOk P w K mg base (L2.CX P w) 6 (fa 27) (fd 27) ["one", "other"] (spH (GG P w K fa ca) 2 F_divided) :=
  have nd := sc_divided.nd
  fnX (G := GG P w K fa ca) 2 4 (mb := b_divided) (by rfl) T.f_divided sc_divided (by rfl) (by rfl) (by rfl) (by rfl) (by rfl) (by rfl) (by rfl) fun cdv A outer s H E hr B po =>
    (sss_cons (ss_asg (sg_unp rfl rfl (sgs_cons (sg_set (i := 2) nd rfl (.inl rfl)) (sgs_cons (sg_set (i := 3) nd rfl (.inl rfl)) sgs_nil))) (se_callF B (by rfl) (by rfl) (ok_both_told T) (hr.mono (by decide)) (by rfl) T.d_both_told T.f_both_told.kp (bn_both_told T) (sa_cons (se_var 0) (sa_cons (se_var 1) sa_nil))))
    (sss_cons (ss_if (st_cmp (op_eqD hr.units) eq_ok (se_ix (by rfl) (se_var 3) se_int) se_int) (sss_one ss_never) sss_nil)
    (sss_one (ss_ret (se_callF B (by rfl) (by rfl) (ok_quotient_in T) (hr.mono (by decide)) (by rfl) T.d_quotient_in T.f_quotient_in.kp (bn_quotient_in T) (sa_cons (se_var 2) (sa_cons (se_var 3) sa_nil)))))))
def b_compared : MS := (mSeq (mAsg (gUnp 2 (gConsT (gSet 2) (gConsT (gSet 3) gNilT))) (eB (callF 2 F_both_told) (eConsA (eVar 0) (eConsA (eVar 1) eNilA))))
    (mRet (eB (callF 2 F_order_in) (eConsA (eVar 2) (eConsA (eVar 3) eNilA)))))
def F_compared : List CV → M CV := runB 2 4 b_compared
theorem sc_compared : FnScope ["one", "other", "first", "second"] ["one", "other"] (defScope s_compared) := ⟨rfl, rfl, rfl, by decide +kernel, rfl, by decide +kernel, by decide +kernel⟩
theorem bn_compared (T : Txt K mg fa ca fd) : Binds K (fd 28) ["one", "other"] [] := T.f_compared.binds fun _ _ _ _ _ _ us hl => match us, hl with | [_, _], _ => rfl
theorem ok_compared (T : Txt K mg fa ca fd) : FnOk P w K mg base (L2.CX P w) 6 (fa 28) (fd 28) ["one", "other"] (spH (GG P w K fa ca) 2 F_compared) :=
  have nd := sc_compared.nd
  fnX (G := GG P w K fa ca) 2 4 (mb := b_compared) (by rfl) T.f_compared sc_compared (by rfl) (by rfl) (by rfl) (by rfl) (by rfl) (by rfl) (by rfl) fun cdv A outer s H E hr B po =>
    (sss_cons (ss_asg (sg_unp rfl rfl (sgs_cons (sg_set (i := 2) nd rfl (.inl rfl)) (sgs_cons (sg_set (i := 3) nd rfl (.inl rfl)) sgs_nil))) (se_callF B (by rfl) (by rfl) (ok_both_told T) (hr.mono (by decide)) (by rfl) T.d_both_told T.f_both_told.kp (bn_both_told T) (sa_cons (se_var 0) (sa_cons (se_var 1) sa_nil))))
    (sss_one (ss_ret (se_callF B (by rfl) (by rfl) (ok_order_in T) (hr.mono (by decide)) (by rfl) T.d_order_in T.f_order_in.kp (bn_order_in T) (sa_cons (se_var 2) (sa_cons (se_var 3) sa_nil))))))
def b_power_of : MS := (mSeq (mExpr (eB (callF 1 F_require_number) (eConsA (eVar 0) eNilA)))
    (mSeq (mExpr (eB (callF 3 F_require_within) (eConsA (eVar 1) (eConsA (eUn pyNeg (eC (.int 1000))) (eConsA (eC (.int 1000)) eNilA)))))
    (mSeq (mAsg (gUnp 2 (gConsT (gSet 2) (gConsT (gSet 3) gNilT))) (eB (callF 1 F_pair_of) (eConsA (eVar 0) eNilA)))
    (mSeq (mIf (bOf (eOp pyGe (eVar 1) (eC (.int 0)))) (mRet (eTup (eConsA (eB (callF 2 F_power_in) (eConsA (eVar 2) (eConsA (eVar 1) eNilA))) (eConsA (eB (callF 2 F_power_in) (eConsA (eVar 3) (eConsA (eVar 1) eNilA))) eNilA)))) mNil)
    (mSeq (mIf (bOf (eOp (pyEq false) (eVar 2) (eC (.int 0)))) mNever mNil)
    (mRet (eB (callF 2 F_fraction_in) (eConsA (eB (callF 2 F_power_in) (eConsA (eVar 3) (eConsA (eUn pyNeg (eVar 1)) eNilA))) (eConsA (eB (callF 2 F_power_in) (eConsA (eVar 2) (eConsA (eUn pyNeg (eVar 1)) eNilA))) eNilA)))))))))
def F_power_of : List CV → M CV := runB 2 4 b_power_of
theorem sc_power_of : FnScope ["number", "many", "top", "bottom"] ["number", "many"] (defScope s_power_of) := ⟨rfl, rfl, rfl, by decide +kernel, rfl, by decide +kernel, by decide +kernel⟩
theorem bn_power_of (T : Txt K mg fa ca fd) : Binds K (fd 29) ["number", "many"] [] := T.f_power_of.binds fun _ _ _ _ _ _ us hl => match us, hl with | [_, _], _ => rfl
theorem ok_power_of (T : Txt K mg fa ca fd) : FnOk P w K mg base (L2.CX P w) 5 (fa 29) (fd 29) ["number", "many"] (spH (GG P w K fa ca) 2 F_power_of) :=
  have nd := sc_power_of.nd
  fnX (G := GG P w K fa ca) 2 4 (mb := b_power_of) (by rfl) T.f_power_of sc_power_of (by rfl) (by rfl) (by rfl) (by rfl) (by rfl) (by rfl) (by rfl) fun cdv A outer s H E hr B po =>
    (sss_cons (ss_expr (se_callF B (by rfl) (by rfl) (ok_require_number T) (hr.mono (by decide)) (by rfl) T.d_require_number T.f_require_number.kp (bn_require_number T) (sa_cons (se_var 0) sa_nil)))
    (sss_cons (ss_expr (se_callF B (by rfl) (by rfl) (ok_require_within T) (hr.mono (by decide)) (by rfl) T.d_require_within T.f_require_within.kp (bn_require_within T) (sa_cons (se_var 1) (sa_cons (se_un un_neg neg_ok (se_gint (by rfl) T.c_MAX_RAISED.choose_spec)) (sa_cons (se_gint (by rfl) T.c_MAX_RAISED.choose_spec) sa_nil)))))
    (sss_cons (ss_asg (sg_unp rfl rfl (sgs_cons (sg_set (i := 2) nd rfl (.inl rfl)) (sgs_cons (sg_set (i := 3) nd rfl (.inl rfl)) sgs_nil))) (se_callF B (by rfl) (by rfl) (ok_pair_of T) (hr.mono (by decide)) (by rfl) T.d_pair_of T.f_pair_of.kp (bn_pair_of T) (sa_cons (se_var 0) sa_nil)))
    (sss_cons (ss_if (st_cmp op_ge cmp_ok (se_var 1) se_int) (sss_one (ss_ret (se_tup (sa_cons (se_callF B (by rfl) (by rfl) (ok_power_in T) (hr.mono (by decide)) (by rfl) T.d_power_in T.f_power_in.kp (bn_power_in T) (sa_cons (se_var 2) (sa_cons (se_var 1) sa_nil))) (sa_cons (se_callF B (by rfl) (by rfl) (ok_power_in T) (hr.mono (by decide)) (by rfl) T.d_power_in T.f_power_in.kp (bn_power_in T) (sa_cons (se_var 3) (sa_cons (se_var 1) sa_nil))) sa_nil))))) sss_nil)
    (sss_cons (ss_if (st_cmp (op_eqD hr.units) eq_ok (se_var 2) se_int) (sss_one ss_never) sss_nil)
    (sss_one (ss_ret (se_callF B (by rfl) (by rfl) (ok_fraction_in T) (hr.mono (by decide)) (by rfl) T.d_fraction_in T.f_fraction_in.kp (bn_fraction_in T) (sa_cons (se_callF B (by rfl) (by rfl) (ok_power_in T) (hr.mono (by decide)) (by rfl) T.d_power_in T.f_power_in.kp (bn_power_in T) (sa_cons (se_var 3) (sa_cons (se_un un_neg neg_ok (se_var 1)) sa_nil))) (sa_cons (se_callF B (by rfl) (by rfl) (ok_power_in T) (hr.mono (by decide)) (by rfl) T.d_power_in T.f_power_in.kp (bn_power_in T) (sa_cons (se_var 2) (sa_cons (se_un un_neg neg_ok (se_var 1)) sa_nil))) sa_nil))))))))))
def b_floor_of : MS := (mSeq (mExpr (eB (callF 1 F_require_number) (eConsA (eVar 0) eNilA)))
    (mSeq (mAsg (gUnp 2 (gConsT (gSet 1) (gConsT (gSet 2) gNilT))) (eB (callF 1 F_pair_of) (eConsA (eVar 0) eNilA)))
    (mRet (eOp pyFdiv (eVar 1) (eVar 2)))))
def F_floor_of : List CV → M CV := runB 1 3 b_floor_of
theorem sc_floor_of : FnScope ["number", "top", "bottom"] ["number"] (defScope s_floor_of) := ⟨rfl, rfl, rfl, by decide +kernel, rfl, by decide +kernel, by decide +kernel⟩
theorem bn_floor_of (T : Txt K mg fa ca fd) : Binds K (fd 30) ["number"] [] := T.f_floor_of.binds fun _ _ _ _ _ _ us hl => match us, hl with | [_], _ => rfl
theorem ok_floor_of (T : Txt K mg fa ca fd) : FnOk P w K mg base (L2.CX P w) 5 (fa 30) (fd 30) ["number"] (spH (GG P w K fa ca) 1 F_floor_of) :=
  have nd := sc_floor_of.nd
  fnX (G := GG P w K fa ca) 1 3 (mb := b_floor_of) (by rfl) T.f_floor_of sc_floor_of (by rfl) (by rfl) (by rfl) (by rfl) (by rfl) (by rfl) (by rfl) fun cdv A outer s H E hr B po =>
    (sss_cons (ss_expr (se_callF B (by rfl) (by rfl) (ok_require_number T) (hr.mono (by decide)) (by rfl) T.d_require_number T.f_require_number.kp (bn_require_number T) (sa_cons (se_var 0) sa_nil)))
    (sss_cons (ss_asg (sg_unp rfl rfl (sgs_cons (sg_set (i := 1) nd rfl (.inl rfl)) (sgs_cons (sg_set (i := 2) nd rfl (.inl rfl)) sgs_nil))) (se_callF B (by rfl) (by rfl) (ok_pair_of T) (hr.mono (by decide)) (by rfl) T.d_pair_of T.f_pair_of.kp (bn_pair_of T) (sa_cons (se_var 0) sa_nil)))
    (sss_one (ss_ret (se_op op_fdivG fdiv_ok (se_var 1) (se_var 2))))))
def b_factorial : MS := (mSeq (mExpr (eB (callF 3 F_require_within) (eConsA (eVar 0) (eConsA (eC (.int 0)) (eConsA (eC (.int 1000)) eNilA)))))
    (mRet (eB (callF 3 F_product_from) (eConsA (eC (.int 1)) (eConsA (eVar 0) (eConsA (eC (.int 1)) eNilA))))))
def F_factorial : List CV → M CV := runB 1 1 b_factorial
theorem sc_factorial : FnScope ["number"] ["number"] (defScope s_factorial) := ⟨rfl, rfl, rfl, by decide +kernel, rfl, by decide +kernel, by decide +kernel⟩
theorem bn_factorial (T : Txt K mg fa ca fd) : Binds K (fd 31) ["number"] [] := T.f_factorial.binds fun _ _ _ _ _ _ us hl => match us, hl with | [_], _ => rfl
theorem ok_factorial (T : Txt K mg fa ca fd) : FnOk P w K mg base (L2.CX P w) 5 (fa 31) (fd 31) ["number"] (spH (GG P w K fa ca) 1 F_factorial) :=
  have nd := sc_factorial.nd
  fnX (G := GG P w K fa ca) 1 1 (mb := b_factorial) (by rfl) T.f_factorial sc_factorial (by rfl) (by rfl) (by rfl) (by rfl) (by rfl) (by rfl) (by rfl) fun cdv A outer s H E hr B po =>
    (sss_cons (ss_expr (se_callF B (by rfl) (by rfl) (ok_require_within T) (hr.mono (by decide)) (by rfl) T.d_require_within T.f_require_within.kp (bn_require_within T) (sa_cons (se_var 0) (sa_cons se_int (sa_cons (se_gint (by rfl) T.c_MAX_CHOSEN.choose_spec) sa_nil)))))
    (sss_one (ss_ret (se_callF B (by rfl) (by rfl) (ok_product_from T) (hr.mono (by decide)) (by rfl) T.d_product_from T.f_product_from.kp (bn_product_from T) (sa_cons se_int (sa_cons (se_var 0) (sa_cons se_int sa_nil)))))))
def b_binomial : MS := (mSeq (mExpr (eB (callF 3 F_require_within) (eConsA (eVar 0) (eConsA (eC (.int 0)) (eConsA (eC (.int 1000)) eNilA)))))
    (mSeq (mExpr (eB (callF 3 F_require_within) (eConsA (eVar 1) (eConsA (eC (.int 0)) (eConsA (eC (.int 1000)) eNilA)))))
    (mRet (eB pyComb (eConsA (eVar 0) (eConsA (eVar 1) eNilA))))))
def F_binomial : List CV → M CV := runB 2 2 b_binomial
theorem sc_binomial : FnScope ["top", "low"] ["top", "low"] (defScope s_binomial) := ⟨rfl, rfl, rfl, by decide +kernel, rfl, by decide +kernel, by decide +kernel⟩
theorem bn_binomial (T : Txt K mg fa ca fd) : Binds K (fd 32) ["top", "low"] [] := T.f_binomial.binds fun _ _ _ _ _ _ us hl => match us, hl with | [_, _], _ => rfl
theorem ok_binomial (T : Txt K mg fa ca fd) : FnOk P w K mg base (L2.CX P w) 5 (fa 32) (fd 32) ["top", "low"] (spH (GG P w K fa ca) 2 F_binomial) :=
  have nd := sc_binomial.nd
  fnX (G := GG P w K fa ca) 2 2 (mb := b_binomial) (by rfl) T.f_binomial sc_binomial (by rfl) (by rfl) (by rfl) (by rfl) (by rfl) (by rfl) (by rfl) fun cdv A outer s H E hr B po =>
    (sss_cons (ss_expr (se_callF B (by rfl) (by rfl) (ok_require_within T) (hr.mono (by decide)) (by rfl) T.d_require_within T.f_require_within.kp (bn_require_within T) (sa_cons (se_var 0) (sa_cons se_int (sa_cons (se_gint (by rfl) T.c_MAX_CHOSEN.choose_spec) sa_nil)))))
    (sss_cons (ss_expr (se_callF B (by rfl) (by rfl) (ok_require_within T) (hr.mono (by decide)) (by rfl) T.d_require_within T.f_require_within.kp (bn_require_within T) (sa_cons (se_var 1) (sa_cons se_int (sa_cons (se_gint (by rfl) T.c_MAX_CHOSEN.choose_spec) sa_nil)))))
    (sss_one (ss_ret (se_callBf comb_run pyComb_ok (by rfl) T.i_comb (sa_cons (se_var 0) (sa_cons (se_var 1) sa_nil)))))))
def b_odd_product : MS := (mSeq (mExpr (eB (callF 3 F_require_within) (eConsA (eVar 0) (eConsA (eUn pyNeg (eC (.int 1))) (eConsA (eOp pySub (eC (.int 1000)) (eC (.int 1))) eNilA)))))
    (mSeq (mIf (bOf (eOp (pyEq false) (eOp pyMod (eVar 0) (eC (.int 2))) (eC (.int 0)))) mNever mNil)
    (mRet (eB (callF 3 F_product_from) (eConsA (eC (.int 1)) (eConsA (eVar 0) (eConsA (eC (.int 2)) eNilA)))))))
def F_odd_product : List CV → M CV := runB 1 1 b_odd_product
theorem sc_odd_product : FnScope ["number"] ["number"] (defScope s_odd_product) := ⟨rfl, rfl, rfl, by decide +kernel, rfl, by decide +kernel, by decide +kernel⟩
theorem bn_odd_product (T : Txt K mg fa ca fd) : Binds K (fd 33) ["number"] [] := T.f_odd_product.binds fun _ _ _ _ _ _ us hl => match us, hl with | [_], _ => rfl
theorem ok_odd_product (T : Txt K mg fa ca fd) : FnOk P w K mg base (L2.CX P w) 5 (fa 33) (fd 33) ["number"] (spH (GG P w K fa ca) 1 F_odd_product) :=
  have nd := sc_odd_product.nd
  fnX (G := GG P w K fa ca) 1 1 (mb := b_odd_product) (by rfl) T.f_odd_product sc_odd_product (by rfl) (by rfl) (by rfl) (by rfl) (by rfl) (by rfl) (by rfl) fun cdv A outer s H E hr B po =>
    (sss_cons (ss_expr (se_callF B (by rfl) (by rfl) (ok_require_within T) (hr.mono (by decide)) (by rfl) T.d_require_within T.f_require_within.kp (bn_require_within T) (sa_cons (se_var 0) (sa_cons (se_un un_neg neg_ok se_int) (sa_cons (se_op op_sub sub_ok (se_gint (by rfl) T.c_MAX_CHOSEN.choose_spec) se_int) sa_nil)))))
    (sss_cons (ss_if (st_cmp (op_eqD hr.units) eq_ok (se_op op_modN mod_ok (se_var 0) se_int) se_int) (sss_one ss_never) sss_nil)
    (sss_one (ss_ret (se_callF B (by rfl) (by rfl) (ok_product_from T) (hr.mono (by decide)) (by rfl) T.d_product_from T.f_product_from.kp (bn_product_from T) (sa_cons se_int (sa_cons (se_var 0) (sa_cons se_int sa_nil))))))))
def b_bernoulli : MS := (mSeq (mExpr (eB (callF 3 F_require_within) (eConsA (eVar 0) (eConsA (eC (.int 0)) (eConsA (eC (.int 60)) eNilA)))))
    (mRet (eOp pyIx (eB (callF 1 F_bernoulli_row) (eConsA (eVar 0) eNilA)) (eVar 0))))
def F_bernoulli : List CV → M CV := runB 1 1 b_bernoulli
theorem sc_bernoulli : FnScope ["number"] ["number"] (defScope s_bernoulli) := ⟨rfl, rfl, rfl, by decide +kernel, rfl, by decide +kernel, by decide +kernel⟩
theorem bn_bernoulli (T : Txt K mg fa ca fd) : Binds K (fd 34) ["number"] [] := T.f_bernoulli.binds fun _ _ _ _ _ _ us hl => match us, hl with | [_], _ => rfl
theorem ok_bernoulli (T : Txt K mg fa ca fd) : FnOk P w K mg base (L2.CX P w) 5 (fa 34) (fd 34) ["number"] (spH (GG P w K fa ca) 1 F_bernoulli) :=
  have nd := sc_bernoulli.nd
  fnX (G := GG P w K fa ca) 1 1 (mb := b_bernoulli) (by rfl) T.f_bernoulli sc_bernoulli (by rfl) (by rfl) (by rfl) (by rfl) (by rfl) (by rfl) (by rfl) fun cdv A outer s H E hr B po =>
    (sss_cons (ss_expr (se_callF B (by rfl) (by rfl) (ok_require_within T) (hr.mono (by decide)) (by rfl) T.d_require_within T.f_require_within.kp (bn_require_within T) (sa_cons (se_var 0) (sa_cons se_int (sa_cons (se_gint (by rfl) T.c_MAX_BERNOULLI.choose_spec) sa_nil)))))
    (sss_one (ss_ret (se_ix (by rfl) (se_callF B (by rfl) (by rfl) (ok_bernoulli_row T) (hr.mono (by decide)) (by rfl) T.d_bernoulli_row T.f_bernoulli_row.kp (bn_bernoulli_row T) (sa_cons (se_var 0) sa_nil)) (se_var 0)))))
def b_number_text : MS := (mSeq (mExpr (eB (callF 1 F_require_number) (eConsA (eVar 0) eNilA)))
    (mRet (eB (callF 1 F_text_in) (eConsA (eB (callF 1 F_pair_of) (eConsA (eVar 0) eNilA)) eNilA))))
def F_number_text : List CV → M CV := runB 1 1 b_number_text
theorem sc_number_text : FnScope ["number"] ["number"] (defScope s_number_text) := ⟨rfl, rfl, rfl, by decide +kernel, rfl, by decide +kernel, by decide +kernel⟩
theorem bn_number_text (T : Txt K mg fa ca fd) : Binds K (fd 35) ["number"] [] := T.f_number_text.binds fun _ _ _ _ _ _ us hl => match us, hl with | [_], _ => rfl
theorem ok_number_text (T : Txt K mg fa ca fd) : FnOk P w K mg base (L2.CX P w) 5 (fa 35) (fd 35) ["number"] (spH (GG P w K fa ca) 1 F_number_text) :=
  have nd := sc_number_text.nd
  fnX (G := GG P w K fa ca) 1 1 (mb := b_number_text) (by rfl) T.f_number_text sc_number_text (by rfl) (by rfl) (by rfl) (by rfl) (by rfl) (by rfl) (by rfl) fun cdv A outer s H E hr B po =>
    (sss_cons (ss_expr (se_callF B (by rfl) (by rfl) (ok_require_number T) (hr.mono (by decide)) (by rfl) T.d_require_number T.f_require_number.kp (bn_require_number T) (sa_cons (se_var 0) sa_nil)))
    (sss_one (ss_ret (se_callF B (by rfl) (by rfl) (ok_text_in T) (hr.mono (by decide)) (by rfl) T.d_text_in T.f_text_in.kp (bn_text_in T) (sa_cons (se_callF B (by rfl) (by rfl) (ok_pair_of T) (hr.mono (by decide)) (by rfl) T.d_pair_of T.f_pair_of.kp (bn_pair_of T) (sa_cons (se_var 0) sa_nil)) sa_nil)))))
def b_number_of_text : MS := (mSeq (mAsg (gSet 1) (eIf (bAnd (bOf (eUn (isK isStr) (eVar 0))) (bOf (eOp pyLe (eB pyLen (eConsA (eVar 0) eNilA)) (eC (.int 400))))) (eB (callF 1 F_number_told) (eConsA (eVar 0) eNilA)) (eC .non)))
    (mSeq (mIf (bOr (bOf (eOp (pyIs false) (eVar 1) (eC .non))) (bOf (eOp (pyEq true) (eB (callF 1 F_text_in) (eConsA (eVar 1) eNilA)) (eVar 0)))) mNever mNil)
    (mRet (eVar 1))))
def F_number_of_text : List CV → M CV := runB 1 2 b_number_of_text
theorem sc_number_of_text : FnScope ["text", "found"] ["text"] (defScope s_number_of_text) := ⟨rfl, rfl, rfl, by decide +kernel, rfl, by decide +kernel, by decide +kernel⟩
theorem bn_number_of_text (T : Txt K mg fa ca fd) : Binds K (fd 36) ["text"] [] := T.f_number_of_text.binds fun _ _ _ _ _ _ us hl => match us, hl with | [_], _ => rfl
theorem ok_number_of_text (T : Txt K mg fa ca fd) : FnOk P w K mg base (L2.CX P w) 3 (fa 36) (fd 36) ["text"] (spH (GG P w K fa ca) 1 F_number_of_text) :=
  have nd := sc_number_of_text.nd
  fnX (G := GG P w K fa ca) 1 2 (mb := b_number_of_text) (by rfl) T.f_number_of_text sc_number_of_text (by rfl) (by rfl) (by rfl) (by rfl) (by rfl) (by rfl) (by rfl) fun cdv A outer s H E hr B po =>
    (sss_cons (ss_asg (sg_set (i := 1) nd rfl (.inl rfl)) (se_if (st_bool (sw_and (st_val (se_isi isStr isStr_ok (by rfl) (by rfl) T.z_isinstance (by rfl) T.z_str (by decide +kernel) (se_var 0))) (sw_and1 (st_cmp op_le cmp_ok (se_callB call_len len_ok (by rfl) T.z_len (by decide +kernel) (sa_cons (se_var 0) sa_nil)) (se_gint (by rfl) T.c_MAX_TEXT.choose_spec))))) (se_callF B (by rfl) (by rfl) (ok_number_told T) (hr.mono (by decide)) (by rfl) T.d_number_told T.f_number_told.kp (bn_number_told T) (sa_cons (se_var 0) sa_nil)) se_non))
    (sss_cons (ss_if (st_bool (sw_or (st_cmp op_isN is_ok (se_var 1) se_non) (sw_or1 (st_cmp (op_neD hr.units) ne_ok (se_callF B (by rfl) (by rfl) (ok_text_in T) (hr.mono (by decide)) (by rfl) T.d_text_in T.f_text_in.kp (bn_text_in T) (sa_cons (se_var 1) sa_nil)) (se_var 0))))) (sss_one ss_never) sss_nil)
    (sss_one (ss_ret (se_var 1)))))
def b_law_dice : MS := (mSeq (mAsg (gSet 2) (eIf (bOf (eOp pyLt (eVar 1) (eB pyLen (eConsA (eVar 0) eNilA)))) (eB pyInt (eConsA (eOp pyIx (eVar 0) (eVar 1)) eNilA)) (eOp pyAdd (eOp pyTimes (eC (.int 89)) (eVar 1)) (eC (.int 53)))))
    (mSeq (mAsg (gSet 3) (eOp pyMod (eB pyMax (eConsA (eC (.int 0)) (eConsA (eOp pySub (eB pyAbs (eConsA (eVar 2) eNilA)) (eOp pyPow (eC (.int 10)) (eC (.int 16)))) eNilA))) (eOp pyTimes (eOp pyPow (eC (.int 10)) (eC (.int 56))) (eOp pyPow (eC (.int 10)) (eC (.int 60))))))
    (mRet (eNew (eConsA (eVar 3) (eConsA (eOp pyAdd (eOp pyAdd (eOp pyAdd (eOp pyTimes (eOp pyMod (eB pyAbs (eConsA (eVar 2) eNilA)) (eC (.int 1152921504606846869))) (eC (.int 61))) (eOp pyTimes (eC (.int 1009)) (eVar 1))) (eOp pyTimes (eC (.int 43)) (eB pyInt (eConsA (eOp pyLt (eVar 2) (eC (.int 0))) eNilA)))) (eC (.int 17))) (eConsA (eC (.int 0)) eNilA)))))))
def F_law_dice : List CV → M CV := runB 2 4 b_law_dice
theorem sc_law_dice : FnScope ["script", "spot", "cell", "left"] ["script", "spot"] (defScope s_law_dice) := ⟨rfl, rfl, rfl, by decide +kernel, rfl, by decide +kernel, by decide +kernel⟩
theorem bn_law_dice (T : Txt K mg fa ca fd) : Binds K (fd 37) ["script", "spot"] [] := T.f_law_dice.binds fun _ _ _ _ _ _ us hl => match us, hl with | [_, _], _ => rfl
theorem ok_law_dice (T : Txt K mg fa ca fd) : FnOk P w K mg base (L2.CX P w) 1 (fa 37) (fd 37) ["script", "spot"] (spH (GG P w K fa ca) 2 F_law_dice) :=
  have nd := sc_law_dice.nd
  fnX (G := GG P w K fa ca) 2 4 (mb := b_law_dice) (by rfl) T.f_law_dice sc_law_dice (by rfl) (by rfl) (by rfl) (by rfl) (by rfl) (by rfl) (by rfl) fun cdv A outer s H E hr B po =>
    (sss_cons (ss_asg (sg_set (i := 2) nd rfl (.inl rfl)) (se_if (st_cmp op_lt cmp_ok (se_var 1) (se_callB call_len len_ok (by rfl) T.z_len (by decide +kernel) (sa_cons (se_var 0) sa_nil))) (se_callTy call_int1 int_ok (by rfl) T.z_int (by decide +kernel) (sa_cons (se_ix (by rfl) (se_var 0) (se_var 1)) sa_nil)) (se_op op_plus plus_ok (se_op op_timesS timesS_ok se_int (se_var 1)) se_int)))
    (sss_cons (ss_asg (sg_set (i := 3) nd rfl (.inl rfl)) (se_op op_modN mod_ok (se_callB (call_max2 rfl) max_ok (by rfl) T.z_max (by decide +kernel) (sa_cons se_int (sa_cons (se_op op_sub sub_ok (se_callB call_abs abs_ok (by rfl) T.z_abs (by decide +kernel) (sa_cons (se_var 2) sa_nil)) (se_op op_pow pow_ok se_int se_int)) sa_nil))) (se_op op_timesS timesS_ok (se_op op_pow pow_ok se_int se_int) (se_op op_pow pow_ok se_int se_int))))
    (sss_one (ss_ret (se_new (sa_cons (se_var 3) (sa_cons (se_op op_plus plus_ok (se_op op_plus plus_ok (se_op op_plus plus_ok (se_op op_timesS timesS_ok (se_op op_modN mod_ok (se_callB call_abs abs_ok (by rfl) T.z_abs (by decide +kernel) (sa_cons (se_var 2) sa_nil)) se_int) se_int) (se_op op_timesS timesS_ok se_int (se_var 1))) (se_op op_timesS timesS_ok se_int (se_callTy call_int1 int_ok (by rfl) T.z_int (by decide +kernel) (sa_cons (se_cmp op_lt cmp_ok (se_var 2) se_int) sa_nil)))) se_int) (sa_cons se_int sa_nil))))))))
def b_law_roll : MS := (mSeq (mIf (bOf (eOp pyGt (eOp pyIx (eVar 0) (eC (.int 0))) (eC (.int 0)))) (mSeq (mAsg (gSet 2) (eOp pyMod (eB pyInt (eConsA (eOp pyIx (eVar 0) (eC (.int 0))) eNilA)) (eVar 1)))
    (mSeq (mAsg (gSub (eVar 0) (eC (.int 0))) (eOp pyFdiv (eOp pyIx (eVar 0) (eC (.int 0))) (eVar 1)))
    (mRet (eVar 2)))) mNil)
    (mSeq (mAsg (gSub (eVar 0) (eC (.int 2))) (eOp pyAdd (eOp pyIx (eVar 0) (eC (.int 2))) (eC (.int 1))))
    (mSeq (mAsg (gSet 3) (eOp pyMod (eB pyInt (eConsA (eOp pyAdd (eOp pyIx (eVar 0) (eC (.int 1))) (eOp pyTimes (eC (.int 99990067)) (eOp pyIx (eVar 0) (eC (.int 2))))) eNilA)) (eC (.int 2305843009213693381))))
    (mSeq (mAsg (gSet 4) (eOp pyAdd (eOp pyTimes (eOp pyMod (eB pyInt (eConsA (eOp pyAdd (eOp pyTimes (eVar 3) (eVar 3)) (eOp pyTimes (eC (.int 89)) (eOp pyIx (eVar 0) (eC (.int 2))))) eNilA)) (eC (.int 2305843009213693343))) (eC (.int 8675309))) (eVar 3)))
    (mRet (eOp pyMod (eB pyInt (eConsA (eOp pyFdiv (eVar 4) (eC (.int 65551))) eNilA)) (eVar 1)))))))
def F_law_roll : List CV → M CV := runB 2 5 b_law_roll
theorem sc_law_roll : FnScope ["dice", "total", "found", "one", "two"] ["dice", "total"] (defScope s_law_roll) := ⟨rfl, rfl, rfl, by decide +kernel, rfl, by decide +kernel, by decide +kernel⟩
theorem bn_law_roll (T : Txt K mg fa ca fd) : Binds K (fd 38) ["dice", "total"] [] := T.f_law_roll.binds fun _ _ _ _ _ _ us hl => match us, hl with | [_, _], _ => rfl
theorem ok_law_roll (T : Txt K mg fa ca fd) : FnOk P w K mg base (L2.CX P w) 1 (fa 38) (fd 38) ["dice", "total"] (spH (GG P w K fa ca) 2 F_law_roll) :=
  have nd := sc_law_roll.nd
  fnX (G := GG P w K fa ca) 2 5 (mb := b_law_roll) (by rfl) T.f_law_roll sc_law_roll (by rfl) (by rfl) (by rfl) (by rfl) (by rfl) (by rfl) (by rfl) fun cdv A outer s H E hr B po =>
    (sss_cons (ss_if (st_cmp op_gt cmp_ok (se_ix (by rfl) (se_var 0) se_int) se_int) (sss_cons (ss_asg (sg_set (i := 2) nd rfl (.inl rfl)) (se_op op_modN mod_ok (se_callTy call_int1 int_ok (by rfl) T.z_int (by decide +kernel) (sa_cons (se_ix (by rfl) (se_var 0) se_int) sa_nil)) (se_var 1)))
    (sss_cons (ss_asg (sg_sub (W := fun c d _ H => E c d H) (se_var 0) se_int) (se_op op_fdivG fdiv_ok (se_ix (by rfl) (se_var 0) se_int) (se_var 1)))
    (sss_one (ss_ret (se_var 2))))) sss_nil)
    (sss_cons (ss_asg (sg_sub (W := fun c d _ H => E c d H) (se_var 0) se_int) (se_op op_plus plus_ok (se_ix (by rfl) (se_var 0) se_int) se_int))
    (sss_cons (ss_asg (sg_set (i := 3) nd rfl (.inl rfl)) (se_op op_modN mod_ok (se_callTy call_int1 int_ok (by rfl) T.z_int (by decide +kernel) (sa_cons (se_op op_plus plus_ok (se_ix (by rfl) (se_var 0) se_int) (se_op op_timesS timesS_ok se_int (se_ix (by rfl) (se_var 0) se_int))) sa_nil)) se_int))
    (sss_cons (ss_asg (sg_set (i := 4) nd rfl (.inl rfl)) (se_op op_plus plus_ok (se_op op_timesS timesS_ok (se_op op_modN mod_ok (se_callTy call_int1 int_ok (by rfl) T.z_int (by decide +kernel) (sa_cons (se_op op_plus plus_ok (se_op op_timesS timesS_ok (se_var 3) (se_var 3)) (se_op op_timesS timesS_ok se_int (se_ix (by rfl) (se_var 0) se_int))) sa_nil)) se_int) se_int) (se_var 3)))
    (sss_one (ss_ret (se_op op_modN mod_ok (se_callTy call_int1 int_ok (by rfl) T.z_int (by decide +kernel) (sa_cons (se_op op_fdivG fdiv_ok (se_var 4) se_int) sa_nil)) (se_var 1))))))))
def b_law_pick : MS := (mRet (eOp pyIx (eVar 1) (eCall 2 F_law_roll (eConsA (eVar 0) (eConsA (eB pyLen (eConsA (eVar 1) eNilA)) eNilA)))))
def F_law_pick : List CV → M CV := runB 2 2 b_law_pick
theorem sc_law_pick : FnScope ["dice", "items"] ["dice", "items"] (defScope s_law_pick) := ⟨rfl, rfl, rfl, by decide +kernel, rfl, by decide +kernel, by decide +kernel⟩
theorem bn_law_pick (T : Txt K mg fa ca fd) : Binds K (fd 39) ["dice", "items"] [] := T.f_law_pick.binds fun _ _ _ _ _ _ us hl => match us, hl with | [_, _], _ => rfl
theorem ok_law_pick (T : Txt K mg fa ca fd) : FnOk P w K mg base (L2.CX P w) 2 (fa 39) (fd 39) ["dice", "items"] (spH (GG P w K fa ca) 2 F_law_pick) :=
  have nd := sc_law_pick.nd
  fnX (G := GG P w K fa ca) 2 2 (mb := b_law_pick) (by rfl) T.f_law_pick sc_law_pick (by rfl) (by rfl) (by rfl) (by rfl) (by rfl) (by rfl) (by rfl) fun cdv A outer s H E hr B po =>
    (sss_one (ss_ret (se_ix (by rfl) (se_var 1) (se_call B (ok_law_roll T) (hr.mono (by decide)) (by rfl) T.d_law_roll T.f_law_roll.kp (bn_law_roll T) (sa_cons (se_var 0) (sa_cons (se_callB call_len len_ok (by rfl) T.z_len (by decide +kernel) (sa_cons (se_var 1) sa_nil)) sa_nil))))))
def l_law_gcd_0 : MS := (mPar 0 1 (eConsA (eVar 1) (eConsA (eOp pyMod (eB pyInt (eConsA (eVar 0) eNilA)) (eVar 1)) eNilA)))
def b_law_gcd : MS := (mSeq (mPar 0 1 (eConsA (eB pyAbs (eConsA (eVar 0) eNilA)) (eConsA (eB pyAbs (eConsA (eVar 1) eNilA)) eNilA)))
    (mSeq (mWhile (bOf (eOp pyGt (eVar 1) (eC (.int 0)))) l_law_gcd_0 100000)
    (mRet (eVar 0))))
def F_law_gcd : List CV → M CV := runB 2 2 b_law_gcd
theorem sc_law_gcd : FnScope ["one", "other"] ["one", "other"] (defScope s_law_gcd) := ⟨rfl, rfl, rfl, by decide +kernel, rfl, by decide +kernel, by decide +kernel⟩
theorem bn_law_gcd (T : Txt K mg fa ca fd) : Binds K (fd 40) ["one", "other"] [] := T.f_law_gcd.binds fun _ _ _ _ _ _ us hl => match us, hl with | [_, _], _ => rfl
theorem ok_law_gcd (T : Txt K mg fa ca fd) : FnOk P w K mg base (L2.CX P w) 1 (fa 40) (fd 40) ["one", "other"] (spH (GG P w K fa ca) 2 F_law_gcd) :=
  have nd := sc_law_gcd.nd
  fnX (G := GG P w K fa ca) 2 2 (mb := b_law_gcd) (by rfl) T.f_law_gcd sc_law_gcd (by rfl) (by rfl) (by rfl) (by rfl) (by rfl) (by rfl) (by rfl) fun cdv A outer s H E hr B po =>
    (sss_cons (ss_par (i := 0) (j := 1) rfl nd rfl rfl (by decide) rfl rfl (sa_cons (se_callB call_abs abs_ok (by rfl) T.z_abs (by decide +kernel) (sa_cons (se_var 0) sa_nil)) (sa_cons (se_callB call_abs abs_ok (by rfl) T.z_abs (by decide +kernel) (sa_cons (se_var 1) sa_nil)) sa_nil)) (by rfl))
    (sss_cons (ss_while 100000 po (st_cmp op_gt cmp_ok (se_var 1) se_int) (sss_one (ss_par (i := 0) (j := 1) rfl nd rfl rfl (by decide) rfl rfl (sa_cons (se_var 1) (sa_cons (se_op op_modN mod_ok (se_callTy call_int1 int_ok (by rfl) T.z_int (by decide +kernel) (sa_cons (se_var 0) sa_nil)) (se_var 1)) sa_nil)) (by rfl))))
    (sss_one (ss_ret (se_var 0)))))
def b_law_fraction : MS := (mSeq (mAsg (gSet 2) (eB (callF 2 F_law_gcd) (eConsA (eVar 0) (eConsA (eVar 1) eNilA))))
    (mSeq (mIf (bOf (eOp pyLt (eVar 1) (eC (.int 0)))) (mAsg (gSet 2) (eUn pyNeg (eVar 2))) mNil)
    (mRet (eTup (eConsA (eOp pyFdiv (eVar 0) (eVar 2)) (eConsA (eOp pyFdiv (eVar 1) (eVar 2)) eNilA))))))
def F_law_fraction : List CV → M CV := runB 2 3 b_law_fraction
theorem sc_law_fraction : FnScope ["top", "bottom", "shared"] ["top", "bottom"] (defScope s_law_fraction) := ⟨rfl, rfl, rfl, by decide +kernel, rfl, by decide +kernel, by decide +kernel⟩
theorem bn_law_fraction (T : Txt K mg fa ca fd) : Binds K (fd 41) ["top", "bottom"] [] := T.f_law_fraction.binds fun _ _ _ _ _ _ us hl => match us, hl with | [_, _], _ => rfl
theorem ok_law_fraction (T : Txt K mg fa ca fd) : FnOk P w K mg base (L2.CX P w) 2 (fa 41) (fd 41) ["top", "bottom"] (spH (GG P w K fa ca) 2 F_law_fraction) :=
  have nd := sc_law_fraction.nd
  fnX (G := GG P w K fa ca) 2 3 (mb := b_law_fraction) (by rfl) T.f_law_fraction sc_law_fraction (by rfl) (by rfl) (by rfl) (by rfl) (by rfl) (by rfl) (by rfl) fun cdv A outer s H E hr B po =>
    (sss_cons (ss_asg (sg_set (i := 2) nd rfl (.inl rfl)) (se_callF B (by rfl) (by rfl) (ok_law_gcd T) (hr.mono (by decide)) (by rfl) T.d_law_gcd T.f_law_gcd.kp (bn_law_gcd T) (sa_cons (se_var 0) (sa_cons (se_var 1) sa_nil))))
    (sss_cons (ss_if (st_cmp op_lt cmp_ok (se_var 1) se_int) (sss_one (ss_asg (sg_set (i := 2) nd rfl (.inl rfl)) (se_un un_neg neg_ok (se_var 2)))) sss_nil)
    (sss_one (ss_ret (se_tup (sa_cons (se_op op_fdivG fdiv_ok (se_var 0) (se_var 2)) (sa_cons (se_op op_fdivG fdiv_ok (se_var 1) (se_var 2)) sa_nil)))))))
def b_law_plus : MS := (mRet (eB (callF 2 F_law_fraction) (eConsA (eOp pyAdd (eOp pyTimes (eOp pyIx (eVar 0) (eC (.int 0))) (eOp pyIx (eVar 1) (eC (.int 1)))) (eOp pyTimes (eOp pyIx (eVar 1) (eC (.int 0))) (eOp pyIx (eVar 0) (eC (.int 1))))) (eConsA (eOp pyTimes (eOp pyIx (eVar 0) (eC (.int 1))) (eOp pyIx (eVar 1) (eC (.int 1)))) eNilA))))
def F_law_plus : List CV → M CV := runB 2 2 b_law_plus
theorem sc_law_plus : FnScope ["one", "other"] ["one", "other"] (defScope s_law_plus) := ⟨rfl, rfl, rfl, by decide +kernel, rfl, by decide +kernel, by decide +kernel⟩
theorem bn_law_plus (T : Txt K mg fa ca fd) : Binds K (fd 42) ["one", "other"] [] := T.f_law_plus.binds fun _ _ _ _ _ _ us hl => match us, hl with | [_, _], _ => rfl
theorem ok_law_plus (T : Txt K mg fa ca fd) : FnOk P w K mg base (L2.CX P w) 3 (fa 42) (fd 42) ["one", "other"] (spH (GG P w K fa ca) 2 F_law_plus) :=
  have nd := sc_law_plus.nd
  fnX (G := GG P w K fa ca) 2 2 (mb := b_law_plus) (by rfl) T.f_law_plus sc_law_plus (by rfl) (by rfl) (by rfl) (by rfl) (by rfl) (by rfl) (by rfl) fun cdv A outer s H E hr B po =>
    (sss_one (ss_ret (se_callF B (by rfl) (by rfl) (ok_law_fraction T) (hr.mono (by decide)) (by rfl) T.d_law_fraction T.f_law_fraction.kp (bn_law_fraction T) (sa_cons (se_op op_plus plus_ok (se_op op_timesS timesS_ok (se_ix (by rfl) (se_var 0) se_int) (se_ix (by rfl) (se_var 1) se_int)) (se_op op_timesS timesS_ok (se_ix (by rfl) (se_var 1) se_int) (se_ix (by rfl) (se_var 0) se_int))) (sa_cons (se_op op_timesS timesS_ok (se_ix (by rfl) (se_var 0) se_int) (se_ix (by rfl) (se_var 1) se_int)) sa_nil)))))
def b_law_times : MS := (mRet (eB (callF 2 F_law_fraction) (eConsA (eOp pyTimes (eOp pyIx (eVar 0) (eC (.int 0))) (eOp pyIx (eVar 1) (eC (.int 0)))) (eConsA (eOp pyTimes (eOp pyIx (eVar 0) (eC (.int 1))) (eOp pyIx (eVar 1) (eC (.int 1)))) eNilA))))
def F_law_times : List CV → M CV := runB 2 2 b_law_times
theorem sc_law_times : FnScope ["one", "other"] ["one", "other"] (defScope s_law_times) := ⟨rfl, rfl, rfl, by decide +kernel, rfl, by decide +kernel, by decide +kernel⟩
theorem bn_law_times (T : Txt K mg fa ca fd) : Binds K (fd 43) ["one", "other"] [] := T.f_law_times.binds fun _ _ _ _ _ _ us hl => match us, hl with | [_, _], _ => rfl
theorem ok_law_times (T : Txt K mg fa ca fd) : FnOk P w K mg base (L2.CX P w) 3 (fa 43) (fd 43) ["one", "other"] (spH (GG P w K fa ca) 2 F_law_times) :=
  have nd := sc_law_times.nd
  fnX (G := GG P w K fa ca) 2 2 (mb := b_law_times) (by rfl) T.f_law_times sc_law_times (by rfl) (by rfl) (by rfl) (by rfl) (by rfl) (by rfl) (by rfl) fun cdv A outer s H E hr B po =>
    (sss_one (ss_ret (se_callF B (by rfl) (by rfl) (ok_law_fraction T) (hr.mono (by decide)) (by rfl) T.d_law_fraction T.f_law_fraction.kp (bn_law_fraction T) (sa_cons (se_op op_timesS timesS_ok (se_ix (by rfl) (se_var 0) se_int) (se_ix (by rfl) (se_var 1) se_int)) (sa_cons (se_op op_timesS timesS_ok (se_ix (by rfl) (se_var 0) se_int) (se_ix (by rfl) (se_var 1) se_int)) sa_nil)))))
def b_law_less : MS := (mRet (eB (callF 2 F_law_plus) (eConsA (eVar 0) (eConsA (eTup (eConsA (eOp pySub (eC (.int 0)) (eOp pyIx (eVar 1) (eC (.int 0)))) (eConsA (eOp pyIx (eVar 1) (eC (.int 1))) eNilA))) eNilA))))
def F_law_less : List CV → M CV := runB 2 2 b_law_less
theorem sc_law_less : FnScope ["one", "other"] ["one", "other"] (defScope s_law_less) := ⟨rfl, rfl, rfl, by decide +kernel, rfl, by decide +kernel, by decide +kernel⟩
theorem bn_law_less (T : Txt K mg fa ca fd) : Binds K (fd 44) ["one", "other"] [] := T.f_law_less.binds fun _ _ _ _ _ _ us hl => match us, hl with | [_, _], _ => rfl
theorem ok_law_less (T : Txt K mg fa ca fd) : FnOk P w K mg base (L2.CX P w) 4 (fa 44) (fd 44) ["one", "other"] (spH (GG P w K fa ca) 2 F_law_less) :=
  have nd := sc_law_less.nd
  fnX (G := GG P w K fa ca) 2 2 (mb := b_law_less) (by rfl) T.f_law_less sc_law_less (by rfl) (by rfl) (by rfl) (by rfl) (by rfl) (by rfl) (by rfl) fun cdv A outer s H E hr B po =>
    (sss_one (ss_ret (se_callF B (by rfl) (by rfl) (ok_law_plus T) (hr.mono (by decide)) (by rfl) T.d_law_plus T.f_law_plus.kp (bn_law_plus T) (sa_cons (se_var 0) (sa_cons (se_tup (sa_cons (se_op op_sub sub_ok se_int (se_ix (by rfl) (se_var 1) se_int)) (sa_cons (se_ix (by rfl) (se_var 1) se_int) sa_nil))) sa_nil)))))
def b_law_over : MS := (mRet (eB (callF 2 F_law_fraction) (eConsA (eOp pyTimes (eOp pyIx (eVar 0) (eC (.int 0))) (eOp pyIx (eVar 1) (eC (.int 1)))) (eConsA (eOp pyTimes (eOp pyIx (eVar 0) (eC (.int 1))) (eOp pyIx (eVar 1) (eC (.int 0)))) eNilA))))
def F_law_over : List CV → M CV := runB 2 2 b_law_over
theorem sc_law_over : FnScope ["one", "other"] ["one", "other"] (defScope s_law_over) := ⟨rfl, rfl, rfl, by decide +kernel, rfl, by decide +kernel, by decide +kernel⟩
theorem bn_law_over (T : Txt K mg fa ca fd) : Binds K (fd 45) ["one", "other"] [] := T.f_law_over.binds fun _ _ _ _ _ _ us hl => match us, hl with | [_, _], _ => rfl
theorem ok_law_over (T : Txt K mg fa ca fd) : FnOk P w K mg base (L2.CX P w) 3 (fa 45) (fd 45) ["one", "other"] (spH (GG P w K fa ca) 2 F_law_over) :=
  have nd := sc_law_over.nd
  fnX (G := GG P w K fa ca) 2 2 (mb := b_law_over) (by rfl) T.f_law_over sc_law_over (by rfl) (by rfl) (by rfl) (by rfl) (by rfl) (by rfl) (by rfl) fun cdv A outer s H E hr B po =>
    (sss_one (ss_ret (se_callF B (by rfl) (by rfl) (ok_law_fraction T) (hr.mono (by decide)) (by rfl) T.d_law_fraction T.f_law_fraction.kp (bn_law_fraction T) (sa_cons (se_op op_timesS timesS_ok (se_ix (by rfl) (se_var 0) se_int) (se_ix (by rfl) (se_var 1) se_int)) (sa_cons (se_op op_timesS timesS_ok (se_ix (by rfl) (se_var 0) se_int) (se_ix (by rfl) (se_var 1) se_int)) sa_nil)))))
def l_law_sum_0 : MS := (mAsg (gSet 1) (eB (callF 2 F_law_plus) (eConsA (eVar 1) (eConsA (eVar 2) eNilA))))
def b_law_sum : MS := (mSeq (mAsg (gSet 1) (eTup (eConsA (eC (.int 0)) (eConsA (eC (.int 1)) eNilA))))
    (mSeq (mFor (iSeq (eVar 0)) (gSet 2) l_law_sum_0)
    (mRet (eVar 1))))
def F_law_sum : List CV → M CV := runB 1 3 b_law_sum
theorem sc_law_sum : FnScope ["fractions", "found", "one"] ["fractions"] (defScope s_law_sum) := ⟨rfl, rfl, rfl, by decide +kernel, rfl, by decide +kernel, by decide +kernel⟩
theorem bn_law_sum (T : Txt K mg fa ca fd) : Binds K (fd 46) ["fractions"] [] := T.f_law_sum.binds fun _ _ _ _ _ _ us hl => match us, hl with | [_], _ => rfl
theorem ok_law_sum (T : Txt K mg fa ca fd) : FnOk P w K mg base (L2.CX P w) 4 (fa 46) (fd 46) ["fractions"] (spH (GG P w K fa ca) 1 F_law_sum) :=
  have nd := sc_law_sum.nd
  fnX (G := GG P w K fa ca) 1 3 (mb := b_law_sum) (by rfl) T.f_law_sum sc_law_sum (by rfl) (by rfl) (by rfl) (by rfl) (by rfl) (by rfl) (by rfl) fun cdv A outer s H E hr B po =>
    (sss_cons (ss_asg (sg_set (i := 1) nd rfl (.inl rfl)) (se_tup (sa_cons se_int (sa_cons se_int sa_nil))))
    (sss_cons (ss_for po rfl (si_seq (by rfl) (se_var 0)) (sg_set (i := 2) nd rfl (.inl rfl)) (sss_one (ss_asg (sg_set (i := 1) nd rfl (.inl rfl)) (se_callF B (by rfl) (by rfl) (ok_law_plus T) (hr.mono (by decide)) (by rfl) T.d_law_plus T.f_law_plus.kp (bn_law_plus T) (sa_cons (se_var 1) (sa_cons (se_var 2) sa_nil))))))
    (sss_one (ss_ret (se_var 1)))))
def l_law_power_0 : MS := (mAsg (gSet 2) (eOp pyTimes (eVar 2) (eVar 0)))
def b_law_power : MS := (mSeq (mAsg (gSet 2) (eC (.int 1)))
    (mSeq (mFor (iArgs rng1 (eConsA (eVar 1) eNilA)) (gSet 3) l_law_power_0)
    (mRet (eVar 2))))
def F_law_power : List CV → M CV := runB 2 4 b_law_power
theorem sc_law_power : FnScope ["number", "exponent", "found", "turn"] ["number", "exponent"] (defScope s_law_power) := ⟨rfl, rfl, rfl, by decide +kernel, rfl, by decide +kernel, by decide +kernel⟩
theorem bn_law_power (T : Txt K mg fa ca fd) : Binds K (fd 47) ["number", "exponent"] [] := T.f_law_power.binds fun _ _ _ _ _ _ us hl => match us, hl with | [_, _], _ => rfl
theorem ok_law_power (T : Txt K mg fa ca fd) : FnOk P w K mg base (L2.CX P w) 1 (fa 47) (fd 47) ["number", "exponent"] (spH (GG P w K fa ca) 2 F_law_power) :=
  have nd := sc_law_power.nd
  fnX (G := GG P w K fa ca) 2 4 (mb := b_law_power) (by rfl) T.f_law_power sc_law_power (by rfl) (by rfl) (by rfl) (by rfl) (by rfl) (by rfl) (by rfl) fun cdv A outer s H E hr B po =>
    (sss_cons (ss_asg (sg_set (i := 2) nd rfl (.inl rfl)) se_int)
    (sss_cons (ss_for po rfl (si_rng1 (by rfl) T.z_range (sa_cons (se_var 1) sa_nil)) (sg_set (i := 3) nd rfl (.inl rfl)) (sss_one (ss_asg (sg_set (i := 2) nd rfl (.inl rfl)) (se_op op_timesS timesS_ok (se_var 2) (se_var 0)))))
    (sss_one (ss_ret (se_var 2)))))
def l_law_factorial_0 : MS := (mAsg (gSet 1) (eOp pyTimes (eVar 1) (eVar 2)))
def b_law_factorial : MS := (mSeq (mAsg (gSet 1) (eC (.int 1)))
    (mSeq (mFor (iArgs rng2 (eConsA (eC (.int 2)) (eConsA (eOp pyAdd (eVar 0) (eC (.int 1))) eNilA))) (gSet 2) l_law_factorial_0)
    (mRet (eVar 1))))
def F_law_factorial : List CV → M CV := runB 1 3 b_law_factorial
theorem sc_law_factorial : FnScope ["number", "found", "step"] ["number"] (defScope s_law_factorial) := ⟨rfl, rfl, rfl, by decide +kernel, rfl, by decide +kernel, by decide +kernel⟩
theorem bn_law_factorial (T : Txt K mg fa ca fd) : Binds K (fd 48) ["number"] [] := T.f_law_factorial.binds fun _ _ _ _ _ _ us hl => match us, hl with | [_], _ => rfl
theorem ok_law_factorial (T : Txt K mg fa ca fd) : FnOk P w K mg base (L2.CX P w) 1 (fa 48) (fd 48) ["number"] (spH (GG P w K fa ca) 1 F_law_factorial) :=
  have nd := sc_law_factorial.nd
  fnX (G := GG P w K fa ca) 1 3 (mb := b_law_factorial) (by rfl) T.f_law_factorial sc_law_factorial (by rfl) (by rfl) (by rfl) (by rfl) (by rfl) (by rfl) (by rfl) fun cdv A outer s H E hr B po =>
    (sss_cons (ss_asg (sg_set (i := 1) nd rfl (.inl rfl)) se_int)
    (sss_cons (ss_for po rfl (si_rng2 (by rfl) T.z_range (sa_cons se_int (sa_cons (se_op op_plus plus_ok (se_var 0) se_int) sa_nil))) (sg_set (i := 2) nd rfl (.inl rfl)) (sss_one (ss_asg (sg_set (i := 1) nd rfl (.inl rfl)) (se_op op_timesS timesS_ok (se_var 1) (se_var 2)))))
    (sss_one (ss_ret (se_var 1)))))
def l_law_binomial_0 : MS := (mAsg (gSet 2) (eOp pyFdiv (eOp pyTimes (eVar 2) (eOp pySub (eVar 0) (eVar 3))) (eOp pyAdd (eVar 3) (eC (.int 1)))))
def b_law_binomial : MS := (mSeq (mAsg (gSet 2) (eC (.int 1)))
    (mSeq (mFor (iArgs rng1 (eConsA (eVar 1) eNilA)) (gSet 3) l_law_binomial_0)
    (mRet (eVar 2))))
def F_law_binomial : List CV → M CV := runB 2 4 b_law_binomial
theorem sc_law_binomial : FnScope ["top", "low", "found", "step"] ["top", "low"] (defScope s_law_binomial) := ⟨rfl, rfl, rfl, by decide +kernel, rfl, by decide +kernel, by decide +kernel⟩
theorem bn_law_binomial (T : Txt K mg fa ca fd) : Binds K (fd 49) ["top", "low"] [] := T.f_law_binomial.binds fun _ _ _ _ _ _ us hl => match us, hl with | [_, _], _ => rfl
theorem ok_law_binomial (T : Txt K mg fa ca fd) : FnOk P w K mg base (L2.CX P w) 1 (fa 49) (fd 49) ["top", "low"] (spH (GG P w K fa ca) 2 F_law_binomial) :=
  have nd := sc_law_binomial.nd
  fnX (G := GG P w K fa ca) 2 4 (mb := b_law_binomial) (by rfl) T.f_law_binomial sc_law_binomial (by rfl) (by rfl) (by rfl) (by rfl) (by rfl) (by rfl) (by rfl) fun cdv A outer s H E hr B po =>
    (sss_cons (ss_asg (sg_set (i := 2) nd rfl (.inl rfl)) se_int)
    (sss_cons (ss_for po rfl (si_rng1 (by rfl) T.z_range (sa_cons (se_var 1) sa_nil)) (sg_set (i := 3) nd rfl (.inl rfl)) (sss_one (ss_asg (sg_set (i := 2) nd rfl (.inl rfl)) (se_op op_fdivG fdiv_ok (se_op op_timesS timesS_ok (se_var 2) (se_op op_sub sub_ok (se_var 0) (se_var 3))) (se_op op_plus plus_ok (se_var 3) se_int)))))
    (sss_one (ss_ret (se_var 2)))))
def b_law_nb_drawn : MS := (mSeq (mAsg (gSet 1) (eCall 2 F_law_pick (eConsA (eVar 0) (eConsA (eLst (eConsA (eC (.int 4)) (eConsA (eC (.int 15)) (eConsA (eOp pyPow (eC (.int 10)) (eC (.int 8))) (eConsA (eOp pyPow (eC (.int 10)) (eC (.int 41))) eNilA))))) eNilA))))
    (mSeq (mPar 2 3 (eConsA (eOp pySub (eCall 2 F_law_roll (eConsA (eVar 0) (eConsA (eOp pyAdd (eOp pyTimes (eC (.int 2)) (eVar 1)) (eC (.int 1))) eNilA))) (eVar 1)) (eConsA (eCall 2 F_law_roll (eConsA (eVar 0) (eConsA (eC (.int 5)) eNilA))) eNilA)))
    (mSeq (mIf (bOf (eOp pyLt (eVar 3) (eC (.int 2)))) (mRet (eVar 2)) mNil)
    (mSeq (mIf (bOf (eOp (pyEq false) (eVar 3) (eC (.int 2)))) (mRet (eB (callF 2 F_law_fraction) (eConsA (eOp pyAdd (eOp pyTimes (eVar 2) (eOp pyPow (eC (.int 10)) (eC (.int 31)))) (eC (.int 9))) (eConsA (eOp pyAdd (eC (.int 1)) (eCall 2 F_law_roll (eConsA (eVar 0) (eConsA (eOp pyPow (eC (.int 10)) (eC (.int 49))) eNilA)))) eNilA)))) mNil)
    (mRet (eB (callF 2 F_law_fraction) (eConsA (eVar 2) (eConsA (eOp pyAdd (eC (.int 1)) (eCall 2 F_law_roll (eConsA (eVar 0) (eConsA (eCall 2 F_law_pick (eConsA (eVar 0) (eConsA (eLst (eConsA (eC (.int 1)) (eConsA (eC (.int 5)) (eConsA (eC (.int 13)) (eConsA (eC (.int 900)) eNilA))))) eNilA))) eNilA)))) eNilA))))))))
def F_law_nb_drawn : List CV → M CV := runB 1 4 b_law_nb_drawn
theorem sc_law_nb_drawn : FnScope ["dice", "most", "top", "way"] ["dice"] (defScope s_law_nb_drawn) := ⟨rfl, rfl, rfl, by decide +kernel, rfl, by decide +kernel, by decide +kernel⟩
theorem bn_law_nb_drawn (T : Txt K mg fa ca fd) : Binds K (fd 50) ["dice"] [] := T.f_law_nb_drawn.binds fun _ _ _ _ _ _ us hl => match us, hl with | [_], _ => rfl
theorem ok_law_nb_drawn (T : Txt K mg fa ca fd) : FnOk P w K mg base (L2.CX P w) 3 (fa 50) (fd 50) ["dice"] (spH (GG P w K fa ca) 1 F_law_nb_drawn) :=
  have nd := sc_law_nb_drawn.nd
  fnX (G := GG P w K fa ca) 1 4 (mb := b_law_nb_drawn) (by rfl) T.f_law_nb_drawn sc_law_nb_drawn (by rfl) (by rfl) (by rfl) (by rfl) (by rfl) (by rfl) (by rfl) fun cdv A outer s H E hr B po =>
    (sss_cons (ss_asg (sg_set (i := 1) nd rfl (.inl rfl)) (se_call B (ok_law_pick T) (hr.mono (by decide)) (by rfl) T.d_law_pick T.f_law_pick.kp (bn_law_pick T) (sa_cons (se_var 0) (sa_cons (se_lst (sa_cons se_int (sa_cons se_int (sa_cons (se_op op_pow pow_ok se_int se_int) (sa_cons (se_op op_pow pow_ok se_int se_int) sa_nil))))) sa_nil))))
    (sss_cons (ss_par (i := 2) (j := 3) rfl nd rfl rfl (by decide) rfl rfl (sa_cons (se_op op_sub sub_ok (se_call B (ok_law_roll T) (hr.mono (by decide)) (by rfl) T.d_law_roll T.f_law_roll.kp (bn_law_roll T) (sa_cons (se_var 0) (sa_cons (se_op op_plus plus_ok (se_op op_timesS timesS_ok se_int (se_var 1)) se_int) sa_nil))) (se_var 1)) (sa_cons (se_call B (ok_law_roll T) (hr.mono (by decide)) (by rfl) T.d_law_roll T.f_law_roll.kp (bn_law_roll T) (sa_cons (se_var 0) (sa_cons se_int sa_nil))) sa_nil)) (by rfl))
    (sss_cons (ss_if (st_cmp op_lt cmp_ok (se_var 3) se_int) (sss_one (ss_ret (se_var 2))) sss_nil)
    (sss_cons (ss_if (st_cmp (op_eqD hr.units) eq_ok (se_var 3) se_int) (sss_one (ss_ret (se_callF B (by rfl) (by rfl) (ok_law_fraction T) (hr.mono (by decide)) (by rfl) T.d_law_fraction T.f_law_fraction.kp (bn_law_fraction T) (sa_cons (se_op op_plus plus_ok (se_op op_timesS timesS_ok (se_var 2) (se_op op_pow pow_ok se_int se_int)) se_int) (sa_cons (se_op op_plus plus_ok se_int (se_call B (ok_law_roll T) (hr.mono (by decide)) (by rfl) T.d_law_roll T.f_law_roll.kp (bn_law_roll T) (sa_cons (se_var 0) (sa_cons (se_op op_pow pow_ok se_int se_int) sa_nil)))) sa_nil))))) sss_nil)
    (sss_one (ss_ret (se_callF B (by rfl) (by rfl) (ok_law_fraction T) (hr.mono (by decide)) (by rfl) T.d_law_fraction T.f_law_fraction.kp (bn_law_fraction T) (sa_cons (se_var 2) (sa_cons (se_op op_plus plus_ok se_int (se_call B (ok_law_roll T) (hr.mono (by decide)) (by rfl) T.d_law_roll T.f_law_roll.kp (bn_law_roll T) (sa_cons (se_var 0) (sa_cons (se_call B (ok_law_pick T) (hr.mono (by decide)) (by rfl) T.d_law_pick T.f_law_pick.kp (bn_law_pick T) (sa_cons (se_var 0) (sa_cons (se_lst (sa_cons se_int (sa_cons se_int (sa_cons se_int (sa_cons se_int sa_nil))))) sa_nil))) sa_nil)))) sa_nil)))))))))
def b_law_nb_pair : MS := (mRet (eIf (bOf (eUn (isK isInt) (eVar 0))) (eTup (eConsA (eVar 0) (eConsA (eC (.int 1)) eNilA))) (eVar 0)))
def F_law_nb_pair : List CV → M CV := runB 1 1 b_law_nb_pair
theorem sc_law_nb_pair : FnScope ["number"] ["number"] (defScope s_law_nb_pair) := ⟨rfl, rfl, rfl, by decide +kernel, rfl, by decide +kernel, by decide +kernel⟩
theorem bn_law_nb_pair (T : Txt K mg fa ca fd) : Binds K (fd 51) ["number"] [] := T.f_law_nb_pair.binds fun _ _ _ _ _ _ us hl => match us, hl with | [_], _ => rfl
theorem ok_law_nb_pair (T : Txt K mg fa ca fd) : FnOk P w K mg base (L2.CX P w) 1 (fa 51) (fd 51) ["number"] (spH (GG P w K fa ca) 1 F_law_nb_pair) :=
  have nd := sc_law_nb_pair.nd
  fnX (G := GG P w K fa ca) 1 1 (mb := b_law_nb_pair) (by rfl) T.f_law_nb_pair sc_law_nb_pair (by rfl) (by rfl) (by rfl) (by rfl) (by rfl) (by rfl) (by rfl) fun cdv A outer s H E hr B po =>
    (sss_one (ss_ret (se_if (st_val (se_isi isInt isInt_ok (by rfl) (by rfl) T.z_isinstance (by rfl) T.z_int (by decide +kernel) (se_var 0))) (se_tup (sa_cons (se_var 0) (sa_cons se_int sa_nil))) (se_var 0))))
def b_law_sums_right : MS := (mSeq (mPar 1 2 (eConsA (eCall 1 F_law_nb_drawn (eConsA (eVar 0) eNilA)) (eConsA (eCall 1 F_law_nb_drawn (eConsA (eVar 0) eNilA)) eNilA)))
    (mSeq (mPar 3 4 (eConsA (eB (callF 1 F_law_nb_pair) (eConsA (eVar 1) eNilA)) (eConsA (eB (callF 1 F_law_nb_pair) (eConsA (eVar 2) eNilA)) eNilA)))
    (mSeq (mAsg (gSet 5) (eB (callF 2 F_law_less) (eConsA (eVar 3) (eConsA (eVar 4) eNilA))))
    (mSeq (mIf (bOf (eOp (pyEq true) (eLst (eConsA (eB (callF 2 F_added) (eConsA (eVar 1) (eConsA (eVar 2) eNilA))) (eConsA (eB (callF 2 F_less) (eConsA (eVar 1) (eConsA (eVar 2) eNilA))) (eConsA (eB (callF 2 F_multiplied) (eConsA (eVar 1) (eConsA (eVar 2) eNilA))) eNilA)))) (eLst (eConsA (eB (callF 2 F_law_plus) (eConsA (eVar 3) (eConsA (eVar 4) eNilA))) (eConsA (eVar 5) (eConsA (eB (callF 2 F_law_times) (eConsA (eVar 3) (eConsA (eVar 4) eNilA))) eNilA)))))) (mRet (eC (.bl false))) mNil)
    (mSeq (mAsg (gSet 6) (eOp pySub (eB pyInt (eConsA (eOp pyGt (eOp pyIx (eVar 5) (eC (.int 0))) (eC (.int 0))) eNilA)) (eB pyInt (eConsA (eOp pyLt (eOp pyIx (eVar 5) (eC (.int 0))) (eC (.int 0))) eNilA))))
    (mSeq (mIf (bOf (eOp (pyEq true) (eLst (eConsA (eB (callF 2 F_compared) (eConsA (eVar 1) (eConsA (eVar 2) eNilA))) (eConsA (eB (callF 2 F_compared) (eConsA (eVar 2) (eConsA (eVar 1) eNilA))) (eConsA (eB (callF 2 F_compared) (eConsA (eVar 3) (eConsA (eVar 1) eNilA))) eNilA)))) (eLst (eConsA (eVar 6) (eConsA (eOp pySub (eC (.int 0)) (eVar 6)) (eConsA (eC (.int 0)) eNilA)))))) (mRet (eC (.bl false))) mNil)
    (mSeq (mIf (bAnd (bOf (eOp (pyEq true) (eOp pyIx (eVar 4) (eC (.int 0))) (eC (.int 0)))) (bOf (eOp (pyEq true) (eB (callF 2 F_divided) (eConsA (eVar 1) (eConsA (eVar 2) eNilA))) (eB (callF 2 F_law_over) (eConsA (eVar 3) (eConsA (eVar 4) eNilA)))))) (mRet (eC (.bl false))) mNil)
    (mSeq (mPar 7 8 (eConsA (eOp pyAdd (eC (.int 1)) (eCall 2 F_law_roll (eConsA (eVar 0) (eConsA (eC (.int 60)) eNilA)))) (eConsA (eB (callF 1 F_floor_of) (eConsA (eVar 1) eNilA)) eNilA)))
    (mSeq (mIf (bOr (bOf (eOp (pyEq true) (eB (callF 2 F_fraction) (eConsA (eOp pySub (eC (.int 0)) (eOp pyTimes (eVar 7) (eOp pyIx (eVar 3) (eC (.int 0))))) (eConsA (eOp pySub (eC (.int 0)) (eOp pyTimes (eVar 7) (eOp pyIx (eVar 3) (eC (.int 1))))) eNilA))) (eVar 3))) (bNot (bOf (eUn (isK isInt) (eVar 8))))) (mRet (eC (.bl false))) mNil)
    (mRet (eAnd (eChain pyLe pyLt (eOp pyTimes (eVar 8) (eOp pyIx (eVar 3) (eC (.int 1)))) (eOp pyIx (eVar 3) (eC (.int 0))) (eOp pyTimes (eOp pyAdd (eVar 8) (eC (.int 1))) (eOp pyIx (eVar 3) (eC (.int 1))))) (eAnd (eB (callF 1 F_is_number) (eConsA (eVar 1) eNilA)) (eB (callF 1 F_is_fraction) (eConsA (eVar 3) eNilA))))))))))))))
def F_law_sums_right : List CV → M CV := runB 1 9 b_law_sums_right
theorem sc_law_sums_right : FnScope ["dice", "one", "other", "first", "last", "gap", "sign", "scale", "floor"] ["dice"] (defScope s_law_sums_right) := ⟨rfl, rfl, rfl, by decide +kernel, rfl, by decide +kernel, by decide +kernel⟩
theorem bn_law_sums_right (T : Txt K mg fa ca fd) : Binds K (fd 52) ["dice"] [] := T.f_law_sums_right.binds fun _ _ _ _ _ _ us hl => match us, hl with | [_], _ => rfl
theorem ok_law_sums_right (T : Txt K mg fa ca fd) : FnOk P w K mg base (L2.CX P w) 7 (fa 52) (fd 52) ["dice"] (spH (GG P w K fa ca) 1 F_law_sums_right) :=
  have nd := sc_law_sums_right.nd
  fnX (G := GG P w K fa ca) 1 9 (mb := b_law_sums_right) (by rfl) T.f_law_sums_right sc_law_sums_right (by rfl) (by rfl) (by rfl) (by rfl) (by rfl) (by rfl) (by rfl) fun cdv A outer s H E hr B po =>
    (sss_cons (ss_par (i := 1) (j := 2) rfl nd rfl rfl (by decide) rfl rfl (sa_cons (se_call B (ok_law_nb_drawn T) (hr.mono (by decide)) (by rfl) T.d_law_nb_drawn T.f_law_nb_drawn.kp (bn_law_nb_drawn T) (sa_cons (se_var 0) sa_nil)) (sa_cons (se_call B (ok_law_nb_drawn T) (hr.mono (by decide)) (by rfl) T.d_law_nb_drawn T.f_law_nb_drawn.kp (bn_law_nb_drawn T) (sa_cons (se_var 0) sa_nil)) sa_nil)) (by rfl))
    (sss_cons (ss_par (i := 3) (j := 4) rfl nd rfl rfl (by decide) rfl rfl (sa_cons (se_callF B (by rfl) (by rfl) (ok_law_nb_pair T) (hr.mono (by decide)) (by rfl) T.d_law_nb_pair T.f_law_nb_pair.kp (bn_law_nb_pair T) (sa_cons (se_var 1) sa_nil)) (sa_cons (se_callF B (by rfl) (by rfl) (ok_law_nb_pair T) (hr.mono (by decide)) (by rfl) T.d_law_nb_pair T.f_law_nb_pair.kp (bn_law_nb_pair T) (sa_cons (se_var 2) sa_nil)) sa_nil)) (by rfl))
    (sss_cons (ss_asg (sg_set (i := 5) nd rfl (.inl rfl)) (se_callF B (by rfl) (by rfl) (ok_law_less T) (hr.mono (by decide)) (by rfl) T.d_law_less T.f_law_less.kp (bn_law_less T) (sa_cons (se_var 3) (sa_cons (se_var 4) sa_nil))))
    (sss_cons (ss_if (st_cmp (op_neD hr.units) ne_ok (se_lst (sa_cons (se_callF B (by rfl) (by rfl) (ok_added T) (hr.mono (by decide)) (by rfl) T.d_added T.f_added.kp (bn_added T) (sa_cons (se_var 1) (sa_cons (se_var 2) sa_nil))) (sa_cons (se_callF B (by rfl) (by rfl) (ok_less T) (hr.mono (by decide)) (by rfl) T.d_less T.f_less.kp (bn_less T) (sa_cons (se_var 1) (sa_cons (se_var 2) sa_nil))) (sa_cons (se_callF B (by rfl) (by rfl) (ok_multiplied T) (hr.mono (by decide)) (by rfl) T.d_multiplied T.f_multiplied.kp (bn_multiplied T) (sa_cons (se_var 1) (sa_cons (se_var 2) sa_nil))) sa_nil)))) (se_lst (sa_cons (se_callF B (by rfl) (by rfl) (ok_law_plus T) (hr.mono (by decide)) (by rfl) T.d_law_plus T.f_law_plus.kp (bn_law_plus T) (sa_cons (se_var 3) (sa_cons (se_var 4) sa_nil))) (sa_cons (se_var 5) (sa_cons (se_callF B (by rfl) (by rfl) (ok_law_times T) (hr.mono (by decide)) (by rfl) T.d_law_times T.f_law_times.kp (bn_law_times T) (sa_cons (se_var 3) (sa_cons (se_var 4) sa_nil))) sa_nil))))) (sss_one (ss_ret se_bl)) sss_nil)
    (sss_cons (ss_asg (sg_set (i := 6) nd rfl (.inl rfl)) (se_op op_sub sub_ok (se_callTy call_int1 int_ok (by rfl) T.z_int (by decide +kernel) (sa_cons (se_cmp op_gt cmp_ok (se_ix (by rfl) (se_var 5) se_int) se_int) sa_nil)) (se_callTy call_int1 int_ok (by rfl) T.z_int (by decide +kernel) (sa_cons (se_cmp op_lt cmp_ok (se_ix (by rfl) (se_var 5) se_int) se_int) sa_nil))))
    (sss_cons (ss_if (st_cmp (op_neD hr.units) ne_ok (se_lst (sa_cons (se_callF B (by rfl) (by rfl) (ok_compared T) (hr.mono (by decide)) (by rfl) T.d_compared T.f_compared.kp (bn_compared T) (sa_cons (se_var 1) (sa_cons (se_var 2) sa_nil))) (sa_cons (se_callF B (by rfl) (by rfl) (ok_compared T) (hr.mono (by decide)) (by rfl) T.d_compared T.f_compared.kp (bn_compared T) (sa_cons (se_var 2) (sa_cons (se_var 1) sa_nil))) (sa_cons (se_callF B (by rfl) (by rfl) (ok_compared T) (hr.mono (by decide)) (by rfl) T.d_compared T.f_compared.kp (bn_compared T) (sa_cons (se_var 3) (sa_cons (se_var 1) sa_nil))) sa_nil)))) (se_lst (sa_cons (se_var 6) (sa_cons (se_op op_sub sub_ok se_int (se_var 6)) (sa_cons se_int sa_nil))))) (sss_one (ss_ret se_bl)) sss_nil)
    (sss_cons (ss_if (st_bool (sw_and (st_cmp (op_neD hr.units) ne_ok (se_ix (by rfl) (se_var 4) se_int) se_int) (sw_and1 (st_cmp (op_neD hr.units) ne_ok (se_callF B (by rfl) (by rfl) (ok_divided T) (hr.mono (by decide)) (by rfl) T.d_divided T.f_divided.kp (bn_divided T) (sa_cons (se_var 1) (sa_cons (se_var 2) sa_nil))) (se_callF B (by rfl) (by rfl) (ok_law_over T) (hr.mono (by decide)) (by rfl) T.d_law_over T.f_law_over.kp (bn_law_over T) (sa_cons (se_var 3) (sa_cons (se_var 4) sa_nil))))))) (sss_one (ss_ret se_bl)) sss_nil)
    (sss_cons (ss_par (i := 7) (j := 8) rfl nd rfl rfl (by decide) rfl rfl (sa_cons (se_op op_plus plus_ok se_int (se_call B (ok_law_roll T) (hr.mono (by decide)) (by rfl) T.d_law_roll T.f_law_roll.kp (bn_law_roll T) (sa_cons (se_var 0) (sa_cons se_int sa_nil)))) (sa_cons (se_callF B (by rfl) (by rfl) (ok_floor_of T) (hr.mono (by decide)) (by rfl) T.d_floor_of T.f_floor_of.kp (bn_floor_of T) (sa_cons (se_var 1) sa_nil)) sa_nil)) (by rfl))
    (sss_cons (ss_if (st_bool (sw_or (st_cmp (op_neD hr.units) ne_ok (se_callF B (by rfl) (by rfl) (ok_fraction T) (hr.mono (by decide)) (by rfl) T.d_fraction T.f_fraction.kp (bn_fraction T) (sa_cons (se_op op_sub sub_ok se_int (se_op op_timesS timesS_ok (se_var 7) (se_ix (by rfl) (se_var 3) se_int))) (sa_cons (se_op op_sub sub_ok se_int (se_op op_timesS timesS_ok (se_var 7) (se_ix (by rfl) (se_var 3) se_int))) sa_nil))) (se_var 3)) (sw_or1 (st_not (st_val (se_isi isInt isInt_ok (by rfl) (by rfl) T.z_isinstance (by rfl) T.z_int (by decide +kernel) (se_var 8))))))) (sss_one (ss_ret se_bl)) sss_nil)
    (sss_one (ss_ret (se_and (se_chain op_le cmp_ok op_lt cmp_ok (se_op op_timesS timesS_ok (se_var 8) (se_ix (by rfl) (se_var 3) se_int)) (se_ix (by rfl) (se_var 3) se_int) (se_op op_timesS timesS_ok (se_op op_plus plus_ok (se_var 8) se_int) (se_ix (by rfl) (se_var 3) se_int))) (se_and (se_callF B (by rfl) (by rfl) (ok_is_number T) (hr.mono (by decide)) (by rfl) T.d_is_number T.f_is_number.kp (bn_is_number T) (sa_cons (se_var 1) sa_nil)) (se_and1 (se_callF B (by rfl) (by rfl) (ok_is_fraction T) (hr.mono (by decide)) (by rfl) T.d_is_fraction T.f_is_fraction.kp (bn_is_fraction T) (sa_cons (se_var 3) sa_nil))))))))))))))))
def b_law_powers_right : MS := (mSeq (mPar 1 2 (eConsA (eCall 1 F_law_nb_drawn (eConsA (eVar 0) eNilA)) (eConsA (eOp pySub (eCall 2 F_law_roll (eConsA (eVar 0) (eConsA (eC (.int 15)) eNilA))) (eC (.int 7))) eNilA)))
    (mSeq (mAsg (gSet 3) (eB (callF 1 F_law_nb_pair) (eConsA (eVar 1) eNilA)))
    (mSeq (mPar 4 5 (eConsA (eB (callF 2 F_law_power) (eConsA (eOp pyIx (eVar 3) (eC (.int 0))) (eConsA (eB pyAbs (eConsA (eVar 2) eNilA)) eNilA))) (eConsA (eB (callF 2 F_law_power) (eConsA (eOp pyIx (eVar 3) (eC (.int 1))) (eConsA (eB pyAbs (eConsA (eVar 2) eNilA)) eNilA))) eNilA)))
    (mSeq (mIf (bAnd (bOf (eOp pyGe (eVar 2) (eC (.int 0)))) (bOf (eOp (pyEq true) (eB (callF 2 F_power_of) (eConsA (eVar 1) (eConsA (eVar 2) eNilA))) (eTup (eConsA (eVar 4) (eConsA (eVar 5) eNilA)))))) (mRet (eC (.bl false))) mNil)
    (mSeq (mIf (bAnd (bOf (eOp pyLt (eVar 2) (eC (.int 0)))) (bAnd (bOf (eOp (pyEq true) (eOp pyIx (eVar 3) (eC (.int 0))) (eC (.int 0)))) (bOf (eOp (pyEq true) (eB (callF 2 F_power_of) (eConsA (eVar 1) (eConsA (eVar 2) eNilA))) (eB (callF 2 F_law_fraction) (eConsA (eVar 5) (eConsA (eVar 4) eNilA))))))) (mRet (eC (.bl false))) mNil)
    (mSeq (mAsg (gSet 6) (eOp pyAdd (eB (one pyStr) (eConsA (eOp pyIx (eVar 3) (eC (.int 0))) eNilA)) (eIf (bOf (eOp pyGt (eOp pyIx (eVar 3) (eC (.int 1))) (eC (.int 1)))) (eOp pyAdd (eC (.str (Str.ofString "/"))) (eB (one pyStr) (eConsA (eOp pyIx (eVar 3) (eC (.int 1))) eNilA))) (eC (.str (Str.ofString ""))))))
    (mRet (eAnd (eOp (pyEq false) (eB (callF 1 F_number_text) (eConsA (eVar 1) eNilA)) (eVar 6)) (eOp (pyEq false) (eB (callF 1 F_number_of_text) (eConsA (eVar 6) eNilA)) (eVar 3))))))))))
def F_law_powers_right : List CV → M CV := runB 1 7 b_law_powers_right
theorem sc_law_powers_right : FnScope ["dice", "one", "wide", "first", "top", "bottom", "text"] ["dice"] (defScope s_law_powers_right) := ⟨rfl, rfl, rfl, by decide +kernel, rfl, by decide +kernel, by decide +kernel⟩
theorem bn_law_powers_right (T : Txt K mg fa ca fd) : Binds K (fd 53) ["dice"] [] := T.f_law_powers_right.binds fun _ _ _ _ _ _ us hl => match us, hl with | [_], _ => rfl
theorem ok_law_powers_right (T : Txt K mg fa ca fd) : FnOk P w K mg base (L2.CX P w) 6 (fa 53) (fd 53) ["dice"] (spH (GG P w K fa ca) 1 F_law_powers_right) :=
  have nd := sc_law_powers_right.nd
  fnX (G := GG P w K fa ca) 1 7 (mb := b_law_powers_right) (by rfl) T.f_law_powers_right sc_law_powers_right (by rfl) (by rfl) (by rfl) (by rfl) (by rfl) (by rfl) (by rfl) fun cdv A outer s H E hr B po =>
    (sss_cons (ss_par (i := 1) (j := 2) rfl nd rfl rfl (by decide) rfl rfl (sa_cons (se_call B (ok_law_nb_drawn T) (hr.mono (by decide)) (by rfl) T.d_law_nb_drawn T.f_law_nb_drawn.kp (bn_law_nb_drawn T) (sa_cons (se_var 0) sa_nil)) (sa_cons (se_op op_sub sub_ok (se_call B (ok_law_roll T) (hr.mono (by decide)) (by rfl) T.d_law_roll T.f_law_roll.kp (bn_law_roll T) (sa_cons (se_var 0) (sa_cons se_int sa_nil))) se_int) sa_nil)) (by rfl))
    (sss_cons (ss_asg (sg_set (i := 3) nd rfl (.inl rfl)) (se_callF B (by rfl) (by rfl) (ok_law_nb_pair T) (hr.mono (by decide)) (by rfl) T.d_law_nb_pair T.f_law_nb_pair.kp (bn_law_nb_pair T) (sa_cons (se_var 1) sa_nil)))
    (sss_cons (ss_par (i := 4) (j := 5) rfl nd rfl rfl (by decide) rfl rfl (sa_cons (se_callF B (by rfl) (by rfl) (ok_law_power T) (hr.mono (by decide)) (by rfl) T.d_law_power T.f_law_power.kp (bn_law_power T) (sa_cons (se_ix (by rfl) (se_var 3) se_int) (sa_cons (se_callB call_abs abs_ok (by rfl) T.z_abs (by decide +kernel) (sa_cons (se_var 2) sa_nil)) sa_nil))) (sa_cons (se_callF B (by rfl) (by rfl) (ok_law_power T) (hr.mono (by decide)) (by rfl) T.d_law_power T.f_law_power.kp (bn_law_power T) (sa_cons (se_ix (by rfl) (se_var 3) se_int) (sa_cons (se_callB call_abs abs_ok (by rfl) T.z_abs (by decide +kernel) (sa_cons (se_var 2) sa_nil)) sa_nil))) sa_nil)) (by rfl))
    (sss_cons (ss_if (st_bool (sw_and (st_cmp op_ge cmp_ok (se_var 2) se_int) (sw_and1 (st_cmp (op_neD hr.units) ne_ok (se_callF B (by rfl) (by rfl) (ok_power_of T) (hr.mono (by decide)) (by rfl) T.d_power_of T.f_power_of.kp (bn_power_of T) (sa_cons (se_var 1) (sa_cons (se_var 2) sa_nil))) (se_tup (sa_cons (se_var 4) (sa_cons (se_var 5) sa_nil))))))) (sss_one (ss_ret se_bl)) sss_nil)
    (sss_cons (ss_if (st_bool (sw_and (st_cmp op_lt cmp_ok (se_var 2) se_int) (sw_and (st_cmp (op_neD hr.units) ne_ok (se_ix (by rfl) (se_var 3) se_int) se_int) (sw_and1 (st_cmp (op_neD hr.units) ne_ok (se_callF B (by rfl) (by rfl) (ok_power_of T) (hr.mono (by decide)) (by rfl) T.d_power_of T.f_power_of.kp (bn_power_of T) (sa_cons (se_var 1) (sa_cons (se_var 2) sa_nil))) (se_callF B (by rfl) (by rfl) (ok_law_fraction T) (hr.mono (by decide)) (by rfl) T.d_law_fraction T.f_law_fraction.kp (bn_law_fraction T) (sa_cons (se_var 5) (sa_cons (se_var 4) sa_nil)))))))) (sss_one (ss_ret se_bl)) sss_nil)
    (sss_cons (ss_asg (sg_set (i := 6) nd rfl (.inl rfl)) (se_op op_plus plus_ok (se_callTy call_str_int str_ok (by rfl) T.z_str (by decide +kernel) (sa_cons (se_ix (by rfl) (se_var 3) se_int) sa_nil)) (se_if (st_cmp op_gt cmp_ok (se_ix (by rfl) (se_var 3) se_int) se_int) (se_op op_plus plus_ok se_str (se_callTy call_str_int str_ok (by rfl) T.z_str (by decide +kernel) (sa_cons (se_ix (by rfl) (se_var 3) se_int) sa_nil))) se_str)))
    (sss_one (ss_ret (se_and (se_cmp (op_eqD hr.units) eq_ok (se_callF B (by rfl) (by rfl) (ok_number_text T) (hr.mono (by decide)) (by rfl) T.d_number_text T.f_number_text.kp (bn_number_text T) (sa_cons (se_var 1) sa_nil)) (se_var 6)) (se_and1 (se_cmp (op_eqD hr.units) eq_ok (se_callF B (by rfl) (by rfl) (ok_number_of_text T) (hr.mono (by decide)) (by rfl) T.d_number_of_text T.f_number_of_text.kp (bn_number_of_text T) (sa_cons (se_var 6) sa_nil)) (se_var 3))))))))))))
def b_law_products_right : MS := (mSeq (mPar 1 2 (eConsA (eCall 2 F_law_roll (eConsA (eVar 0) (eConsA (eCall 2 F_law_pick (eConsA (eVar 0) (eConsA (eLst (eConsA (eC (.int 8)) (eConsA (eC (.int 40)) (eConsA (eC (.int 301)) eNilA)))) eNilA))) eNilA))) (eConsA (eCall 2 F_law_roll (eConsA (eVar 0) (eConsA (eC (.int 40)) eNilA))) eNilA)))
    (mSeq (mAsg (gSet 3) (eOp pySub (eOp pyTimes (eC (.int 2)) (eVar 1)) (eC (.int 1))))
    (mSeq (mIf (bOf (eOp (pyEq true) (eOp pyTimes (eOp pyTimes (eB (callF 1 F_odd_product) (eConsA (eVar 3) eNilA)) (eB (callF 2 F_law_power) (eConsA (eC (.int 2)) (eConsA (eVar 1) eNilA)))) (eB (callF 1 F_law_factorial) (eConsA (eVar 1) eNilA))) (eB (callF 1 F_factorial) (eConsA (eOp pyTimes (eC (.int 2)) (eVar 1)) eNilA)))) (mRet (eC (.bl false))) mNil)
    (mSeq (mIf (bAnd (bOf (eOp pyGt (eVar 3) (eC (.int 0)))) (bOf (eOp (pyEq true) (eB (callF 1 F_odd_product) (eConsA (eVar 3) eNilA)) (eOp pyTimes (eVar 3) (eB (callF 1 F_odd_product) (eConsA (eOp pySub (eVar 3) (eC (.int 2))) eNilA)))))) (mRet (eC (.bl false))) mNil)
    (mRet (eAnd (eOp (pyEq false) (eB (callF 2 F_binomial) (eConsA (eVar 1) (eConsA (eVar 2) eNilA))) (eB (callF 2 F_law_binomial) (eConsA (eVar 1) (eConsA (eVar 2) eNilA)))) (eOp (pyEq false) (eB (callF 1 F_factorial) (eConsA (eVar 1) eNilA)) (eB (callF 1 F_law_factorial) (eConsA (eVar 1) eNilA)))))))))
def F_law_products_right : List CV → M CV := runB 1 4 b_law_products_right
theorem sc_law_products_right : FnScope ["dice", "half", "low", "odd"] ["dice"] (defScope s_law_products_right) := ⟨rfl, rfl, rfl, by decide +kernel, rfl, by decide +kernel, by decide +kernel⟩
theorem bn_law_products_right (T : Txt K mg fa ca fd) : Binds K (fd 54) ["dice"] [] := T.f_law_products_right.binds fun _ _ _ _ _ _ us hl => match us, hl with | [_], _ => rfl
theorem ok_law_products_right (T : Txt K mg fa ca fd) : FnOk P w K mg base (L2.CX P w) 6 (fa 54) (fd 54) ["dice"] (spH (GG P w K fa ca) 1 F_law_products_right) :=
  have nd := sc_law_products_right.nd
  fnX (G := GG P w K fa ca) 1 4 (mb := b_law_products_right) (by rfl) T.f_law_products_right sc_law_products_right (by rfl) (by rfl) (by rfl) (by rfl) (by rfl) (by rfl) (by rfl) fun cdv A outer s H E hr B po =>
    (sss_cons (ss_par (i := 1) (j := 2) rfl nd rfl rfl (by decide) rfl rfl (sa_cons (se_call B (ok_law_roll T) (hr.mono (by decide)) (by rfl) T.d_law_roll T.f_law_roll.kp (bn_law_roll T) (sa_cons (se_var 0) (sa_cons (se_call B (ok_law_pick T) (hr.mono (by decide)) (by rfl) T.d_law_pick T.f_law_pick.kp (bn_law_pick T) (sa_cons (se_var 0) (sa_cons (se_lst (sa_cons se_int (sa_cons se_int (sa_cons se_int sa_nil)))) sa_nil))) sa_nil))) (sa_cons (se_call B (ok_law_roll T) (hr.mono (by decide)) (by rfl) T.d_law_roll T.f_law_roll.kp (bn_law_roll T) (sa_cons (se_var 0) (sa_cons se_int sa_nil))) sa_nil)) (by rfl))
    (sss_cons (ss_asg (sg_set (i := 3) nd rfl (.inl rfl)) (se_op op_sub sub_ok (se_op op_timesS timesS_ok se_int (se_var 1)) se_int))
    (sss_cons (ss_if (st_cmp (op_neD hr.units) ne_ok (se_op op_timesS timesS_ok (se_op op_timesS timesS_ok (se_callF B (by rfl) (by rfl) (ok_odd_product T) (hr.mono (by decide)) (by rfl) T.d_odd_product T.f_odd_product.kp (bn_odd_product T) (sa_cons (se_var 3) sa_nil)) (se_callF B (by rfl) (by rfl) (ok_law_power T) (hr.mono (by decide)) (by rfl) T.d_law_power T.f_law_power.kp (bn_law_power T) (sa_cons se_int (sa_cons (se_var 1) sa_nil)))) (se_callF B (by rfl) (by rfl) (ok_law_factorial T) (hr.mono (by decide)) (by rfl) T.d_law_factorial T.f_law_factorial.kp (bn_law_factorial T) (sa_cons (se_var 1) sa_nil))) (se_callF B (by rfl) (by rfl) (ok_factorial T) (hr.mono (by decide)) (by rfl) T.d_factorial T.f_factorial.kp (bn_factorial T) (sa_cons (se_op op_timesS timesS_ok se_int (se_var 1)) sa_nil))) (sss_one (ss_ret se_bl)) sss_nil)
    (sss_cons (ss_if (st_bool (sw_and (st_cmp op_gt cmp_ok (se_var 3) se_int) (sw_and1 (st_cmp (op_neD hr.units) ne_ok (se_callF B (by rfl) (by rfl) (ok_odd_product T) (hr.mono (by decide)) (by rfl) T.d_odd_product T.f_odd_product.kp (bn_odd_product T) (sa_cons (se_var 3) sa_nil)) (se_op op_timesS timesS_ok (se_var 3) (se_callF B (by rfl) (by rfl) (ok_odd_product T) (hr.mono (by decide)) (by rfl) T.d_odd_product T.f_odd_product.kp (bn_odd_product T) (sa_cons (se_op op_sub sub_ok (se_var 3) se_int) sa_nil))))))) (sss_one (ss_ret se_bl)) sss_nil)
    (sss_one (ss_ret (se_and (se_cmp (op_eqD hr.units) eq_ok (se_callF B (by rfl) (by rfl) (ok_binomial T) (hr.mono (by decide)) (by rfl) T.d_binomial T.f_binomial.kp (bn_binomial T) (sa_cons (se_var 1) (sa_cons (se_var 2) sa_nil))) (se_callF B (by rfl) (by rfl) (ok_law_binomial T) (hr.mono (by decide)) (by rfl) T.d_law_binomial T.f_law_binomial.kp (bn_law_binomial T) (sa_cons (se_var 1) (sa_cons (se_var 2) sa_nil)))) (se_and1 (se_cmp (op_eqD hr.units) eq_ok (se_callF B (by rfl) (by rfl) (ok_factorial T) (hr.mono (by decide)) (by rfl) T.d_factorial T.f_factorial.kp (bn_factorial T) (sa_cons (se_var 1) sa_nil)) (se_callF B (by rfl) (by rfl) (ok_law_factorial T) (hr.mono (by decide)) (by rfl) T.d_law_factorial T.f_law_factorial.kp (bn_law_factorial T) (sa_cons (se_var 1) sa_nil)))))))))))
def l_law_bernoulli_right_0 : Sl → M CV := (eB (callF 1 F_bernoulli) (eConsA (eVar 7) eNilA))
def l_law_bernoulli_right_1 : Sl → M CV := (eB (callF 2 F_law_times) (eConsA (eTup (eConsA (eB (callF 2 F_law_binomial) (eConsA (eOp pyAdd (eVar 1) (eC (.int 1))) (eConsA (eVar 7) eNilA))) (eConsA (eC (.int 1)) eNilA))) (eConsA (eVar 8) eNilA)))
def l_law_bernoulli_right_2 : Sl → M CV := (eB (callF 2 F_law_power) (eConsA (eVar 14) (eConsA (eVar 1) eNilA)))
def l_law_bernoulli_right_3 : MS := (mExpr (eMt isLis pyAppend (eVar 6) (eConsA (eB (callF 2 F_law_times) (eConsA (eTup (eConsA (eOp pyTimes (eB (callF 2 F_law_binomial) (eConsA (eOp pyAdd (eVar 1) (eC (.int 1))) (eConsA (eVar 7) eNilA))) (eB (callF 2 F_law_power) (eConsA (eVar 2) (eConsA (eOp pySub (eOp pyAdd (eVar 1) (eC (.int 1))) (eVar 7)) eNilA)))) (eConsA (eC (.int 1)) eNilA))) (eConsA (eVar 8) eNilA))) eNilA)))
def l_law_bernoulli_right_4 : Sl → M CV := (eVar 14)
def l_law_bernoulli_right_5 : MS := (mIf (bAnd (bOf (eOp (pyEq false) (eLc (iArgs rng2 (eConsA (eC (.int 2)) (eConsA (eVar 13) eNilA))) (gSet 14) (bOf (eOp (pyEq false) (eOp pyMod (eB pyInt (eConsA (eVar 13) eNilA)) (eVar 14)) (eC (.int 0)))) l_law_bernoulli_right_4 [14]) (eLst eNilA))) (bOf (eOp (pyEq false) (eOp pyMod (eB pyInt (eConsA (eVar 9) eNilA)) (eOp pySub (eVar 13) (eC (.int 1)))) (eC (.int 0))))) (mAsg (gSet 12) (eOp pyTimes (eVar 12) (eVar 13))) mNil)
def b_law_bernoulli_right : MS := (mSeq (mAsg (gUnp 2 (gConsT (gSet 1) (gConsT (gSet 2) gNilT))) (eTup (eConsA (eOp pyAdd (eC (.int 1)) (eCall 2 F_law_roll (eConsA (eVar 0) (eConsA (eC (.int 24)) eNilA)))) (eConsA (eOp pyAdd (eC (.int 1)) (eCall 2 F_law_roll (eConsA (eVar 0) (eConsA (eC (.int 12)) eNilA)))) eNilA))))
    (mSeq (mAsg (gSet 3) (eLc (iArgs rng1 (eConsA (eOp pyAdd (eVar 1) (eC (.int 1))) eNilA)) (gSet 7) bYes l_law_bernoulli_right_0 [7]))
    (mSeq (mAsg (gSet 4) (eB (callF 1 F_law_sum) (eConsA (eLc (iArgs enumOf2 (eConsA (eVar 3) eNilA)) (gUnp 2 (gConsT (gSet 7) (gConsT (gSet 8) gNilT))) bYes l_law_bernoulli_right_1 [7, 8]) eNilA)))
    (mSeq (mIf (bOr (bOf (eOp (pyEq true) (eVar 4) (eTup (eConsA (eC (.int 0)) (eConsA (eC (.int 1)) eNilA))))) (bOf (eOp (pyEq true) (eSlice (eVar 3) none (some (eC (.int 2)))) (eLst (eConsA (eTup (eConsA (eC (.int 1)) (eConsA (eC (.int 1)) eNilA))) (eConsA (eTup (eConsA (eUn pyNeg (eC (.int 1))) (eConsA (eC (.int 2)) eNilA))) eNilA)))))) (mRet (eC (.bl false))) mNil)
    (mSeq (mAsg (gSet 5) (eB (one pySum2) (eConsA (eLc (iArgs rng2 (eConsA (eC (.int 1)) (eConsA (eVar 2) eNilA))) (gSet 14) bYes l_law_bernoulli_right_2 [14]) eNilA)))
    (mSeq (mAsg (gSet 6) (eNew eNilA))
    (mSeq (mFor (iArgs enumOf2 (eConsA (eVar 3) eNilA)) (gUnp 2 (gConsT (gSet 7) (gConsT (gSet 8) gNilT))) l_law_bernoulli_right_3)
    (mSeq (mIf (bOf (eOp (pyEq true) (eB (callF 2 F_law_over) (eConsA (eB (callF 1 F_law_sum) (eConsA (eVar 6) eNilA)) (eConsA (eTup (eConsA (eOp pyAdd (eVar 1) (eC (.int 1))) (eConsA (eC (.int 1)) eNilA))) eNilA))) (eTup (eConsA (eVar 5) (eConsA (eC (.int 1)) eNilA))))) (mRet (eC (.bl false))) mNil)
    (mSeq (mAsg (gSet 9) (eOp pyTimes (eC (.int 2)) (eOp pyAdd (eC (.int 1)) (eCall 2 F_law_roll (eConsA (eVar 0) (eConsA (eC (.int 30)) eNilA))))))
    (mSeq (mAsg (gUnp 2 (gConsT (gSet 10) (gConsT (gSet 11) gNilT))) (eB (callF 1 F_bernoulli) (eConsA (eVar 9) eNilA)))
    (mSeq (mAsg (gSet 12) (eC (.int 1)))
    (mSeq (mFor (iArgs rng2 (eConsA (eC (.int 2)) (eConsA (eOp pyAdd (eVar 9) (eC (.int 2))) eNilA))) (gSet 13) l_law_bernoulli_right_5)
    (mRet (eAnd (eOp (pyEq false) (eVar 11) (eVar 12)) (eAnd (eOp (pyEq false) (eOp pyGt (eVar 10) (eC (.int 0))) (eOp (pyEq false) (eOp pyMod (eB pyInt (eConsA (eOp pyFdiv (eVar 9) (eC (.int 2))) eNilA)) (eC (.int 2))) (eC (.int 1)))) (eOp (pyEq false) (eB (callF 1 F_bernoulli) (eConsA (eIf (bOf (eOp pyLt (eVar 9) (eC (.int 60)))) (eOp pyAdd (eVar 9) (eC (.int 1))) (eC (.int 59))) eNilA)) (eTup (eConsA (eC (.int 0)) (eConsA (eC (.int 1)) eNilA)))))))))))))))))))
def F_law_bernoulli_right : List CV → M CV := runB 1 15 b_law_bernoulli_right
theorem sc_law_bernoulli_right : FnScope ["dice", "most", "size", "told", "total", "whole", "lines", "at", "one", "even", "top", "bottom", "due", "prime", "step"] ["dice"] (defScope s_law_bernoulli_right) := ⟨rfl, rfl, rfl, by decide +kernel, rfl, by decide +kernel, by decide +kernel⟩
theorem bn_law_bernoulli_right (T : Txt K mg fa ca fd) : Binds K (fd 55) ["dice"] [] := T.f_law_bernoulli_right.binds fun _ _ _ _ _ _ us hl => match us, hl with | [_], _ => rfl
theorem ok_law_bernoulli_right (T : Txt K mg fa ca fd) : FnOk P w K mg base (L2.CX P w) 6 (fa 55) (fd 55) ["dice"] (spH (GG P w K fa ca) 1 F_law_bernoulli_right) :=
  have nd := sc_law_bernoulli_right.nd
  fnX (G := GG P w K fa ca) 1 15 (mb := b_law_bernoulli_right) (by rfl) T.f_law_bernoulli_right sc_law_bernoulli_right (by rfl) (by rfl) (by rfl) (by rfl) (by rfl) (by rfl) (by rfl) fun cdv A outer s H E hr B po =>
    (sss_cons (ss_asg (sg_unp rfl rfl (sgs_cons (sg_set (i := 1) nd rfl (.inr rfl)) (sgs_cons (sg_set (i := 2) nd rfl (.inl rfl)) sgs_nil))) (se_tup (sa_cons (se_op op_plus plus_ok se_int (se_call B (ok_law_roll T) (hr.mono (by decide)) (by rfl) T.d_law_roll T.f_law_roll.kp (bn_law_roll T) (sa_cons (se_var 0) (sa_cons se_int sa_nil)))) (sa_cons (se_op op_plus plus_ok se_int (se_call B (ok_law_roll T) (hr.mono (by decide)) (by rfl) T.d_law_roll T.f_law_roll.kp (bn_law_roll T) (sa_cons (se_var 0) (sa_cons se_int sa_nil)))) sa_nil))))
    (sss_cons (ss_setLc (i := 3) (own := [("at", 7)]) (g := (gName 7)) rfl nd rfl rfl (sw_true rfl rfl rfl (by decide +kernel)) (si_rng1 (by rfl) T.z_range (sa_cons (se_op op_plus plus_ok (se_var 1) se_int) sa_nil)) (blkOk_by (N := ["dice", "most", "size", "told", "total", "whole", "lines", "at", "one", "even", "top", "bottom", "due", "prime", "step"]) (sc := defScope s_law_bernoulli_right) (by decide +kernel)) (lcg_set (by decide)) (fun _ _ _ _ _ => (pg_name (i := 7) nd rfl (.inl rfl))) (fun _ _ _ _ _ => sts_nil) (fun _ _ _ _ _ => (se_callF ⟨by rfl, by rfl, by rfl, L2.takes0⟩ (by rfl) (by rfl) (ok_bernoulli T) (hr.mono (by decide)) (by rfl) T.d_bernoulli T.f_bernoulli.kp (bn_bernoulli T) (sa_cons (se_var 7) sa_nil))))
    (sss_cons (ss_asg (sg_set (i := 4) nd rfl (.inl rfl)) (se_callF B (by rfl) (by rfl) (ok_law_sum T) (hr.mono (by decide)) (by rfl) T.d_law_sum T.f_law_sum.kp (bn_law_sum T) (sa_cons (se_lc (own := [("at", 7), ("one", 8)]) (g := (gTup K 2 (gCons (gName 7) (gCons (gName 8) gNil)))) rfl nd (si_enum2 (by rfl) (by rfl) T.z_enumerate (sa_cons (se_var 3) sa_nil)) (blkOk_by (N := ["dice", "most", "size", "told", "total", "whole", "lines", "at", "one", "even", "top", "bottom", "due", "prime", "step"]) (sc := defScope s_law_bernoulli_right) (by decide +kernel)) (lcg_unp (lcg_cons (lcg_set (by decide)) (lcg_cons (lcg_set (by decide)) lcg_nil))) (fun _ _ _ _ _ => (pg_tup rfl (pgs_cons (pg_name (i := 7) nd rfl (.inl rfl)) (pgs_cons (pg_name (i := 8) nd rfl (.inl rfl)) pgs_nil)))) (fun _ _ _ _ _ => sts_nil) (fun _ _ _ _ _ => (se_callF ⟨by rfl, by rfl, by rfl, L2.takes0⟩ (by rfl) (by rfl) (ok_law_times T) (hr.mono (by decide)) (by rfl) T.d_law_times T.f_law_times.kp (bn_law_times T) (sa_cons (se_tup (sa_cons (se_callF ⟨by rfl, by rfl, by rfl, L2.takes0⟩ (by rfl) (by rfl) (ok_law_binomial T) (hr.mono (by decide)) (by rfl) T.d_law_binomial T.f_law_binomial.kp (bn_law_binomial T) (sa_cons (se_op op_plus plus_ok (se_var 1) se_int) (sa_cons (se_var 7) sa_nil))) (sa_cons se_int sa_nil))) (sa_cons (se_var 8) sa_nil))))) sa_nil)))
    (sss_cons (ss_if (st_bool (sw_or (st_cmp (op_neD hr.units) ne_ok (se_var 4) (se_tup (sa_cons se_int (sa_cons se_int sa_nil)))) (sw_or1 (st_cmp (op_neD hr.units) ne_ok (se_slice (by rfl) (se_var 3) so_none (so_some se_int)) (se_lst (sa_cons (se_tup (sa_cons se_int (sa_cons se_int sa_nil))) (sa_cons (se_tup (sa_cons (se_un un_neg neg_ok se_int) (sa_cons se_int sa_nil))) sa_nil))))))) (sss_one (ss_ret se_bl)) sss_nil)
    (sss_cons (ss_asg (sg_set (i := 5) nd rfl (.inl rfl)) (se_callB (cr_sum2 rfl) sum2_ok (by rfl) T.z_sum (by decide +kernel) (sa_cons (se_lc (own := [("step", 14)]) (g := (gName 14)) rfl nd (si_rng2 (by rfl) T.z_range (sa_cons se_int (sa_cons (se_var 2) sa_nil))) (blkOk_by (N := ["dice", "most", "size", "told", "total", "whole", "lines", "at", "one", "even", "top", "bottom", "due", "prime", "step"]) (sc := defScope s_law_bernoulli_right) (by decide +kernel)) (lcg_set (by decide)) (fun _ _ _ _ _ => (pg_name (i := 14) nd rfl (.inl rfl))) (fun _ _ _ _ _ => sts_nil) (fun _ _ _ _ _ => (se_callF ⟨by rfl, by rfl, by rfl, L2.takes0⟩ (by rfl) (by rfl) (ok_law_power T) (hr.mono (by decide)) (by rfl) T.d_law_power T.f_law_power.kp (bn_law_power T) (sa_cons (se_var 14) (sa_cons (se_var 1) sa_nil))))) sa_nil)))
    (sss_cons (ss_asg (sg_set (i := 6) nd rfl (.inl rfl)) (se_new sa_nil))
    (sss_cons (ss_for po rfl (si_enum2 (by rfl) (by rfl) T.z_enumerate (sa_cons (se_var 3) sa_nil)) (sg_unp rfl rfl (sgs_cons (sg_set (i := 7) nd rfl (.inl rfl)) (sgs_cons (sg_set (i := 8) nd rfl (.inl rfl)) sgs_nil))) (sss_one (ss_expr (se_mt isLis_ty PySem.F.plainAttrs_list PySem.F.slot_list_append PySem.F.type_list_append mt_append append_ok (se_var 6) (sa_cons (se_callF B (by rfl) (by rfl) (ok_law_times T) (hr.mono (by decide)) (by rfl) T.d_law_times T.f_law_times.kp (bn_law_times T) (sa_cons (se_tup (sa_cons (se_op op_timesS timesS_ok (se_callF B (by rfl) (by rfl) (ok_law_binomial T) (hr.mono (by decide)) (by rfl) T.d_law_binomial T.f_law_binomial.kp (bn_law_binomial T) (sa_cons (se_op op_plus plus_ok (se_var 1) se_int) (sa_cons (se_var 7) sa_nil))) (se_callF B (by rfl) (by rfl) (ok_law_power T) (hr.mono (by decide)) (by rfl) T.d_law_power T.f_law_power.kp (bn_law_power T) (sa_cons (se_var 2) (sa_cons (se_op op_sub sub_ok (se_op op_plus plus_ok (se_var 1) se_int) (se_var 7)) sa_nil)))) (sa_cons se_int sa_nil))) (sa_cons (se_var 8) sa_nil))) sa_nil)))))
    (sss_cons (ss_if (st_cmp (op_neD hr.units) ne_ok (se_callF B (by rfl) (by rfl) (ok_law_over T) (hr.mono (by decide)) (by rfl) T.d_law_over T.f_law_over.kp (bn_law_over T) (sa_cons (se_callF B (by rfl) (by rfl) (ok_law_sum T) (hr.mono (by decide)) (by rfl) T.d_law_sum T.f_law_sum.kp (bn_law_sum T) (sa_cons (se_var 6) sa_nil)) (sa_cons (se_tup (sa_cons (se_op op_plus plus_ok (se_var 1) se_int) (sa_cons se_int sa_nil))) sa_nil))) (se_tup (sa_cons (se_var 5) (sa_cons se_int sa_nil)))) (sss_one (ss_ret se_bl)) sss_nil)
    (sss_cons (ss_asg (sg_set (i := 9) nd rfl (.inl rfl)) (se_op op_timesS timesS_ok se_int (se_op op_plus plus_ok se_int (se_call B (ok_law_roll T) (hr.mono (by decide)) (by rfl) T.d_law_roll T.f_law_roll.kp (bn_law_roll T) (sa_cons (se_var 0) (sa_cons se_int sa_nil))))))
    (sss_cons (ss_asg (sg_unp rfl rfl (sgs_cons (sg_set (i := 10) nd rfl (.inl rfl)) (sgs_cons (sg_set (i := 11) nd rfl (.inl rfl)) sgs_nil))) (se_callF B (by rfl) (by rfl) (ok_bernoulli T) (hr.mono (by decide)) (by rfl) T.d_bernoulli T.f_bernoulli.kp (bn_bernoulli T) (sa_cons (se_var 9) sa_nil)))
    (sss_cons (ss_asg (sg_set (i := 12) nd rfl (.inl rfl)) se_int)
    (sss_cons (ss_for po rfl (si_rng2 (by rfl) T.z_range (sa_cons se_int (sa_cons (se_op op_plus plus_ok (se_var 9) se_int) sa_nil))) (sg_set (i := 13) nd rfl (.inr rfl)) (sss_one (ss_if (st_bool (sw_and (st_cmp (op_eqD hr.units) eq_ok (se_lc (own := [("step", 14)]) (g := (gName 14)) rfl nd (si_rng2 (by rfl) T.z_range (sa_cons se_int (sa_cons (se_var 13) sa_nil))) (blkOk_by (N := ["dice", "most", "size", "told", "total", "whole", "lines", "at", "one", "even", "top", "bottom", "due", "prime", "step"]) (sc := defScope s_law_bernoulli_right) (by decide +kernel)) (lcg_set (by decide)) (fun _ _ _ _ _ => (pg_name (i := 14) nd rfl (.inl rfl))) (fun _ _ _ _ _ => (sts_one (st_cmp (op_eqD hr.units) eq_ok (se_op op_modN mod_ok (se_callTy call_int1 int_ok (by rfl) T.z_int (by decide +kernel) (sa_cons (se_var 13) sa_nil)) (se_var 14)) se_int))) (fun _ _ _ _ _ => (se_var 14))) (se_lst sa_nil)) (sw_and1 (st_cmp (op_eqD hr.units) eq_ok (se_op op_modN mod_ok (se_callTy call_int1 int_ok (by rfl) T.z_int (by decide +kernel) (sa_cons (se_var 9) sa_nil)) (se_op op_sub sub_ok (se_var 13) se_int)) se_int)))) (sss_one (ss_asg (sg_set (i := 12) nd rfl (.inl rfl)) (se_op op_timesS timesS_ok (se_var 12) (se_var 13)))) sss_nil)))
    (sss_one (ss_ret (se_and (se_cmp (op_eqD hr.units) eq_ok (se_var 11) (se_var 12)) (se_and (se_cmp (op_eqD hr.units) eq_ok (se_cmp op_gt cmp_ok (se_var 10) se_int) (se_cmp (op_eqD hr.units) eq_ok (se_op op_modN mod_ok (se_callTy call_int1 int_ok (by rfl) T.z_int (by decide +kernel) (sa_cons (se_op op_fdivG fdiv_ok (se_var 9) se_int) sa_nil)) se_int) se_int)) (se_and1 (se_cmp (op_eqD hr.units) eq_ok (se_callF B (by rfl) (by rfl) (ok_bernoulli T) (hr.mono (by decide)) (by rfl) T.d_bernoulli T.f_bernoulli.kp (bn_bernoulli T) (sa_cons (se_if (st_cmp op_lt cmp_ok (se_var 9) se_int) (se_op op_plus plus_ok (se_var 9) se_int) se_int) sa_nil)) (se_tup (sa_cons se_int (sa_cons se_int sa_nil)))))))))))))))))))))
def l_law_judged_0 : Sl → M CV := (eVar 4)
def l_law_judged_1 : Sl → M CV := (eVar 4)
def l_law_judged_2 : Sl → M CV := (eVar 4)
def l_law_judged_3 : Sl → M CV := (eVar 5)
def l_law_judged_4 : Sl → M CV := (eVar 4)
def b_law_judged : MS := (mSeq (mAsg (gSet 0) (eLst (eConsA (eC (.int 0)) (eConsA (eUn pyNeg (eC (.int 5))) (eConsA (eOp pySub (eOp pyPow (eC (.int 10)) (eC (.int 60))) (eC (.int 1))) (eConsA (eOp pySub (eC (.int 1)) (eOp pyPow (eC (.int 10)) (eC (.int 60)))) eNilA))))))
    (mSeq (mAsg (gSet 1) (eLst (eConsA (eC .non) (eConsA (eC (.bl true)) (eConsA (eC (.str (Str.ofString "5"))) (eConsA (eTup (eConsA (eC (.int 5)) eNilA)) (eConsA (eOp pyPow (eC (.int 10)) (eC (.int 60))) (eConsA (eOp pySub (eC (.int 0)) (eOp pyPow (eC (.int 10)) (eC (.int 60)))) (eConsA (eLst (eConsA (eC (.int 5)) eNilA)) (eConsA (eC (.dic false [] [])) (eConsA (eTup (eConsA (eC (.int 2)) (eConsA (eC (.int 4)) eNilA))) (eConsA (eTup (eConsA (eC (.int 0)) (eConsA (eC (.int 2)) eNilA))) (eConsA (eTup (eConsA (eC (.int 1)) (eConsA (eUn pyNeg (eC (.int 2))) eNilA))) (eConsA (eTup (eConsA (eC (.int 1)) (eConsA (eC (.int 0)) eNilA))) (eConsA (eTup (eConsA (eC (.int 1)) (eConsA (eC (.int 2)) (eConsA (eC (.int 3)) eNilA)))) (eConsA (eTup (eConsA (eC (.bl true)) (eConsA (eC (.int 2)) eNilA))) (eConsA (eTup (eConsA (eC (.str (Str.ofString "1"))) (eConsA (eC (.int 2)) eNilA))) eNilA)))))))))))))))))
    (mSeq (mIf (bOf (eOp (pyEq true) (eLc (iSeq (eVar 0)) (gSet 4) (bOr (bNot (bOf (eB (callF 1 F_is_integer) (eConsA (eVar 4) eNilA)))) (bOr (bNot (bOf (eB (callF 1 F_is_number) (eConsA (eVar 4) eNilA)))) (bOf (eB (callF 1 F_is_fraction) (eConsA (eVar 4) eNilA))))) l_law_judged_0 [4]) (eLst eNilA))) (mRet (eC (.bl false))) mNil)
    (mSeq (mIf (bOf (eOp (pyEq true) (eLc (iSeq (eVar 1)) (gSet 4) (bOr (bOf (eB (callF 1 F_is_integer) (eConsA (eVar 4) eNilA))) (bOr (bOf (eB (callF 1 F_is_number) (eConsA (eVar 4) eNilA))) (bOf (eB (callF 1 F_is_fraction) (eConsA (eVar 4) eNilA))))) l_law_judged_1 [4]) (eLst eNilA))) (mRet (eC (.bl false))) mNil)
    (mSeq (mAsg (gSet 2) (eLst (eConsA (eTup (eConsA (eC (.int 0)) (eConsA (eC (.int 1)) eNilA))) (eConsA (eTup (eConsA (eC (.int 1)) (eConsA (eC (.int 2)) eNilA))) (eConsA (eTup (eConsA (eUn pyNeg (eC (.int 3))) (eConsA (eC (.int 2)) eNilA))) (eConsA (eTup (eConsA (eOp pyTimes (eOp pyPow (eC (.int 10)) (eC (.int 60))) (eOp pyPow (eC (.int 10)) (eC (.int 21)))) (eConsA (eC (.int 7)) eNilA))) (eConsA (eTup (eConsA (eC (.int 11)) (eConsA (eOp pyTimes (eOp pyPow (eC (.int 10)) (eC (.int 60))) (eOp pyPow (eC (.int 10)) (eC (.int 9)))) eNilA))) (eConsA (eTup (eConsA (eOp pyPow (eC (.int 10)) (eC (.int 60))) (eConsA (eC (.int 1)) eNilA))) eNilA))))))))
    (mSeq (mIf (bOf (eOp (pyEq true) (eLc (iSeq (eVar 2)) (gSet 4) (bOr (bNot (bOf (eB (callF 1 F_is_fraction) (eConsA (eVar 4) eNilA)))) (bOr (bNot (bOf (eB (callF 1 F_is_number) (eConsA (eVar 4) eNilA)))) (bOf (eB (callF 1 F_is_integer) (eConsA (eVar 4) eNilA))))) l_law_judged_2 [4]) (eLst eNilA))) (mRet (eC (.bl false))) mNil)
    (mSeq (mAsg (gSet 3) (eLst (eConsA (eC (.str (Str.ofString ""))) (eConsA (eC (.str (Str.ofString "abcdefghi"))) (eConsA (eC (.str (Str.ofString "A"))) (eConsA (eC (.str (Str.ofString "a1"))) (eConsA (eC (.str (Str.ofString "a b"))) (eConsA (eC .non) (eConsA (eC (.int 5)) (eConsA (eTup (eConsA (eC (.str (Str.ofString "a"))) eNilA)) (eConsA (eLst (eConsA (eC (.str (Str.ofString "a"))) eNilA)) (eConsA (eC (.str (Str.ofString "a_"))) (eConsA (eC (.bl true)) eNilA)))))))))))))
    (mSeq (mIf (bOf (eOp (pyEq true) (eLc (iSeq (eLst (eConsA (eC (.str (Str.ofString "a"))) (eConsA (eC (.str (Str.ofString "zz"))) (eConsA (eC (.str (Str.ofString "abcdefgh"))) eNilA))))) (gSet 5) (bNot (bOf (eB (callF 1 F_is_name) (eConsA (eVar 5) eNilA)))) l_law_judged_3 [5]) (eLst eNilA))) (mRet (eC (.bl false))) mNil)
    (mRet (eOp (pyEq false) (eLc (iSeq (eVar 3)) (gSet 4) (bOf (eB (callF 1 F_is_name) (eConsA (eVar 4) eNilA))) l_law_judged_4 [4]) (eLst eNilA)))))))))))
def F_law_judged : List CV → M CV := runB 0 6 b_law_judged
theorem sc_law_judged : FnScope ["good", "odd", "pairs", "wrong", "value", "name"] [] (defScope s_law_judged) := ⟨rfl, rfl, rfl, by decide +kernel, rfl, by decide +kernel, by decide +kernel⟩
theorem bn_law_judged (T : Txt K mg fa ca fd) : Binds K (fd 56) [] [] := T.f_law_judged.binds fun _ _ _ _ _ _ us hl => match us, hl with | [], _ => rfl
theorem ok_law_judged (T : Txt K mg fa ca fd) : FnOk P w K mg base (L2.CX P w) 4 (fa 56) (fd 56) [] (spH (GG P w K fa ca) 0 F_law_judged) :=
  have nd := sc_law_judged.nd
  fnX (G := GG P w K fa ca) 0 6 (mb := b_law_judged) (by rfl) T.f_law_judged sc_law_judged (by rfl) (by rfl) (by rfl) (by rfl) (by rfl) (by rfl) (by rfl) fun cdv A outer s H E hr B po =>
    (sss_cons (ss_asg (sg_set (i := 0) nd rfl (.inl rfl)) (se_lst (sa_cons se_int (sa_cons (se_un un_neg neg_ok se_int) (sa_cons (se_op op_sub sub_ok (se_op op_pow pow_ok se_int se_int) se_int) (sa_cons (se_op op_sub sub_ok se_int (se_op op_pow pow_ok se_int se_int)) sa_nil))))))
    (sss_cons (ss_asg (sg_set (i := 1) nd rfl (.inl rfl)) (se_lst (sa_cons se_non (sa_cons se_bl (sa_cons se_str (sa_cons (se_tup (sa_cons se_int sa_nil)) (sa_cons (se_op op_pow pow_ok se_int se_int) (sa_cons (se_op op_sub sub_ok se_int (se_op op_pow pow_ok se_int se_int)) (sa_cons (se_lst (sa_cons se_int sa_nil)) (sa_cons se_dict0 (sa_cons (se_tup (sa_cons se_int (sa_cons se_int sa_nil))) (sa_cons (se_tup (sa_cons se_int (sa_cons se_int sa_nil))) (sa_cons (se_tup (sa_cons se_int (sa_cons (se_un un_neg neg_ok se_int) sa_nil))) (sa_cons (se_tup (sa_cons se_int (sa_cons se_int sa_nil))) (sa_cons (se_tup (sa_cons se_int (sa_cons se_int (sa_cons se_int sa_nil)))) (sa_cons (se_tup (sa_cons se_bl (sa_cons se_int sa_nil))) (sa_cons (se_tup (sa_cons se_str (sa_cons se_int sa_nil))) sa_nil)))))))))))))))))
    (sss_cons (ss_if (st_cmp (op_neD hr.units) ne_ok (se_lc (own := [("value", 4)]) (g := (gName 4)) rfl nd (si_seq (by rfl) (se_var 0)) (blkOk_by (N := ["good", "odd", "pairs", "wrong", "value", "name"]) (sc := defScope s_law_judged) (by decide +kernel)) (lcg_set (by decide)) (fun _ _ _ _ _ => (pg_name (i := 4) nd rfl (.inl rfl))) (fun _ _ _ _ _ => (sts_one (st_bool (sw_or (st_not (st_val (se_callF ⟨by rfl, by rfl, by rfl, L2.takes0⟩ (by rfl) (by rfl) (ok_is_integer T) (hr.mono (by decide)) (by rfl) T.d_is_integer T.f_is_integer.kp (bn_is_integer T) (sa_cons (se_var 4) sa_nil)))) (sw_or (st_not (st_val (se_callF ⟨by rfl, by rfl, by rfl, L2.takes0⟩ (by rfl) (by rfl) (ok_is_number T) (hr.mono (by decide)) (by rfl) T.d_is_number T.f_is_number.kp (bn_is_number T) (sa_cons (se_var 4) sa_nil)))) (sw_or1 (st_val (se_callF ⟨by rfl, by rfl, by rfl, L2.takes0⟩ (by rfl) (by rfl) (ok_is_fraction T) (hr.mono (by decide)) (by rfl) T.d_is_fraction T.f_is_fraction.kp (bn_is_fraction T) (sa_cons (se_var 4) sa_nil))))))))) (fun _ _ _ _ _ => (se_var 4))) (se_lst sa_nil)) (sss_one (ss_ret se_bl)) sss_nil)
    (sss_cons (ss_if (st_cmp (op_neD hr.units) ne_ok (se_lc (own := [("value", 4)]) (g := (gName 4)) rfl nd (si_seq (by rfl) (se_var 1)) (blkOk_by (N := ["good", "odd", "pairs", "wrong", "value", "name"]) (sc := defScope s_law_judged) (by decide +kernel)) (lcg_set (by decide)) (fun _ _ _ _ _ => (pg_name (i := 4) nd rfl (.inl rfl))) (fun _ _ _ _ _ => (sts_one (st_bool (sw_or (st_val (se_callF ⟨by rfl, by rfl, by rfl, L2.takes0⟩ (by rfl) (by rfl) (ok_is_integer T) (hr.mono (by decide)) (by rfl) T.d_is_integer T.f_is_integer.kp (bn_is_integer T) (sa_cons (se_var 4) sa_nil))) (sw_or (st_val (se_callF ⟨by rfl, by rfl, by rfl, L2.takes0⟩ (by rfl) (by rfl) (ok_is_number T) (hr.mono (by decide)) (by rfl) T.d_is_number T.f_is_number.kp (bn_is_number T) (sa_cons (se_var 4) sa_nil))) (sw_or1 (st_val (se_callF ⟨by rfl, by rfl, by rfl, L2.takes0⟩ (by rfl) (by rfl) (ok_is_fraction T) (hr.mono (by decide)) (by rfl) T.d_is_fraction T.f_is_fraction.kp (bn_is_fraction T) (sa_cons (se_var 4) sa_nil))))))))) (fun _ _ _ _ _ => (se_var 4))) (se_lst sa_nil)) (sss_one (ss_ret se_bl)) sss_nil)
    (sss_cons (ss_asg (sg_set (i := 2) nd rfl (.inl rfl)) (se_lst (sa_cons (se_tup (sa_cons se_int (sa_cons se_int sa_nil))) (sa_cons (se_tup (sa_cons se_int (sa_cons se_int sa_nil))) (sa_cons (se_tup (sa_cons (se_un un_neg neg_ok se_int) (sa_cons se_int sa_nil))) (sa_cons (se_tup (sa_cons (se_op op_timesS timesS_ok (se_op op_pow pow_ok se_int se_int) (se_op op_pow pow_ok se_int se_int)) (sa_cons se_int sa_nil))) (sa_cons (se_tup (sa_cons se_int (sa_cons (se_op op_timesS timesS_ok (se_op op_pow pow_ok se_int se_int) (se_op op_pow pow_ok se_int se_int)) sa_nil))) (sa_cons (se_tup (sa_cons (se_op op_pow pow_ok se_int se_int) (sa_cons se_int sa_nil))) sa_nil))))))))
    (sss_cons (ss_if (st_cmp (op_neD hr.units) ne_ok (se_lc (own := [("value", 4)]) (g := (gName 4)) rfl nd (si_seq (by rfl) (se_var 2)) (blkOk_by (N := ["good", "odd", "pairs", "wrong", "value", "name"]) (sc := defScope s_law_judged) (by decide +kernel)) (lcg_set (by decide)) (fun _ _ _ _ _ => (pg_name (i := 4) nd rfl (.inl rfl))) (fun _ _ _ _ _ => (sts_one (st_bool (sw_or (st_not (st_val (se_callF ⟨by rfl, by rfl, by rfl, L2.takes0⟩ (by rfl) (by rfl) (ok_is_fraction T) (hr.mono (by decide)) (by rfl) T.d_is_fraction T.f_is_fraction.kp (bn_is_fraction T) (sa_cons (se_var 4) sa_nil)))) (sw_or (st_not (st_val (se_callF ⟨by rfl, by rfl, by rfl, L2.takes0⟩ (by rfl) (by rfl) (ok_is_number T) (hr.mono (by decide)) (by rfl) T.d_is_number T.f_is_number.kp (bn_is_number T) (sa_cons (se_var 4) sa_nil)))) (sw_or1 (st_val (se_callF ⟨by rfl, by rfl, by rfl, L2.takes0⟩ (by rfl) (by rfl) (ok_is_integer T) (hr.mono (by decide)) (by rfl) T.d_is_integer T.f_is_integer.kp (bn_is_integer T) (sa_cons (se_var 4) sa_nil))))))))) (fun _ _ _ _ _ => (se_var 4))) (se_lst sa_nil)) (sss_one (ss_ret se_bl)) sss_nil)
    (sss_cons (ss_asg (sg_set (i := 3) nd rfl (.inl rfl)) (se_lst (sa_cons se_str (sa_cons se_str (sa_cons se_str (sa_cons se_str (sa_cons se_str (sa_cons se_non (sa_cons se_int (sa_cons (se_tup (sa_cons se_str sa_nil)) (sa_cons (se_lst (sa_cons se_str sa_nil)) (sa_cons se_str (sa_cons se_bl sa_nil)))))))))))))
    (sss_cons (ss_if (st_cmp (op_neD hr.units) ne_ok (se_lc (own := [("name", 5)]) (g := (gName 5)) rfl nd (si_seq (by rfl) (se_lst (sa_cons se_str (sa_cons se_str (sa_cons se_str sa_nil))))) (blkOk_by (N := ["good", "odd", "pairs", "wrong", "value", "name"]) (sc := defScope s_law_judged) (by decide +kernel)) (lcg_set (by decide)) (fun _ _ _ _ _ => (pg_name (i := 5) nd rfl (.inl rfl))) (fun _ _ _ _ _ => (sts_one (st_not (st_val (se_callF ⟨by rfl, by rfl, by rfl, L2.takes0⟩ (by rfl) (by rfl) (ok_is_name T) (hr.mono (by decide)) (by rfl) T.d_is_name T.f_is_name.kp (bn_is_name T) (sa_cons (se_var 5) sa_nil)))))) (fun _ _ _ _ _ => (se_var 5))) (se_lst sa_nil)) (sss_one (ss_ret se_bl)) sss_nil)
    (sss_one (ss_ret (se_cmp (op_eqD hr.units) eq_ok (se_lc (own := [("value", 4)]) (g := (gName 4)) rfl nd (si_seq (by rfl) (se_var 3)) (blkOk_by (N := ["good", "odd", "pairs", "wrong", "value", "name"]) (sc := defScope s_law_judged) (by decide +kernel)) (lcg_set (by decide)) (fun _ _ _ _ _ => (pg_name (i := 4) nd rfl (.inl rfl))) (fun _ _ _ _ _ => (sts_one (st_val (se_callF ⟨by rfl, by rfl, by rfl, L2.takes0⟩ (by rfl) (by rfl) (ok_is_name T) (hr.mono (by decide)) (by rfl) T.d_is_name T.f_is_name.kp (bn_is_name T) (sa_cons (se_var 4) sa_nil))))) (fun _ _ _ _ _ => (se_var 4))) (se_lst sa_nil))))))))))))
def l_law_0 : MS := (mSeq (mAsg (gSet 2) (eCall 2 F_law_dice (eConsA (eVar 0) (eConsA (eVar 1) eNilA))))
    (mSeq (mIf (bOr (bNot (bOf (eCall 1 F_law_sums_right (eConsA (eVar 2) eNilA)))) (bOr (bNot (bOf (eCall 1 F_law_powers_right (eConsA (eVar 2) eNilA)))) (bNot (bOf (eCall 1 F_law_products_right (eConsA (eVar 2) eNilA)))))) (mRet (eC (.bl false))) mNil)
    (mIf (bNot (bOf (eCall 1 F_law_bernoulli_right (eConsA (eVar 2) eNilA)))) (mRet (eC (.bl false))) mNil)))
def b_law : MS := (mSeq (mFor (iArgs rng1 (eConsA (eB pyMax (eConsA (eC (.int 1)) (eConsA (eB pyMin (eConsA (eC (.int 3)) (eConsA (eB pyLen (eConsA (eVar 0) eNilA)) eNilA))) eNilA))) eNilA)) (gSet 1) l_law_0)
    (mSeq (mAsg (gSet 3) (eLst (eConsA (eB (callF 2 F_fraction) (eConsA (eC (.int 6)) (eConsA (eUn pyNeg (eC (.int 4))) eNilA))) (eConsA (eB (callF 2 F_added) (eConsA (eTup (eConsA (eC (.int 1)) (eConsA (eC (.int 2)) eNilA))) (eConsA (eTup (eConsA (eC (.int 1)) (eConsA (eC (.int 3)) eNilA))) eNilA))) (eConsA (eB (callF 2 F_less) (eConsA (eC (.int 1)) (eConsA (eTup (eConsA (eC (.int 1)) (eConsA (eC (.int 4)) eNilA))) eNilA))) (eConsA (eB (callF 2 F_multiplied) (eConsA (eC (.int 6)) (eConsA (eTup (eConsA (eC (.int 1)) (eConsA (eC (.int 4)) eNilA))) eNilA))) (eConsA (eB (callF 2 F_divided) (eConsA (eTup (eConsA (eC (.int 1)) (eConsA (eC (.int 2)) eNilA))) (eConsA (eUn pyNeg (eC (.int 3))) eNilA))) eNilA)))))))
    (mSeq (mIf (bOr (bOf (eOp (pyEq true) (eVar 3) (eLst (eConsA (eTup (eConsA (eUn pyNeg (eC (.int 3))) (eConsA (eC (.int 2)) eNilA))) (eConsA (eTup (eConsA (eC (.int 5)) (eConsA (eC (.int 6)) eNilA))) (eConsA (eTup (eConsA (eC (.int 3)) (eConsA (eC (.int 4)) eNilA))) (eConsA (eTup (eConsA (eC (.int 3)) (eConsA (eC (.int 2)) eNilA))) (eConsA (eTup (eConsA (eUn pyNeg (eC (.int 1))) (eConsA (eC (.int 6)) eNilA))) eNilA)))))))) (bOf (eOp (pyEq true) (eLst (eConsA (eB (callF 2 F_power_of) (eConsA (eTup (eConsA (eUn pyNeg (eC (.int 2))) (eConsA (eC (.int 3)) eNilA))) (eConsA (eUn pyNeg (eC (.int 3))) eNilA))) (eConsA (eB (callF 2 F_power_of) (eConsA (eC (.int 0)) (eConsA (eC (.int 0)) eNilA))) eNilA))) (eLst (eConsA (eTup (eConsA (eUn pyNeg (eC (.int 27))) (eConsA (eC (.int 8)) eNilA))) (eConsA (eTup (eConsA (eC (.int 1)) (eConsA (eC (.int 1)) eNilA))) eNilA)))))) (mRet (eC (.bl false))) mNil)
    (mSeq (mIf (bOf (eOp (pyEq true) (eLst (eConsA (eB (callF 1 F_floor_of) (eConsA (eTup (eConsA (eUn pyNeg (eC (.int 3))) (eConsA (eC (.int 2)) eNilA))) eNilA)) (eConsA (eB (callF 2 F_compared) (eConsA (eTup (eConsA (eC (.int 1)) (eConsA (eC (.int 3)) eNilA))) (eConsA (eTup (eConsA (eC (.int 2)) (eConsA (eC (.int 7)) eNilA))) eNilA))) (eConsA (eB (callF 1 F_odd_product) (eConsA (eC (.int 7)) eNilA)) (eConsA (eB (callF 1 F_odd_product) (eConsA (eUn pyNeg (eC (.int 1))) eNilA)) (eConsA (eB (callF 2 F_binomial) (eConsA (eC (.int 2)) (eConsA (eC (.int 3)) eNilA))) eNilA)))))) (eLst (eConsA (eUn pyNeg (eC (.int 2))) (eConsA (eC (.int 1)) (eConsA (eC (.int 105)) (eConsA (eC (.int 1)) (eConsA (eC (.int 0)) eNilA)))))))) (mRet (eC (.bl false))) mNil)
    (mRet (eAnd (eOp (pyEq false) (eLst (eConsA (eB (callF 1 F_bernoulli) (eConsA (eC (.int 12)) eNilA)) (eConsA (eB (callF 1 F_number_of_text) (eConsA (eC (.str (Str.ofString "-3/2"))) eNilA)) (eConsA (eB (callF 1 F_number_text) (eConsA (eTup (eConsA (eC (.int 4)) (eConsA (eC (.int 1)) eNilA))) eNilA)) eNilA)))) (eLst (eConsA (eTup (eConsA (eUn pyNeg (eC (.int 691))) (eConsA (eC (.int 2730)) eNilA))) (eConsA (eTup (eConsA (eUn pyNeg (eC (.int 3))) (eConsA (eC (.int 2)) eNilA))) (eConsA (eC (.str (Str.ofString "4"))) eNilA))))) (eB (callF 0 F_law_judged) eNilA)))))))
def F_law : List CV → M CV := runB 1 4 b_law
theorem sc_law : FnScope ["script", "spot", "dice", "told"] ["script"] (defScope s_law) := ⟨rfl, rfl, rfl, by decide +kernel, rfl, by decide +kernel, by decide +kernel⟩
theorem bn_law (T : Txt K mg fa ca fd) : Binds K (fd 57) ["script"] [] := T.f_law.binds fun _ _ _ _ _ _ us hl => match us, hl with | [_], _ => rfl
theorem ok_law (T : Txt K mg fa ca fd) : FnOk P w K mg base (L2.CX P w) 8 (fa 57) (fd 57) ["script"] (spH (GG P w K fa ca) 1 F_law) :=
  have nd := sc_law.nd
  fnX (G := GG P w K fa ca) 1 4 (mb := b_law) (by rfl) T.f_law sc_law (by rfl) (by rfl) (by rfl) (by rfl) (by rfl) (by rfl) (by rfl) fun cdv A outer s H E hr B po =>
    (sss_cons (ss_for po rfl (si_rng1 (by rfl) T.z_range (sa_cons (se_callB (call_max2 rfl) max_ok (by rfl) T.z_max (by decide +kernel) (sa_cons se_int (sa_cons (se_callB (call_min2 rfl) min_ok (by rfl) T.z_min (by decide +kernel) (sa_cons se_int (sa_cons (se_callB call_len len_ok (by rfl) T.z_len (by decide +kernel) (sa_cons (se_var 0) sa_nil)) sa_nil))) sa_nil))) sa_nil)) (sg_set (i := 1) nd rfl (.inl rfl)) (sss_cons (ss_asg (sg_set (i := 2) nd rfl (.inl rfl)) (se_call B (ok_law_dice T) (hr.mono (by decide)) (by rfl) T.d_law_dice T.f_law_dice.kp (bn_law_dice T) (sa_cons (se_var 0) (sa_cons (se_var 1) sa_nil))))
    (sss_cons (ss_if (st_bool (sw_or (st_not (st_val (se_call B (ok_law_sums_right T) (hr.mono (by decide)) (by rfl) T.d_law_sums_right T.f_law_sums_right.kp (bn_law_sums_right T) (sa_cons (se_var 2) sa_nil)))) (sw_or (st_not (st_val (se_call B (ok_law_powers_right T) (hr.mono (by decide)) (by rfl) T.d_law_powers_right T.f_law_powers_right.kp (bn_law_powers_right T) (sa_cons (se_var 2) sa_nil)))) (sw_or1 (st_not (st_val (se_call B (ok_law_products_right T) (hr.mono (by decide)) (by rfl) T.d_law_products_right T.f_law_products_right.kp (bn_law_products_right T) (sa_cons (se_var 2) sa_nil)))))))) (sss_one (ss_ret se_bl)) sss_nil)
    (sss_one (ss_if (st_not (st_val (se_call B (ok_law_bernoulli_right T) (hr.mono (by decide)) (by rfl) T.d_law_bernoulli_right T.f_law_bernoulli_right.kp (bn_law_bernoulli_right T) (sa_cons (se_var 2) sa_nil)))) (sss_one (ss_ret se_bl)) sss_nil)))))
    (sss_cons (ss_asg (sg_set (i := 3) nd rfl (.inl rfl)) (se_lst (sa_cons (se_callF B (by rfl) (by rfl) (ok_fraction T) (hr.mono (by decide)) (by rfl) T.d_fraction T.f_fraction.kp (bn_fraction T) (sa_cons se_int (sa_cons (se_un un_neg neg_ok se_int) sa_nil))) (sa_cons (se_callF B (by rfl) (by rfl) (ok_added T) (hr.mono (by decide)) (by rfl) T.d_added T.f_added.kp (bn_added T) (sa_cons (se_tup (sa_cons se_int (sa_cons se_int sa_nil))) (sa_cons (se_tup (sa_cons se_int (sa_cons se_int sa_nil))) sa_nil))) (sa_cons (se_callF B (by rfl) (by rfl) (ok_less T) (hr.mono (by decide)) (by rfl) T.d_less T.f_less.kp (bn_less T) (sa_cons se_int (sa_cons (se_tup (sa_cons se_int (sa_cons se_int sa_nil))) sa_nil))) (sa_cons (se_callF B (by rfl) (by rfl) (ok_multiplied T) (hr.mono (by decide)) (by rfl) T.d_multiplied T.f_multiplied.kp (bn_multiplied T) (sa_cons se_int (sa_cons (se_tup (sa_cons se_int (sa_cons se_int sa_nil))) sa_nil))) (sa_cons (se_callF B (by rfl) (by rfl) (ok_divided T) (hr.mono (by decide)) (by rfl) T.d_divided T.f_divided.kp (bn_divided T) (sa_cons (se_tup (sa_cons se_int (sa_cons se_int sa_nil))) (sa_cons (se_un un_neg neg_ok se_int) sa_nil))) sa_nil)))))))
    (sss_cons (ss_if (st_bool (sw_or (st_cmp (op_neD hr.units) ne_ok (se_var 3) (se_lst (sa_cons (se_tup (sa_cons (se_un un_neg neg_ok se_int) (sa_cons se_int sa_nil))) (sa_cons (se_tup (sa_cons se_int (sa_cons se_int sa_nil))) (sa_cons (se_tup (sa_cons se_int (sa_cons se_int sa_nil))) (sa_cons (se_tup (sa_cons se_int (sa_cons se_int sa_nil))) (sa_cons (se_tup (sa_cons (se_un un_neg neg_ok se_int) (sa_cons se_int sa_nil))) sa_nil))))))) (sw_or1 (st_cmp (op_neD hr.units) ne_ok (se_lst (sa_cons (se_callF B (by rfl) (by rfl) (ok_power_of T) (hr.mono (by decide)) (by rfl) T.d_power_of T.f_power_of.kp (bn_power_of T) (sa_cons (se_tup (sa_cons (se_un un_neg neg_ok se_int) (sa_cons se_int sa_nil))) (sa_cons (se_un un_neg neg_ok se_int) sa_nil))) (sa_cons (se_callF B (by rfl) (by rfl) (ok_power_of T) (hr.mono (by decide)) (by rfl) T.d_power_of T.f_power_of.kp (bn_power_of T) (sa_cons se_int (sa_cons se_int sa_nil))) sa_nil))) (se_lst (sa_cons (se_tup (sa_cons (se_un un_neg neg_ok se_int) (sa_cons se_int sa_nil))) (sa_cons (se_tup (sa_cons se_int (sa_cons se_int sa_nil))) sa_nil))))))) (sss_one (ss_ret se_bl)) sss_nil)
    (sss_cons (ss_if (st_cmp (op_neD hr.units) ne_ok (se_lst (sa_cons (se_callF B (by rfl) (by rfl) (ok_floor_of T) (hr.mono (by decide)) (by rfl) T.d_floor_of T.f_floor_of.kp (bn_floor_of T) (sa_cons (se_tup (sa_cons (se_un un_neg neg_ok se_int) (sa_cons se_int sa_nil))) sa_nil)) (sa_cons (se_callF B (by rfl) (by rfl) (ok_compared T) (hr.mono (by decide)) (by rfl) T.d_compared T.f_compared.kp (bn_compared T) (sa_cons (se_tup (sa_cons se_int (sa_cons se_int sa_nil))) (sa_cons (se_tup (sa_cons se_int (sa_cons se_int sa_nil))) sa_nil))) (sa_cons (se_callF B (by rfl) (by rfl) (ok_odd_product T) (hr.mono (by decide)) (by rfl) T.d_odd_product T.f_odd_product.kp (bn_odd_product T) (sa_cons se_int sa_nil)) (sa_cons (se_callF B (by rfl) (by rfl) (ok_odd_product T) (hr.mono (by decide)) (by rfl) T.d_odd_product T.f_odd_product.kp (bn_odd_product T) (sa_cons (se_un un_neg neg_ok se_int) sa_nil)) (sa_cons (se_callF B (by rfl) (by rfl) (ok_binomial T) (hr.mono (by decide)) (by rfl) T.d_binomial T.f_binomial.kp (bn_binomial T) (sa_cons se_int (sa_cons se_int sa_nil))) sa_nil)))))) (se_lst (sa_cons (se_un un_neg neg_ok se_int) (sa_cons se_int (sa_cons se_int (sa_cons se_int (sa_cons se_int sa_nil))))))) (sss_one (ss_ret se_bl)) sss_nil)
    (sss_one (ss_ret (se_and (se_cmp (op_eqD hr.units) eq_ok (se_lst (sa_cons (se_callF B (by rfl) (by rfl) (ok_bernoulli T) (hr.mono (by decide)) (by rfl) T.d_bernoulli T.f_bernoulli.kp (bn_bernoulli T) (sa_cons se_int sa_nil)) (sa_cons (se_callF B (by rfl) (by rfl) (ok_number_of_text T) (hr.mono (by decide)) (by rfl) T.d_number_of_text T.f_number_of_text.kp (bn_number_of_text T) (sa_cons se_str sa_nil)) (sa_cons (se_callF B (by rfl) (by rfl) (ok_number_text T) (hr.mono (by decide)) (by rfl) T.d_number_text T.f_number_text.kp (bn_number_text T) (sa_cons (se_tup (sa_cons se_int (sa_cons se_int sa_nil))) sa_nil)) sa_nil)))) (se_lst (sa_cons (se_tup (sa_cons (se_un un_neg neg_ok se_int) (sa_cons se_int sa_nil))) (sa_cons (se_tup (sa_cons (se_un un_neg neg_ok se_int) (sa_cons se_int sa_nil))) (sa_cons se_str sa_nil))))) (se_and1 (se_callF0 B (by rfl) (by rfl) (ok_law_judged T) (hr.mono (by decide)) (by rfl) T.d_law_judged T.f_law_judged.kp (bn_law_judged T))))))))))
end
end Lw
end
namespace Lw
open PySem PySem.Spec PyProof.Rows L2 VE
end Lw
noncomputable section
namespace Lw
open PySem VE
set_option exponentiation.threshold 500000
/-- the dice at l: three ints -/
def Dice (h : Mem) (l : Nat) (a b c : Int) : Prop := h[l]? = some (.lst [.int a, .int b, .int c])
theorem roll1 {h : Mem} {l : Nat} {a b c t : Int} (d : Dice h l a b c) (ha : 0 < a) (ht : 0 < t) (ht2 : t.natAbs ≤ 2 ^ 200) :
    F_law_roll [.ref l, .int t] h = .ok (.int (a.fmod t)) (h.set l (.lst [.int (a.fdiv t), .int b, .int c])) := by
  unfold Dice at d
  have e1 : fitD t = true := Nat.ble_eq.mpr (Nat.le_trans ht2 (Nat.pow_le_pow_right (by decide) (by decide)))
  have e2 : t ≠ 0 := by omega
  unfold F_law_roll
  rw [runB_eq]
  unfold b_law_roll startC
  simp [rd_pyTimes, rd_mSeq, rd_mIf, rd_bOf, rd_bNot, rd_bOr, rd_bAnd, rd_eIf, rd_eAnd, rd_eNot, rd_eOp, rd_eUn, rd_eVar, rd_eC, rd_ret, rd_stuck, rd_isB, rd_mAsg, rd_eB, rd_eConsA, rd_eNilA, rd_gSet, rd_mRet, rd_mRetN, rd_mNil, rd_mExpr, rd_mAug, rd_eCall, rd_iArgs, rd_mFor, rd_memAt, rd_eNew, rd_bnd, pyIx, seqOf, rd_pyAtN, rd_pyAt0, rd_pyAt1, rd_pyAt2, rd_pyAt3, rd_pyAt4, rd_pyAtM, pyCmp, pyInt, pyMod, pyFdiv, pyAdd, pySub, pyMul, pyNeg, VE.pyLen, gSub, L2.ixN, frV_eq, sset_eq, sapp_eq, frN_eq, frLs_eq, endB, turn, d, ha, e1, e2]
def rollTwo (b c : Int) : Int := (((b + 99990067 * c).fmod 2305843009213693381 * (b + 99990067 * c).fmod 2305843009213693381 + 89 * c).fmod 2305843009213693343) * 8675309 + (b + 99990067 * c).fmod 2305843009213693381
theorem roll2 {h : Mem} {l : Nat} {a b c t : Int} (d : Dice h l a b c) (ha : ¬ 0 < a) (ht : 0 < t) (hc : (c + 1).natAbs ≤ 2 ^ 100) :
    F_law_roll [.ref l, .int t] h = .ok (.int (((rollTwo b (c + 1)).fdiv 65551).fmod t)) (h.set l (.lst [.int a, .int b, .int (c + 1)])) := by
  unfold Dice at d
  have hl := (List.getElem?_eq_some_iff.mp d).1
  have e2 : t ≠ 0 := by omega
  have f1 : fit (c + 1) = true := fit_of 100 hc (by decide)
  have f2 : fit 99990067 = true := by decide +kernel
  have f3 : fit 89 = true := by decide +kernel
  have f4 : fit 8675309 = true := by decide +kernel
  have f5 : fitD 65551 = true := by decide +kernel
  have f6 : ∀ x : Int, fit (x.fmod 2305843009213693381) = true := fun x => fmod_fit (by decide) (by decide +kernel)
  have f7 : ∀ x : Int, fit (x.fmod 2305843009213693343) = true := fun x => fmod_fit (by decide) (by decide +kernel)
  unfold F_law_roll
  rw [runB_eq]
  unfold b_law_roll startC
  have ds : ∀ x : CO, (h.set l x)[l]? = some x := fun x => by simp [hl]
  clear hl
  simp [rd_pyTimes, rd_mSeq, rd_mIf, rd_bOf, rd_bNot, rd_bOr, rd_bAnd, rd_eIf, rd_eAnd, rd_eNot, rd_eOp, rd_eUn, rd_eVar, rd_eC, rd_ret, rd_stuck, rd_isB, rd_mAsg, rd_eB, rd_eConsA, rd_eNilA, rd_gSet, rd_mRet, rd_mRetN, rd_mNil, rd_mExpr, rd_mAug, rd_eCall, rd_iArgs, rd_mFor, rd_memAt, rd_eNew, rd_bnd, pyIx, seqOf, rd_pyAtN, rd_pyAt0, rd_pyAt1, rd_pyAt2, rd_pyAt3, rd_pyAt4, rd_pyAtM, pyCmp, pyInt, pyMod, pyFdiv, pyAdd, pySub, pyMul, pyNeg, VE.pyLen, gSub, L2.ixN, frV_eq, sset_eq, sapp_eq, frN_eq, frLs_eq, endB, turn, d, ha, e2, ds, f1, f2, f3, f4, f5, f6, f7, rollTwo]
def DiceN (h : Mem) (l n : Nat) : Prop := ∃ a b c : Int, Dice h l a b c ∧ c.natAbs ≤ n
theorem set_dice {h : Mem} {l : Nat} {a b c a' b' c' : Int} (d : Dice h l a b c) : Dice (h.set l (.lst [.int a', .int b', .int c'])) l a' b' c' := by
  unfold Dice at *
  obtain ⟨hl, _⟩ := List.getElem?_eq_some_iff.mp d
  simp [hl]
theorem roll_ok {h : Mem} {l n : Nat} {t : Int} (d : DiceN h l n) (ht : 0 < t) (ht2 : t.natAbs ≤ 2 ^ 200) (hn : n < 2 ^ 100) :
    ∃ r h', 0 ≤ r ∧ r < t ∧ F_law_roll [.ref l, .int t] h = .ok (.int r) h' ∧ DiceN h' l (n + 1) := by
  obtain ⟨a, b, c, d, hc⟩ := d
  by_cases ha : 0 < a
  · exact ⟨_, _, Int.fmod_nonneg_of_pos _ ht, Int.fmod_lt_of_pos _ ht, roll1 d ha ht ht2, _, _, _, set_dice d, by omega⟩
  · exact ⟨_, _, Int.fmod_nonneg_of_pos _ ht, Int.fmod_lt_of_pos _ ht, roll2 d ha ht (by omega), _, _, _, set_dice d, by omega⟩
theorem pick_ok {h : Mem} {l n : Nat} {xs : List CV} (d : DiceN h l n) (h0 : 0 < xs.length) (h1 : xs.length ≤ 1000) (hn : n < 2 ^ 100) :
    ∃ (i : Nat) (x : CV) (h' : Mem), xs[i]? = some x ∧ F_law_pick [.ref l, .lst xs] h = .ok x h' ∧ DiceN h' l (n + 1) := by
  obtain ⟨r, h', r0, r1, e, d'⟩ := roll_ok (t := (xs.length : Int)) d (by omega) (Nat.le_trans (show ((xs.length : Int)).natAbs ≤ 1000 by omega) (by decide)) hn
  obtain ⟨i, rfl⟩ := Int.eq_ofNat_of_zero_le r0
  have hi : i < xs.length := by omega
  refine ⟨i, xs[i], h', by simp [hi], ?_, d'⟩
  unfold F_law_pick
  rw [runB_eq]
  unfold b_law_pick startC
  simp [rd_pyTimes, rd_mSeq, rd_mIf, rd_bOf, rd_bNot, rd_bOr, rd_bAnd, rd_eIf, rd_eAnd, rd_eNot, rd_eOp, rd_eUn, rd_eVar, rd_eC, rd_ret, rd_stuck, rd_isB, rd_mAsg, rd_eB, rd_eConsA, rd_eNilA, rd_gSet, rd_mRet, rd_mRetN, rd_mNil, rd_mExpr, rd_mAug, rd_eCall, rd_iArgs, rd_mFor, rd_memAt, rd_eNew, rd_bnd, pyIx, seqOf, rd_pyAtN, rd_pyAt0, rd_pyAt1, rd_pyAt2, rd_pyAt3, rd_pyAt4, rd_pyAtM, pyCmp, pyInt, pyMod, pyFdiv, pyAdd, pySub, pyMul, pyNeg, VE.pyLen, gSub, L2.ixN, frV_eq, sset_eq, sapp_eq, frN_eq, frLs_eq, endB, turn, e, h1, hi]
theorem cell_ok {ns : List Int} {s : Nat} {h : Mem} {x y : Option CV} : ∃ v : Int, eIf (bOf (eOp pyLt (eVar 1) (eB VE.pyLen (eConsA (eVar 0) eNilA)))) (eB VE.pyInt (eConsA (eOp pyIx (eVar 0) (eVar 1)) eNilA)) (eOp pyAdd (eOp pyTimes (eC (.int 89)) (eVar 1)) (eC (.int 53))) [some (.frz (ns.map CV.int)), some (.int s), x, y] h = .ok (.int v) h ∨ 2 ^ 20 < s := by
  by_cases hs : 2 ^ 20 < s
  · exact ⟨0, .inr hs⟩
  have q : bOf (eOp pyLt (eVar 1) (eB VE.pyLen (eConsA (eVar 0) eNilA))) [some (.frz (ns.map CV.int)), some (.int s), x, y] h = .ok (decide ((s : Int) < ((ns.map CV.int).length : Nat))) h := bOf_ok (eOp_ok (eVar_ok rfl) (eB_ok (eCons_ok (eVar_ok rfl) eNil_ok) rfl) rfl)
  by_cases hl : s < (ns.map CV.int).length
  · rw [decide_eq_true (by omega)] at q
    have hl' : s < ns.length := by simpa using hl
    refine ⟨ns[s], .inl (eIf_t q (eB_ok (eCons_ok (eOp_ok (eVar_ok rfl) (eVar_ok rfl) (show pyIx (.frz (ns.map CV.int)) (.int s) h = .ok (.int ns[s]) h by
      simp only [pyIx, seqOf, rd_pyAtN]; simp [hl'])) eNil_ok) rfl))⟩
  · rw [decide_eq_false (by omega)] at q
    exact ⟨_, .inl (eIf_f q (eOp_ok (eOp_ok eC_ok (eVar_ok rfl) (pyTimes_int (by decide +kernel) (nfit (k := 20) (by omega) (by decide)))) eC_ok rfl))⟩
theorem dice_ok {ns : List Int} {s : Nat} {h : Mem} (hs : s ≤ 2 ^ 20) : ∃ h', F_law_dice [.frz (ns.map CV.int), .int s] h = .ok (.ref h.length) h' ∧ DiceN h' h.length 0 := by
  obtain ⟨v, e | e⟩ := cell_ok (ns := ns) (s := s) (h := h) (x := none) (y := none)
  · have ab : ∀ τ : Sl, τ[2]? = some (some (.int v)) → eB pyAbs (eConsA (eVar 2) eNilA) τ h = .ok (.int (if v < 0 then -v else v)) h := fun τ q => eB_ok (eCons_ok (eVar_ok q) eNil_ok) rfl
    have fM : fit ((10 : Int) ^ 56) = true := pow_fit (by decide) (by decide)
    have fN : fit ((10 : Int) ^ 60) = true := pow_fit (by decide) (by decide)
    have nz : ¬ ((10 : Int) ^ 56 * (10 : Int) ^ 60 = 0) := by decide +kernel
    have e2 : ∃ a : Int, eOp pyMod (eB pyMax (eConsA (eC (.int 0)) (eConsA (eOp pySub (eB pyAbs (eConsA (eVar 2) eNilA)) (eOp pyPow (eC (.int 10)) (eC (.int 16)))) eNilA))) (eOp pyTimes (eOp pyPow (eC (.int 10)) (eC (.int 56))) (eOp pyPow (eC (.int 10)) (eC (.int 60)))) [some (.frz (ns.map CV.int)), some (.int s), some (.int v), none] h = .ok (.int a) h := by
      have md0 : ∀ w : Int, pyMod (.int w) (.int ((10 : Int) ^ 56 * (10 : Int) ^ 60)) h = .ok (.int (w.fmod ((10 : Int) ^ 56 * (10 : Int) ^ 60))) h := fun w => by
        unfold pyMod
        simp only [ne_eq, nz, not_false_eq_true, if_true, rd_ret]
      exact ⟨_, eOp_ok (eB_ok (eCons_ok eC_ok (eCons_ok (eOp_ok (ab _ rfl) (eOp_ok eC_ok eC_ok (pow10 (k := 16) (by omega))) rfl) eNil_ok)) rfl) (eOp_ok (eOp_ok eC_ok eC_ok (pow10 (k := 56) (by omega))) (eOp_ok eC_ok eC_ok (pow10 (k := 60) (by omega))) (pyTimes_int fM fN)) (md0 _)⟩
    obtain ⟨a, e2⟩ := e2
    have e3 : ∃ b : Int, eOp pyAdd (eOp pyAdd (eOp pyAdd (eOp pyTimes (eOp pyMod (eB pyAbs (eConsA (eVar 2) eNilA)) (eC (.int 1152921504606846869))) (eC (.int 61))) (eOp pyTimes (eC (.int 1009)) (eVar 1))) (eOp pyTimes (eC (.int 43)) (eB VE.pyInt (eConsA (eOp pyLt (eVar 2) (eC (.int 0))) eNilA)))) (eC (.int 17)) [some (.frz (ns.map CV.int)), some (.int s), some (.int v), some (.int a)] h = .ok (.int b) h := by
      have md : pyMod (.int (if v < 0 then -v else v)) (.int 1152921504606846869) h = .ok (.int ((if v < 0 then -v else v).fmod 1152921504606846869)) h := by
        unfold pyMod
        simp only [ne_eq, show ¬ ((1152921504606846869 : Int) = 0) by decide, not_false_eq_true, if_true, rd_ret]
      have fb : fit (if decide (v < 0) = true then (1 : Int) else 0) = true := by split <;> decide +kernel
      exact ⟨_, eOp_ok (eOp_ok (eOp_ok (eOp_ok (eOp_ok (ab _ rfl) eC_ok md) eC_ok (pyTimes_int (fmodf (by decide) (by decide +kernel)) (by decide +kernel))) (eOp_ok eC_ok (eVar_ok rfl) (pyTimes_int (by decide +kernel) (nfit hs (by decide)))) rfl)
        (eOp_ok eC_ok (eB_ok (eCons_ok (eOp_ok (eVar_ok rfl) eC_ok rfl) eNil_ok) rfl) (pyTimes_int (by decide +kernel) fb)) rfl) eC_ok rfl⟩
    obtain ⟨b, e3⟩ := e3
    have e4 : eNew (eConsA (eVar 3) (eConsA (eOp pyAdd (eOp pyAdd (eOp pyAdd (eOp pyTimes (eOp pyMod (eB pyAbs (eConsA (eVar 2) eNilA)) (eC (.int 1152921504606846869))) (eC (.int 61))) (eOp pyTimes (eC (.int 1009)) (eVar 1))) (eOp pyTimes (eC (.int 43)) (eB VE.pyInt (eConsA (eOp pyLt (eVar 2) (eC (.int 0))) eNilA)))) (eC (.int 17))) (eConsA (eC (.int 0)) eNilA))) [some (.frz (ns.map CV.int)), some (.int s), some (.int v), some (.int a)] h = .ok (.ref h.length) (h ++ [.lst [.int a, .int b, .int 0]]) := by
      rw [rd_eNew, eCons_ok (eVar_ok rfl) (eCons_ok e3 (eCons_ok eC_ok eNil_ok))]
      rfl
    refine ⟨_, run_rt rfl ((mSeq_nx (mAsg_ok e)).trans ((mSeq_nx (mAsg_ok e2)).trans (mRet_ok e4))), a, b, 0, ?_, by decide⟩
    unfold Dice
    simp
  · omega
def qCV (x : Int × Int) : CV := .tup [.int x.1, .int x.2]
/-- in lowest terms -/
def gS (a b : Int) : Int := if 0 < b then ((Nat.gcd a.natAbs b.natAbs : Nat) : Int) else -((Nat.gcd a.natAbs b.natAbs : Nat) : Int)
def fr (a b : Int) : Int × Int := (a.fdiv (gS a b), b.fdiv (gS a b))
theorem fitOf {i : Int} {k : Nat} (h : i.natAbs ≤ 2 ^ k) (hk : k ≤ 400000) : fit i = true := fit_of k h hk
theorem fitDOf {i : Int} {k : Nat} (h : i.natAbs ≤ 2 ^ k) (hk : k ≤ 8999) : fitD i = true := by
  unfold fitD
  exact Nat.ble_eq.mpr (Nat.le_trans h (Nat.pow_le_pow_right (by decide) hk))
theorem gS_ne {a b : Int} (hb : b ≠ 0) : gS a b ≠ 0 := by
  have : 0 < Nat.gcd a.natAbs b.natAbs := Nat.gcd_pos_of_pos_right _ (by omega)
  unfold gS
  split <;> omega
theorem gS_abs {a b : Int} : (gS a b).natAbs = Nat.gcd a.natAbs b.natAbs := by
  unfold gS
  split <;> simp
theorem gS_le {a b : Int} (hb : b ≠ 0) : (gS a b).natAbs ≤ b.natAbs := by
  rw [gS_abs]
  exact Nat.le_of_dvd (by omega) (Nat.gcd_dvd_right _ _)
theorem pyFdiv_int {a b : Int} {h : Mem} (hb : b ≠ 0) (hd : fitD b = true) : pyFdiv (.int a) (.int b) h = .ok (.int (a.fdiv b)) h := by
  unfold pyFdiv
  simp only
  rw [if_pos ⟨hb, hd⟩]; rfl
theorem pyMod_int {a b : Int} {h : Mem} (hb : b ≠ 0) : pyMod (.int a) (.int b) h = .ok (.int (a.fmod b)) h := by
  unfold pyMod
  simp only
  rw [if_pos hb]; rfl
/-- Euclid's steps -/
theorem gcd_loop (x y : Nat) (hx : x ≤ 2 ^ 4000) (hy : y ≤ 2 ^ 4000) (h : Mem) : mWhile (bOf (eOp pyGt (eVar 1) (eC (.int 0)))) l_law_gcd_0 100000 [some (.int x), some (.int y)] h = .mk (.nx [some (.int (Nat.gcd x y : Nat)), some (.int 0)]) h := by
  have key := while_inv (c := bOf (eOp pyGt (eVar 1) (eC (.int 0)))) (b := l_law_gcd_0)
    (fun k τ h' => h' = h ∧ ∃ a b : Nat, τ = [some (.int a), some (.int b)] ∧ Nat.gcd a b = Nat.gcd x y ∧ ((b = 0 ∧ k = 0) ∨ (0 < b ∧ 0 < k ∧ b ≤ a ∧ a * b < 2 ^ k) ∨ (0 < b ∧ a < b ∧ 2 ≤ k ∧ a * b < 2 ^ (k - 1))))
    (fun k τ h' hi => by
      obtain ⟨rfl, a, b, rfl, hg, hm⟩ := hi
      have hb : 0 < b := by omega
      have c1 : bOf (eOp pyGt (eVar 1) (eC (.int 0))) [some (.int a), some (.int b)] h' = .ok true h' := by
        have e : bOf (eOp pyGt (eVar 1) (eC (.int 0))) [some (.int a), some (.int b)] h' = .ok (decide ((b : Int) > 0)) h' := bOf_ok (eOp_ok (eVar_ok rfl) eC_ok rfl)
        rw [e, decide_eq_true (by omega)]
      have md : pyMod (.int (a : Int)) (.int (b : Int)) h' = .ok (.int ((a % b : Nat) : Int)) h' := by
        rw [pyMod_int (by omega), Int.fmod_eq_emod_of_nonneg _ (by omega)]
        rfl
      have c2 : l_law_gcd_0 [some (.int a), some (.int b)] h' = .mk (.nx [some (.int b), some (.int ((a % b : Nat) : Int))]) h' :=
        mPar_ok (eCons_ok (eVar_ok rfl) (eCons_ok (eOp_ok (eB_ok (eCons_ok (eVar_ok rfl) eNil_ok) rfl) (eVar_ok rfl) md) eNil_ok))
      have g2 : Nat.gcd b (a % b) = Nat.gcd x y := by rw [← hg, Nat.gcd_comm b, ← Nat.gcd_rec, Nat.gcd_comm]
      refine ⟨h', _, h', c1, c2, ?_⟩
      by_cases z : a % b = 0
      · exact ⟨0, Nat.zero_le _, rfl, b, a % b, rfl, g2, .inl ⟨z, rfl⟩⟩
      · have lt : a % b < b := Nat.mod_lt _ hb
        refine ⟨k, Nat.le_refl _, rfl, b, a % b, rfl, g2, .inr (.inl ⟨by omega, ?_, by omega, ?_⟩)⟩
        · rcases hm with ⟨q, _⟩ | ⟨_, _, q, r⟩ | ⟨_, q, r, s⟩
          · omega
          · rcases k with _ | k
            · have : 1 * 1 ≤ a * b := Nat.mul_le_mul (by omega) (by omega)
              have d := Nat.div_add_mod a b
              have e1 : 1 ≤ a / b := Nat.div_pos q hb
              have : b * 1 ≤ b * (a / b) := Nat.mul_le_mul_left _ e1
              have : 2 * 1 ≤ a * b := Nat.mul_le_mul (by omega) (by omega)
              omega
            · omega
          · omega
        · rcases hm with ⟨q, _⟩ | ⟨_, _, q, r⟩ | ⟨_, q, r, s⟩
          · omega
          · have d := Nat.div_add_mod a b
            have e1 : 1 ≤ a / b := Nat.div_pos q hb
            have e2 : b * 1 ≤ b * (a / b) := Nat.mul_le_mul_left _ e1
            have e3 : 2 * (a % b) ≤ a := by omega
            have e4 : 2 * (b * (a % b)) ≤ a * b := by
              rw [Nat.mul_comm a b, Nat.mul_left_comm]
              exact Nat.mul_le_mul_left _ e3
            rw [Nat.pow_succ] at r
            omega
          · rw [Nat.mod_eq_of_lt q, Nat.mul_comm]
            exact s)
    (fun τ h' hi => by
      obtain ⟨rfl, a, b, rfl, hg, hm⟩ := hi
      have hb : b = 0 := by omega
      subst hb
      have e : bOf (eOp pyGt (eVar 1) (eC (.int 0))) [some (.int a), some (.int (0 : Nat))] h' = .ok (decide (((0 : Nat) : Int) > 0)) h' := bOf_ok (eOp_ok (eVar_ok rfl) eC_ok rfl)
      rw [e, decide_eq_false (by omega)])
  have hxy : x * y ≤ 2 ^ 8000 := by
    have : (2 : Nat) ^ 8000 = 2 ^ 4000 * 2 ^ 4000 := by rw [← Nat.pow_add]
    rw [this]
    exact Nat.mul_le_mul hx hy
  have start : ∃ k, k < 100000 ∧ ((y = 0 ∧ k = 0) ∨ (0 < y ∧ 0 < k ∧ y ≤ x ∧ x * y < 2 ^ k) ∨ (0 < y ∧ x < y ∧ 2 ≤ k ∧ x * y < 2 ^ (k - 1))) := by
    by_cases hy0 : y = 0
    · exact ⟨0, by omega, .inl ⟨hy0, rfl⟩⟩
    · have l : x * y < 2 ^ 8001 := by rw [Nat.pow_succ]; have : 0 < 2 ^ 8000 := Nat.pow_pos (by decide); omega
      by_cases hle : y ≤ x
      · exact ⟨8001, by omega, .inr (.inl ⟨by omega, by omega, hle, l⟩)⟩
      · exact ⟨8002, by omega, .inr (.inr ⟨by omega, by omega, by omega, l⟩)⟩
  obtain ⟨k, hk, hm⟩ := start
  obtain ⟨τ', h', e, rfl, a, b, rfl, hg, hz⟩ := key 100000 k _ h hk ⟨rfl, x, y, rfl, rfl, hm⟩
  have hb : b = 0 := by omega
  subst hb
  rw [Nat.gcd_zero_right] at hg
  rw [e, hg]
  rfl
theorem gcdF {a b : Int} {h : Mem} (ha : a.natAbs ≤ 2 ^ 4000) (hb : b.natAbs ≤ 2 ^ 4000) : callF 2 F_law_gcd [.int a, .int b] h = .ok (.int (Nat.gcd a.natAbs b.natAbs : Nat)) h := by
  have ab : ∀ c : Int, (if c < 0 then -c else c) = ((c.natAbs : Nat) : Int) := fun c => by split <;> omega
  have ab' : ∀ c : Int, pyAbs [.int c] [] = .ok (.int (c.natAbs : Nat)) [] := fun c => by
    show (Out.ok (CV.int (if c < 0 then -c else c)) [] : Out CV) = _
    rw [ab]
  refine callF_read (h' := []) (v := .int (Nat.gcd a.natAbs b.natAbs : Nat)) ?_ rfl rfl rfl
  refine run_rt rfl ((mSeq_nx (mPar_ok (eCons_ok (eB_ok (eCons_ok (eVar_ok rfl) eNil_ok) (ab' a)) (eCons_ok (eB_ok (eCons_ok (eVar_ok rfl) eNil_ok) (ab' b)) eNil_ok)))).trans ((mSeq_nx (gcd_loop a.natAbs b.natAbs ha hb [])).trans (mRet_ok (eVar_ok rfl))))
theorem lawFracF {a b : Int} {h : Mem} (hn : b ≠ 0) (ha : a.natAbs ≤ 2 ^ 4000) (hb : b.natAbs ≤ 2 ^ 4000) : callF 2 F_law_fraction [.int a, .int b] h = .ok (qCV (fr a b)) h := by
  have gd : fitD (gS a b) = true := fitDOf (k := 4000) (Nat.le_trans (gS_le hn) hb) (by decide)
  have gn : gS a b ≠ 0 := gS_ne hn
  have c1 : bOf (eOp pyLt (eVar 1) (eC (.int 0))) [some (.int a), some (.int b), some (.int (Nat.gcd a.natAbs b.natAbs : Nat))] [] = .ok (decide (b < 0)) [] := bOf_ok (eOp_ok (eVar_ok rfl) eC_ok rfl)
  have st : mIf (bOf (eOp pyLt (eVar 1) (eC (.int 0)))) (mAsg (gSet 2) (eUn pyNeg (eVar 2))) mNil [some (.int a), some (.int b), some (.int (Nat.gcd a.natAbs b.natAbs : Nat))] [] = .mk (.nx [some (.int a), some (.int b), some (.int (gS a b))]) [] := by
    by_cases c : b < 0
    · rw [decide_eq_true c] at c1
      rw [mIf_t c1]
      have e : gS a b = -((Nat.gcd a.natAbs b.natAbs : Nat) : Int) := if_neg (by omega)
      rw [e]
      exact mAsg_ok (by rw [rd_eUn, eVar_ok rfl]; rfl)
    · rw [decide_eq_false c] at c1
      rw [mIf_f c1]
      have e : gS a b = ((Nat.gcd a.natAbs b.natAbs : Nat) : Int) := if_pos (by omega)
      rw [e]; rfl
  refine callF_read (h' := []) (v := qCV (fr a b)) (run_rt rfl ((mSeq_nx (mAsg_ok (eB_ok (eCons_ok (eVar_ok rfl) (eCons_ok (eVar_ok rfl) eNil_ok)) (gcdF ha hb)))).trans ((mSeq_nx st).trans
    (mRet_ok (eTup_ok (eCons_ok (eOp_ok (eVar_ok rfl) (eVar_ok rfl) (pyFdiv_int gn gd)) (eCons_ok (eOp_ok (eVar_ok rfl) (eVar_ok rfl) (pyFdiv_int gn gd)) eNil_ok)) (by simp)))))) rfl rfl rfl
theorem fracInF {a b : Int} {h : Mem} (hn : b ≠ 0) (hb : b.natAbs ≤ 2 ^ 4000) : callF 2 F_fraction_in [.int a, .int b] h = .ok (qCV (fr a b)) h := by
  have gd : fitD (gS a b) = true := fitDOf (k := 4000) (Nat.le_trans (gS_le hn) hb) (by decide)
  have gn : gS a b ≠ 0 := gS_ne hn
  have c1 : bOf (eOp pyGt (eVar 1) (eC (.int 0))) [some (.int a), some (.int b), none] [] = .ok (decide (b > 0)) [] := bOf_ok (eOp_ok (eVar_ok rfl) eC_ok rfl)
  have gq : eB pyGcd (eConsA (eVar 0) (eConsA (eVar 1) eNilA)) [some (.int a), some (.int b), none] [] = .ok (.int (Nat.gcd a.natAbs b.natAbs : Nat)) [] := eB_ok (eCons_ok (eVar_ok rfl) (eCons_ok (eVar_ok rfl) eNil_ok)) rfl
  have st : eIf (bOf (eOp pyGt (eVar 1) (eC (.int 0)))) (eB pyGcd (eConsA (eVar 0) (eConsA (eVar 1) eNilA))) (eUn pyNeg (eB pyGcd (eConsA (eVar 0) (eConsA (eVar 1) eNilA)))) [some (.int a), some (.int b), none] [] = .ok (.int (gS a b)) [] := by
    by_cases c : b > 0
    · rw [decide_eq_true c] at c1
      have e : gS a b = ((Nat.gcd a.natAbs b.natAbs : Nat) : Int) := if_pos (by omega)
      rw [e]
      exact eIf_t c1 gq
    · rw [decide_eq_false c] at c1
      have e : gS a b = -((Nat.gcd a.natAbs b.natAbs : Nat) : Int) := if_neg (by omega)
      rw [e]
      exact eIf_f c1 (by rw [rd_eUn, gq]; rfl)
  exact callF_read (h' := []) (v := qCV (fr a b)) (run_rt rfl ((mSeq_nx (mAsg_ok st)).trans
    (mRet_ok (eTup_ok (eCons_ok (eOp_ok (eVar_ok rfl) (eVar_ok rfl) (pyFdiv_int gn gd)) (eCons_ok (eOp_ok (eVar_ok rfl) (eVar_ok rfl) (pyFdiv_int gn gd)) eNil_ok)) (by simp))))) rfl rfl rfl

theorem eAnd_t {a b : Sl → M CV} {τ : Sl} {h h1 h2 : Mem} {v : CV} (q : a τ h = .ok (.bl true) h1) (q2 : b τ h1 = .ok v h2) : eAnd a b τ h = .ok v h2 := by rw [rd_eAnd, q]; exact q2
theorem eAnd_f {a b : Sl → M CV} {τ : Sl} {h h1 : Mem} (q : a τ h = .ok (.bl false) h1) : eAnd a b τ h = .ok (.bl false) h1 := by rw [rd_eAnd, q]
theorem eOr_t {a b : Sl → M CV} {τ : Sl} {h h1 : Mem} (q : a τ h = .ok (.bl true) h1) : eOr a b τ h = .ok (.bl true) h1 := by unfold eOr; rw [rd_bnd, q]; rfl
theorem eOr_f {a b : Sl → M CV} {τ : Sl} {h h1 h2 : Mem} {v : CV} (q : a τ h = .ok (.bl false) h1) (q2 : b τ h1 = .ok v h2) : eOr a b τ h = .ok v h2 := by unfold eOr; rw [rd_bnd, q]; exact q2
theorem eNot_ok {a : Sl → M CV} {τ : Sl} {h h1 : Mem} {b : Bool} (q : a τ h = .ok (.bl b) h1) : eNot a τ h = .ok (.bl !b) h1 := by rw [rd_eNot, q]
theorem eUn_ok {g : CV → M CV} {a : Sl → M CV} {τ : Sl} {h h1 h2 : Mem} {x y : CV} (q : a τ h = .ok x h1) (q2 : g x h1 = .ok y h2) : eUn g a τ h = .ok y h2 := by rw [rd_eUn, q]; exact q2
theorem asg2 {i j : Nat} {e : Sl → M CV} {τ : Sl} {u v : CV} {h h1 : Mem} (q : e τ h = .ok (.tup [u, v]) h1) : mAsg (gUnp 2 (gConsT (gSet i) (gConsT (gSet j) gNilT))) e τ h = .mk (.nx ((τ.set i (some u)).set j (some v))) h1 := by
  rw [rd_mAsg, q]
  have e1 : gUnp 2 (gConsT (gSet i) (gConsT (gSet j) gNilT)) (.tup [u, v]) τ h1 = .ok ((τ.set i (some u)).set j (some v)) h1 := by
    show bnd (gSet i u τ) (gConsT (gSet j) gNilT [v]) h1 = _
    rw [rd_bnd, rd_gSet]
    show bnd (gSet j v (τ.set i (some u))) (gNilT []) h1 = _
    rw [rd_bnd, rd_gSet]
    rfl
  simp only [e1]
theorem ixI {x : Int × Int} {e c : Sl → M CV} {τ : Sl} {h h1 h2 : Mem} (q : e τ h = .ok (qCV x) h1) (q2 : c τ h1 = .ok (.int 0) h2) : eOp pyIx e c τ h = .ok (.int x.1) h2 := eOp_ok q q2 rfl
theorem ixJ {x : Int × Int} {e c : Sl → M CV} {τ : Sl} {h h1 h2 : Mem} (q : e τ h = .ok (qCV x) h1) (q2 : c τ h1 = .ok (.int 1) h2) : eOp pyIx e c τ h = .ok (.int x.2) h2 := eOp_ok q q2 rfl
/-- a reduced fraction -/
structure Good (x : Int × Int) : Prop where
  pos : 0 < x.2
  red : Nat.gcd x.1.natAbs x.2.natAbs = 1
  b1 : x.1.natAbs ≤ 2 ^ 250
  b2 : x.2.natAbs ≤ 2 ^ 250
/-- a number and the fraction that it is -/
inductive Num : CV → Int × Int → Prop
  | int {t : Int} (h : t.natAbs < 10 ^ 60) : Num (.int t) (t, 1)
  | frac {x : Int × Int} (g : Good x) : Num (qCV x) x
theorem gcd1 (n : Nat) : Nat.gcd n 1 = 1 := Nat.gcd_one_right n
theorem Num.good {N : CV} {x : Int × Int} (n : Num N x) : Good x := by
  cases n with
  | int h =>
    refine ⟨Int.one_pos, gcd1 _, ?_, ?_⟩
    · have : (10 : Nat) ^ 60 ≤ 2 ^ 250 := by decide +kernel
      show _ ≤ 2 ^ 250
      exact Nat.le_trans (Nat.le_of_lt h) this
    · exact Nat.one_le_two_pow
  | frac g => exact g
theorem wholeF {v : Int} {h : Mem} : callF 1 F_is_whole [.int v] h = .ok (.bl true) h :=
  callF_read (h' := []) (v := .bl true) (run_rt rfl (mRet_ok (eAnd_t (eUn_ok (eVar_ok rfl) rfl) (eNot_ok (b := false) (eUn_ok (eVar_ok rfl) rfl))))) rfl rfl rfl
theorem wholeT {x : Int × Int} {h : Mem} : callF 1 F_is_whole [qCV x] h = .ok (.bl false) h :=
  callF_read (h' := []) (v := .bl false) (run_rt rfl (mRet_ok (eAnd_f (eUn_ok (eVar_ok rfl) rfl)))) rfl rfl rfl
theorem absF {c : Int} {h : Mem} : pyAbs [.int c] h = .ok (.int (c.natAbs : Nat)) h := by
  show (Out.ok (CV.int (if c < 0 then -c else c)) h : Out CV) = _
  rw [show (if c < 0 then -c else c) = ((c.natAbs : Nat) : Int) by split <;> omega]
theorem integerF {v : Int} {h : Mem} (hv : v.natAbs < 10 ^ 60) : callF 1 F_is_integer [.int v] h = .ok (.bl true) h := by
  have e : pyLt (.int ((v.natAbs : Nat) : Int)) (.int 1000000000000000000000000000000000000000000000000000000000000) [] = .ok (.bl true) [] := by
    have : (10 ^ 60 : Nat) = 1000000000000000000000000000000000000000000000000000000000000 := by decide
    show Out.ok (CV.bl (decide _)) [] = _
    rw [decide_eq_true (by omega)]
  exact callF_read (h' := []) (v := .bl true) (run_rt rfl (mRet_ok (eAnd_t (eB_ok (eCons_ok (eVar_ok rfl) eNil_ok) wholeF) (eOp_ok (eB_ok (eCons_ok (eVar_ok rfl) eNil_ok) absF) eC_ok e)))) rfl rfl rfl
theorem integerT {x : Int × Int} {h : Mem} : callF 1 F_is_integer [qCV x] h = .ok (.bl false) h :=
  callF_read (h' := []) (v := .bl false) (run_rt rfl (mRet_ok (eAnd_f (eB_ok (eCons_ok (eVar_ok rfl) eNil_ok) wholeT)))) rfl rfl rfl
theorem fractionT {x : Int × Int} (g : Good x) {h : Mem} : callF 1 F_is_fraction [qCV x] h = .ok (.bl true) h := by
  have e1 : eLc (iSeq (eVar 0)) (gSet 1) bYes l_is_fraction_0 [1] [some (qCV x), none] [] = .ok (.lst [.bl true, .bl true]) [] :=
    eLc_ok (xs := [.int x.1, .int x.2]) rfl (by simp) (lcV_ok (fun _ => .bl true) [.int x.1, .int x.2] fun y hy => ⟨_, rd_gSet 1 y, by
      rcases List.mem_cons.mp hy with rfl | hy
      · exact eB_ok (eCons_ok (eVar_ok rfl) eNil_ok) wholeF
      · rcases List.mem_cons.mp hy with rfl | hy
        · exact eB_ok (eCons_ok (eVar_ok rfl) eNil_ok) wholeF
        · cases hy⟩)
  have e2 : pyGe (.int x.2) (.int 1) [] = .ok (.bl true) [] := by
    show Out.ok (CV.bl (decide (x.2 ≥ 1))) [] = _
    rw [decide_eq_true (by have := g.pos; omega)]
  have e3 : pyGcd [.int x.1, .int x.2] [] = .ok (.int ((1 : Nat) : Int)) [] := by
    show Out.ok (CV.int ((Nat.gcd x.1.natAbs x.2.natAbs : Nat) : Int)) [] = _
    rw [g.red]
  have c1 : bNot (bOf (eUn (isK isTupK) (eVar 0))) [some (qCV x), none] [] = .ok false [] := bNot_ok (b := true) (bOf_ok (eUn_ok (g := isK isTupK) (eVar_ok rfl) rfl))
  have c2 : bOf (eOp (pyEq true) (eB VE.pyLen (eConsA (eVar 0) eNilA)) (eC (.int 2))) [some (qCV x), none] [] = .ok false [] := bOf_ok (eOp_ok (eB_ok (eCons_ok (eVar_ok rfl) eNil_ok) rfl) eC_ok (by kernel_rfl))
  have c3 : bNot (bOf (eB (one pyAll) (eConsA (eLc (iSeq (eVar 0)) (gSet 1) bYes l_is_fraction_0 [1]) eNilA))) [some (qCV x), none] [] = .ok false [] := bNot_ok (b := true) (bOf_ok (eB_ok (eCons_ok e1 eNil_ok) rfl))
  have c4 : eOp pyGe (eOp pyIx (eVar 0) (eC (.int 1))) (eC (.int 1)) [some (qCV x), none] [] = .ok (.bl true) [] := eOp_ok (ixJ (eVar_ok rfl) eC_ok) eC_ok e2
  have c5 : eOp (pyEq false) (eB pyGcd (eConsA (eOp pyIx (eVar 0) (eC (.int 0))) (eConsA (eOp pyIx (eVar 0) (eC (.int 1))) eNilA))) (eC (.int 1)) [some (qCV x), none] [] = .ok (.bl true) [] := eOp_ok (eB_ok (eCons_ok (ixI (x := x) (eVar_ok rfl) eC_ok) (eCons_ok (ixJ (x := x) (eVar_ok rfl) eC_ok) eNil_ok)) e3) eC_ok (by kernel_rfl)
  exact callF_read (h' := []) (v := .bl true) (run_rt rfl ((mSeq_nx ((mIf_f (bOr_ff c1 (bOr_ff c2 c3))).trans rd_mNil)).trans (mRet_ok (eAnd_t c4 c5)))) rfl rfl rfl
theorem numberF {N : CV} {x : Int × Int} (n : Num N x) {h : Mem} : callF 1 F_is_number [N] h = .ok (.bl true) h := by
  cases n with
  | int hv => exact callF_read (h' := []) (v := .bl true) (run_rt rfl (mRet_ok (eOr_t (eB_ok (eCons_ok (eVar_ok rfl) eNil_ok) (integerF hv))))) rfl rfl rfl
  | frac g => exact callF_read (h' := []) (v := .bl true) (run_rt rfl (mRet_ok (eOr_f (eB_ok (eCons_ok (eVar_ok rfl) eNil_ok) integerT) (eB_ok (eCons_ok (eVar_ok rfl) eNil_ok) (fractionT g))))) rfl rfl rfl
theorem Num.nr {N : CV} {x : Int × Int} (n : Num N x) : noRefs [N] = true := by cases n <;> rfl
theorem reqF {N : CV} {x : Int × Int} (n : Num N x) {h : Mem} : callF 1 F_require_number [N] h = .ok .non h := by
  have e : b_require_number (startC 1 [N]) [] = .mk (.nx [some N]) [] := (mIf_f (bNot_ok (b := true) (bOf_ok (eB_ok (eCons_ok (eVar_ok rfl) eNil_ok) (numberF n))))).trans rd_mNil
  refine callF_read (h' := []) (v := .non) ?_ n.nr rfl rfl
  unfold F_require_number
  rw [runB_eq, if_pos (show [N].length = 1 from rfl), e]
  rfl
theorem pairF {N : CV} {x : Int × Int} (n : Num N x) {h : Mem} : callF 1 F_pair_of [N] h = .ok (qCV x) h := by
  cases n with
  | int hv => exact callF_read (h' := []) (v := qCV (_, 1)) (run_rt rfl (mRet_ok (eIf_f (bOf_ok (eUn_ok (eVar_ok rfl) rfl)) (eTup_ok (eCons_ok (eVar_ok rfl) (eCons_ok eC_ok eNil_ok)) (by simp))))) rfl rfl rfl
  | frac g => exact callF_read (h' := []) (v := qCV x) (run_rt rfl (mRet_ok (eIf_t (bOf_ok (eUn_ok (eVar_ok rfl) rfl)) (eVar_ok rfl)))) rfl rfl rfl
theorem nr2 {x y : CV} (a : noRefs [x] = true) (b : noRefs [y] = true) : noRefs [x, y] = true := by
  unfold noRefs at *
  simp_all [noRefs]
theorem bothF {N M : CV} {x y : Int × Int} (n : Num N x) (m : Num M y) {h : Mem} : callF 2 F_both_told [N, M] h = .ok (.tup [qCV x, qCV y]) h :=
  callF_read (h' := []) (v := .tup [qCV x, qCV y]) (run_rt rfl ((mSeq_nx (mExpr_ok (eB_ok (eCons_ok (eVar_ok rfl) eNil_ok) (reqF n)))).trans ((mSeq_nx (mExpr_ok (eB_ok (eCons_ok (eVar_ok rfl) eNil_ok) (reqF m)))).trans
    (mRet_ok (eTup_ok (eCons_ok (eB_ok (eCons_ok (eVar_ok rfl) eNil_ok) (pairF n)) (eCons_ok (eB_ok (eCons_ok (eVar_ok rfl) eNil_ok) (pairF m)) eNil_ok)) (by simp)))))) (nr2 n.nr m.nr) rfl rfl
theorem fitG {a : Int} (h : a.natAbs ≤ 2 ^ 250) : fit a = true := fitOf h (by decide)
theorem mulB {a b : Int} {j k : Nat} (ha : a.natAbs ≤ 2 ^ j) (hb : b.natAbs ≤ 2 ^ k) : (a * b).natAbs ≤ 2 ^ (j + k) := by
  rw [Int.natAbs_mul, Nat.pow_add]
  exact Nat.mul_le_mul ha hb
theorem tm {a b : Sl → M CV} {i j : Int} {τ : Sl} {h h1 h2 : Mem} (q : a τ h = .ok (.int i) h1) (q2 : b τ h1 = .ok (.int j) h2) (hi : i.natAbs ≤ 2 ^ 4000) (hj : j.natAbs ≤ 2 ^ 4000) : eOp pyTimes a b τ h = .ok (.int (i * j)) h2 := eOp_ok q q2 (pyTimes_int (fitOf hi (by decide)) (fitOf hj (by decide)))
theorem up {a : Int} (h : a.natAbs ≤ 2 ^ 250) : a.natAbs ≤ 2 ^ 4000 := Nat.le_trans h (Nat.pow_le_pow_right (by decide) (by decide))
theorem up2 {a : Int} (h : a.natAbs ≤ 2 ^ (250 + 250)) : a.natAbs ≤ 2 ^ 4000 := Nat.le_trans h (Nat.pow_le_pow_right (by decide) (by decide))
theorem ne2 {a b : Int} (ha : a ≠ 0) (hb : b ≠ 0) : a * b ≠ 0 := Int.mul_ne_zero ha hb
section
variable {x y : Int × Int} (g : Good x) (k : Good y) {h : Mem}
include g k
theorem prB : (x.2 * y.2).natAbs ≤ 2 ^ 4000 := up2 (mulB g.b2 k.b2)
theorem prN : x.2 * y.2 ≠ 0 := ne2 (Int.ne_of_gt g.pos) (Int.ne_of_gt k.pos)
theorem crB : (x.1 * y.2).natAbs ≤ 2 ^ (250 + 250) := mulB g.b1 k.b2
theorem sumB : (x.1 * y.2 + y.1 * x.2).natAbs ≤ 2 ^ 4000 := by
  have a := crB g k
  have b := crB k g
  have c : (2 : Nat) ^ (250 + 250) + 2 ^ (250 + 250) ≤ 2 ^ 4000 := by
    have : (2 : Nat) ^ 501 = 2 ^ (250 + 250) + 2 ^ (250 + 250) := by rw [show 501 = (250 + 250) + 1 from rfl, Nat.pow_succ, Nat.mul_two]
    rw [← this]
    exact Nat.pow_le_pow_right (by decide) (by decide)
  exact Nat.le_trans (Int.natAbs_add_le _ _) (Nat.le_trans (Nat.add_le_add a b) c)
theorem lessB : (x.1 * y.2 - y.1 * x.2).natAbs ≤ 2 ^ 4000 := by
  have a := crB g k
  have b := crB k g
  have c : (2 : Nat) ^ (250 + 250) + 2 ^ (250 + 250) ≤ 2 ^ 4000 := by
    have : (2 : Nat) ^ 501 = 2 ^ (250 + 250) + 2 ^ (250 + 250) := by rw [show 501 = (250 + 250) + 1 from rfl, Nat.pow_succ, Nat.mul_two]
    rw [← this]
    exact Nat.pow_le_pow_right (by decide) (by decide)
  exact Nat.le_trans (Int.natAbs_sub_le _ _) (Nat.le_trans (Nat.add_le_add a b) c)
theorem sumInF : callF 2 F_sum_in [qCV x, qCV y] h = .ok (qCV (fr (x.1 * y.2 + y.1 * x.2) (x.2 * y.2))) h :=
  callF_read (h' := []) (v := qCV _) (run_rt rfl (mRet_ok (eB_ok (eCons_ok (eOp_ok (tm (ixI (eVar_ok rfl) eC_ok) (ixJ (eVar_ok rfl) eC_ok) (up g.b1) (up k.b2)) (tm (ixI (eVar_ok rfl) eC_ok) (ixJ (eVar_ok rfl) eC_ok) (up k.b1) (up g.b2)) rfl)
    (eCons_ok (tm (ixJ (eVar_ok rfl) eC_ok) (ixJ (eVar_ok rfl) eC_ok) (up g.b2) (up k.b2)) eNil_ok)) (fracInF (prN g k) (prB g k))))) rfl rfl rfl
theorem lessInF : callF 2 F_less_in [qCV x, qCV y] h = .ok (qCV (fr (x.1 * y.2 - y.1 * x.2) (x.2 * y.2))) h :=
  callF_read (h' := []) (v := qCV _) (run_rt rfl (mRet_ok (eB_ok (eCons_ok (eOp_ok (tm (ixI (eVar_ok rfl) eC_ok) (ixJ (eVar_ok rfl) eC_ok) (up g.b1) (up k.b2)) (tm (ixI (eVar_ok rfl) eC_ok) (ixJ (eVar_ok rfl) eC_ok) (up k.b1) (up g.b2)) rfl)
    (eCons_ok (tm (ixJ (eVar_ok rfl) eC_ok) (ixJ (eVar_ok rfl) eC_ok) (up g.b2) (up k.b2)) eNil_ok)) (fracInF (prN g k) (prB g k))))) rfl rfl rfl
theorem prodInF : callF 2 F_product_in [qCV x, qCV y] h = .ok (qCV (fr (x.1 * y.1) (x.2 * y.2))) h :=
  callF_read (h' := []) (v := qCV _) (run_rt rfl (mRet_ok (eB_ok (eCons_ok (tm (ixI (eVar_ok rfl) eC_ok) (ixI (eVar_ok rfl) eC_ok) (up g.b1) (up k.b1))
    (eCons_ok (tm (ixJ (eVar_ok rfl) eC_ok) (ixJ (eVar_ok rfl) eC_ok) (up g.b2) (up k.b2)) eNil_ok)) (fracInF (prN g k) (prB g k))))) rfl rfl rfl
theorem quotInF (hz : y.1 ≠ 0) : callF 2 F_quotient_in [qCV x, qCV y] h = .ok (qCV (fr (x.1 * y.2) (x.2 * y.1))) h :=
  callF_read (h' := []) (v := qCV _) (run_rt rfl (mRet_ok (eB_ok (eCons_ok (tm (ixI (eVar_ok rfl) eC_ok) (ixJ (eVar_ok rfl) eC_ok) (up g.b1) (up k.b2))
    (eCons_ok (tm (ixJ (eVar_ok rfl) eC_ok) (ixI (eVar_ok rfl) eC_ok) (up g.b2) (up k.b1)) eNil_ok)) (fracInF (ne2 (Int.ne_of_gt g.pos) hz) (up2 (mulB g.b2 k.b1)))))) rfl rfl rfl
/-- the sign of a gap -/
def sgn (z : Int) : Int := (if decide (z > 0) then 1 else 0) - (if decide (z < 0) then 1 else 0)
theorem orderF : callF 2 F_order_in [qCV x, qCV y] h = .ok (.int (sgn (x.1 * y.2 - y.1 * x.2))) h :=
  callF_read (h' := []) (v := .int _) (run_rt rfl ((mSeq_nx (mAsg_ok (eOp_ok (tm (ixI (eVar_ok rfl) eC_ok) (ixJ (eVar_ok rfl) eC_ok) (up g.b1) (up k.b2)) (tm (ixI (eVar_ok rfl) eC_ok) (ixJ (eVar_ok rfl) eC_ok) (up k.b1) (up g.b2)) rfl))).trans
    (mRet_ok (eOp_ok (eB_ok (eCons_ok (eOp_ok (eVar_ok rfl) eC_ok rfl) eNil_ok) rfl) (eB_ok (eCons_ok (eOp_ok (eVar_ok rfl) eC_ok rfl) eNil_ok) rfl) rfl)))) rfl rfl rfl
end
section
variable {N M : CV} {x y : Int × Int} (n : Num N x) (m : Num M y) {h : Mem}
include n m
theorem addedF : callF 2 F_added [N, M] h = .ok (qCV (fr (x.1 * y.2 + y.1 * x.2) (x.2 * y.2))) h :=
  callF_read (h' := []) (v := qCV _) (run_rt rfl ((mSeq_nx (asg2 (eB_ok (eCons_ok (eVar_ok rfl) (eCons_ok (eVar_ok rfl) eNil_ok)) (bothF n m)))).trans (mRet_ok (eB_ok (eCons_ok (eVar_ok rfl) (eCons_ok (eVar_ok rfl) eNil_ok)) (sumInF n.good m.good))))) (nr2 n.nr m.nr) rfl rfl
theorem lessF : callF 2 F_less [N, M] h = .ok (qCV (fr (x.1 * y.2 - y.1 * x.2) (x.2 * y.2))) h :=
  callF_read (h' := []) (v := qCV _) (run_rt rfl ((mSeq_nx (asg2 (eB_ok (eCons_ok (eVar_ok rfl) (eCons_ok (eVar_ok rfl) eNil_ok)) (bothF n m)))).trans (mRet_ok (eB_ok (eCons_ok (eVar_ok rfl) (eCons_ok (eVar_ok rfl) eNil_ok)) (lessInF n.good m.good))))) (nr2 n.nr m.nr) rfl rfl
theorem multF : callF 2 F_multiplied [N, M] h = .ok (qCV (fr (x.1 * y.1) (x.2 * y.2))) h :=
  callF_read (h' := []) (v := qCV _) (run_rt rfl ((mSeq_nx (asg2 (eB_ok (eCons_ok (eVar_ok rfl) (eCons_ok (eVar_ok rfl) eNil_ok)) (bothF n m)))).trans (mRet_ok (eB_ok (eCons_ok (eVar_ok rfl) (eCons_ok (eVar_ok rfl) eNil_ok)) (prodInF n.good m.good))))) (nr2 n.nr m.nr) rfl rfl
theorem comparedF : callF 2 F_compared [N, M] h = .ok (.int (sgn (x.1 * y.2 - y.1 * x.2))) h :=
  callF_read (h' := []) (v := .int _) (run_rt rfl ((mSeq_nx (asg2 (eB_ok (eCons_ok (eVar_ok rfl) (eCons_ok (eVar_ok rfl) eNil_ok)) (bothF n m)))).trans (mRet_ok (eB_ok (eCons_ok (eVar_ok rfl) (eCons_ok (eVar_ok rfl) eNil_ok)) (orderF n.good m.good))))) (nr2 n.nr m.nr) rfl rfl
end

theorem posOf {g p : Int} (hg : 0 < g) (h : 0 < g * p) : 0 < p := by
  by_cases z : 0 < p
  · exact z
  · have : 0 ≤ g * (-p) := Int.mul_nonneg (Int.le_of_lt hg) (by omega)
    rw [Int.mul_neg] at this
    omega
theorem gS_dvd {a b : Int} : ∃ p q : Int, a = gS a b * p ∧ b = gS a b * q := by
  have h1 : ((Nat.gcd a.natAbs b.natAbs : Nat) : Int) ∣ a := Int.natAbs_dvd_natAbs.mp (by rw [Int.natAbs_natCast]; exact Nat.gcd_dvd_left _ _)
  have h2 : ((Nat.gcd a.natAbs b.natAbs : Nat) : Int) ∣ b := Int.natAbs_dvd_natAbs.mp (by rw [Int.natAbs_natCast]; exact Nat.gcd_dvd_right _ _)
  obtain ⟨p, e1⟩ := h1
  obtain ⟨q, e2⟩ := h2
  unfold gS
  split
  · exact ⟨p, q, e1, e2⟩
  · exact ⟨-p, -q, by rw [Int.neg_mul_neg]; exact e1, by rw [Int.neg_mul_neg]; exact e2⟩
theorem fr_eq {a b p q : Int} (hb : b ≠ 0) (e1 : a = gS a b * p) (e2 : b = gS a b * q) : fr a b = (p, q) := by
  have gn := gS_ne (a := a) hb
  unfold fr
  have q1 : a.fdiv (gS a b) = p := by
    conv => lhs; rw [e1]
    have : gS (gS a b * p) b = gS a b := by rw [← e1]
    rw [this]
    exact Int.mul_fdiv_cancel_left _ gn
  have q2 : b.fdiv (gS a b) = q := by
    generalize gS a b = g at e2 gn
    subst e2
    exact Int.mul_fdiv_cancel_left _ gn
  rw [q1, q2]
theorem gS_pos {a b : Int} (hb : 0 < b) : 0 < gS a b := by
  have : 0 < Nat.gcd a.natAbs b.natAbs := Nat.gcd_pos_of_pos_right _ (by omega)
  unfold gS
  rw [if_pos hb]
  omega
theorem fr_spec {a b : Int} (hb : b ≠ 0) : ∃ p q : Int, fr a b = (p, q) ∧ a = gS a b * p ∧ b = gS a b * q ∧ 0 < q ∧ Nat.gcd p.natAbs q.natAbs = 1 ∧ p.natAbs ≤ a.natAbs ∧ q.natAbs ≤ b.natAbs := by
  obtain ⟨p, q, e1, e2⟩ := gS_dvd (a := a) (b := b)
  have gn := gS_ne (a := a) hb
  have ga := gS_abs (a := a) (b := b)
  have n1 : a.natAbs = (gS a b).natAbs * p.natAbs := by rw [← Int.natAbs_mul, ← e1]
  have n2 : b.natAbs = (gS a b).natAbs * q.natAbs := by rw [← Int.natAbs_mul, ← e2]
  have gp : 1 ≤ (gS a b).natAbs := by omega
  refine ⟨p, q, fr_eq hb e1 e2, e1, e2, ?_, ?_, ?_, ?_⟩
  · by_cases c : 0 < b
    · have g0 := gS_pos (a := a) c
      rw [e2] at c
      exact posOf g0 c
    · have g0 : gS a b < 0 := by
        have : 0 < Nat.gcd a.natAbs b.natAbs := Nat.gcd_pos_of_pos_right _ (by omega)
        unfold gS
        rw [if_neg c]
        omega
      by_cases z : 0 < q
      · exact z
      · have : 0 ≤ gS a b * q := Int.mul_nonneg_of_nonpos_of_nonpos (Int.le_of_lt g0) (by omega)
        omega
  · have e : Nat.gcd ((gS a b).natAbs * p.natAbs) ((gS a b).natAbs * q.natAbs) = (gS a b).natAbs := by rw [← n1, ← n2, ga]
    rw [Nat.gcd_mul_left] at e
    have : (gS a b).natAbs * Nat.gcd p.natAbs q.natAbs = (gS a b).natAbs * 1 := by omega
    exact Nat.eq_of_mul_eq_mul_left (by omega) this
  · rw [n1]; exact Nat.le_mul_of_pos_left _ (by omega)
  · rw [n2]; exact Nat.le_mul_of_pos_left _ (by omega)
theorem fr_good {a b : Int} (hb : b ≠ 0) (ha : a.natAbs ≤ 2 ^ 250) (hb2 : b.natAbs ≤ 2 ^ 250) : Good (fr a b) := by
  obtain ⟨p, q, e, _, _, h1, h2, h3, h4⟩ := fr_spec (a := a) hb
  rw [e]
  exact ⟨h1, h2, Nat.le_trans h3 ha, Nat.le_trans h4 hb2⟩
/-- a reduced one stays, also times a number below 0 -/
theorem fr_neg {x : Int × Int} (g : Good x) {s : Int} (hs : 0 < s) : fr (0 - s * x.1) (0 - s * x.2) = x := by
  have hb : (0 - s * x.2) < 0 := by have := Int.mul_pos hs g.pos; omega
  have e : gS (0 - s * x.1) (0 - s * x.2) = -s := by
    unfold gS
    rw [if_neg (by omega)]
    have a1 : (0 - s * x.1).natAbs = s.natAbs * x.1.natAbs := by rw [Int.zero_sub, Int.natAbs_neg, Int.natAbs_mul]
    have a2 : (0 - s * x.2).natAbs = s.natAbs * x.2.natAbs := by rw [Int.zero_sub, Int.natAbs_neg, Int.natAbs_mul]
    rw [a1, a2, Nat.gcd_mul_left, g.red, Nat.mul_one]
    omega
  exact fr_eq (by omega) (by rw [e, Int.neg_mul]; omega) (by rw [e, Int.neg_mul]; omega)
theorem sgn_fr {a b : Int} (hb : 0 < b) : sgn (fr a b).1 = sgn a := by
  obtain ⟨p, q, e, e1, _, _⟩ := fr_spec (a := a) (b := b) (by omega)
  have g0 := gS_pos (a := a) hb
  rw [e]
  show sgn p = sgn a
  generalize gS a b = g at e1 g0
  subst e1
  unfold sgn
  have k1 : (0 < g * p) ↔ 0 < p := ⟨fun h => posOf g0 h, fun h => Int.mul_pos g0 h⟩
  have k2 : (g * p < 0) ↔ p < 0 := by
    have := k1
    constructor
    · intro h
      by_cases z : p < 0
      · exact z
      · have : 0 ≤ g * p := Int.mul_nonneg (Int.le_of_lt g0) (by omega)
        omega
    · intro h
      have : 0 < g * (-p) := Int.mul_pos g0 (by omega)
      rw [Int.mul_neg] at this
      omega
  simp only [gt_iff_lt, k1, k2]
theorem sgn_neg (a : Int) : sgn (0 - a) = 0 - sgn a := by
  unfold sgn
  by_cases c : a > 0
  · simp [show ¬ (0 - a > 0) by omega, show 0 - a < 0 by omega, c, show ¬ a < 0 by omega]
  · by_cases d : a < 0
    · simp [show 0 - a > 0 by omega, show ¬ 0 - a < 0 by omega, c, d]
    · have : a = 0 := by omega
      subst this; rfl
section
variable {x y : Int × Int} (g : Good x) (k : Good y) {h : Mem}
include g k
theorem lplusF : callF 2 F_law_plus [qCV x, qCV y] h = .ok (qCV (fr (x.1 * y.2 + y.1 * x.2) (x.2 * y.2))) h :=
  callF_read (h' := []) (v := qCV _) (run_rt rfl (mRet_ok (eB_ok (eCons_ok (eOp_ok (tm (ixI (eVar_ok rfl) eC_ok) (ixJ (eVar_ok rfl) eC_ok) (up g.b1) (up k.b2)) (tm (ixI (eVar_ok rfl) eC_ok) (ixJ (eVar_ok rfl) eC_ok) (up k.b1) (up g.b2)) rfl)
    (eCons_ok (tm (ixJ (eVar_ok rfl) eC_ok) (ixJ (eVar_ok rfl) eC_ok) (up g.b2) (up k.b2)) eNil_ok)) (lawFracF (prN g k) (sumB g k) (prB g k))))) rfl rfl rfl
theorem ltimesF : callF 2 F_law_times [qCV x, qCV y] h = .ok (qCV (fr (x.1 * y.1) (x.2 * y.2))) h :=
  callF_read (h' := []) (v := qCV _) (run_rt rfl (mRet_ok (eB_ok (eCons_ok (tm (ixI (eVar_ok rfl) eC_ok) (ixI (eVar_ok rfl) eC_ok) (up g.b1) (up k.b1))
    (eCons_ok (tm (ixJ (eVar_ok rfl) eC_ok) (ixJ (eVar_ok rfl) eC_ok) (up g.b2) (up k.b2)) eNil_ok)) (lawFracF (prN g k) (up2 (mulB g.b1 k.b1)) (prB g k))))) rfl rfl rfl
theorem loverF (hz : y.1 ≠ 0) : callF 2 F_law_over [qCV x, qCV y] h = .ok (qCV (fr (x.1 * y.2) (x.2 * y.1))) h :=
  callF_read (h' := []) (v := qCV _) (run_rt rfl (mRet_ok (eB_ok (eCons_ok (tm (ixI (eVar_ok rfl) eC_ok) (ixJ (eVar_ok rfl) eC_ok) (up g.b1) (up k.b2))
    (eCons_ok (tm (ixJ (eVar_ok rfl) eC_ok) (ixI (eVar_ok rfl) eC_ok) (up g.b2) (up k.b1)) eNil_ok)) (lawFracF (ne2 (Int.ne_of_gt g.pos) hz) (up2 (mulB g.b1 k.b2)) (up2 (mulB g.b2 k.b1)))))) rfl rfl rfl
omit g in
theorem Good.neg : Good (0 - y.1, y.2) := ⟨k.pos, by show Nat.gcd (0 - y.1).natAbs _ = 1; rw [Int.zero_sub, Int.natAbs_neg]; exact k.red, by show (0 - y.1).natAbs ≤ _; rw [Int.zero_sub, Int.natAbs_neg]; exact k.b1, k.b2⟩
theorem llessF : callF 2 F_law_less [qCV x, qCV y] h = .ok (qCV (fr (x.1 * y.2 - y.1 * x.2) (x.2 * y.2))) h := by
  have e : fr (x.1 * y.2 - y.1 * x.2) (x.2 * y.2) = fr (x.1 * y.2 + (0 - y.1) * x.2) (x.2 * y.2) := by rw [Int.zero_sub, Int.neg_mul, Int.sub_eq_add_neg]
  rw [e]
  exact callF_read (h' := []) (v := qCV _) (run_rt rfl (mRet_ok (eB_ok (eCons_ok (eVar_ok rfl) (eCons_ok (eTup_ok (eCons_ok (eOp_ok eC_ok (ixI (x := y) (eVar_ok rfl) eC_ok) rfl) (eCons_ok (ixJ (x := y) (eVar_ok rfl) eC_ok) eNil_ok)) (by simp)) eNil_ok)) (lplusF (y := (0 - y.1, y.2)) g k.neg)))) rfl rfl rfl
end
theorem lpairF {N : CV} {x : Int × Int} (n : Num N x) {h : Mem} : callF 1 F_law_nb_pair [N] h = .ok (qCV x) h := by
  cases n with
  | int hv => exact callF_read (h' := []) (v := qCV (_, 1)) (run_rt rfl (mRet_ok (eIf_t (bOf_ok (eUn_ok (eVar_ok rfl) rfl)) (eTup_ok (eCons_ok (eVar_ok rfl) (eCons_ok eC_ok eNil_ok)) (by simp))))) rfl rfl rfl
  | frac g => exact callF_read (h' := []) (v := qCV x) (run_rt rfl (mRet_ok (eIf_f (bOf_ok (eUn_ok (eVar_ok rfl) rfl)) (eVar_ok rfl)))) rfl rfl rfl
theorem floorF {N : CV} {x : Int × Int} (n : Num N x) {h : Mem} : callF 1 F_floor_of [N] h = .ok (.int (x.1.fdiv x.2)) h :=
  callF_read (h' := []) (v := .int _) (run_rt rfl ((mSeq_nx (mExpr_ok (eB_ok (eCons_ok (eVar_ok rfl) eNil_ok) (reqF n)))).trans ((mSeq_nx (asg2 (eB_ok (eCons_ok (eVar_ok rfl) eNil_ok) (pairF n)))).trans
    (mRet_ok (eOp_ok (eVar_ok rfl) (eVar_ok rfl) (pyFdiv_int (Int.ne_of_gt n.good.pos) (fitDOf n.good.b2 (by decide)))))))) n.nr rfl rfl
theorem dividedF {N M : CV} {x y : Int × Int} (n : Num N x) (m : Num M y) (hz : y.1 ≠ 0) {h : Mem} : callF 2 F_divided [N, M] h = .ok (qCV (fr (x.1 * y.2) (x.2 * y.1))) h := by
  have c : ∀ (a b : Option CV), bOf (eOp (pyEq false) (eOp pyIx (eVar 3) (eC (.int 0))) (eC (.int 0))) [a, b, some (qCV x), some (qCV y)] [] = .ok false [] := fun a b =>
    bOf_ok (eOp_ok (ixI (x := y) (eVar_ok rfl) eC_ok) eC_ok (pyEq_int.trans (by rw [decide_eq_false hz]; rfl)))
  exact callF_read (h' := []) (v := qCV _) (run_rt rfl ((mSeq_nx (asg2 (eB_ok (eCons_ok (eVar_ok rfl) (eCons_ok (eVar_ok rfl) eNil_ok)) (bothF n m)))).trans ((mSeq_nx ((mIf_f (c _ _)).trans rd_mNil)).trans
    (mRet_ok (eB_ok (eCons_ok (eVar_ok rfl) (eCons_ok (eVar_ok rfl) eNil_ok)) (quotInF n.good m.good hz)))))) (nr2 n.nr m.nr) rfl rfl
theorem fractionF {a b : Int} (hb : b ≠ 0) (hb2 : b.natAbs ≤ 2 ^ 4000) {h : Mem} : callF 2 F_fraction [.int a, .int b] h = .ok (qCV (fr a b)) h := by
  have c1 : bNot (bOf (eB (callF 1 F_is_whole) (eConsA (eVar 0) eNilA))) [some (.int a), some (.int b)] [] = .ok false [] := bNot_ok (b := true) (bOf_ok (eB_ok (eCons_ok (eVar_ok rfl) eNil_ok) wholeF))
  have c2 : bNot (bOf (eB (callF 1 F_is_whole) (eConsA (eVar 1) eNilA))) [some (.int a), some (.int b)] [] = .ok false [] := bNot_ok (b := true) (bOf_ok (eB_ok (eCons_ok (eVar_ok rfl) eNil_ok) wholeF))
  have c3 : bOf (eOp (pyEq false) (eVar 1) (eC (.int 0))) [some (.int a), some (.int b)] [] = .ok false [] := bOf_ok (eOp_ok (eVar_ok rfl) eC_ok (pyEq_int.trans (by rw [decide_eq_false hb]; rfl)))
  exact callF_read (h' := []) (v := qCV _) (run_rt rfl ((mSeq_nx ((mIf_f c1).trans rd_mNil)).trans ((mSeq_nx ((mIf_f (bOr_ff c2 c3)).trans rd_mNil)).trans (mRet_ok (eB_ok (eCons_ok (eVar_ok rfl) (eCons_ok (eVar_ok rfl) eNil_ok)) (fracInF hb hb2)))))) rfl rfl rfl

theorem DiceN.mono {h : Mem} {l n m : Nat} (d : DiceN h l n) (hm : n ≤ m) : DiceN h l m := let ⟨a, b, c, e, z⟩ := d; ⟨a, b, c, e, Nat.le_trans z hm⟩
theorem DiceN.push {h : Mem} {l n : Nat} {o : CO} (d : DiceN h l n) : DiceN (h ++ [o]) l n := let ⟨a, b, c, e, z⟩ := d; ⟨a, b, c, At.push e, z⟩
theorem DiceN.set_ne {h : Mem} {l n k : Nat} {o : CO} (d : DiceN h l n) (hk : k ≠ l) : DiceN (h.set k o) l n := let ⟨a, b, c, e, z⟩ := d; ⟨a, b, c, At.set_ne e hk, z⟩
theorem DiceN.lt {h : Mem} {l n : Nat} (d : DiceN h l n) : l < h.length := let ⟨_, _, _, e, _⟩ := d; At.lt e
theorem drawn {h : Mem} {l n : Nat} (xs : List CV) (d : DiceN h l n) (hn : n ≤ 10000) (h0 : 0 < xs.length ∧ xs.length ≤ 1000) :
    ∃ (x : CV) (h' : Mem), x ∈ xs ∧ F_law_pick [.ref l, .lst xs] h = .ok x h' ∧ DiceN h' l (n + 1) := by
  obtain ⟨i, x, h', g, e, d'⟩ := pick_ok d h0.1 h0.2 (Nat.lt_of_le_of_lt hn (by decide +kernel))
  exact ⟨x, h', List.mem_of_getElem? g, e, d'⟩
theorem rolled {h : Mem} {l n : Nat} (t : Int) (d : DiceN h l n) (hn : n ≤ 10000) (h0 : 0 < t ∧ t.natAbs ≤ 2 ^ 200) :
    ∃ (r : Int) (h' : Mem), 0 ≤ r ∧ r < t ∧ F_law_roll [.ref l, .int t] h = .ok (.int r) h' ∧ DiceN h' l (n + 1) := roll_ok d h0.1 h0.2 (Nat.lt_of_le_of_lt hn (by decide +kernel))
theorem p10 {k : Nat} (hk : k ≤ 1000) {a b : Sl → M CV} {τ : Sl} {h : Mem} (q : a τ h = .ok (.int 10) h) (q2 : b τ h = .ok (.int k) h) : eOp pyPow a b τ h = .ok (.int (10 ^ k)) h := eOp_ok q q2 (pow10 hk)
theorem nb_ok {h : Mem} {l n : Nat} (d : DiceN h l n) (hn : n ≤ 5000) : ∃ N x h', F_law_nb_drawn [.ref l] h = .ok N h' ∧ Num N x ∧ DiceN h' l (n + 5) := by
  obtain ⟨mv, h1, g1, e1, d1⟩ := drawn [.int 4, .int 15, .int (10 ^ 8), .int (10 ^ 41)] d (by omega) (by decide)
  obtain ⟨m, hm0, hm1, rfl⟩ : ∃ m : Int, 0 < m ∧ m ≤ 10 ^ 41 ∧ mv = .int m := by
    simp only [List.mem_cons, List.not_mem_nil, or_false] at g1
    rcases g1 with rfl | rfl | rfl | rfl
    · exact ⟨_, by decide, by decide +kernel, rfl⟩
    · exact ⟨_, by decide, by decide +kernel, rfl⟩
    · exact ⟨_, by decide, by decide +kernel, rfl⟩
    · exact ⟨_, by decide +kernel, Int.le_refl _, rfl⟩
  have c41 : (10 : Int) ^ 41 = 100000000000000000000000000000000000000000 := by decide +kernel
  have c31 : (10 : Int) ^ 31 = 10000000000000000000000000000000 := by decide +kernel
  have c49 : (10 : Int) ^ 49 = 10000000000000000000000000000000000000000000000000 := by decide +kernel
  have k200 : (10 : Nat) ^ 60 ≤ 2 ^ 200 := by decide +kernel
  have k250 : (10 : Nat) ^ 75 ≤ 2 ^ 250 := by decide +kernel
  have n60 : (10 : Nat) ^ 60 = 1000000000000000000000000000000000000000000000000000000000000 := by decide +kernel
  have n75 : (10 : Nat) ^ 75 = 1000000000000000000000000000000000000000000000000000000000000000000000000000 := by decide +kernel
  rw [c41] at hm1
  obtain ⟨t, h2, t0, t1, e2, d2⟩ := rolled (2 * m + 1) d1 (by omega) ⟨by omega, by omega⟩
  obtain ⟨w, h3, w0, w1, e3, d3⟩ := rolled 5 d2 (by omega) ⟨by decide, by decide +kernel⟩
  have s1 : mAsg (gSet 1) (eCall 2 F_law_pick (eConsA (eVar 0) (eConsA (eLst (eConsA (eC (.int 4)) (eConsA (eC (.int 15)) (eConsA (eOp pyPow (eC (.int 10)) (eC (.int 8))) (eConsA (eOp pyPow (eC (.int 10)) (eC (.int 41))) eNilA))))) eNilA))) (startC 4 [.ref l]) h = .mk (.nx [some (.ref l), some (.int m), none, none]) h1 :=
    mAsg_ok (eCall_ok (eCons_ok (eVar_ok rfl) (eCons_ok (by kernel_rfl) eNil_ok)) rfl e1)
  have a1 : eOp pySub (eCall 2 F_law_roll (eConsA (eVar 0) (eConsA (eOp pyAdd (eOp pyTimes (eC (.int 2)) (eVar 1)) (eC (.int 1))) eNilA))) (eVar 1) [some (.ref l), some (.int m), none, none] h1 = .ok (.int (t - m)) h2 :=
    eOp_ok (eCall_ok (eCons_ok (eVar_ok rfl) (eCons_ok (eOp_ok (tm eC_ok (eVar_ok rfl) (by decide +kernel) (Nat.le_trans (by omega) (Nat.le_trans k200 (Nat.pow_le_pow_right (by decide) (by decide))))) eC_ok rfl) eNil_ok)) rfl e2) (eVar_ok rfl) rfl
  have a2 : eCall 2 F_law_roll (eConsA (eVar 0) (eConsA (eC (.int 5)) eNilA)) [some (.ref l), some (.int m), none, none] h2 = .ok (.int w) h3 := eCall_ok (eCons_ok (eVar_ok rfl) (eCons_ok eC_ok eNil_ok)) rfl e3
  have s2 := mPar_ok (i := 2) (j := 3) (eCons_ok a1 (eCons_ok a2 eNil_ok))
  have c1 : bOf (eOp pyLt (eVar 3) (eC (.int 2))) [some (.ref l), some (.int m), some (.int (t - m)), some (.int w)] h3 = .ok (decide (w < 2)) h3 := bOf_ok (eOp_ok (eVar_ok rfl) eC_ok rfl)
  have c2 : bOf (eOp (pyEq false) (eVar 3) (eC (.int 2))) [some (.ref l), some (.int m), some (.int (t - m)), some (.int w)] h3 = .ok (decide (w = 2)) h3 := bOf_ok (eOp_ok (eVar_ok rfl) eC_ok (pyEq_int.trans (by simp)))
  by_cases q1 : w < 2
  · rw [decide_eq_true q1] at c1
    refine ⟨.int (t - m), (t - m, 1), h3, run_rt rfl ((mSeq_nx s1).trans ((mSeq_nx s2).trans (mSeq_rt ((mIf_t c1).trans (mRet_ok (eVar_ok rfl)))))), .int (by omega), d3.mono (by omega)⟩
  rw [decide_eq_false q1] at c1
  by_cases q2 : w = 2
  · rw [decide_eq_true q2] at c2
    obtain ⟨r, h4, r0, r1, e4, d4⟩ := rolled (10 ^ 49) d3 (by omega) ⟨by decide +kernel, by decide +kernel⟩
    rw [c49] at r1
    have hp : ((t - m) * 10 ^ 31).natAbs ≤ 10 ^ 41 * 10 ^ 31 := by
      rw [Int.natAbs_mul]
      refine Nat.mul_le_mul ?_ (by decide +kernel)
      have : (10 : Nat) ^ 41 = 100000000000000000000000000000000000000000 := by decide +kernel
      omega
    have hp2 : (10 : Nat) ^ 41 * 10 ^ 31 = 1000000000000000000000000000000000000000000000000000000000000000000000000 := by decide +kernel
    have ba : ((t - m) * 10 ^ 31 + 9).natAbs ≤ 2 ^ 250 := by
      rw [hp2] at hp
      generalize (t - m) * 10 ^ 31 = z at hp
      omega
    have bb : (1 + r).natAbs ≤ 2 ^ 250 := by omega
    refine ⟨_, _, h4, run_rt rfl ((mSeq_nx s1).trans ((mSeq_nx s2).trans ((mSeq_nx ((mIf_f c1).trans rd_mNil)).trans (mSeq_rt ((mIf_t c2).trans (mRet_ok (eB_ok (eCons_ok
      (eOp_ok (tm (eVar_ok rfl) (p10 (k := 31) (by decide) eC_ok eC_ok) (Nat.le_trans (by omega) (Nat.le_trans k200 (Nat.pow_le_pow_right (by decide) (by decide)))) (by decide +kernel)) eC_ok rfl)
      (eCons_ok (eOp_ok eC_ok (eCall_ok (eCons_ok (eVar_ok rfl) (eCons_ok (p10 (k := 49) (by decide) eC_ok eC_ok) eNil_ok)) rfl e4) rfl) eNil_ok)) (lawFracF (by omega) (up ba) (up bb))))))))),
      .frac (fr_good (by omega) ba bb), d4.mono (by omega)⟩
  · rw [decide_eq_false q2] at c2
    obtain ⟨bv, h4, g4, e4, d4⟩ := drawn [.int 1, .int 5, .int 13, .int 900] d3 (by omega) (by decide)
    obtain ⟨b, hb0, hb1, rfl⟩ : ∃ b : Int, 0 < b ∧ b ≤ 900 ∧ bv = .int b := by
      simp only [List.mem_cons, List.not_mem_nil, or_false] at g4
      rcases g4 with rfl | rfl | rfl | rfl <;> exact ⟨_, by decide, by decide, rfl⟩
    obtain ⟨r, h5, r0, r1, e5, d5⟩ := rolled b d4 (by omega) ⟨hb0, by omega⟩
    have ba : (t - m).natAbs ≤ 2 ^ 250 := by omega
    have bb : (1 + r).natAbs ≤ 2 ^ 250 := by omega
    refine ⟨_, _, h5, run_rt rfl ((mSeq_nx s1).trans ((mSeq_nx s2).trans ((mSeq_nx ((mIf_f c1).trans rd_mNil)).trans ((mSeq_nx ((mIf_f c2).trans rd_mNil)).trans (mRet_ok (eB_ok (eCons_ok (eVar_ok rfl)
      (eCons_ok (eOp_ok eC_ok (eCall_ok (eCons_ok (eVar_ok rfl) (eCons_ok (eCall_ok (eCons_ok (eVar_ok rfl) (eCons_ok (by kernel_rfl) eNil_ok)) rfl e4) eNil_ok)) rfl e5) rfl) eNil_ok)) (lawFracF (by omega) (up ba) (up bb)))))))),
      .frac (fr_good (by omega) ba bb), d5.mono (by omega)⟩

theorem eChain_t {g g' : CV → CV → M CV} {a b c : Sl → M CV} {τ : Sl} {x y w v : CV} {h h1 h2 h3 h4 h5 : Mem} (q1 : a τ h = .ok x h1) (q2 : b τ h1 = .ok y h2) (q3 : g x y h2 = .ok (.bl true) h3) (q4 : c τ h3 = .ok w h4) (q5 : g' y w h4 = .ok v h5) : eChain g g' a b c τ h = .ok v h5 := by
  unfold eChain
  rw [rd_bnd, q1]
  simp only
  rw [rd_bnd, q2]
  simp only
  rw [rd_bnd, q3]
  simp only
  rw [rd_bnd, q4]
  exact q5
theorem floor_le {x : Int × Int} (g : Good x) : x.1.fdiv x.2 * x.2 ≤ x.1 ∧ x.1 < (x.1.fdiv x.2 + 1) * x.2 ∧ (x.1.fdiv x.2).natAbs ≤ 2 ^ 250 := by
  have p := g.pos
  rw [Int.fdiv_eq_ediv_of_nonneg _ (Int.le_of_lt p)]
  exact ⟨Int.ediv_mul_le _ (Int.ne_of_gt p), Int.lt_ediv_add_one_mul_self _ p, Nat.le_trans (Int.natAbs_ediv_le_natAbs _ _) g.b1⟩
theorem sums_ok {h : Mem} {l c : Nat} (d : DiceN h l c) (hc : c ≤ 1000) : ∃ h', F_law_sums_right [.ref l] h = .ok (.bl true) h' ∧ DiceN h' l (c + 11) := by
  obtain ⟨N, x, h1, e1, n1, d1⟩ := nb_ok d (by omega)
  obtain ⟨M, y, h2, e2, n2, d2⟩ := nb_ok d1 (by omega)
  obtain ⟨s, h3, s0, s1, e3, d3⟩ := rolled 60 d2 (by omega) ⟨by decide, by decide +kernel⟩
  have g1 := n1.good
  have g2 := n2.good
  have hp : 0 < x.2 * y.2 := Int.mul_pos g1.pos g2.pos
  generalize hgp : fr (x.1 * y.2 - y.1 * x.2) (x.2 * y.2) = gp
  have sg : sgn gp.1 = sgn (x.1 * y.2 - y.1 * x.2) := by rw [← hgp]; exact sgn_fr hp
  have sg2 : sgn (y.1 * x.2 - x.1 * y.2) = 0 - sgn gp.1 := by
    rw [sg, ← sgn_neg]
    congr 1
    omega
  have sg3 : sgn (x.1 * x.2 - x.1 * x.2) = 0 := by rw [Int.sub_self]; rfl
  have p1 : eCall 1 F_law_nb_drawn (eConsA (eVar 0) eNilA) (startC 9 [.ref l]) h = .ok N h1 := eCall_ok (eCons_ok (eVar_ok rfl) eNil_ok) rfl e1
  have p2 : eCall 1 F_law_nb_drawn (eConsA (eVar 0) eNilA) (startC 9 [.ref l]) h1 = .ok M h2 := eCall_ok (eCons_ok (eVar_ok rfl) eNil_ok) rfl e2
  have t1 := mPar_ok (i := 1) (j := 2) (eCons_ok p1 (eCons_ok p2 eNil_ok))
  have t2 : ∀ a b c d e f : Option CV, mPar 3 4 (eConsA (eB (callF 1 F_law_nb_pair) (eConsA (eVar 1) eNilA)) (eConsA (eB (callF 1 F_law_nb_pair) (eConsA (eVar 2) eNilA)) eNilA)) [some (.ref l), some N, some M, a, b, c, d, e, f] h2 = .mk (.nx [some (.ref l), some N, some M, some (qCV x), some (qCV y), c, d, e, f]) h2 := fun a b c d e f =>
    mPar_ok (i := 3) (j := 4) (eCons_ok (eB_ok (eCons_ok (eVar_ok rfl) eNil_ok) (lpairF n1)) (eCons_ok (eB_ok (eCons_ok (eVar_ok rfl) eNil_ok) (lpairF n2)) eNil_ok))
  have t3 : ∀ c d e f : Option CV, mAsg (gSet 5) (eB (callF 2 F_law_less) (eConsA (eVar 3) (eConsA (eVar 4) eNilA))) [some (.ref l), some N, some M, some (qCV x), some (qCV y), c, d, e, f] h2 = .mk (.nx [some (.ref l), some N, some M, some (qCV x), some (qCV y), some (qCV gp), d, e, f]) h2 := fun c d e f =>
    mAsg_ok (by rw [← hgp]; exact eB_ok (eCons_ok (eVar_ok rfl) (eCons_ok (eVar_ok rfl) eNil_ok)) (llessF g1 g2))
  have t4 : ∀ d e f : Option CV, bOf (eOp (pyEq true) (eLst (eConsA (eB (callF 2 F_added) (eConsA (eVar 1) (eConsA (eVar 2) eNilA))) (eConsA (eB (callF 2 F_less) (eConsA (eVar 1) (eConsA (eVar 2) eNilA))) (eConsA (eB (callF 2 F_multiplied) (eConsA (eVar 1) (eConsA (eVar 2) eNilA))) eNilA)))) (eLst (eConsA (eB (callF 2 F_law_plus) (eConsA (eVar 3) (eConsA (eVar 4) eNilA))) (eConsA (eVar 5) (eConsA (eB (callF 2 F_law_times) (eConsA (eVar 3) (eConsA (eVar 4) eNilA))) eNilA))))) [some (.ref l), some N, some M, some (qCV x), some (qCV y), some (qCV gp), d, e, f] h2 = .ok false h2 := fun d e f => by
    refine bOf_ok (eOp_ok (eLst_ok (eCons_ok (eB_ok (eCons_ok (eVar_ok rfl) (eCons_ok (eVar_ok rfl) eNil_ok)) (addedF n1 n2)) (eCons_ok (eB_ok (eCons_ok (eVar_ok rfl) (eCons_ok (eVar_ok rfl) eNil_ok)) (lessF n1 n2)) (eCons_ok (eB_ok (eCons_ok (eVar_ok rfl) (eCons_ok (eVar_ok rfl) eNil_ok)) (multF n1 n2)) eNil_ok))) (by simp))
      (eLst_ok (eCons_ok (eB_ok (eCons_ok (eVar_ok rfl) (eCons_ok (eVar_ok rfl) eNil_ok)) (lplusF g1 g2)) (eCons_ok (eVar_ok rfl) (eCons_ok (eB_ok (eCons_ok (eVar_ok rfl) (eCons_ok (eVar_ok rfl) eNil_ok)) (ltimesF g1 g2)) eNil_ok))) (by simp)) ?_)
    rw [hgp]
    exact pyEq_same (n := 3) (by decide) rfl
  have t5 : ∀ d e f : Option CV, mAsg (gSet 6) (eOp pySub (eB VE.pyInt (eConsA (eOp pyGt (eOp pyIx (eVar 5) (eC (.int 0))) (eC (.int 0))) eNilA)) (eB VE.pyInt (eConsA (eOp pyLt (eOp pyIx (eVar 5) (eC (.int 0))) (eC (.int 0))) eNilA))) [some (.ref l), some N, some M, some (qCV x), some (qCV y), some (qCV gp), d, e, f] h2 = .mk (.nx [some (.ref l), some N, some M, some (qCV x), some (qCV y), some (qCV gp), some (.int (sgn gp.1)), e, f]) h2 := fun d e f =>
    mAsg_ok (eOp_ok (eB_ok (eCons_ok (eOp_ok (ixI (x := gp) (eVar_ok rfl) eC_ok) eC_ok rfl) eNil_ok) rfl) (eB_ok (eCons_ok (eOp_ok (ixI (x := gp) (eVar_ok rfl) eC_ok) eC_ok rfl) eNil_ok) rfl) rfl)
  have t6 : ∀ e f : Option CV, bOf (eOp (pyEq true) (eLst (eConsA (eB (callF 2 F_compared) (eConsA (eVar 1) (eConsA (eVar 2) eNilA))) (eConsA (eB (callF 2 F_compared) (eConsA (eVar 2) (eConsA (eVar 1) eNilA))) (eConsA (eB (callF 2 F_compared) (eConsA (eVar 3) (eConsA (eVar 1) eNilA))) eNilA)))) (eLst (eConsA (eVar 6) (eConsA (eOp pySub (eC (.int 0)) (eVar 6)) (eConsA (eC (.int 0)) eNilA))))) [some (.ref l), some N, some M, some (qCV x), some (qCV y), some (qCV gp), some (.int (sgn gp.1)), e, f] h2 = .ok false h2 := fun e f => by
    refine bOf_ok (eOp_ok (eLst_ok (eCons_ok (eB_ok (eCons_ok (eVar_ok rfl) (eCons_ok (eVar_ok rfl) eNil_ok)) (comparedF n1 n2)) (eCons_ok (eB_ok (eCons_ok (eVar_ok rfl) (eCons_ok (eVar_ok rfl) eNil_ok)) (comparedF n2 n1)) (eCons_ok (eB_ok (eCons_ok (eVar_ok rfl) (eCons_ok (eVar_ok rfl) eNil_ok)) (comparedF (Num.frac g1) n1)) eNil_ok))) (by simp))
      (eLst_ok (eCons_ok (eVar_ok rfl) (eCons_ok (eOp_ok eC_ok (eVar_ok rfl) rfl) (eCons_ok eC_ok eNil_ok))) (by simp)) ?_)
    rw [sg2, sg3, ← sg]
    exact pyEq_same (n := 2) (by decide) rfl
  have t7 : ∀ e f : Option CV, bAnd (bOf (eOp (pyEq true) (eOp pyIx (eVar 4) (eC (.int 0))) (eC (.int 0)))) (bOf (eOp (pyEq true) (eB (callF 2 F_divided) (eConsA (eVar 1) (eConsA (eVar 2) eNilA))) (eB (callF 2 F_law_over) (eConsA (eVar 3) (eConsA (eVar 4) eNilA))))) [some (.ref l), some N, some M, some (qCV x), some (qCV y), some (qCV gp), some (.int (sgn gp.1)), e, f] h2 = .ok false h2 := fun e f => by
    by_cases z : y.1 = 0
    · exact bAnd_f (bOf_ok (eOp_ok (ixI (x := y) (eVar_ok rfl) eC_ok) eC_ok (pyEq_int.trans (by rw [decide_eq_true z]; rfl))))
    · exact bAnd_t (bOf_ok (eOp_ok (ixI (x := y) (eVar_ok rfl) eC_ok) eC_ok (pyEq_int.trans (by rw [decide_eq_false z]; rfl))))
        (bOf_ok (eOp_ok (eB_ok (eCons_ok (eVar_ok rfl) (eCons_ok (eVar_ok rfl) eNil_ok)) (dividedF n1 n2 z)) (eB_ok (eCons_ok (eVar_ok rfl) (eCons_ok (eVar_ok rfl) eNil_ok)) (loverF g1 g2 z)) (pyEq_same (n := 2) (by decide) rfl)))
  have r8 : ∀ e f : Option CV, eOp pyAdd (eC (.int 1)) (eCall 2 F_law_roll (eConsA (eVar 0) (eConsA (eC (.int 60)) eNilA))) [some (.ref l), some N, some M, some (qCV x), some (qCV y), some (qCV gp), some (.int (sgn gp.1)), e, f] h2 = .ok (.int (1 + s)) h3 := fun e f => eOp_ok eC_ok (eCall_ok (eCons_ok (eVar_ok rfl) (eCons_ok eC_ok eNil_ok)) rfl e3) rfl
  obtain ⟨f1, f2, f3⟩ := floor_le g1
  generalize hfl : x.1.fdiv x.2 = fl at f1 f2 f3
  have t8 : ∀ e f : Option CV, mPar 7 8 (eConsA (eOp pyAdd (eC (.int 1)) (eCall 2 F_law_roll (eConsA (eVar 0) (eConsA (eC (.int 60)) eNilA)))) (eConsA (eB (callF 1 F_floor_of) (eConsA (eVar 1) eNilA)) eNilA)) [some (.ref l), some N, some M, some (qCV x), some (qCV y), some (qCV gp), some (.int (sgn gp.1)), e, f] h2 = .mk (.nx [some (.ref l), some N, some M, some (qCV x), some (qCV y), some (qCV gp), some (.int (sgn gp.1)), some (.int (1 + s)), some (.int fl)]) h3 := fun e f =>
    mPar_ok (i := 7) (j := 8) (eCons_ok (r8 e f) (eCons_ok (by rw [← hfl]; exact eB_ok (eCons_ok (eVar_ok rfl) eNil_ok) (floorF n1)) eNil_ok))
  have hs : (1 + s).natAbs ≤ 2 ^ 6 := by omega
  have hs2 : (1 + s).natAbs ≤ 2 ^ 4000 := Nat.le_trans hs (Nat.pow_le_pow_right (by decide) (by decide))
  have bm : (0 - (1 + s) * x.2).natAbs ≤ 2 ^ 4000 := by
    rw [Int.zero_sub, Int.natAbs_neg]
    exact Nat.le_trans (mulB hs g1.b2) (Nat.pow_le_pow_right (by decide) (by decide))
  have bn : 0 - (1 + s) * x.2 ≠ 0 := by have := Int.mul_pos (show 0 < 1 + s by omega) g1.pos; omega
  have t9 : bOr (bOf (eOp (pyEq true) (eB (callF 2 F_fraction) (eConsA (eOp pySub (eC (.int 0)) (eOp pyTimes (eVar 7) (eOp pyIx (eVar 3) (eC (.int 0))))) (eConsA (eOp pySub (eC (.int 0)) (eOp pyTimes (eVar 7) (eOp pyIx (eVar 3) (eC (.int 1))))) eNilA))) (eVar 3))) (bNot (bOf (eUn (isK isInt) (eVar 8)))) [some (.ref l), some N, some M, some (qCV x), some (qCV y), some (qCV gp), some (.int (sgn gp.1)), some (.int (1 + s)), some (.int fl)] h3 = .ok false h3 := by
    refine bOr_ff (bOf_ok (eOp_ok (eB_ok (eCons_ok (eOp_ok eC_ok (tm (eVar_ok rfl) (ixI (x := x) (eVar_ok rfl) eC_ok) hs2 (up g1.b1)) rfl) (eCons_ok (eOp_ok eC_ok (tm (eVar_ok rfl) (ixJ (x := x) (eVar_ok rfl) eC_ok) hs2 (up g1.b2)) rfl) eNil_ok)) (fractionF bn bm)) (eVar_ok rfl) ?_)) (bNot_ok (b := true) (bOf_ok (eUn_ok (eVar_ok rfl) rfl)))
    rw [fr_neg g1 (show 0 < 1 + s by omega)]
    exact pyEq_same (n := 2) (by decide) rfl
  have bfl : (fl + 1).natAbs ≤ 2 ^ 4000 := by
    have : (2 : Nat) ^ 250 + 1 ≤ 2 ^ 4000 := Nat.le_trans (Nat.pow_lt_pow_right (a := 2) (m := 250) (n := 251) (by decide) (by decide)) (Nat.pow_le_pow_right (by decide) (by decide))
    omega
  have le1 : ∀ m : Mem, pyLe (.int (fl * x.2)) (.int x.1) m = .ok (.bl true) m := fun m => by
    show Out.ok (CV.bl (decide _)) m = _
    rw [decide_eq_true f1]
  have lt1 : ∀ m : Mem, pyLt (.int x.1) (.int ((fl + 1) * x.2)) m = .ok (.bl true) m := fun m => by
    show Out.ok (CV.bl (decide _)) m = _
    rw [decide_eq_true f2]
  have t10 : eChain pyLe pyLt (eOp pyTimes (eVar 8) (eOp pyIx (eVar 3) (eC (.int 1)))) (eOp pyIx (eVar 3) (eC (.int 0))) (eOp pyTimes (eOp pyAdd (eVar 8) (eC (.int 1))) (eOp pyIx (eVar 3) (eC (.int 1)))) [some (.ref l), some N, some M, some (qCV x), some (qCV y), some (qCV gp), some (.int (sgn gp.1)), some (.int (1 + s)), some (.int fl)] h3 = .ok (.bl true) h3 :=
    eChain_t (tm (eVar_ok rfl) (ixJ (x := x) (eVar_ok rfl) eC_ok) (up f3) (up g1.b2)) (ixI (x := x) (eVar_ok rfl) eC_ok) (le1 _) (tm (eOp_ok (eVar_ok rfl) eC_ok rfl) (ixJ (x := x) (eVar_ok rfl) eC_ok) bfl (up g1.b2)) (lt1 _)
  refine ⟨h3, ?_, d3⟩
  exact run_rt rfl ((mSeq_nx t1).trans ((mSeq_nx (t2 _ _ _ _ _ _)).trans ((mSeq_nx (t3 _ _ _ _)).trans ((mSeq_nx ((mIf_f (t4 _ _ _)).trans rd_mNil)).trans ((mSeq_nx (t5 _ _ _)).trans ((mSeq_nx ((mIf_f (t6 _ _)).trans rd_mNil)).trans
    ((mSeq_nx ((mIf_f (t7 _ _)).trans rd_mNil)).trans ((mSeq_nx (t8 _ _)).trans ((mSeq_nx ((mIf_f t9).trans rd_mNil)).trans (mRet_ok (eAnd_t t10 (eAnd_t (eB_ok (eCons_ok (eVar_ok rfl) eNil_ok) (numberF n1)) (eB_ok (eCons_ok (eVar_ok rfl) eNil_ok) (fractionT g1))))))))))))))

theorem powB {a : Int} {k : Nat} (h : a.natAbs ≤ 2 ^ k) (w : Nat) : (a ^ w).natAbs ≤ 2 ^ (k * w) := by
  rw [Int.natAbs_pow, Nat.pow_mul]
  exact Nat.pow_le_pow_left h w
theorem tmf {a b : Sl → M CV} {i j : Int} {τ : Sl} {h h1 h2 : Mem} (q : a τ h = .ok (.int i) h1) (q2 : b τ h1 = .ok (.int j) h2) (hi : fit i = true) (hj : fit j = true) : eOp pyTimes a b τ h = .ok (.int (i * j)) h2 := eOp_ok q q2 (pyTimes_int hi hj)
theorem lpowF {a : Int} {k w : Nat} (ha : a.natAbs ≤ 2 ^ k) (hk : k ≤ 400000) (hw : k * w ≤ 400000) (hw2 : w < 2 ^ 60) {h : Mem} : callF 2 F_law_power [.int a, .int (w : Nat)] h = .ok (.int (a ^ w)) h := by
  obtain ⟨τ', h', e1, rfl, x, e2⟩ := forL_inv (g := gSet 3) (b := l_law_power_0) (fun j τ h => h = [] ∧ ∃ x, τ = [some (.int a), some (.int (w : Nat)), some (.int (a ^ j)), x]) ((List.range w).map fun (i : Nat) => CV.int (0 + (i : Int))) 0
    [some (.int a), some (.int (w : Nat)), some (.int 1), none] [] ⟨rfl, none, by rw [Int.pow_zero]⟩ (fun i y τ h hx hi => by
      obtain ⟨rfl, x, rfl⟩ := hi
      obtain ⟨hlt, rfl⟩ := upto0_at hx
      have hle : i ≤ w := by omega
      have fp : fit (a ^ (0 + i)) = true := fitOf (k := k * w) (by rw [Nat.zero_add]; exact Nat.le_trans (powB ha i) (Nat.pow_le_pow_right (by decide) (Nat.mul_le_mul_left _ hle))) hw
      refine ⟨_, _, _, _, rd_gSet _ _, mAsg_ok (tmf (eVar_ok rfl) (eVar_ok rfl) fp (fitOf ha hk)), rfl, some (.int i), ?_⟩
      rw [show 0 + i + 1 = (0 + i) + 1 from rfl, Int.pow_succ]
      rfl)
  subst e2
  refine callF_read (h' := []) (v := .int (a ^ w)) (run_rt rfl ((mSeq_nx (mAsg_ok eC_ok)).trans ((mSeq_nx ((mFor_nx (iArgs_ok (eCons_ok (eVar_ok rfl) eNil_ok) (rng1_nat hw2))).trans e1)).trans (mRet_ok (eVar_ok ?_))))) rfl rfl rfl
  simp

theorem mAug_ok {i : Nat} {g : CV → CV → M CV} {e : Sl → M CV} {τ : Sl} {x y z : CV} {h h1 h2 : Mem} (q0 : τ[i]? = some (some x)) (q1 : e τ h = .ok y h1) (q2 : g x y h1 = .ok z h2) : mAug i g e τ h = .mk (.nx (τ.set i (some z))) h2 := by
  rw [rd_mAug, q0]
  simp only [q1, q2]
theorem pyIMul_int {a b : Int} {h : Mem} (fa : fit a = true) (fb : fit b = true) : pyIMul (.int a) (.int b) h = .ok (.int (a * b)) h := by
  unfold pyIMul
  simp only [fa, fb, Bool.and_true, if_true]
  rfl
theorem sq_pow (x : Int) (n : Nat) : x ^ n = (if n % 2 = 1 then x else 1) * (x * x) ^ (n / 2) := by
  have e : (x * x) ^ (n / 2) = x ^ (2 * (n / 2)) := by rw [Int.pow_mul, Int.pow_succ, Int.pow_succ, Int.pow_zero, Int.one_mul]
  rw [e]
  have d := Nat.div_add_mod n 2
  split
  · rename_i c
    conv => lhs; rw [show n = 2 * (n / 2) + 1 by omega, Int.pow_succ, Int.mul_comm]
  · conv => lhs; rw [show n = 2 * (n / 2) by omega]
    rw [Int.one_mul]
theorem powerInF {a : Int} {k K w : Nat} (ha : a.natAbs ≤ 2 ^ k) (hw : w < 2 ^ K) (hK : K ≤ 1000) (hb : k * (2 ^ (K + 1) - 1) ≤ 400000) {h : Mem} : callF 2 F_power_in [.int a, .int (w : Nat)] h = .ok (.int (a ^ w)) h := by
  have key := while_inv (c := bOf (eOp pyGt (eVar 4) (eC (.int 0)))) (b := l_power_in_0)
    (fun j τ h' => h' = [] ∧ ∃ (f x : Int) (n A X : Nat), τ = [some (.int a), some (.int (w : Nat)), some (.int f), some (.int x), some (.int (n : Nat))] ∧ f * x ^ n = a ^ w ∧ (n = 0 ↔ j = 0) ∧ n < 2 ^ j ∧ f.natAbs ≤ 2 ^ A ∧ x.natAbs ≤ 2 ^ X ∧ A + X * (2 ^ (j + 1) - 1) ≤ 400000)
    (fun j τ h' hi => by
      obtain ⟨rfl, f, x, n, A, X, rfl, he, hn, hlt, hf, hx, hs⟩ := hi
      have n0 : 0 < n := by
        by_cases z : n = 0
        · have := hn.mp z; omega
        · omega
      have p2 : (2 : Nat) ^ (j + 1 + 1) = 2 * 2 ^ (j + 1) := by rw [Nat.pow_succ, Nat.mul_comm]
      have p1 : (2 : Nat) ^ (j + 1) = 2 * 2 ^ j := by rw [Nat.pow_succ, Nat.mul_comm]
      have pj : 1 ≤ 2 ^ j := Nat.one_le_two_pow
      have split : X * (2 ^ (j + 1 + 1) - 1) = X + 2 * X * (2 ^ (j + 1) - 1) := by
        rw [p2]
        have : 2 * 2 ^ (j + 1) - 1 = 1 + 2 * (2 ^ (j + 1) - 1) := by omega
        rw [this, Nat.mul_add, Nat.mul_one, ← Nat.mul_assoc, Nat.mul_comm X 2]
      have le1 : 2 * X * 1 ≤ 2 * X * (2 ^ (j + 1) - 1) := Nat.mul_le_mul_left _ (by omega)
      have ff : fit f = true := fitOf hf (by omega)
      have fx : fit x = true := fitOf hx (by omega)
      have c1 : bOf (eOp pyGt (eVar 4) (eC (.int 0))) [some (.int a), some (.int (w : Nat)), some (.int f), some (.int x), some (.int (n : Nat))] [] = .ok true [] := by
        have e : bOf (eOp pyGt (eVar 4) (eC (.int 0))) [some (.int a), some (.int (w : Nat)), some (.int f), some (.int x), some (.int (n : Nat))] [] = .ok (decide ((n : Int) > 0)) [] := bOf_ok (eOp_ok (eVar_ok rfl) eC_ok rfl)
        rw [e, decide_eq_true (by omega)]
      have md : pyMod (.int (n : Nat)) (.int 2) [] = .ok (.int ((n % 2 : Nat) : Int)) [] := by
        rw [pyMod_int (by decide), Int.fmod_eq_emod_of_nonneg _ (by decide)]
        rfl
      have c2 : bOf (eOp (pyEq false) (eOp pyMod (eVar 4) (eC (.int 2))) (eC (.int 1))) [some (.int a), some (.int (w : Nat)), some (.int f), some (.int x), some (.int (n : Nat))] [] = .ok (decide (((n % 2 : Nat) : Int) = 1)) [] := bOf_ok (eOp_ok (eOp_ok (eVar_ok rfl) eC_ok md) eC_ok (pyEq_int.trans (by simp)))
      have s1 : mIf (bOf (eOp (pyEq false) (eOp pyMod (eVar 4) (eC (.int 2))) (eC (.int 1)))) (mAug 2 pyIMul (eVar 3)) mNil [some (.int a), some (.int (w : Nat)), some (.int f), some (.int x), some (.int (n : Nat))] [] = .mk (.nx [some (.int a), some (.int (w : Nat)), some (.int (f * (if n % 2 = 1 then x else 1))), some (.int x), some (.int (n : Nat))]) [] := by
        by_cases o : n % 2 = 1
        · rw [decide_eq_true (by omega)] at c2
          rw [mIf_t c2, if_pos o]
          exact mAug_ok rfl (eVar_ok rfl) (pyIMul_int ff fx)
        · rw [decide_eq_false (by omega)] at c2
          rw [mIf_f c2, if_neg o, Int.mul_one]
          rfl
      have dv : pyFdiv (.int (n : Nat)) (.int 2) [] = .ok (.int ((n / 2 : Nat) : Int)) [] := by
        rw [pyFdiv_int (by decide) (by decide +kernel), Int.fdiv_eq_ediv_of_nonneg _ (by decide)]
        rfl
      have he2 : (f * (if n % 2 = 1 then x else 1)) * (x * x) ^ (n / 2) = a ^ w := by rw [Int.mul_assoc, ← sq_pow, he]
      have hf2 : (f * (if n % 2 = 1 then x else 1)).natAbs ≤ 2 ^ (A + X) := mulB hf (by split; exact hx; exact Nat.one_le_two_pow)
      refine ⟨[], _, [], c1, (mSeq_nx s1).trans ((mSeq_nx (mAug_ok rfl (eVar_ok rfl) (pyIMul_int fx fx))).trans (mAug_ok rfl eC_ok dv)), ?_⟩
      by_cases z : n / 2 = 0
      · refine ⟨0, Nat.zero_le _, rfl, _, _, n / 2, A + X, X + X, rfl, he2, ⟨fun _ => rfl, fun _ => z⟩, by rw [z]; decide, hf2, mulB hx hx, ?_⟩
        show A + X + (X + X) * 1 ≤ 400000
        omega
      · have j0 : j ≠ 0 := fun e => by subst e; omega
        refine ⟨j, Nat.le_refl _, rfl, _, _, n / 2, A + X, X + X, rfl, he2, ⟨fun e => absurd e z, fun e => absurd e j0⟩, by omega, hf2, mulB hx hx, ?_⟩
        rw [show X + X = 2 * X by omega]
        omega)
    (fun τ h' hi => by
      obtain ⟨rfl, f, x, n, A, X, rfl, he, hn, _⟩ := hi
      have n0 := hn.mpr rfl
      subst n0
      have e : bOf (eOp pyGt (eVar 4) (eC (.int 0))) [some (.int a), some (.int (w : Nat)), some (.int f), some (.int x), some (.int ((0 : Nat) : Int))] [] = .ok (decide (((0 : Nat) : Int) > 0)) [] := bOf_ok (eOp_ok (eVar_ok rfl) eC_ok rfl)
      rw [e, decide_eq_false (by omega)])
  have start : ∃ j, j < 100000 ∧ (w = 0 ↔ j = 0) ∧ w < 2 ^ j ∧ 0 + k * (2 ^ (j + 1) - 1) ≤ 400000 := by
    by_cases w0 : w = 0
    · refine ⟨0, by decide, ⟨fun _ => rfl, fun _ => w0⟩, by rw [w0]; decide, ?_⟩
      have : k * (2 ^ (0 + 1) - 1) ≤ k * (2 ^ (K + 1) - 1) := Nat.mul_le_mul_left _ (Nat.sub_le_sub_right (Nat.pow_le_pow_right (by decide) (by omega)) 1)
      omega
    · refine ⟨K, by omega, ⟨fun e => absurd e w0, fun e => by subst e; omega⟩, hw, by omega⟩
  obtain ⟨j, hj, q1, q2, q3⟩ := start
  obtain ⟨τ', h', e, rfl, f, x, n, A, X, rfl, he, hn, _⟩ := key 100000 j [some (.int a), some (.int (w : Nat)), some (.int 1), some (.int a), some (.int (w : Nat))] [] hj ⟨rfl, 1, a, w, 0, k, rfl, by rw [Int.one_mul], q1, q2, by decide, ha, q3⟩
  have n0 := hn.mpr rfl
  subst n0
  rw [Int.pow_zero, Int.mul_one] at he
  subst he
  exact callF_read (h' := []) (v := .int (a ^ w)) (run_rt rfl ((mSeq_nx (mPar3_ok (eCons_ok eC_ok (eCons_ok (eVar_ok rfl) (eCons_ok (eVar_ok rfl) eNil_ok))))).trans ((mSeq_nx e).trans (mRet_ok (eVar_ok rfl))))) rfl rfl rfl

theorem withinF {v a b : Int} {h : Mem} (hv : v.natAbs < 10 ^ 60) (ha : a ≤ v) (hb : v ≤ b) : callF 3 F_is_within [.int v, .int a, .int b] h = .ok (.bl true) h := by
  have le1 : pyLe (.int a) (.int v) [] = .ok (.bl true) [] := by
    show Out.ok (CV.bl (decide _)) _ = _
    rw [decide_eq_true ha]
  have le2 : pyLe (.int v) (.int b) [] = .ok (.bl true) [] := by
    show Out.ok (CV.bl (decide _)) _ = _
    rw [decide_eq_true hb]
  exact callF_read (h' := []) (v := .bl true) (run_rt rfl (mRet_ok (eAnd_t (eB_ok (eCons_ok (eVar_ok rfl) eNil_ok) (integerF hv)) (eChain_t (eVar_ok rfl) (eVar_ok rfl) le1 (eVar_ok rfl) le2)))) rfl rfl rfl
theorem rwF {v a b : Int} {h : Mem} (hv : v.natAbs < 10 ^ 60) (ha : a ≤ v) (hb : v ≤ b) : callF 3 F_require_within [.int v, .int a, .int b] h = .ok .non h := by
  have e : b_require_within (startC 3 [.int v, .int a, .int b]) [] = .mk (.nx [some (.int v), some (.int a), some (.int b)]) [] := (mIf_f (bNot_ok (b := true) (bOf_ok (eB_ok (eCons_ok (eVar_ok rfl) (eCons_ok (eVar_ok rfl) (eCons_ok (eVar_ok rfl) eNil_ok))) (withinF hv ha hb))))).trans rd_mNil
  refine callF_read (h' := []) (v := .non) ?_ rfl rfl rfl
  unfold F_require_within
  rw [runB_eq, if_pos (show [CV.int v, .int a, .int b].length = 3 from rfl), e]
  rfl
theorem wG {x : Int} (h : x.natAbs ≤ 2 ^ 250) {w : Nat} (hw : w ≤ 7) (m : Mem) : callF 2 F_power_in [.int x, .int (w : Nat)] m = .ok (.int (x ^ w)) m := powerInF (k := 250) (K := 3) h (by omega) (by decide) (by decide)
theorem wP {x : Int} (h : x.natAbs ≤ 2 ^ 250) {w : Nat} (hw : w ≤ 7) : (x ^ w).natAbs ≤ 2 ^ 4000 := Nat.le_trans (powB h w) (Nat.pow_le_pow_right (by decide) (by omega))
theorem powNe {x : Int} (h : x ≠ 0) : ∀ w : Nat, x ^ w ≠ 0
  | 0 => by rw [Int.pow_zero]; decide
  | w + 1 => by rw [Int.pow_succ]; exact ne2 (powNe h w) h
theorem n1000 (τ : Sl) (m : Mem) : eUn pyNeg (eC (.int 1000)) τ m = .ok (.int (-1000)) m := rfl
theorem powerOfP {N : CV} {x : Int × Int} (n : Num N x) {w : Nat} (hw : w ≤ 7) {h : Mem} : callF 2 F_power_of [N, .int (w : Nat)] h = .ok (.tup [.int (x.1 ^ w), .int (x.2 ^ w)]) h := by
  have c : ∀ a b : Option CV, bOf (eOp pyGe (eVar 1) (eC (.int 0))) [some N, some (.int (w : Nat)), a, b] [] = .ok true [] := fun a b => by
    have e : bOf (eOp pyGe (eVar 1) (eC (.int 0))) [some N, some (.int (w : Nat)), a, b] [] = .ok (decide ((w : Int) ≥ 0)) [] := bOf_ok (eOp_ok (eVar_ok rfl) eC_ok rfl)
    rw [e, decide_eq_true (by omega)]
  exact callF_read (h' := []) (v := .tup _) (run_rt rfl ((mSeq_nx (mExpr_ok (eB_ok (eCons_ok (eVar_ok rfl) eNil_ok) (reqF n)))).trans ((mSeq_nx (mExpr_ok (eB_ok (eCons_ok (eVar_ok rfl) (eCons_ok (n1000 _ _) (eCons_ok eC_ok eNil_ok))) (rwF (by omega) (by omega) (by omega))))).trans
    ((mSeq_nx (asg2 (eB_ok (eCons_ok (eVar_ok rfl) eNil_ok) (pairF n)))).trans (mSeq_rt ((mIf_t (c _ _)).trans (mRet_ok (eTup_ok (eCons_ok (eB_ok (eCons_ok (eVar_ok rfl) (eCons_ok (eVar_ok rfl) eNil_ok)) (wG n.good.b1 hw _)) (eCons_ok (eB_ok (eCons_ok (eVar_ok rfl) (eCons_ok (eVar_ok rfl) eNil_ok)) (wG n.good.b2 hw _)) eNil_ok)) (by simp))))))))) (nr2 n.nr rfl) rfl rfl
theorem powerOfN {N : CV} {x : Int × Int} (n : Num N x) {w : Nat} (hw : w ≤ 7) (h0 : 0 < w) (hx : x.1 ≠ 0) {h : Mem} : callF 2 F_power_of [N, .int (-(w : Int))] h = .ok (qCV (fr (x.2 ^ w) (x.1 ^ w))) h := by
  have c : ∀ a b : Option CV, bOf (eOp pyGe (eVar 1) (eC (.int 0))) [some N, some (.int (-(w : Int))), a, b] [] = .ok false [] := fun a b => by
    have e : bOf (eOp pyGe (eVar 1) (eC (.int 0))) [some N, some (.int (-(w : Int))), a, b] [] = .ok (decide (-(w : Int) ≥ 0)) [] := bOf_ok (eOp_ok (eVar_ok rfl) eC_ok rfl)
    rw [e, decide_eq_false (by omega)]
  have c2 : bOf (eOp (pyEq false) (eVar 2) (eC (.int 0))) [some N, some (.int (-(w : Int))), some (.int x.1), some (.int x.2)] [] = .ok false [] := bOf_ok (eOp_ok (eVar_ok rfl) eC_ok (pyEq_int.trans (by rw [decide_eq_false hx]; rfl)))
  have ng : ∀ m : Mem, pyNeg (.int (-(w : Int))) m = .ok (.int (w : Nat)) m := fun m => by
    show Out.ok (CV.int (- -(w : Int))) m = _
    rw [Int.neg_neg]
  exact callF_read (h' := []) (v := qCV _) (run_rt rfl ((mSeq_nx (mExpr_ok (eB_ok (eCons_ok (eVar_ok rfl) eNil_ok) (reqF n)))).trans ((mSeq_nx (mExpr_ok (eB_ok (eCons_ok (eVar_ok rfl) (eCons_ok (n1000 _ _) (eCons_ok eC_ok eNil_ok))) (rwF (by omega) (by omega) (by omega))))).trans
    ((mSeq_nx (asg2 (eB_ok (eCons_ok (eVar_ok rfl) eNil_ok) (pairF n)))).trans ((mSeq_nx ((mIf_f (c _ _)).trans rd_mNil)).trans ((mSeq_nx ((mIf_f c2).trans rd_mNil)).trans
      (mRet_ok (eB_ok (eCons_ok (eB_ok (eCons_ok (eVar_ok rfl) (eCons_ok (eUn_ok (eVar_ok rfl) (ng _)) eNil_ok)) (wG n.good.b2 hw _)) (eCons_ok (eB_ok (eCons_ok (eVar_ok rfl) (eCons_ok (eUn_ok (eVar_ok rfl) (ng _)) eNil_ok)) (wG n.good.b1 hw _)) eNil_ok)) (fracInF (powNe hx w) (wP n.good.b1 hw)))))))))) (nr2 n.nr rfl) rfl rfl

/-- a product -/
def prodN (f : Nat → Int) : Nat → Int
  | 0 => 1
  | n + 1 => prodN f n * f n
theorem prodB {f : Nat → Int} {k : Nat} : ∀ {n : Nat}, (∀ i, i < n → (f i).natAbs ≤ 2 ^ k) → (prodN f n).natAbs ≤ 2 ^ (k * n)
  | 0, _ => Nat.one_le_two_pow
  | n + 1, h => by
    show (prodN f n * f n).natAbs ≤ _
    rw [Nat.mul_succ]
    exact mulB (prodB fun i hi => h i (by omega)) (h n (by omega))
/-- the loop of product_from -/
theorem prodFromF {a b s : Int} {f : Nat → Int} {n k : Nat} (hr : ∀ m, rng3 [.int a, .int (b + 1), .int s] m = .ok ((List.range n).map fun i => CV.int (f i)) m) (hf : ∀ i, i < n → (f i).natAbs ≤ 2 ^ k) (hk : k ≤ 400000) (hn : k * n ≤ 400000) {h : Mem} :
    callF 3 F_product_from [.int a, .int b, .int s] h = .ok (.int (prodN f n)) h := by
  obtain ⟨τ', h', e1, rfl, x, e2⟩ := forL_inv (g := gSet 4) (b := l_product_from_0) (fun j τ h => h = [] ∧ ∃ x, τ = [some (.int a), some (.int b), some (.int s), some (.int (prodN f j)), x]) ((List.range n).map fun i => CV.int (f i)) 0
    [some (.int a), some (.int b), some (.int s), some (.int 1), none] [] ⟨rfl, none, rfl⟩ (fun i y τ h hx hi => by
      obtain ⟨rfl, x, rfl⟩ := hi
      rw [List.getElem?_map] at hx
      by_cases c : i < n
      · rw [List.getElem?_range c] at hx
        cases hx
        rw [Nat.zero_add]
        have fp : fit (prodN f i) = true := fitOf (k := k * n) (Nat.le_trans (prodB fun j hj => hf j (by omega)) (Nat.pow_le_pow_right (by decide) (Nat.mul_le_mul_left _ (by omega)))) hn
        exact ⟨_, _, _, _, rd_gSet _ _, mAug_ok rfl (eVar_ok rfl) (pyIMul_int fp (fitOf (hf i c) hk)), rfl, some (.int (f i)), rfl⟩
      · rw [List.getElem?_eq_none (by simpa using c)] at hx; cases hx)
  subst e2
  refine callF_read (h' := []) (v := .int (prodN f n)) (run_rt rfl ((mSeq_nx (mAsg_ok eC_ok)).trans ((mSeq_nx ((mFor_nx (iArgs_ok (eCons_ok (eVar_ok rfl) (eCons_ok (eOp_ok (eVar_ok rfl) eC_ok rfl) (eCons_ok (eVar_ok rfl) eNil_ok))) (hr _))).trans e1)).trans (mRet_ok (eVar_ok ?_))))) rfl rfl rfl
  simp
theorem fitsL (i : Int) (h1 : -(2 ^ 40) ≤ i) (h2 : i ≤ 2 ^ 40) : Builtin.Range.rangeFitsLong i = true := by
  unfold Builtin.Range.rangeFitsLong
  simp
  try omega
theorem rng3_1 {n : Nat} (hn : n ≤ 1000) (m : Mem) : rng3 [.int 1, .int ((n : Int) + 1), .int 1] m = .ok ((List.range n).map fun (i : Nat) => CV.int (1 + (i : Int))) m := by
  unfold rng3
  simp only
  have e : Builtin.Range.rangeSize 1 ((n : Int) + 1) 1 = n := by
    unfold Builtin.Range.rangeSize
    simp
    try omega
  have sm : Builtin.Range.small 1 ((n : Int) + 1) 1 = true := by
    unfold Builtin.Range.small
    simp only [e, fitsL 1 (by decide) (by decide), fitsL (n : Int) (by omega) (by omega), fitsL ((n : Int) + 1) (by omega) (by omega), fitsL 2 (by decide) (by decide), fitsL (2 * (n : Int) - 1 + 1) (by omega) (by omega), Bool.and_true, Bool.true_and, Bool.or_true]
    try simp [fitsL (2 * (n : Int) - 1 + 1 + (2 - 1)) (by omega) (by omega), fitsL (2 * (n : Int) + 1) (by omega) (by omega)]
    all_goals exact .inr (fitsL _ (by omega) (by omega))
  rw [e, if_pos ⟨by decide, by decide, sm, by omega⟩]
  show Out.ok ((List.range n).map fun (i : Nat) => CV.int (1 + (i : Int) * 1)) m = _
  simp only [Int.mul_one]
theorem rng3_2 {n : Nat} (hn : n ≤ 1000) (m : Mem) : rng3 [.int 1, .int (2 * (n : Int) - 1 + 1), .int 2] m = .ok ((List.range n).map fun (i : Nat) => CV.int (1 + (i : Int) * 2)) m := by
  unfold rng3
  simp only
  have e : Builtin.Range.rangeSize 1 (2 * (n : Int) - 1 + 1) 2 = n := by
    unfold Builtin.Range.rangeSize
    simp
    try omega
  have sm : Builtin.Range.small 1 (2 * (n : Int) - 1 + 1) 2 = true := by
    unfold Builtin.Range.small
    simp only [e, fitsL 1 (by decide) (by decide), fitsL (n : Int) (by omega) (by omega), fitsL ((n : Int) + 1) (by omega) (by omega), fitsL 2 (by decide) (by decide), fitsL (2 * (n : Int) - 1 + 1) (by omega) (by omega), Bool.and_true, Bool.true_and, Bool.or_true]
    try simp [fitsL (2 * (n : Int) - 1 + 1 + (2 - 1)) (by omega) (by omega), fitsL (2 * (n : Int) + 1) (by omega) (by omega)]
    all_goals exact .inr (fitsL _ (by omega) (by omega))
  rw [e, if_pos ⟨by decide, by decide, sm, by omega⟩]
  rfl
def fact (n : Nat) : Int := prodN (fun i => 1 + (i : Int)) n
def oddP (n : Nat) : Int := prodN (fun i => 1 + (i : Int) * 2) n
theorem facB {n i : Nat} (hn : n ≤ 1000) (hi : i < n) : (1 + (i : Int)).natAbs ≤ 2 ^ 10 := by omega
theorem oddB {n i : Nat} (hn : n ≤ 500) (hi : i < n) : (1 + (i : Int) * 2).natAbs ≤ 2 ^ 10 := by omega
theorem factB {n : Nat} (hn : n ≤ 1000) : (fact n).natAbs ≤ 2 ^ (10 * n) := prodB fun i hi => facB hn hi
theorem oddPB {n : Nat} (hn : n ≤ 500) : (oddP n).natAbs ≤ 2 ^ (10 * n) := prodB fun i hi => oddB hn hi
theorem factorialF {n : Nat} (hn : n ≤ 1000) {h : Mem} : callF 1 F_factorial [.int (n : Nat)] h = .ok (.int (fact n)) h :=
  callF_read (h' := []) (v := .int (fact n)) (run_rt rfl ((mSeq_nx (mExpr_ok (eB_ok (eCons_ok (eVar_ok rfl) (eCons_ok eC_ok (eCons_ok eC_ok eNil_ok))) (rwF (by omega) (by omega) (by omega))))).trans
    (mRet_ok (eB_ok (eCons_ok eC_ok (eCons_ok (eVar_ok rfl) (eCons_ok eC_ok eNil_ok))) (prodFromF (k := 10) (fun m => rng3_1 hn m) (fun i hi => facB hn hi) (by decide) (by omega)))))) rfl rfl rfl
theorem n1 (τ : Sl) (m : Mem) : eUn pyNeg (eC (.int 1)) τ m = .ok (.int (-1)) m := rfl
theorem n999 (τ : Sl) (m : Mem) : eOp pySub (eC (.int 1000)) (eC (.int 1)) τ m = .ok (.int 999) m := rfl
theorem oddF {n : Nat} (hn : n ≤ 500) {h : Mem} : callF 1 F_odd_product [.int (2 * (n : Int) - 1)] h = .ok (.int (oddP n)) h := by
  have md : pyMod (.int (2 * (n : Int) - 1)) (.int 2) [] = .ok (.int 1) [] := by
    rw [pyMod_int (by decide), Int.fmod_eq_emod_of_nonneg _ (by decide)]
    rw [show (2 * (n : Int) - 1) % 2 = 1 by omega]
  have c : bOf (eOp (pyEq false) (eOp pyMod (eVar 0) (eC (.int 2))) (eC (.int 0))) [some (.int (2 * (n : Int) - 1))] [] = .ok false [] := bOf_ok (eOp_ok (eOp_ok (eVar_ok rfl) eC_ok md) eC_ok (by kernel_rfl))
  exact callF_read (h' := []) (v := .int (oddP n)) (run_rt rfl ((mSeq_nx (mExpr_ok (eB_ok (eCons_ok (eVar_ok rfl) (eCons_ok (n1 _ _) (eCons_ok (n999 _ _) eNil_ok))) (rwF (by omega) (by omega) (by omega))))).trans
    ((mSeq_nx ((mIf_f c).trans rd_mNil)).trans (mRet_ok (eB_ok (eCons_ok eC_ok (eCons_ok (eVar_ok rfl) (eCons_ok eC_ok eNil_ok))) (prodFromF (k := 10) (fun m => rng3_2 (by omega) m) (fun i hi => oddB hn hi) (by decide) (by omega))))))) rfl rfl rfl
theorem fact_succ (n : Nat) : fact (n + 1) = fact n * (1 + (n : Int)) := rfl
theorem odd_succ (n : Nat) : oddP (n + 1) = oddP n * (1 + (n : Int) * 2) := rfl
theorem odd_fact : ∀ n : Nat, oddP n * 2 ^ n * fact n = fact (2 * n)
  | 0 => rfl
  | n + 1 => by
    rw [show 2 * (n + 1) = (2 * n + 1) + 1 by omega, fact_succ (2 * n + 1), fact_succ (2 * n), ← odd_fact n, odd_succ, fact_succ, Int.pow_succ]
    have e : ((2 * n + 1 : Nat) : Int) = 2 * (n : Int) + 1 := by omega
    have e2 : ((2 * n : Nat) : Int) = 2 * (n : Int) := by omega
    rw [e, e2]
    generalize oddP n = a
    generalize (2 : Int) ^ n = b
    generalize fact n = c
    generalize (n : Int) = z
    have h1 : 1 + (2 * z + 1) = 2 * (1 + z) := by omega
    have h2 : 1 + z * 2 = 1 + 2 * z := by omega
    rw [h1, h2]
    simp only [Int.mul_assoc, Int.mul_left_comm, Int.mul_comm]
theorem fact_two (m : Nat) : prodN (fun i => 2 + (i : Int)) m = fact (m + 1) := by
  induction m with
  | zero => rfl
  | succ m ih =>
    show prodN (fun i => 2 + (i : Int)) m * (2 + (m : Int)) = fact (m + 1) * (1 + ((m + 1 : Nat) : Int))
    rw [ih]
    congr 1
    omega
theorem lfactF {n : Nat} (hn : n ≤ 1000) {h : Mem} : callF 1 F_law_factorial [.int (n : Nat)] h = .ok (.int (fact n)) h := by
  have hr : ∀ m, rng2 [.int 2, .int ((n : Int) + 1)] m = .ok ((List.range (n - 1)).map fun (i : Nat) => CV.int (2 + (i : Int))) m := fun m => by
    unfold rng2
    simp only
    rw [if_pos (by omega), show ((n : Int) + 1 - 2).toNat = n - 1 by omega]
    rfl
  obtain ⟨τ', h', e1, rfl, x, e2⟩ := forL_inv (g := gSet 2) (b := l_law_factorial_0) (fun j τ h => h = [] ∧ ∃ x, τ = [some (.int (n : Nat)), some (.int (prodN (fun i => 2 + (i : Int)) j)), x]) ((List.range (n - 1)).map fun (i : Nat) => CV.int (2 + (i : Int))) 0
    [some (.int (n : Nat)), some (.int 1), none] [] ⟨rfl, none, rfl⟩ (fun i y τ h hx hi => by
      obtain ⟨rfl, x, rfl⟩ := hi
      rw [List.getElem?_map] at hx
      by_cases c : i < n - 1
      · rw [List.getElem?_range c] at hx
        cases hx
        rw [Nat.zero_add]
        have fp : fit (prodN (fun i => 2 + (i : Int)) i) = true := fitOf (k := 10 * i) (prodB fun j hj => by omega) (by omega)
        exact ⟨_, _, _, _, rd_gSet _ _, mAsg_ok (tmf (eVar_ok rfl) (eVar_ok rfl) fp (fitOf (k := 11) (by omega) (by decide))), rfl, some (.int (2 + (i : Int))), rfl⟩
      · rw [List.getElem?_eq_none (by simpa using c)] at hx; cases hx)
  subst e2
  have ev : prodN (fun i => 2 + (i : Int)) (n - 1) = fact n := by
    rcases n with _ | n
    · rfl
    · exact fact_two n
  refine callF_read (h' := []) (v := .int (fact n)) (run_rt rfl ((mSeq_nx (mAsg_ok eC_ok)).trans ((mSeq_nx ((mFor_nx (iArgs_ok (eCons_ok eC_ok (eCons_ok (eOp_ok (eVar_ok rfl) eC_ok rfl) eNil_ok)) (hr _))).trans e1)).trans (mRet_ok (eVar_ok ?_))))) rfl rfl rfl
  simp [ev]

def cho (n : Nat) : Nat → Nat := fun k => Nat.rec 1 (fun k s => s * (n - k) / (k + 1)) k
theorem cho_s (n k : Nat) : cho n (k + 1) = cho n k * (n - k) / (k + 1) := rfl
theorem cho_le (n : Nat) (hn : n ≤ 2 ^ 20) : ∀ k, cho n k ≤ 2 ^ (20 * k)
  | 0 => Nat.le_refl _
  | k + 1 => by
    rw [cho_s, Nat.mul_add, Nat.pow_add]
    exact Nat.le_trans (Nat.div_le_self _ _) (Nat.mul_le_mul (cho_le n hn k) (by omega))
theorem cho_big (n : Nat) : ∀ k, n < k → cho n k = 0
  | 0, h => by omega
  | k + 1, h => by
    rw [cho_s]
    by_cases c : n < k
    · rw [cho_big n k c, Nat.zero_mul, Nat.zero_div]
    · rw [show n - k = 0 by omega, Nat.mul_zero, Nat.zero_div]
theorem binom_step {n i : Nat} : (((cho n i : Nat) : Int) * ((n : Int) - (i : Int))).fdiv ((i : Int) + 1) = ((cho n (i + 1) : Nat) : Int) := by
  by_cases c : i ≤ n
  · rw [show (n : Int) - (i : Int) = ((n - i : Nat) : Int) by omega, ← Int.natCast_mul, show (i : Int) + 1 = ((i + 1 : Nat) : Int) by omega, Int.fdiv_eq_ediv_of_nonneg _ (by omega), cho_s]
    rfl
  · have z : cho n i = 0 := cho_big n i (by omega)
    rw [cho_s, z]; simp
theorem lbinomF {n k : Nat} (hn : n ≤ 2 ^ 20) (hk : k ≤ 1000) {h : Mem} : callF 2 F_law_binomial [.int (n : Nat), .int (k : Nat)] h = .ok (.int (cho n k : Nat)) h := by
  obtain ⟨τ', h', e1, rfl, x, e2⟩ := forL_inv (g := gSet 3) (b := l_law_binomial_0) (fun j τ h => h = [] ∧ ∃ x, τ = [some (.int (n : Nat)), some (.int (k : Nat)), some (.int (cho n j : Nat)), x]) ((List.range k).map fun (i : Nat) => CV.int (0 + (i : Int))) 0
    [some (.int (n : Nat)), some (.int (k : Nat)), some (.int 1), none] [] ⟨rfl, none, rfl⟩ (fun i x τ h hx hi => by
      obtain ⟨rfl, y, rfl⟩ := hi
      obtain ⟨hlt, rfl⟩ := upto0_at hx
      rw [Nat.zero_add]
      have f1 : fit ((cho n i : Nat) : Int) = true := nfit (cho_le n hn i) (by omega)
      have f2 : fit ((n : Int) - (i : Int)) = true := fitOf (k := 21) (by have : (2 : Nat) ^ 20 + 1000 ≤ 2 ^ 21 := by decide
                                                                          omega) (by decide)
      have f3 : fitD ((i : Int) + 1) = true := fitDOf (k := 10) (by omega) (by decide)
      have q : pyFdiv (.int (((cho n i : Nat) : Int) * ((n : Int) - (i : Int)))) (.int ((i : Int) + 1)) [] = .ok (.int (cho n (i + 1) : Nat)) [] := by
        rw [pyFdiv_int (by omega) f3, binom_step]
      exact ⟨_, _, _, _, rd_gSet _ _, mAsg_ok (eOp_ok (tmf (eVar_ok rfl) (eOp_ok (eVar_ok rfl) (eVar_ok rfl) rfl) f1 f2) (eOp_ok (eVar_ok rfl) eC_ok rfl) q), rfl, some (.int i), rfl⟩)
  rw [List.length_map, List.length_range, Nat.zero_add] at e2
  subst e2
  exact callF_read (h' := []) (v := .int (cho n k : Nat)) (run_rt rfl ((mSeq_nx (mAsg_ok eC_ok)).trans ((mSeq_nx ((mFor_nx (iArgs_ok (eCons_ok (eVar_ok rfl) eNil_ok) (rng1_nat (by omega)))).trans e1)).trans (mRet_ok (eVar_ok rfl))))) rfl rfl rfl
theorem combT0 : ∀ n : Nat, n < 101 → ∀ k : Nat, k < 40 → PySem.W.mcComb ((n : Nat) : Int) ((k : Nat) : Int) = ((cho n k : Nat) : Int) := by decide +kernel
theorem combT1 : ∀ n : Nat, n < 100 → ∀ k : Nat, k < 40 → PySem.W.mcComb ((101 + n : Nat) : Int) ((k : Nat) : Int) = ((cho (101 + n) k : Nat) : Int) := by decide +kernel
theorem combT2 : ∀ n : Nat, n < 100 → ∀ k : Nat, k < 40 → PySem.W.mcComb ((201 + n : Nat) : Int) ((k : Nat) : Int) = ((cho (201 + n) k : Nat) : Int) := by decide +kernel
theorem combT {n k : Nat} (hn : n < 301) (hk : k < 40) : PySem.W.mcComb ((n : Nat) : Int) ((k : Nat) : Int) = ((cho n k : Nat) : Int) := by
  by_cases c : n < 101
  · exact combT0 n c k hk
  · by_cases d : n < 201
    · have := combT1 (n - 101) (by omega) k hk
      rwa [show 101 + (n - 101) = n by omega] at this
    · have := combT2 (n - 201) (by omega) k hk
      rwa [show 201 + (n - 201) = n by omega] at this
theorem binomialF {n k : Nat} (hn : n < 301) (hk : k < 40) {h : Mem} : callF 2 F_binomial [.int (n : Nat), .int (k : Nat)] h = .ok (.int (cho n k : Nat)) h := by
  have q : pyComb [.int (n : Nat), .int (k : Nat)] [] = .ok (.int (cho n k : Nat)) [] := by
    unfold pyComb
    simp only
    rw [if_pos (by omega), combT hn hk]
    rfl
  exact callF_read (h' := []) (v := .int (cho n k : Nat)) (run_rt rfl ((mSeq_nx (mExpr_ok (eB_ok (eCons_ok (eVar_ok rfl) (eCons_ok eC_ok (eCons_ok eC_ok eNil_ok))) (rwF (by omega) (by omega) (by omega))))).trans
    ((mSeq_nx (mExpr_ok (eB_ok (eCons_ok (eVar_ok rfl) (eCons_ok eC_ok (eCons_ok eC_ok eNil_ok))) (rwF (by omega) (by omega) (by omega))))).trans (mRet_ok (eB_ok (eCons_ok (eVar_ok rfl) (eCons_ok (eVar_ok rfl) eNil_ok)) q))))) rfl rfl rfl
theorem products_ok {h : Mem} {l c : Nat} (d : DiceN h l c) (hc : c ≤ 1000) : ∃ h', F_law_products_right [.ref l] h = .ok (.bl true) h' ∧ DiceN h' l (c + 3) := by
  obtain ⟨bv, h1, g1, e1, d1⟩ := drawn [.int 8, .int 40, .int 301] d (by omega) (by decide)
  obtain ⟨b, hb0, hb1, rfl⟩ : ∃ b : Int, 0 < b ∧ b ≤ 301 ∧ bv = .int b := by
    simp only [List.mem_cons, List.not_mem_nil, or_false] at g1
    rcases g1 with rfl | rfl | rfl <;> exact ⟨_, by decide, by decide, rfl⟩
  obtain ⟨r, h2, r0, r1, e2, d2⟩ := rolled b d1 (by omega) ⟨hb0, by omega⟩
  obtain ⟨n, rfl⟩ := Int.eq_ofNat_of_zero_le r0
  obtain ⟨w, h3, w0, w1, e3, d3⟩ := rolled 40 d2 (by omega) ⟨by decide, by decide +kernel⟩
  obtain ⟨k, rfl⟩ := Int.eq_ofNat_of_zero_le w0
  have hn : n < 301 := by omega
  have hk : k < 40 := by omega
  have s1 : mPar 1 2 (eConsA (eCall 2 F_law_roll (eConsA (eVar 0) (eConsA (eCall 2 F_law_pick (eConsA (eVar 0) (eConsA (eLst (eConsA (eC (.int 8)) (eConsA (eC (.int 40)) (eConsA (eC (.int 301)) eNilA)))) eNilA))) eNilA))) (eConsA (eCall 2 F_law_roll (eConsA (eVar 0) (eConsA (eC (.int 40)) eNilA))) eNilA)) (startC 4 [.ref l]) h = .mk (.nx [some (.ref l), some (.int (n : Nat)), some (.int (k : Nat)), none]) h3 :=
    mPar_ok (i := 1) (j := 2) (eCons_ok (eCall_ok (eCons_ok (eVar_ok rfl) (eCons_ok (eCall_ok (eCons_ok (eVar_ok rfl) (eCons_ok (by kernel_rfl) eNil_ok)) rfl e1) eNil_ok)) rfl e2) (eCons_ok (eCall_ok (eCons_ok (eVar_ok rfl) (eCons_ok eC_ok eNil_ok)) rfl e3) eNil_ok))
  have sN : ∀ i : Int, i.natAbs ≤ 2 ^ 11 → i.natAbs ≤ 2 ^ 4000 := fun i hi => Nat.le_trans hi (Nat.pow_le_pow_right (by decide) (by decide))
  have s2 : mAsg (gSet 3) (eOp pySub (eOp pyTimes (eC (.int 2)) (eVar 1)) (eC (.int 1))) [some (.ref l), some (.int (n : Nat)), some (.int (k : Nat)), none] h3 = .mk (.nx [some (.ref l), some (.int (n : Nat)), some (.int (k : Nat)), some (.int (2 * (n : Int) - 1))]) h3 :=
    mAsg_ok (eOp_ok (tm eC_ok (eVar_ok rfl) (sN _ (by omega)) (sN _ (by omega))) eC_ok rfl)
  have t2 : eOp pyTimes (eC (.int 2)) (eVar 1) [some (.ref l), some (.int (n : Nat)), some (.int (k : Nat)), some (.int (2 * (n : Int) - 1))] h3 = .ok (.int ((2 * n : Nat) : Int)) h3 := by
    have := tm (h := h3) (h1 := h3) (h2 := h3) (τ := [some (.ref l), some (.int (n : Nat)), some (.int (k : Nat)), some (.int (2 * (n : Int) - 1))]) (a := eC (.int 2)) (b := eVar 1) (i := 2) (j := (n : Int)) eC_ok (eVar_ok rfl) (sN _ (by omega)) (sN _ (by omega))
    rw [this]
    rfl
  have fo : fit (oddP n) = true := fitOf (oddPB (by omega)) (by omega)
  have f2 : fit ((2 : Int) ^ n) = true := fitOf (k := 1 * n) (powB (by decide) n) (by omega)
  have fp : fit (oddP n * 2 ^ n) = true := fitOf (k := 10 * n + 1 * n) (mulB (oddPB (by omega)) (powB (by decide) n)) (by omega)
  have ff : fit (fact n) = true := fitOf (factB (by omega)) (by omega)
  have c1 : bOf (eOp (pyEq true) (eOp pyTimes (eOp pyTimes (eB (callF 1 F_odd_product) (eConsA (eVar 3) eNilA)) (eB (callF 2 F_law_power) (eConsA (eC (.int 2)) (eConsA (eVar 1) eNilA)))) (eB (callF 1 F_law_factorial) (eConsA (eVar 1) eNilA))) (eB (callF 1 F_factorial) (eConsA (eOp pyTimes (eC (.int 2)) (eVar 1)) eNilA))) [some (.ref l), some (.int (n : Nat)), some (.int (k : Nat)), some (.int (2 * (n : Int) - 1))] h3 = .ok false h3 := by
    refine bOf_ok (eOp_ok (tmf (tmf (eB_ok (eCons_ok (eVar_ok rfl) eNil_ok) (oddF (by omega))) (eB_ok (eCons_ok eC_ok (eCons_ok (eVar_ok rfl) eNil_ok)) (lpowF (k := 1) (by decide) (by decide) (by omega) (by omega))) fo f2) (eB_ok (eCons_ok (eVar_ok rfl) eNil_ok) (lfactF (by omega))) fp ff) (eB_ok (eCons_ok t2 eNil_ok) (factorialF (by omega))) ?_)
    rw [odd_fact]
    exact pyEq_same (n := 1) (by decide) rfl
  have c2 : bAnd (bOf (eOp pyGt (eVar 3) (eC (.int 0)))) (bOf (eOp (pyEq true) (eB (callF 1 F_odd_product) (eConsA (eVar 3) eNilA)) (eOp pyTimes (eVar 3) (eB (callF 1 F_odd_product) (eConsA (eOp pySub (eVar 3) (eC (.int 2))) eNilA))))) [some (.ref l), some (.int (n : Nat)), some (.int (k : Nat)), some (.int (2 * (n : Int) - 1))] h3 = .ok false h3 := by
    have e : bOf (eOp pyGt (eVar 3) (eC (.int 0))) [some (.ref l), some (.int (n : Nat)), some (.int (k : Nat)), some (.int (2 * (n : Int) - 1))] h3 = .ok (decide (2 * (n : Int) - 1 > 0)) h3 := bOf_ok (eOp_ok (eVar_ok rfl) eC_ok rfl)
    rcases n with _ | n
    · rw [decide_eq_false (by omega)] at e
      exact bAnd_f e
    · rw [decide_eq_true (by omega)] at e
      have e2 : 2 * ((n + 1 : Nat) : Int) - 1 - 2 = 2 * (n : Int) - 1 := by omega
      have q : callF 1 F_odd_product [.int (2 * ((n + 1 : Nat) : Int) - 1 - 2)] h3 = .ok (.int (oddP n)) h3 := by rw [e2]; exact oddF (by omega)
      refine bAnd_t e (bOf_ok (eOp_ok (eB_ok (eCons_ok (eVar_ok rfl) eNil_ok) (oddF (by omega))) (tmf (eVar_ok rfl) (eB_ok (eCons_ok (eOp_ok (eVar_ok rfl) eC_ok rfl) eNil_ok) q) (fitOf (k := 11) (by omega) (by decide)) (fitOf (oddPB (n := n) (by omega)) (by omega))) ?_))
      rw [odd_succ, show 2 * ((n + 1 : Nat) : Int) - 1 = 1 + (n : Int) * 2 by omega, Int.mul_comm]
      exact pyEq_same (n := 1) (by decide) rfl
  have c3 : eOp (pyEq false) (eB (callF 2 F_binomial) (eConsA (eVar 1) (eConsA (eVar 2) eNilA))) (eB (callF 2 F_law_binomial) (eConsA (eVar 1) (eConsA (eVar 2) eNilA))) [some (.ref l), some (.int (n : Nat)), some (.int (k : Nat)), some (.int (2 * (n : Int) - 1))] h3 = .ok (.bl true) h3 :=
    eOp_ok (eB_ok (eCons_ok (eVar_ok rfl) (eCons_ok (eVar_ok rfl) eNil_ok)) (binomialF hn hk)) (eB_ok (eCons_ok (eVar_ok rfl) (eCons_ok (eVar_ok rfl) eNil_ok)) (lbinomF (by omega) (by omega))) (pyEq_same (n := 1) (by decide) rfl)
  have c4 : eOp (pyEq false) (eB (callF 1 F_factorial) (eConsA (eVar 1) eNilA)) (eB (callF 1 F_law_factorial) (eConsA (eVar 1) eNilA)) [some (.ref l), some (.int (n : Nat)), some (.int (k : Nat)), some (.int (2 * (n : Int) - 1))] h3 = .ok (.bl true) h3 :=
    eOp_ok (eB_ok (eCons_ok (eVar_ok rfl) eNil_ok) (factorialF (by omega))) (eB_ok (eCons_ok (eVar_ok rfl) eNil_ok) (lfactF (by omega))) (pyEq_same (n := 1) (by decide) rfl)
  exact ⟨h3, run_rt rfl ((mSeq_nx s1).trans ((mSeq_nx s2).trans ((mSeq_nx ((mIf_f c1).trans rd_mNil)).trans ((mSeq_nx ((mIf_f c2).trans rd_mNil)).trans (mRet_ok (eAnd_t c3 c4)))))), d3⟩

def trL {β : Type} (g : CV → Sl → M Sl) (b : MS) (rd : Sl → Mem → β) (xs : List CV) : Sl → Mem → List β :=
  List.rec (fun τ h => [rd τ h]) (fun x _ ih τ h => rd τ h :: Out.rec (fun τ1 h1 => OS.rec (fun f h2 => Fl.rec (fun τ2 => ih τ2 h2) (fun _ => []) (fun _ => []) (fun _ => []) (fun _ _ => []) f) [] (b τ1 h1)) (fun _ _ => []) [] (g x τ h)) xs
theorem trL_at {β : Type} {g : CV → Sl → M Sl} {b : MS} {rd : Sl → Mem → β} {r : β} : ∀ {n : Nat} {xs : List CV} {τ : Sl} {h : Mem}, (trL g b rd xs τ h)[n]? = some r → ∃ τ' h', mForL g b (xs.take n) τ h = .mk (.nx τ') h' ∧ rd τ' h' = r
  | 0, xs, τ, h, e => by
    refine ⟨τ, h, rfl, ?_⟩
    cases xs <;> exact Option.some.inj e
  | n + 1, [], τ, h, e => by cases e
  | n + 1, x :: xs, τ, h, e => by
    have e' : (Out.rec (motive := fun _ => List β) (fun τ1 h1 => OS.rec (motive := fun _ => List β) (fun f h2 => Fl.rec (motive := fun _ => List β) (fun τ2 => trL g b rd xs τ2 h2) (fun _ => []) (fun _ => []) (fun _ => []) (fun _ _ => []) f) [] (b τ1 h1)) (fun _ _ => []) [] (g x τ h))[n]? = some r := e
    show ∃ τ' h', Out.rec (motive := fun _ => OS) (fun τ1 h1 => turn (mForL g b (xs.take n)) (b τ1 h1)) (fun _ _ => .bad) .bad (g x τ h) = .mk (.nx τ') h' ∧ rd τ' h' = r
    cases q : g x τ h with
    | ok τ1 h1 =>
      rw [q] at e'
      cases q2 : b τ1 h1 with
      | mk f h2 =>
        simp only [q2] at e' ⊢
        cases f with
        | nx τ2 => exact trL_at e'
        | _ => cases e'
      | bad => simp only [q2] at e'; cases e'
    | exc _ _ => rw [q] at e'; cases e'
    | bad => rw [q] at e'; cases e'

def upto (n : Nat) : List CV := (List.range n).map fun (i : Nat) => .int (1 + (i : Int))
def rdM (τ : Sl) (h : Mem) : Nat × Option (Option CV) × Option (Option CV) × Mem := (τ.length, sget τ 0, sget τ 1, h)
def bern : List (Int × Int) := [(1, 1), ((-1), 2), (1, 6), (0, 1), ((-1), 30), (0, 1), (1, 42), (0, 1), ((-1), 30), (0, 1), (5, 66), (0, 1), ((-691), 2730), (0, 1), (7, 6), (0, 1), ((-3617), 510), (0, 1), (43867, 798), (0, 1), ((-174611), 330), (0, 1), (854513, 138), (0, 1), ((-236364091), 2730), (0, 1), (8553103, 6), (0, 1), ((-23749461029), 870), (0, 1), (8615841276005, 14322), (0, 1), ((-7709321041217), 510), (0, 1), (2577687858367, 6), (0, 1), ((-26315271553053477373), 1919190), (0, 1), (2929993913841559, 6), (0, 1), ((-261082718496449122051), 13530), (0, 1), (1520097643918070802691, 1806), (0, 1), ((-27833269579301024235023), 690), (0, 1), (596451111593912163277961, 282), (0, 1), ((-5609403368997817686249127547), 46410), (0, 1), (495057205241079648212477525, 66), (0, 1), ((-801165718135489957347924991853), 1590), (0, 1), (29149963634884862421418123812691, 798), (0, 1), ((-2479392929313226753685415739663229), 870), (0, 1), (84483613348880041862046775994036021, 354), (0, 1), ((-1215233140483755572040304994079820246041491), 56786730)]
def memB (s : Nat) : Mem := [.lst ((bern.take (s + 1)).map qCV)]
theorem trB (x : CV) : trL (gSet 2) l_bernoulli_row_1 rdM (upto 60) [some x, some (.ref 0), none, none, none, none] (memB 0) = (List.range 61).map fun s => (6, some (some x), some (some (.ref 0)), memB s) := by kernel_rfl

def bT (n : Nat) : Int × Int := bern.getD n (0, 0)
theorem upto_take {t : Nat} (h : t ≤ 60) : (upto 60).take t = upto t := by
  unfold upto
  rw [← List.map_take, List.take_range, Nat.min_eq_left h]
theorem rng2_upto {t : Nat} (h : t ≤ 100) {m : Mem} : rng2 [.int 1, .int ((t : Int) + 1)] m = .ok (upto t) m := by
  unfold rng2
  simp only
  rw [if_pos (by omega)]
  have e : ((t : Int) + 1 - 1).toNat = t := by omega
  rw [e]; rfl
theorem tr_at {B : MS} {t : Nat} (ht : t ≤ 60) {x : CV} (e : trL (gSet 2) B rdM (upto 60) [some x, some (.ref 0), none, none, none, none] (memB 0) = (List.range 61).map fun s => (6, some (some x), some (some (.ref 0)), memB s)) :
    ∃ τ', mForL (gSet 2) B (upto t) [some x, some (.ref 0), none, none, none, none] (memB 0) = .mk (.nx τ') (memB t) ∧ τ'[1]? = some (some (.ref 0)) := by
  have q : (trL (gSet 2) B rdM (upto 60) [some x, some (.ref 0), none, none, none, none] (memB 0))[t]? = some (6, some (some x), some (some (.ref 0)), memB t) := by
    rw [e, List.getElem?_map, List.getElem?_range (by omega)]; rfl
  obtain ⟨τ', h', e1, e2⟩ := trL_at q
  unfold rdM at e2
  simp only [Prod.mk.injEq] at e2
  obtain ⟨l, q0, q1, rfl⟩ := e2
  rw [upto_take ht] at e1
  rw [sget_eq] at q1
  exact ⟨τ', e1, q1⟩
theorem newP {τ : Sl} : eNew (eConsA (eC (.tup [(.int 1), (.int 1)])) eNilA) τ [] = .ok (.ref 0) (memB 0) := by kernel_rfl
theorem rng1p {t : Nat} {U : List CV} {τ : Sl} {m : Mem} (hU : ∀ m, rng2 [.int 1, .int ((t : Int) + 1)] m = .ok U m) (h0 : τ[0]? = some (some (.int t))) : (iArgs rng2 (eConsA (eC (.int 1)) (eConsA (eOp pyAdd (eVar 0) (eC (.int 1))) eNilA))) τ m = .ok U m :=
  iArgs_ok (eCons_ok eC_ok (eCons_ok (eOp_ok (eVar_ok h0) eC_ok rfl) eNil_ok)) (hU m)
theorem mapO_q {f : CV → Option CV} (hf : ∀ x, f (qCV x) = some (qCV x)) : ∀ l : List (Int × Int), mapO f (l.map qCV) = some (l.map qCV)
  | [] => rfl
  | x :: l => by
    rw [List.map_cons]
    unfold mapO
    rw [hf, mapO_q hf l]
theorem frzB (t : Nat) : frzV 9 (memB t) (.ref 0) = some (.lst ((bern.take (t + 1)).map qCV)) := by
  have q : sget (memB t) 0 = some (.lst ((bern.take (t + 1)).map qCV)) := rfl
  unfold frzV
  simp only [q]
  rw [mapO_q (f := frzV 8 (memB t)) (fun x => rfl)]
theorem bernF {t : Nat} (ht : t ≤ 60) {h : Mem} : callF 1 F_bernoulli_row [.int t] h = .ok (.lst ((bern.take (t + 1)).map qCV)) h := by
  obtain ⟨τ', e1, e2⟩ := tr_at ht (trB (.int t))
  exact callF_read (h' := memB t) (v := .ref 0) (run_rt rfl ((mSeq_nx (mAsg_ok newP)).trans ((mSeq_nx ((mFor_nx (rng1p (fun m => rng2_upto (by omega)) rfl)).trans e1)).trans (mRet_ok (eVar_ok e2))))) rfl rfl (frzB t)
theorem bern_ix {t : Nat} (ht : t ≤ 60) (m : Mem) : pyIx (.lst ((bern.take (t + 1)).map qCV)) (.int t) m = .ok (qCV (bT t)) m := by
  have q : ((bern.take (t + 1)).map qCV)[t]? = some (qCV (bT t)) := by
    have hl : bern.length = 61 := by decide +kernel
    rw [List.getElem?_map, List.getElem?_take_of_lt (by omega)]
    unfold bT
    rw [List.getD_eq_getElem?_getD, List.getElem?_eq_getElem (by omega)]
    rfl
  simp only [pyIx, seqOf, rd_pyAtN, q]
theorem bernoulliF {t : Nat} (ht : t ≤ 60) {h : Mem} : callF 1 F_bernoulli [.int t] h = .ok (qCV (bT t)) h :=
  callF_read (h' := []) (v := qCV (bT t)) (run_rt rfl ((mSeq_nx (mExpr_ok (eB_ok (eCons_ok (eVar_ok rfl) (eCons_ok eC_ok (eCons_ok eC_ok eNil_ok))) (rwF (by omega) (by omega) (by omega))))).trans
    (mRet_ok (eOp_ok (eB_ok (eCons_ok (eVar_ok rfl) eNil_ok) (bernF ht)) (eVar_ok rfl) (bern_ix ht []))))) rfl rfl rfl

def addQ (x y : Int × Int) : Int × Int := fr (x.1 * y.2 + y.1 * x.2) (x.2 * y.2)
def mulQ (x y : Int × Int) : Int × Int := fr (x.1 * y.1) (x.2 * y.2)
def goodB (x : Int × Int) : Bool := decide (0 < x.2) && (Nat.beq (Nat.gcd x.1.natAbs x.2.natAbs) 1 && (Nat.ble x.1.natAbs (2 ^ 250) && Nat.ble x.2.natAbs (2 ^ 250)))
theorem goodB_at {x : Int × Int} (e : goodB x = true) : Good x := by
  unfold goodB at e
  simp only [Bool.and_eq_true, decide_eq_true_eq] at e
  exact ⟨e.1, Nat.eq_of_beq_eq_true e.2.1, Nat.ble_eq.mp e.2.2.1, Nat.ble_eq.mp e.2.2.2⟩
/-- the sum, where all that is met on the way is small -/
def sumQ (xs : List (Int × Int)) : Int × Int → Option (Int × Int) := List.rec (fun acc => some acc) (fun x _ ih acc => Bool.rec none (ih (addQ acc x)) (goodB acc && goodB x)) xs
theorem lsum_loop {L : CV} {m : Mem} : ∀ (xs : List (Int × Int)) (acc r : Int × Int) (z : Option CV), sumQ xs acc = some r → ∃ z', mForL (gSet 2) l_law_sum_0 (xs.map qCV) [some L, some (qCV acc), z] m = .mk (.nx [some L, some (qCV r), z']) m
  | [], acc, r, z, e => by
    cases (show some acc = some r from e)
    exact ⟨z, rfl⟩
  | x :: xs, acc, r, z, e => by
    have e' : (Bool.rec none (sumQ xs (addQ acc x)) (goodB acc && goodB x) : Option (Int × Int)) = some r := e
    cases q : goodB acc && goodB x with
    | false => rw [q] at e'; cases e'
    | true =>
      rw [q] at e'
      rw [Bool.and_eq_true] at q
      obtain ⟨z', ih⟩ := lsum_loop (L := L) (m := m) xs (addQ acc x) r (some (qCV x)) e'
      refine ⟨z', ?_⟩
      have st : l_law_sum_0 [some L, some (qCV acc), some (qCV x)] m = .mk (.nx [some L, some (qCV (addQ acc x)), some (qCV x)]) m :=
        mAsg_ok (eB_ok (eCons_ok (eVar_ok rfl) (eCons_ok (eVar_ok rfl) eNil_ok)) (lplusF (goodB_at q.1) (goodB_at q.2)))
      show Out.rec (motive := fun _ => OS) (fun τ1 h1 => turn (mForL (gSet 2) l_law_sum_0 (xs.map qCV)) (l_law_sum_0 τ1 h1)) (fun _ _ => .bad) .bad (gSet 2 (qCV x) [some L, some (qCV acc), z] m) = _
      rw [rd_gSet]
      show turn (mForL (gSet 2) l_law_sum_0 (xs.map qCV)) (l_law_sum_0 [some L, some (qCV acc), some (qCV x)] m) = _
      rw [st]
      exact ih
theorem noRefs_q : ∀ xs : List (Int × Int), noRefs [.lst (xs.map qCV)] = true := fun xs => by
  have : ∀ xs : List (Int × Int), noRefs (xs.map qCV) = true := fun xs => by
    induction xs with
    | nil => rfl
    | cons x xs ih => rw [List.map_cons]; unfold noRefs; rw [ih]; rfl
  unfold noRefs
  simp [noRef, this, noRefs]
theorem lsumF {xs : List (Int × Int)} {r : Int × Int} (e : sumQ xs (0, 1) = some r) {h : Mem} : callF 1 F_law_sum [.lst (xs.map qCV)] h = .ok (qCV r) h := by
  obtain ⟨z', e1⟩ := lsum_loop (L := .lst (xs.map qCV)) (m := []) xs (0, 1) r none e
  have it : iSeq (eVar 0) [some (.lst (xs.map qCV)), some (qCV (0, 1)), none] [] = .ok (xs.map qCV) [] := by
    unfold iSeq
    rw [rd_bnd, eVar_ok rfl]
    rfl
  exact callF_read (h' := []) (v := qCV r) (run_rt rfl ((mSeq_nx (mAsg_ok (v := qCV (0, 1)) (eTup_ok (eCons_ok eC_ok (eCons_ok eC_ok eNil_ok)) (by simp)))).trans ((mSeq_nx ((mFor_nx it).trans e1)).trans (mRet_ok (eVar_ok rfl))))) (noRefs_q xs) rfl rfl

def tmA (a i : Nat) : Int × Int := ((cho (a + 2) i : Nat), 1)
def tmB (a b i : Nat) : Int × Int := (((cho (a + 2) i : Nat) : Int) * ((b + 1 : Nat) : Int) ^ (a + 2 - i), 1)
def tm1 (a : Nat) : List (Int × Int) := (List.range (a + 2)).map fun i => mulQ (tmA a i) (bT i)
def tm2 (a b : Nat) : List (Int × Int) := (List.range (a + 2)).map fun i => mulQ (tmB a b i) (bT i)
def whole (a b : Nat) : Int := ((List.range b).map fun (i : Nat) => (1 + (i : Int)) ^ (a + 1)).sum
def eqQ (x : Option (Int × Int)) (y : Int × Int) : Bool := match x with | some z => decide (z.1 = y.1) && decide (z.2 = y.2) | none => false
theorem eqQ_at {x : Option (Int × Int)} {y : Int × Int} (e : eqQ x y = true) : x = some y := by
  unfold eqQ at e
  split at e
  · rename_i z
    rw [Bool.and_eq_true, decide_eq_true_eq, decide_eq_true_eq] at e
    obtain ⟨z1, z2⟩ := z
    obtain ⟨y1, y2⟩ := y
    obtain ⟨rfl, rfl⟩ := e
    rfl
  · cases e
theorem tb1 : ∀ a : Nat, a < 24 → eqQ (sumQ (tm1 a) (0, 1)) (0, 1) = true := by decide +kernel
def ck2 (a b : Nat) : Bool := match sumQ (tm2 a b) (0, 1) with | some z => goodB z && eqQ (some (fr (z.1 * 1) (z.2 * ((a + 2 : Nat) : Int)))) (whole a b, 1) | none => false
theorem tb2 : ∀ a : Nat, a < 24 → ∀ b : Nat, b < 12 → ck2 a b = true := by decide +kernel
theorem tbG : ∀ i : Nat, i < 61 → goodB (bT i) = true := by decide +kernel
theorem tbC : ∀ a : Nat, a < 24 → ∀ i : Nat, i < a + 2 → Nat.ble (cho (a + 2) i) (2 ^ 26) = true := by decide +kernel
def evR (l : CV) (a1 a2 a3 a4 a5 a6 a7 a8 a10 a11 a13 a14 : Option CV) (h : Mem) (e : Nat) : OS := mFor (iArgs rng2 (eConsA (eC (.int 2)) (eConsA (eOp pyAdd (eVar 9) (eC (.int 2))) eNilA))) (gSet 13) l_law_bernoulli_right_5 [some l, a1, a2, a3, a4, a5, a6, a7, a8, some (.int (e : Nat)), a10, a11, some (.int 1), a13, a14] h
def evS (l : CV) (a1 a2 a3 a4 a5 a6 a7 a8 a10 a11 a14 : Option CV) (h : Mem) (e : Nat) : OS := .mk (.nx [some l, a1, a2, a3, a4, a5, a6, a7, a8, some (.int (e : Nat)), a10, a11, some (.int (bT e).2), some (.int ((e + 1 : Nat) : Int)), a14]) h
theorem ev2 (l : CV) (a1 a2 a3 a4 a5 a6 a7 a8 a10 a11 a13 a14 : Option CV) (h : Mem) : evR l a1 a2 a3 a4 a5 a6 a7 a8 a10 a11 a13 a14 h 2 = evS l a1 a2 a3 a4 a5 a6 a7 a8 a10 a11 a14 h 2 := by kernel_rfl
theorem ev4 (l : CV) (a1 a2 a3 a4 a5 a6 a7 a8 a10 a11 a13 a14 : Option CV) (h : Mem) : evR l a1 a2 a3 a4 a5 a6 a7 a8 a10 a11 a13 a14 h 4 = evS l a1 a2 a3 a4 a5 a6 a7 a8 a10 a11 a14 h 4 := by kernel_rfl
theorem ev6 (l : CV) (a1 a2 a3 a4 a5 a6 a7 a8 a10 a11 a13 a14 : Option CV) (h : Mem) : evR l a1 a2 a3 a4 a5 a6 a7 a8 a10 a11 a13 a14 h 6 = evS l a1 a2 a3 a4 a5 a6 a7 a8 a10 a11 a14 h 6 := by kernel_rfl
theorem ev8 (l : CV) (a1 a2 a3 a4 a5 a6 a7 a8 a10 a11 a13 a14 : Option CV) (h : Mem) : evR l a1 a2 a3 a4 a5 a6 a7 a8 a10 a11 a13 a14 h 8 = evS l a1 a2 a3 a4 a5 a6 a7 a8 a10 a11 a14 h 8 := by kernel_rfl
theorem ev10 (l : CV) (a1 a2 a3 a4 a5 a6 a7 a8 a10 a11 a13 a14 : Option CV) (h : Mem) : evR l a1 a2 a3 a4 a5 a6 a7 a8 a10 a11 a13 a14 h 10 = evS l a1 a2 a3 a4 a5 a6 a7 a8 a10 a11 a14 h 10 := by kernel_rfl
theorem ev12 (l : CV) (a1 a2 a3 a4 a5 a6 a7 a8 a10 a11 a13 a14 : Option CV) (h : Mem) : evR l a1 a2 a3 a4 a5 a6 a7 a8 a10 a11 a13 a14 h 12 = evS l a1 a2 a3 a4 a5 a6 a7 a8 a10 a11 a14 h 12 := by kernel_rfl
theorem ev14 (l : CV) (a1 a2 a3 a4 a5 a6 a7 a8 a10 a11 a13 a14 : Option CV) (h : Mem) : evR l a1 a2 a3 a4 a5 a6 a7 a8 a10 a11 a13 a14 h 14 = evS l a1 a2 a3 a4 a5 a6 a7 a8 a10 a11 a14 h 14 := by kernel_rfl
theorem ev16 (l : CV) (a1 a2 a3 a4 a5 a6 a7 a8 a10 a11 a13 a14 : Option CV) (h : Mem) : evR l a1 a2 a3 a4 a5 a6 a7 a8 a10 a11 a13 a14 h 16 = evS l a1 a2 a3 a4 a5 a6 a7 a8 a10 a11 a14 h 16 := by kernel_rfl
theorem ev18 (l : CV) (a1 a2 a3 a4 a5 a6 a7 a8 a10 a11 a13 a14 : Option CV) (h : Mem) : evR l a1 a2 a3 a4 a5 a6 a7 a8 a10 a11 a13 a14 h 18 = evS l a1 a2 a3 a4 a5 a6 a7 a8 a10 a11 a14 h 18 := by kernel_rfl
theorem ev20 (l : CV) (a1 a2 a3 a4 a5 a6 a7 a8 a10 a11 a13 a14 : Option CV) (h : Mem) : evR l a1 a2 a3 a4 a5 a6 a7 a8 a10 a11 a13 a14 h 20 = evS l a1 a2 a3 a4 a5 a6 a7 a8 a10 a11 a14 h 20 := by kernel_rfl
theorem ev22 (l : CV) (a1 a2 a3 a4 a5 a6 a7 a8 a10 a11 a13 a14 : Option CV) (h : Mem) : evR l a1 a2 a3 a4 a5 a6 a7 a8 a10 a11 a13 a14 h 22 = evS l a1 a2 a3 a4 a5 a6 a7 a8 a10 a11 a14 h 22 := by kernel_rfl
theorem ev24 (l : CV) (a1 a2 a3 a4 a5 a6 a7 a8 a10 a11 a13 a14 : Option CV) (h : Mem) : evR l a1 a2 a3 a4 a5 a6 a7 a8 a10 a11 a13 a14 h 24 = evS l a1 a2 a3 a4 a5 a6 a7 a8 a10 a11 a14 h 24 := by kernel_rfl
theorem ev26 (l : CV) (a1 a2 a3 a4 a5 a6 a7 a8 a10 a11 a13 a14 : Option CV) (h : Mem) : evR l a1 a2 a3 a4 a5 a6 a7 a8 a10 a11 a13 a14 h 26 = evS l a1 a2 a3 a4 a5 a6 a7 a8 a10 a11 a14 h 26 := by kernel_rfl
theorem ev28 (l : CV) (a1 a2 a3 a4 a5 a6 a7 a8 a10 a11 a13 a14 : Option CV) (h : Mem) : evR l a1 a2 a3 a4 a5 a6 a7 a8 a10 a11 a13 a14 h 28 = evS l a1 a2 a3 a4 a5 a6 a7 a8 a10 a11 a14 h 28 := by kernel_rfl
theorem ev30 (l : CV) (a1 a2 a3 a4 a5 a6 a7 a8 a10 a11 a13 a14 : Option CV) (h : Mem) : evR l a1 a2 a3 a4 a5 a6 a7 a8 a10 a11 a13 a14 h 30 = evS l a1 a2 a3 a4 a5 a6 a7 a8 a10 a11 a14 h 30 := by kernel_rfl
theorem ev32 (l : CV) (a1 a2 a3 a4 a5 a6 a7 a8 a10 a11 a13 a14 : Option CV) (h : Mem) : evR l a1 a2 a3 a4 a5 a6 a7 a8 a10 a11 a13 a14 h 32 = evS l a1 a2 a3 a4 a5 a6 a7 a8 a10 a11 a14 h 32 := by kernel_rfl
theorem ev34 (l : CV) (a1 a2 a3 a4 a5 a6 a7 a8 a10 a11 a13 a14 : Option CV) (h : Mem) : evR l a1 a2 a3 a4 a5 a6 a7 a8 a10 a11 a13 a14 h 34 = evS l a1 a2 a3 a4 a5 a6 a7 a8 a10 a11 a14 h 34 := by kernel_rfl
theorem ev36 (l : CV) (a1 a2 a3 a4 a5 a6 a7 a8 a10 a11 a13 a14 : Option CV) (h : Mem) : evR l a1 a2 a3 a4 a5 a6 a7 a8 a10 a11 a13 a14 h 36 = evS l a1 a2 a3 a4 a5 a6 a7 a8 a10 a11 a14 h 36 := by kernel_rfl
theorem ev38 (l : CV) (a1 a2 a3 a4 a5 a6 a7 a8 a10 a11 a13 a14 : Option CV) (h : Mem) : evR l a1 a2 a3 a4 a5 a6 a7 a8 a10 a11 a13 a14 h 38 = evS l a1 a2 a3 a4 a5 a6 a7 a8 a10 a11 a14 h 38 := by kernel_rfl
theorem ev40 (l : CV) (a1 a2 a3 a4 a5 a6 a7 a8 a10 a11 a13 a14 : Option CV) (h : Mem) : evR l a1 a2 a3 a4 a5 a6 a7 a8 a10 a11 a13 a14 h 40 = evS l a1 a2 a3 a4 a5 a6 a7 a8 a10 a11 a14 h 40 := by kernel_rfl
theorem ev42 (l : CV) (a1 a2 a3 a4 a5 a6 a7 a8 a10 a11 a13 a14 : Option CV) (h : Mem) : evR l a1 a2 a3 a4 a5 a6 a7 a8 a10 a11 a13 a14 h 42 = evS l a1 a2 a3 a4 a5 a6 a7 a8 a10 a11 a14 h 42 := by kernel_rfl
theorem ev44 (l : CV) (a1 a2 a3 a4 a5 a6 a7 a8 a10 a11 a13 a14 : Option CV) (h : Mem) : evR l a1 a2 a3 a4 a5 a6 a7 a8 a10 a11 a13 a14 h 44 = evS l a1 a2 a3 a4 a5 a6 a7 a8 a10 a11 a14 h 44 := by kernel_rfl
theorem ev46 (l : CV) (a1 a2 a3 a4 a5 a6 a7 a8 a10 a11 a13 a14 : Option CV) (h : Mem) : evR l a1 a2 a3 a4 a5 a6 a7 a8 a10 a11 a13 a14 h 46 = evS l a1 a2 a3 a4 a5 a6 a7 a8 a10 a11 a14 h 46 := by kernel_rfl
theorem ev48 (l : CV) (a1 a2 a3 a4 a5 a6 a7 a8 a10 a11 a13 a14 : Option CV) (h : Mem) : evR l a1 a2 a3 a4 a5 a6 a7 a8 a10 a11 a13 a14 h 48 = evS l a1 a2 a3 a4 a5 a6 a7 a8 a10 a11 a14 h 48 := by kernel_rfl
theorem ev50 (l : CV) (a1 a2 a3 a4 a5 a6 a7 a8 a10 a11 a13 a14 : Option CV) (h : Mem) : evR l a1 a2 a3 a4 a5 a6 a7 a8 a10 a11 a13 a14 h 50 = evS l a1 a2 a3 a4 a5 a6 a7 a8 a10 a11 a14 h 50 := by kernel_rfl
theorem ev52 (l : CV) (a1 a2 a3 a4 a5 a6 a7 a8 a10 a11 a13 a14 : Option CV) (h : Mem) : evR l a1 a2 a3 a4 a5 a6 a7 a8 a10 a11 a13 a14 h 52 = evS l a1 a2 a3 a4 a5 a6 a7 a8 a10 a11 a14 h 52 := by kernel_rfl
theorem ev54 (l : CV) (a1 a2 a3 a4 a5 a6 a7 a8 a10 a11 a13 a14 : Option CV) (h : Mem) : evR l a1 a2 a3 a4 a5 a6 a7 a8 a10 a11 a13 a14 h 54 = evS l a1 a2 a3 a4 a5 a6 a7 a8 a10 a11 a14 h 54 := by kernel_rfl
theorem ev56 (l : CV) (a1 a2 a3 a4 a5 a6 a7 a8 a10 a11 a13 a14 : Option CV) (h : Mem) : evR l a1 a2 a3 a4 a5 a6 a7 a8 a10 a11 a13 a14 h 56 = evS l a1 a2 a3 a4 a5 a6 a7 a8 a10 a11 a14 h 56 := by kernel_rfl
theorem ev58 (l : CV) (a1 a2 a3 a4 a5 a6 a7 a8 a10 a11 a13 a14 : Option CV) (h : Mem) : evR l a1 a2 a3 a4 a5 a6 a7 a8 a10 a11 a13 a14 h 58 = evS l a1 a2 a3 a4 a5 a6 a7 a8 a10 a11 a14 h 58 := by kernel_rfl
theorem ev60 (l : CV) (a1 a2 a3 a4 a5 a6 a7 a8 a10 a11 a13 a14 : Option CV) (h : Mem) : evR l a1 a2 a3 a4 a5 a6 a7 a8 a10 a11 a13 a14 h 60 = evS l a1 a2 a3 a4 a5 a6 a7 a8 a10 a11 a14 h 60 := by kernel_rfl
theorem ev_ok (l : CV) (a1 a2 a3 a4 a5 a6 a7 a8 a10 a11 a13 a14 : Option CV) (h : Mem) : ∀ i : Nat, i < 30 → evR l a1 a2 a3 a4 a5 a6 a7 a8 a10 a11 a13 a14 h (2 * (i + 1)) = evS l a1 a2 a3 a4 a5 a6 a7 a8 a10 a11 a14 h (2 * (i + 1))
  | 0, _ => ev2 l a1 a2 a3 a4 a5 a6 a7 a8 a10 a11 a13 a14 h
  | 1, _ => ev4 l a1 a2 a3 a4 a5 a6 a7 a8 a10 a11 a13 a14 h
  | 2, _ => ev6 l a1 a2 a3 a4 a5 a6 a7 a8 a10 a11 a13 a14 h
  | 3, _ => ev8 l a1 a2 a3 a4 a5 a6 a7 a8 a10 a11 a13 a14 h
  | 4, _ => ev10 l a1 a2 a3 a4 a5 a6 a7 a8 a10 a11 a13 a14 h
  | 5, _ => ev12 l a1 a2 a3 a4 a5 a6 a7 a8 a10 a11 a13 a14 h
  | 6, _ => ev14 l a1 a2 a3 a4 a5 a6 a7 a8 a10 a11 a13 a14 h
  | 7, _ => ev16 l a1 a2 a3 a4 a5 a6 a7 a8 a10 a11 a13 a14 h
  | 8, _ => ev18 l a1 a2 a3 a4 a5 a6 a7 a8 a10 a11 a13 a14 h
  | 9, _ => ev20 l a1 a2 a3 a4 a5 a6 a7 a8 a10 a11 a13 a14 h
  | 10, _ => ev22 l a1 a2 a3 a4 a5 a6 a7 a8 a10 a11 a13 a14 h
  | 11, _ => ev24 l a1 a2 a3 a4 a5 a6 a7 a8 a10 a11 a13 a14 h
  | 12, _ => ev26 l a1 a2 a3 a4 a5 a6 a7 a8 a10 a11 a13 a14 h
  | 13, _ => ev28 l a1 a2 a3 a4 a5 a6 a7 a8 a10 a11 a13 a14 h
  | 14, _ => ev30 l a1 a2 a3 a4 a5 a6 a7 a8 a10 a11 a13 a14 h
  | 15, _ => ev32 l a1 a2 a3 a4 a5 a6 a7 a8 a10 a11 a13 a14 h
  | 16, _ => ev34 l a1 a2 a3 a4 a5 a6 a7 a8 a10 a11 a13 a14 h
  | 17, _ => ev36 l a1 a2 a3 a4 a5 a6 a7 a8 a10 a11 a13 a14 h
  | 18, _ => ev38 l a1 a2 a3 a4 a5 a6 a7 a8 a10 a11 a13 a14 h
  | 19, _ => ev40 l a1 a2 a3 a4 a5 a6 a7 a8 a10 a11 a13 a14 h
  | 20, _ => ev42 l a1 a2 a3 a4 a5 a6 a7 a8 a10 a11 a13 a14 h
  | 21, _ => ev44 l a1 a2 a3 a4 a5 a6 a7 a8 a10 a11 a13 a14 h
  | 22, _ => ev46 l a1 a2 a3 a4 a5 a6 a7 a8 a10 a11 a13 a14 h
  | 23, _ => ev48 l a1 a2 a3 a4 a5 a6 a7 a8 a10 a11 a13 a14 h
  | 24, _ => ev50 l a1 a2 a3 a4 a5 a6 a7 a8 a10 a11 a13 a14 h
  | 25, _ => ev52 l a1 a2 a3 a4 a5 a6 a7 a8 a10 a11 a13 a14 h
  | 26, _ => ev54 l a1 a2 a3 a4 a5 a6 a7 a8 a10 a11 a13 a14 h
  | 27, _ => ev56 l a1 a2 a3 a4 a5 a6 a7 a8 a10 a11 a13 a14 h
  | 28, _ => ev58 l a1 a2 a3 a4 a5 a6 a7 a8 a10 a11 a13 a14 h
  | 29, _ => ev60 l a1 a2 a3 a4 a5 a6 a7 a8 a10 a11 a13 a14 h
  | n + 30, h => absurd h (by omega)
def evE : Sl → M CV := eAnd (eOp (pyEq false) (eVar 11) (eVar 12)) (eAnd (eOp (pyEq false) (eOp pyGt (eVar 10) (eC (.int 0))) (eOp (pyEq false) (eOp pyMod (eB VE.pyInt (eConsA (eOp pyFdiv (eVar 9) (eC (.int 2))) eNilA)) (eC (.int 2))) (eC (.int 1)))) (eC (.bl true)))
theorem sgB : ∀ i : Nat, i < 30 → (decide ((bT (2 * (i + 1))).1 > 0) == decide (((i + 1) % 2 : Nat) = 1)) = true := by decide +kernel
theorem odd0 : ∀ i : Nat, i < 30 → (decide ((bT (if 2 * (i + 1) < 60 then 2 * (i + 1) + 1 else 59)).1 = 0) && decide ((bT (if 2 * (i + 1) < 60 then 2 * (i + 1) + 1 else 59)).2 = 1)) = true := by decide +kernel

theorem gBT {i : Nat} (h : i < 61) : Good (bT i) := goodB_at (tbG i h)
theorem one_good {z : Int} (h : z.natAbs ≤ 2 ^ 250) : Good (z, 1) := ⟨Int.one_pos, gcd1 _, h, Nat.one_le_two_pow⟩
theorem choB {a i : Nat} (ha : a < 24) (hi : i < a + 2) : ((cho (a + 2) i : Nat) : Int).natAbs ≤ 2 ^ 26 := by
  rw [Int.natAbs_natCast]
  exact Nat.ble_eq.mp (tbC a ha i hi)
theorem gA {a i : Nat} (ha : a < 24) (hi : i < a + 2) : Good (tmA a i) := one_good (Nat.le_trans (choB ha hi) (Nat.pow_le_pow_right (by decide) (by decide)))
theorem szB {a b i : Nat} (ha : a < 24) (hb : b < 12) : (((b + 1 : Nat) : Int) ^ (a + 2 - i)).natAbs ≤ 2 ^ (4 * 26) :=
  Nat.le_trans (powB (k := 4) (by rw [Int.natAbs_natCast]; omega) _) (Nat.pow_le_pow_right (by decide) (by omega))
theorem gB {a b i : Nat} (ha : a < 24) (hb : b < 12) (hi : i < a + 2) : Good (tmB a b i) := one_good (Nat.le_trans (mulB (choB ha hi) (szB ha hb)) (Nat.pow_le_pow_right (by decide) (by decide)))
def tl (a : Nat) : List CV := (List.range (a + 2)).map fun i => qCV (bT i)
theorem tl_at {a i : Nat} {x : CV} (h : (tl a)[i]? = some x) : i < a + 2 ∧ x = qCV (bT i) := by
  unfold tl at h
  rw [List.getElem?_map] at h
  by_cases hi : i < a + 2
  · rw [List.getElem?_range hi] at h; cases h; exact ⟨hi, rfl⟩
  · rw [List.getElem?_eq_none (by simpa using hi)] at h; cases h
theorem tl_len (a : Nat) : (tl a).length = a + 2 := by simp [tl]
theorem enumL_len : ∀ (xs : List CV) (n : Nat), (enumL n xs).length = xs.length
  | [], _ => rfl
  | x :: xs, n => by unfold enumL; rw [List.length_cons, List.length_cons, enumL_len xs]
theorem en_at {a i : Nat} {y : CV} (h : (enumL 0 (tl a))[i]? = some y) : i < a + 2 ∧ y = .tup [.int ((i : Nat) : Int), qCV (bT i)] := by
  obtain ⟨x, h1, h2⟩ := enumL_get h
  obtain ⟨h3, h4⟩ := tl_at h1
  subst h4
  rw [Nat.zero_add] at h2
  exact ⟨h3, h2⟩
theorem gUnp2 {i j : Nat} {u v : CV} {τ : Sl} {m : Mem} : gUnp 2 (gConsT (gSet i) (gConsT (gSet j) gNilT)) (.tup [u, v]) τ m = .ok ((τ.set i (some u)).set j (some v)) m := by
  show bnd (gSet i u τ) (gConsT (gSet j) gNilT [v]) m = _
  rw [rd_bnd, rd_gSet]
  show bnd (gSet j v (τ.set i (some u))) (gNilT []) m = _
  rw [rd_bnd, rd_gSet]
  rfl
theorem intsOf_map : ∀ xs : List Int, intsOf (xs.map CV.int) = some xs
  | [] => rfl
  | x :: xs => by
    rw [List.map_cons]
    unfold intsOf
    rw [intsOf_map xs]
section
variable {a b : Nat} (ha : a < 24) (hb : b < 12)
/-- the list told -/
theorem told_ok (ha : a < 24) {x s3 s4 s5 s6 s7 s8 s9 s10 s11 s12 s13 s14 : Option CV} {y : CV} {m : Mem} : eLc (iArgs rng1 (eConsA (eOp pyAdd (eVar 1) (eC (.int 1))) eNilA)) (gSet 7) bYes l_law_bernoulli_right_0 [7] [x, some (.int ((a + 1 : Nat) : Int)), some y, s3, s4, s5, s6, s7, s8, s9, s10, s11, s12, s13, s14] m = .ok (.lst (tl a)) m := by
  have e : (tl a) = ((List.range (a + 2)).map fun (i : Nat) => CV.int (0 + (i : Int))).map fun v => match v with | .int i => qCV (bT i.toNat) | v => v := by
    unfold tl
    rw [List.map_map]
    refine List.map_congr_left fun i _ => ?_
    show qCV (bT i) = qCV (bT (0 + (i : Int)).toNat)
    rw [Int.zero_add, Int.toNat_natCast]
  rw [e]
  refine eLc_ok (xs := (List.range (a + 2)).map fun (i : Nat) => CV.int (0 + (i : Int))) (iArgs_ok (eCons_ok (x := .int ((a + 2 : Nat) : Int)) (eOp_ok (eVar_ok rfl) eC_ok rfl) eNil_ok) (rng1_nat (by omega))) (by simp; omega) (lcV_ok _ _ fun v hv => ?_)
  obtain ⟨i, hi, rfl⟩ := List.mem_map.mp hv
  rw [List.mem_range] at hi
  refine ⟨_, rd_gSet 7 _, eB_ok (eCons_ok (eVar_ok rfl) eNil_ok) ?_⟩
  show callF 1 F_bernoulli [.int (0 + (i : Int))] m = .ok (qCV (bT (0 + (i : Int)).toNat)) m
  rw [Int.zero_add, Int.toNat_natCast]
  exact bernoulliF (by omega)
theorem total_ok (ha : a < 24) {x s4 s5 s6 s7 s8 s9 s10 s11 s12 s13 s14 : Option CV} {y : CV} {m : Mem} : eB (callF 1 F_law_sum) (eConsA (eLc (iArgs enumOf2 (eConsA (eVar 3) eNilA)) (gUnp 2 (gConsT (gSet 7) (gConsT (gSet 8) gNilT))) bYes l_law_bernoulli_right_1 [7, 8]) eNilA) [x, some (.int ((a + 1 : Nat) : Int)), some y, some (.lst (tl a)), s4, s5, s6, s7, s8, s9, s10, s11, s12, s13, s14] m = .ok (qCV (0, 1)) m := by
  have e1 : eLc (iArgs enumOf2 (eConsA (eVar 3) eNilA)) (gUnp 2 (gConsT (gSet 7) (gConsT (gSet 8) gNilT))) bYes l_law_bernoulli_right_1 [7, 8] [x, some (.int ((a + 1 : Nat) : Int)), some y, some (.lst (tl a)), s4, s5, s6, s7, s8, s9, s10, s11, s12, s13, s14] m = .ok (.lst ((tm1 a).map qCV)) m := by
    refine eLc_ok (xs := enumL 0 (tl a)) (iArgs_ok (eCons_ok (eVar_ok rfl) eNil_ok) rfl) (by rw [enumL_len, tl_len]; omega) ?_
    have q := lc_ok (g := gUnp 2 (gConsT (gSet 7) (gConsT (gSet 8) gNilT))) (te := l_law_bernoulli_right_1) (τ := wipeC [x, some (.int ((a + 1 : Nat) : Int)), some y, some (.lst (tl a)), s4, s5, s6, s7, s8, s9, s10, s11, s12, s13, s14] [7, 8]) (h := m) (fun i => qCV (mulQ (tmA a i) (bT i))) (enumL 0 (tl a)) 0 (fun i v hv => by
      obtain ⟨hi, rfl⟩ := en_at hv
      rw [Nat.zero_add]
      exact ⟨_, gUnp2, eB_ok (eCons_ok (eTup_ok (eCons_ok (x := .int ((cho (a + 2) i : Nat) : Int)) (eB_ok (eCons_ok (x := .int ((a + 2 : Nat) : Int)) (eOp_ok (eVar_ok rfl) eC_ok rfl) (eCons_ok (eVar_ok rfl) eNil_ok)) (lbinomF (by omega) (by omega))) (eCons_ok eC_ok eNil_ok)) (by simp)) (eCons_ok (eVar_ok rfl) eNil_ok)) (ltimesF (gA ha hi) (gBT (by omega)))⟩)
    rw [q, enumL_len, tl_len]
    unfold tm1
    rw [List.map_map]
    refine congrArg (fun l => Out.ok l m) (List.map_congr_left fun i _ => ?_)
    rw [Nat.zero_add]
    rfl
  exact eB_ok (eCons_ok e1 eNil_ok) (lsumF (eqQ_at (tb1 a ha)))
theorem whole_ok (ha : a < 24) (hb : b < 12) {x s3 s4 s5 s6 s7 s8 s9 s10 s11 s12 s13 s14 : Option CV} {m : Mem} : eB (one pySum2) (eConsA (eLc (iArgs rng2 (eConsA (eC (.int 1)) (eConsA (eVar 2) eNilA))) (gSet 14) bYes l_law_bernoulli_right_2 [14]) eNilA) [x, some (.int ((a + 1 : Nat) : Int)), some (.int ((b + 1 : Nat) : Int)), s3, s4, s5, s6, s7, s8, s9, s10, s11, s12, s13, s14] m = .ok (.int (whole a b)) m := by
  have hr : rng2 [.int 1, .int ((b + 1 : Nat) : Int)] m = .ok ((List.range b).map fun (i : Nat) => CV.int (1 + (i : Int))) m := by
    unfold rng2
    simp only
    rw [if_pos (by omega), show (((b + 1 : Nat) : Int) - 1).toNat = b by omega]
    rfl
  have e1 : eLc (iArgs rng2 (eConsA (eC (.int 1)) (eConsA (eVar 2) eNilA))) (gSet 14) bYes l_law_bernoulli_right_2 [14] [x, some (.int ((a + 1 : Nat) : Int)), some (.int ((b + 1 : Nat) : Int)), s3, s4, s5, s6, s7, s8, s9, s10, s11, s12, s13, s14] m = .ok (.lst (((List.range b).map fun (i : Nat) => (1 + (i : Int)) ^ (a + 1)).map CV.int)) m := by
    have e : ((List.range b).map fun (i : Nat) => (1 + (i : Int)) ^ (a + 1)).map CV.int = ((List.range b).map fun (i : Nat) => CV.int (1 + (i : Int))).map fun v => match v with | .int i => .int (i ^ (a + 1)) | v => v := by
      rw [List.map_map, List.map_map]
      rfl
    rw [e]
    refine eLc_ok (iArgs_ok (eCons_ok eC_ok (eCons_ok (eVar_ok rfl) eNil_ok)) hr) (by simp; omega) (lcV_ok _ _ fun v hv => ?_)
    obtain ⟨i, hi, rfl⟩ := List.mem_map.mp hv
    rw [List.mem_range] at hi
    exact ⟨_, rd_gSet 14 _, eB_ok (eCons_ok (eVar_ok rfl) (eCons_ok (eVar_ok rfl) eNil_ok)) (lpowF (k := 4) (by omega) (by decide) (by omega) (by omega))⟩
  refine eB_ok (eCons_ok e1 eNil_ok) ?_
  unfold one pySum2
  simp only [seqOf, intsOf_map]
  rfl
/-- the lines -/
theorem lines_ok (ha : a < 24) (hb : b < 12) {x s4 s5 s7 s8 s9 s10 s11 s12 s13 s14 : Option CV} {l l1 c : Nat} {m : Mem} (d : DiceN m l c) (hl : l1 ≠ l) (h1 : At m l1 []) :
    ∃ m' s7' s8', mFor (iArgs enumOf2 (eConsA (eVar 3) eNilA)) (gUnp 2 (gConsT (gSet 7) (gConsT (gSet 8) gNilT))) l_law_bernoulli_right_3 [x, some (.int ((a + 1 : Nat) : Int)), some (.int ((b + 1 : Nat) : Int)), some (.lst (tl a)), s4, s5, some (.ref l1), s7, s8, s9, s10, s11, s12, s13, s14] m =
      .mk (.nx [x, some (.int ((a + 1 : Nat) : Int)), some (.int ((b + 1 : Nat) : Int)), some (.lst (tl a)), s4, s5, some (.ref l1), s7', s8', s9, s10, s11, s12, s13, s14]) m' ∧ DiceN m' l c ∧ At m' l1 ((tm2 a b).map qCV) := by
  obtain ⟨τ', m', e1, d', a', s7', s8', e2⟩ := forL_inv (g := gUnp 2 (gConsT (gSet 7) (gConsT (gSet 8) gNilT))) (b := l_law_bernoulli_right_3) (fun j τ h => DiceN h l c ∧ At h l1 (((List.range j).map fun i => mulQ (tmB a b i) (bT i)).map qCV) ∧ ∃ s7' s8', τ = [x, some (.int ((a + 1 : Nat) : Int)), some (.int ((b + 1 : Nat) : Int)), some (.lst (tl a)), s4, s5, some (.ref l1), s7', s8', s9, s10, s11, s12, s13, s14]) (enumL 0 (tl a)) 0
    [x, some (.int ((a + 1 : Nat) : Int)), some (.int ((b + 1 : Nat) : Int)), some (.lst (tl a)), s4, s5, some (.ref l1), s7, s8, s9, s10, s11, s12, s13, s14] m ⟨d, h1, s7, s8, rfl⟩ (fun i v τ h hv hi => by
      obtain ⟨d, h1, s7, s8, rfl⟩ := hi
      obtain ⟨hi, rfl⟩ := en_at hv
      rw [Nat.zero_add] at h1 ⊢
      have ex : ((a + 2 : Nat) : Int) - (i : Int) = ((a + 2 - i : Nat) : Int) := by omega
      have sb : ∀ s7 s8 : Option CV, eOp pySub (eOp pyAdd (eVar 1) (eC (.int 1))) (eVar 7) [x, some (.int ((a + 1 : Nat) : Int)), some (.int ((b + 1 : Nat) : Int)), some (.lst (tl a)), s4, s5, some (.ref l1), some (.int ((i : Nat) : Int)), s8, s9, s10, s11, s12, s13, s14] h = .ok (.int ((a + 2 - i : Nat) : Int)) h := fun s7 s8 => by
        rw [← ex]
        exact eOp_ok (x := .int ((a + 2 : Nat) : Int)) (eOp_ok (eVar_ok rfl) eC_ok rfl) (eVar_ok rfl) rfl
      refine ⟨_, _, _, _, gUnp2, app_ok rfl (eB_ok (eCons_ok (eTup_ok (eCons_ok (tmf (eB_ok (eCons_ok (x := .int ((a + 2 : Nat) : Int)) (eOp_ok (eVar_ok rfl) eC_ok rfl) (eCons_ok (eVar_ok rfl) eNil_ok)) (lbinomF (by omega) (by omega))) (eB_ok (eCons_ok (eVar_ok rfl) (eCons_ok (sb s7 _) eNil_ok)) (lpowF (k := 4) (by rw [Int.natAbs_natCast]; omega) (by decide) (by omega) (by omega)))
        (fitOf (choB ha hi) (by decide)) (fitOf (szB ha hb) (by decide))) (eCons_ok eC_ok eNil_ok)) (by simp)) (eCons_ok (eVar_ok rfl) eNil_ok)) (ltimesF (gB ha hb hi) (gBT (by omega)))) h1 (by simp; omega), d.set_ne hl, ?_, some (.int ((i : Nat) : Int)), some (qCV (bT i)), rfl⟩
      rw [List.range_succ, List.map_append, List.map_append]
      exact h1.set_self)
  subst e2
  have it : iArgs enumOf2 (eConsA (eVar 3) eNilA) [x, some (.int ((a + 1 : Nat) : Int)), some (.int ((b + 1 : Nat) : Int)), some (.lst (tl a)), s4, s5, some (.ref l1), s7, s8, s9, s10, s11, s12, s13, s14] m = .ok (enumL 0 (tl a)) m := iArgs_ok (eCons_ok (eVar_ok rfl) eNil_ok) rfl
  refine ⟨m', s7', s8', (mFor_nx it).trans e1, d', ?_⟩
  rw [enumL_len, tl_len, Nat.zero_add] at a'
  exact a'
end

theorem lsumR {xs : List (Int × Int)} {r : Int × Int} (e : sumQ xs (0, 1) = some r) : F_law_sum [.lst (xs.map qCV)] [] = .ok (qCV r) [] := by
  obtain ⟨z', e1⟩ := lsum_loop (L := .lst (xs.map qCV)) (m := []) xs (0, 1) r none e
  have it : iSeq (eVar 0) [some (.lst (xs.map qCV)), some (qCV (0, 1)), none] [] = .ok (xs.map qCV) [] := by
    unfold iSeq
    rw [rd_bnd, eVar_ok rfl]
    rfl
  exact run_rt rfl ((mSeq_nx (mAsg_ok (v := qCV (0, 1)) (eTup_ok (eCons_ok eC_ok (eCons_ok eC_ok eNil_ok)) (by simp)))).trans ((mSeq_nx ((mFor_nx it).trans e1)).trans (mRet_ok (eVar_ok rfl))))
theorem callF_own {np : Nat} {F : List CV → M CV} {l : Nat} {ys : CV} {v : CV} {h h' : Mem} (hl : 1 = np) (hz : frzV 9 h (.ref l) = some ys) (e : F [ys] [] = .ok v h') (hs : scal v = true) : callF np F [.ref l] h = .ok v h := by
  unfold callF
  rw [if_pos (show [CV.ref l].length = np from hl)]
  have n : noRefs [.ref l] = false := rfl
  have m : mapO (frzV 9 h) [.ref l] = some [ys] := by
    unfold mapO
    rw [hz]
    rfl
  rw [n, m]
  simp only [Bool.false_eq_true, if_false, e, hs, if_true]
theorem frz_at {h : Mem} {l : Nat} {xs : List (Int × Int)} (a : At h l (xs.map qCV)) : frzV 9 h (.ref l) = some (.lst (xs.map qCV)) := by
  have q : sget h l = some (.lst (xs.map qCV)) := by rw [sget_eq]; exact a
  unfold frzV
  simp only [q]
  rw [mapO_q (f := frzV 8 h) (fun x => rfl)]
theorem bernoulli_ok {h : Mem} {l c : Nat} (d : DiceN h l c) (hc : c ≤ 1000) : ∃ h', F_law_bernoulli_right [.ref l] h = .ok (.bl true) h' ∧ DiceN h' l (c + 3) := by
  obtain ⟨r, h1, r0, r1, e1, d1⟩ := rolled 24 d (by omega) ⟨by decide, by decide +kernel⟩
  obtain ⟨a, rfl⟩ := Int.eq_ofNat_of_zero_le r0
  obtain ⟨r', h2, r0', r1', e2, d2⟩ := rolled 12 d1 (by omega) ⟨by decide, by decide +kernel⟩
  obtain ⟨b, rfl⟩ := Int.eq_ofNat_of_zero_le r0'
  have ha : a < 24 := by omega
  have hb : b < 12 := by omega
  have D3 : DiceN (h2 ++ [.lst []]) l (c + 1 + 1) := d2.push
  have A3 : At (h2 ++ [.lst []]) h2.length [] := At.last
  have hne : h2.length ≠ l := by have := d2.lt; omega
  have ca : 1 + (a : Int) = ((a + 1 : Nat) : Int) := by omega
  have cb : 1 + (b : Int) = ((b + 1 : Nat) : Int) := by omega
  have s1 : mAsg (gUnp 2 (gConsT (gSet 1) (gConsT (gSet 2) gNilT))) (eTup (eConsA (eOp pyAdd (eC (.int 1)) (eCall 2 F_law_roll (eConsA (eVar 0) (eConsA (eC (.int 24)) eNilA)))) (eConsA (eOp pyAdd (eC (.int 1)) (eCall 2 F_law_roll (eConsA (eVar 0) (eConsA (eC (.int 12)) eNilA)))) eNilA))) (startC 15 [.ref l]) h =
      .mk (.nx [some (.ref l), some (.int ((a + 1 : Nat) : Int)), some (.int ((b + 1 : Nat) : Int)), none, none, none, none, none, none, none, none, none, none, none, none]) h2 := by
    rw [← ca, ← cb]
    exact asg2 (eTup_ok (eCons_ok (eOp_ok eC_ok (eCall_ok (eCons_ok (eVar_ok rfl) (eCons_ok eC_ok eNil_ok)) rfl e1) rfl) (eCons_ok (eOp_ok eC_ok (eCall_ok (eCons_ok (eVar_ok rfl) (eCons_ok eC_ok eNil_ok)) rfl e2) rfl) eNil_ok)) (by simp))
  have c4 : bOr (bOf (eOp (pyEq true) (eVar 4) (eTup (eConsA (eC (.int 0)) (eConsA (eC (.int 1)) eNilA))))) (bOf (eOp (pyEq true) (eSlice (eVar 3) none (some (eC (.int 2)))) (eLst (eConsA (eTup (eConsA (eC (.int 1)) (eConsA (eC (.int 1)) eNilA))) (eConsA (eTup (eConsA (eUn pyNeg (eC (.int 1))) (eConsA (eC (.int 2)) eNilA))) eNilA)))))
      [some (.ref l), some (.int ((a + 1 : Nat) : Int)), some (.int ((b + 1 : Nat) : Int)), some (.lst (tl a)), some (qCV (0, 1)), none, none, none, none, none, none, none, none, none, none] h2 = .ok false h2 := by
    refine bOr_ff (bOf_ok (eOp_ok (eVar_ok rfl) (eTup_ok (eCons_ok eC_ok (eCons_ok eC_ok eNil_ok)) (by simp)) (pyEq_same (n := 2) (v := qCV (0, 1)) (by decide) rfl))) (bOf_ok (eOp_ok (x := .lst [qCV (1, 1), qCV (-1, 2)]) (y := .lst [qCV (1, 1), qCV (-1, 2)]) (h1 := h2) (h2 := h2) ?_ (by kernel_rfl) (pyEq_same (n := 3) (by decide) rfl)))
    have ct : cutC (tl a) none (some 2) = [qCV (1, 1), qCV (-1, 2)] := by
      unfold cutC
      rw [tl_len]
      have x1 : HT.sIx (a + 2) 0 none = 0 := rfl
      have x2 : HT.sIx (a + 2) (a + 2) (some 2) = 2 := by
        unfold HT.sIx
        simp
      rw [x1, x2]
      show (List.drop 0 (tl a)).take 2 = _
      rw [List.drop_zero]
      unfold tl
      rw [← List.map_take, List.take_range, Nat.min_eq_left (by omega)]
      rfl
    unfold eSlice
    rw [rd_bnd, eVar_ok rfl]
    show Out.ok (CV.lst (cutC (tl a) none (some 2))) h2 = _
    rw [ct]
  obtain ⟨m7, z7, z8, e7, d7, a7⟩ := lines_ok (x := some (.ref l)) (s4 := some (qCV (0, 1))) (s5 := some (.int (whole a b))) (s7 := none) (s8 := none) (s9 := none) (s10 := none) (s11 := none) (s12 := none) (s13 := none) (s14 := none) ha hb D3 hne A3
  obtain ⟨r'', h8, r0'', r1'', e8, d8⟩ := rolled 30 d7 (by omega) ⟨by decide, by decide +kernel⟩
  obtain ⟨i, rfl⟩ := Int.eq_ofNat_of_zero_le r0''
  have hi : i < 30 := by omega
  have k2 := tb2 a ha b hb
  unfold ck2 at k2
  have c8 : bOf (eOp (pyEq true) (eB (callF 2 F_law_over) (eConsA (eB (callF 1 F_law_sum) (eConsA (eVar 6) eNilA)) (eConsA (eTup (eConsA (eOp pyAdd (eVar 1) (eC (.int 1))) (eConsA (eC (.int 1)) eNilA))) eNilA))) (eTup (eConsA (eVar 5) (eConsA (eC (.int 1)) eNilA))))
      [some (.ref l), some (.int ((a + 1 : Nat) : Int)), some (.int ((b + 1 : Nat) : Int)), some (.lst (tl a)), some (qCV (0, 1)), some (.int (whole a b)), some (.ref h2.length), z7, z8, none, none, none, none, none, none] m7 = .ok false m7 := by
    cases q : sumQ (tm2 a b) (0, 1) with
    | none => rw [q] at k2; cases k2
    | some z =>
      rw [q] at k2
      simp only at k2
      rw [Bool.and_eq_true] at k2
      have gz := goodB_at k2.1
      have ez := Option.some.inj (eqQ_at k2.2)
      have g2 : Good (((a + 2 : Nat) : Int), 1) := one_good (by rw [Int.natAbs_natCast]; exact Nat.le_trans (show a + 2 ≤ 2 ^ 5 by omega) (Nat.pow_le_pow_right (by decide) (by decide)))
      have sm : callF 1 F_law_sum [.ref h2.length] m7 = .ok (qCV z) m7 := callF_own rfl (frz_at a7) (lsumR q) rfl
      have ov : callF 2 F_law_over [qCV z, qCV (((a + 2 : Nat) : Int), 1)] m7 = .ok (qCV (whole a b, 1)) m7 := by
        rw [← ez]
        exact loverF gz g2 (by show ((a + 2 : Nat) : Int) ≠ 0; omega)
      exact bOf_ok (eOp_ok (eB_ok (eCons_ok (eB_ok (eCons_ok (eVar_ok rfl) eNil_ok) sm) (eCons_ok (x := qCV (((a + 2 : Nat) : Int), 1)) (eTup_ok (eCons_ok (x := .int ((a + 2 : Nat) : Int)) (eOp_ok (eVar_ok rfl) eC_ok rfl) (eCons_ok eC_ok eNil_ok)) (by simp)) eNil_ok)) ov) (eTup_ok (eCons_ok (eVar_ok rfl) (eCons_ok eC_ok eNil_ok)) (by simp)) (pyEq_same (n := 2) (v := qCV (whole a b, 1)) (by decide) rfl))
  have s9 : mAsg (gSet 9) (eOp pyTimes (eC (.int 2)) (eOp pyAdd (eC (.int 1)) (eCall 2 F_law_roll (eConsA (eVar 0) (eConsA (eC (.int 30)) eNilA)))))
      [some (.ref l), some (.int ((a + 1 : Nat) : Int)), some (.int ((b + 1 : Nat) : Int)), some (.lst (tl a)), some (qCV (0, 1)), some (.int (whole a b)), some (.ref h2.length), z7, z8, none, none, none, none, none, none] m7 =
      .mk (.nx [some (.ref l), some (.int ((a + 1 : Nat) : Int)), some (.int ((b + 1 : Nat) : Int)), some (.lst (tl a)), some (qCV (0, 1)), some (.int (whole a b)), some (.ref h2.length), z7, z8, some (.int ((2 * (i + 1) : Nat) : Int)), none, none, none, none, none]) h8 := by
    have e : ((2 * (i + 1) : Nat) : Int) = 2 * (1 + (i : Int)) := by omega
    rw [e]
    exact mAsg_ok (tmf eC_ok (eOp_ok eC_ok (eCall_ok (eCons_ok (eVar_ok rfl) (eCons_ok eC_ok eNil_ok)) rfl e8) rfl) (by decide +kernel) (fitOf (k := 6) (by omega) (by decide)))
  have cF : ∀ (s13 s14 : Option CV), mRet (eAnd (eOp (pyEq false) (eVar 11) (eVar 12)) (eAnd (eOp (pyEq false) (eOp pyGt (eVar 10) (eC (.int 0))) (eOp (pyEq false) (eOp pyMod (eB VE.pyInt (eConsA (eOp pyFdiv (eVar 9) (eC (.int 2))) eNilA)) (eC (.int 2))) (eC (.int 1)))) (eOp (pyEq false) (eB (callF 1 F_bernoulli) (eConsA (eIf (bOf (eOp pyLt (eVar 9) (eC (.int 60)))) (eOp pyAdd (eVar 9) (eC (.int 1))) (eC (.int 59))) eNilA)) (eTup (eConsA (eC (.int 0)) (eConsA (eC (.int 1)) eNilA))))))
      [some (.ref l), some (.int ((a + 1 : Nat) : Int)), some (.int ((b + 1 : Nat) : Int)), some (.lst (tl a)), some (qCV (0, 1)), some (.int (whole a b)), some (.ref h2.length), z7, z8, some (.int ((2 * (i + 1) : Nat) : Int)), some (.int (bT (2 * (i + 1))).1), some (.int (bT (2 * (i + 1))).2), some (.int (bT (2 * (i + 1))).2), s13, s14] h8 = .mk (.rt (.bl true)) h8 := fun s13 s14 => by
    have dv : pyFdiv (.int ((2 * (i + 1) : Nat) : Int)) (.int 2) h8 = .ok (.int ((i + 1 : Nat) : Int)) h8 := by
      rw [pyFdiv_int (by decide) (by decide +kernel), Int.fdiv_eq_ediv_of_nonneg _ (by decide)]
      congr 2
      omega
    have md : pyMod (.int ((i + 1 : Nat) : Int)) (.int 2) h8 = .ok (.int (((i + 1) % 2 : Nat) : Int)) h8 := by
      rw [pyMod_int (by decide), Int.fmod_eq_emod_of_nonneg _ (by decide)]
      rfl
    have sg : decide ((bT (2 * (i + 1))).1 > 0) = decide ((((i + 1) % 2 : Nat) : Int) = 1) := by
      have q := sgB i hi
      rw [beq_iff_eq] at q
      rw [q]
      by_cases z : (i + 1) % 2 = 1
      · rw [decide_eq_true z, decide_eq_true (by omega)]
      · rw [decide_eq_false z, decide_eq_false (by omega)]
    have q1 : pyEq false (.int (((i + 1) % 2 : Nat) : Int)) (.int 1) h8 = .ok (.bl (decide ((((i + 1) % 2 : Nat) : Int) = 1))) h8 := pyEq_int.trans (by simp)
    have o := odd0 i hi
    rw [Bool.and_eq_true, decide_eq_true_eq, decide_eq_true_eq] at o
    have ob : ∀ t : Nat, t = (if 2 * (i + 1) < 60 then 2 * (i + 1) + 1 else 59) → callF 1 F_bernoulli [.int (t : Nat)] h8 = .ok (qCV (0, 1)) h8 := fun t ht => by
      have ht2 : t ≤ 60 := by rw [ht]; split <;> omega
      rw [bernoulliF ht2]
      have : bT t = (0, 1) := by
        rw [← ht] at o
        exact Prod.ext o.1 o.2
      rw [this]
    have lt : ∀ (τ : Sl), τ[9]? = some (some (.int ((2 * (i + 1) : Nat) : Int))) → bOf (eOp pyLt (eVar 9) (eC (.int 60))) τ h8 = .ok (decide (((2 * (i + 1) : Nat) : Int) < 60)) h8 := fun τ e => bOf_ok (eOp_ok (eVar_ok e) eC_ok rfl)
    have ix : ∀ (τ : Sl), τ[9]? = some (some (.int ((2 * (i + 1) : Nat) : Int))) → ∃ t : Nat, t = (if 2 * (i + 1) < 60 then 2 * (i + 1) + 1 else 59) ∧ eIf (bOf (eOp pyLt (eVar 9) (eC (.int 60)))) (eOp pyAdd (eVar 9) (eC (.int 1))) (eC (.int 59)) τ h8 = .ok (.int (t : Nat)) h8 := fun τ e => by
      have l1 := lt τ e
      by_cases z : 2 * (i + 1) < 60
      · rw [decide_eq_true (by omega)] at l1
        exact ⟨2 * (i + 1) + 1, by rw [if_pos z], eIf_t l1 (eOp_ok (eVar_ok e) eC_ok rfl)⟩
      · rw [decide_eq_false (by omega)] at l1
        exact ⟨59, by rw [if_neg z], eIf_f l1 eC_ok⟩
    obtain ⟨t, ht, et⟩ := ix [some (.ref l), some (.int ((a + 1 : Nat) : Int)), some (.int ((b + 1 : Nat) : Int)), some (.lst (tl a)), some (qCV (0, 1)), some (.int (whole a b)), some (.ref h2.length), z7, z8, some (.int ((2 * (i + 1) : Nat) : Int)), some (.int (bT (2 * (i + 1))).1), some (.int (bT (2 * (i + 1))).2), some (.int (bT (2 * (i + 1))).2), s13, s14] rfl
    refine mRet_ok (eAnd_t (eOp_ok (eVar_ok rfl) (eVar_ok rfl) (pyEq_same (n := 1) (by decide) rfl)) (eAnd_t (eOp_ok (x := .bl (decide ((bT (2 * (i + 1))).1 > 0))) (eOp_ok (eVar_ok rfl) eC_ok rfl) (eOp_ok (eOp_ok (eB_ok (eCons_ok (eOp_ok (eVar_ok rfl) eC_ok dv) eNil_ok) rfl) eC_ok md) eC_ok q1) ?_) (eOp_ok (eB_ok (eCons_ok et eNil_ok) (ob t ht)) (eTup_ok (eCons_ok eC_ok (eCons_ok eC_ok eNil_ok)) (by simp)) (pyEq_same (n := 2) (v := qCV (0, 1)) (by decide) rfl))))
    rw [sg]
    exact pyEq_same (n := 1) (by decide) rfl
  have ev := ev_ok (.ref l) (some (.int ((a + 1 : Nat) : Int))) (some (.int ((b + 1 : Nat) : Int))) (some (.lst (tl a))) (some (qCV (0, 1))) (some (.int (whole a b))) (some (.ref h2.length)) z7 z8 (some (.int (bT (2 * (i + 1))).1)) (some (.int (bT (2 * (i + 1))).2)) none none h8 i hi
  exact ⟨h8, run_rt rfl ((mSeq_nx s1).trans ((mSeq_nx (mAsg_ok (told_ok ha))).trans ((mSeq_nx (mAsg_ok (total_ok ha))).trans ((mSeq_nx ((mIf_f c4).trans rd_mNil)).trans ((mSeq_nx (mAsg_ok (whole_ok ha hb))).trans ((mSeq_nx (newL_ok eNil_ok (by simp))).trans
    ((mSeq_nx e7).trans ((mSeq_nx ((mIf_f c8).trans rd_mNil)).trans ((mSeq_nx s9).trans ((mSeq_nx (asg2 (eB_ok (eCons_ok (eVar_ok rfl) eNil_ok) (bernoulliF (by omega))))).trans ((mSeq_nx (mAsg_ok eC_ok)).trans ((mSeq_nx ev).trans (cF _ _))))))))))))), d8⟩

open SX
theorem Dg256 (n : Nat) : ∀ c ∈ Dg n, c < 256 := fun c hc => by have := Dg_all n c hc; omega
theorem Dg47 (n : Nat) : 47 ∉ Dg n := fun h => by have := Dg_all n 47 h; omega
theorem n76 {a : Nat} (h : a ≤ 2 ^ 250) : a < 10 ^ 76 := Nat.lt_of_le_of_lt h (by decide +kernel)
theorem n80 {a : Nat} (h : a ≤ 2 ^ 250) : a < 10 ^ 80 := Nat.lt_of_le_of_lt h (by decide +kernel)
theorem DgL {a : Nat} (h : a ≤ 2 ^ 250) : (Dg a).length ≤ 76 := Dg_len (by decide) (n76 h)
theorem txLL {a : Int} (h : a.natAbs ≤ 2 ^ 250) : (txL a).length ≤ 77 := by
  unfold txL sgL
  have := DgL h
  split <;> simp <;> omega
/-- the text of a fraction -/
def tQ (x : Int × Int) : List Nat := txL x.1 ++ (if x.2 = 1 then [] else 47 :: Dg x.2.natAbs)
theorem tQL {x : Int × Int} (g : Good x) : (tQ x).length ≤ 200 := by
  unfold tQ
  have a := txLL g.b1
  have b := DgL g.b2
  split <;> simp <;> omega
theorem tQ256 (x : Int × Int) : ∀ c ∈ tQ x, c < 256 := by
  intro c hc
  unfold tQ txL sgL at hc
  simp only [List.mem_append] at hc
  rcases hc with (hc | hc) | hc
  · split at hc
    · simp only [List.mem_cons, List.not_mem_nil, or_false] at hc; omega
    · cases hc
  · exact Dg256 _ c hc
  · split at hc
    · cases hc
    · rcases List.mem_cons.mp hc with rfl | hc
      · decide
      · exact Dg256 _ c hc
theorem txP {b : Int} (h : 0 < b) : txL b = Dg b.natAbs := by
  unfold txL sgL
  rw [if_neg (by omega)]
  rfl
theorem textInF {x : Int × Int} (g : Good x) {h : Mem} : callF 1 F_text_in [qCV x] h = .ok (.str (S (tQ x))) h := by
  have c : bOf (eOp (pyEq false) (eOp pyIx (eVar 0) (eC (.int 1))) (eC (.int 1))) [some (qCV x)] [] = .ok (decide (x.2 = 1)) [] := bOf_ok (eOp_ok (ixJ (x := x) (eVar_ok rfl) eC_ok) eC_ok (pyEq_int.trans (by simp)))
  have q : eIf (bOf (eOp (pyEq false) (eOp pyIx (eVar 0) (eC (.int 1))) (eC (.int 1)))) (eFmt (eOp pyIx (eVar 0) (eC (.int 0)))) (eJs [(eFmt (eOp pyIx (eVar 0) (eC (.int 0)))), (eC (.str (Str.ofString "/"))), (eFmt (eOp pyIx (eVar 0) (eC (.int 1))))] Str.empty) [some (qCV x)] [] = .ok (.str (S (tQ x))) [] := by
    by_cases o : x.2 = 1
    · rw [decide_eq_true o] at c
      unfold tQ
      rw [if_pos o, List.append_nil]
      exact eIf_t c (eFmt_int g.b1 (ixI (x := x) (eVar_ok rfl) eC_ok))
    · rw [decide_eq_false o] at c
      unfold tQ
      rw [if_neg o]
      have l1 := txLL g.b1
      have l2 := DgL g.b2
      have e0 : Str.empty ++ S (txL x.1) = S (txL x.1) := S_cat [] (txL x.1)
      have e1 : S (txL x.1) ++ Str.ofString "/" = S (txL x.1 ++ [47]) := S_cat (txL x.1) [47]
      have e2 : S (txL x.1 ++ [47]) ++ S (txL x.2) = S (txL x.1 ++ 47 :: Dg x.2.natAbs) := by
        rw [txP g.pos, S_cat, List.append_assoc]
        rfl
      refine eIf_f c (eJs_cons (eFmt_int g.b1 (ixI (x := x) (eVar_ok rfl) eC_ok)) (by rw [e0, S_len]; omega) ?_)
      rw [e0]
      refine eJs_cons eC_ok (by rw [e1, S_len]; simp; omega) ?_
      rw [e1]
      refine eJs_cons (eFmt_int g.b2 (ixJ (x := x) (eVar_ok rfl) eC_ok)) (by rw [e2, S_len]; simp; omega) ?_
      rw [e2]
      exact eJs_nil
  exact callF_read (h' := []) (v := .str _) (run_rt rfl (mRet_ok q)) rfl rfl rfl
theorem numberTextF {N : CV} {x : Int × Int} (n : Num N x) {h : Mem} : callF 1 F_number_text [N] h = .ok (.str (S (tQ x))) h :=
  callF_read (h' := []) (v := .str _) (run_rt rfl ((mSeq_nx (mExpr_ok (eB_ok (eCons_ok (eVar_ok rfl) eNil_ok) (reqF n)))).trans (mRet_ok (eB_ok (eCons_ok (eB_ok (eCons_ok (eVar_ok rfl) eNil_ok) (pairF n)) eNil_ok) (textInF n.good))))) n.nr rfl rfl
/-- digits told -/
theorem digitsF {n : Nat} (hn : n ≤ 2 ^ 250) {h : Mem} : callF 1 F_digits_told [.str (S (Dg n))] h = .ok (.int (n : Nat)) h := by
  have c1 : bOf (eOp (pyEq true) (eVar 0) (eC (.str (Str.ofString "")))) [some (.str (S (Dg n))), none] [] = .ok true [] := by
    refine bOf_ok (eOp_ok (eVar_ok rfl) eC_ok ((pyEq_S (b := []) (Dg256 n) (fun c hc => by cases hc)).trans ?_))
    rw [decide_eq_false (Dg_ne n)]
    rfl
  have e1 : eLc (iSeq (eVar 0)) (gSet 1) bYes l_digits_told_0 [1] [some (.str (S (Dg n))), none] [] = .ok (.lst ((Dg n).map fun _ => CV.bl true)) [] := by
    have l := DgL hn
    have q := lcV_ok (g := gSet 1) (te := l_digits_told_0) (τ := wipeC [some (.str (S (Dg n))), none] [1]) (h := []) (fun _ => CV.bl true) (strItems (S (Dg n))) (fun v hv => by
      obtain ⟨c, hc, rfl⟩ := List.mem_map.mp hv
      have hd := Dg_all n c hc
      refine ⟨_, rd_gSet 1 _, eOp_ok (eVar_ok rfl) eC_ok ?_⟩
      show Out.ok (CV.bl (false ^^ (Str.ofString "0123456789").cps.toList.contains c)) [] = _
      have z : (Str.ofString "0123456789").cps.toList.contains c = true := by
        have t : ∀ k, k < 10 → (Str.ofString "0123456789").cps.toList.contains (48 + k) = true := by decide +kernel
        have := t (c - 48) (by omega)
        rwa [show 48 + (c - 48) = c by omega] at this
      rw [z]
      rfl)
    have it : iSeq (eVar 0) [some (.str (S (Dg n))), none] [] = .ok (strItems (S (Dg n))) [] := by
      unfold iSeq
      rw [rd_bnd, eVar_ok rfl]
      rfl
    have e : (strItems (S (Dg n))).map (fun _ => CV.bl true) = (Dg n).map fun _ => CV.bl true := by
      unfold strItems
      rw [List.map_map]
      rfl
    rw [e] at q
    refine eLc_ok it ?_ q
    unfold strItems
    rw [List.length_map]
    show (Dg n).length ≤ _
    omega
  have e2 : ∀ xs : List Nat, pyAll (.lst (xs.map fun _ => CV.bl true)) [] = .ok (.bl true) [] := fun xs => by
    have b : boolsOf (xs.map fun _ => CV.bl true) = some (xs.map fun _ => true) := by
      induction xs with
      | nil => rfl
      | cons x xs ih => rw [List.map_cons]; unfold boolsOf; rw [ih]; rfl
    have l : lisOf (.lst (xs.map fun _ => CV.bl true)) [] = some (xs.map fun _ => CV.bl true) := rfl
    unfold pyAll
    simp only [l, b]
    congr 2
    rw [List.all_eq_true]
    intro y hy
    obtain ⟨_, _, rfl⟩ := List.mem_map.mp hy
    rfl
  exact callF_read (h' := []) (v := .int (n : Nat)) (run_rt rfl (mRet_ok (eIf_t (bAnd_t c1 (bOf_ok (eB_ok (eCons_ok e1 eNil_ok) (e2 _)))) (eB_ok (eCons_ok (eVar_ok rfl) eNil_ok) (intT_Dg (n80 hn)))))) rfl rfl rfl
theorem fr_abs {x : Int × Int} (g : Good x) : fr ((x.1.natAbs : Nat) : Int) x.2 = (((x.1.natAbs : Nat) : Int), x.2) := by
  have e : gS ((x.1.natAbs : Nat) : Int) x.2 = 1 := by
    unfold gS
    rw [if_pos g.pos, Int.natAbs_natCast, g.red]
    rfl
  exact fr_eq (Int.ne_of_gt g.pos) (by rw [e, Int.one_mul]) (by rw [e, Int.one_mul])

def wQ (x : Int × Int) : List Nat := Dg x.1.natAbs ++ (if x.2 = 1 then [] else 47 :: Dg x.2.natAbs)
theorem tQ_w (x : Int × Int) : tQ x = sgL x.1 ++ wQ x := by unfold tQ wQ txL; rw [List.append_assoc]
theorem wQL {x : Int × Int} (g : Good x) : (wQ x).length ≤ 200 := by
  have := tQL g
  rw [tQ_w, List.length_append] at this
  omega
theorem wQ256 (x : Int × Int) : ∀ c ∈ wQ x, c < 256 := fun c hc => tQ256 x c (by rw [tQ_w]; exact List.mem_append_right _ hc)
def hQ (x : Int × Int) : List CV := .int ((x.1.natAbs : Nat) : Int) :: (if x.2 = 1 then [] else [.int x.2])
theorem sm (l : List Nat) : (S l).length = l.length := S_len l
theorem toldF {x : Int × Int} (g : Good x) {h : Mem} : callF 1 F_number_told [.str (S (tQ x))] h = .ok (qCV x) h := by
  have hl := tQL g
  have hw := wQL g
  have st1 : mAsg (gSet 1) (eIf (bOf (eOp (pyEq false) (eSlice (eVar 0) none (some (eC (.int 1)))) (eC (.str (Str.ofString "-"))))) (eSlice (eVar 0) (some (eC (.int 1))) none) (eVar 0)) [some (.str (S (tQ x))), none, none, none, none] [] = .mk (.nx [some (.str (S (tQ x))), some (.str (S (wQ x))), none, none, none]) [] := by
    have s1 : eSlice (eVar 0) none (some (eC (.int 1))) [some (.str (S (tQ x))), none, none, none, none] [] = .ok (.str (L2.cutS (S (tQ x)) none (some 1))) [] := by
      unfold eSlice
      rw [rd_bnd, eVar_ok rfl]
      exact slice_S (by rw [sm]; omega)
    have s2 : eSlice (eVar 0) (some (eC (.int 1))) none [some (.str (S (tQ x))), none, none, none, none] [] = .ok (.str (L2.cutS (S (tQ x)) (some 1) none)) [] := by
      unfold eSlice
      rw [rd_bnd, eVar_ok rfl]
      exact slice_S (by rw [sm]; omega)
    have dash : Str.ofString "-" = S [45] := by decide
    by_cases n : x.1 < 0
    · have e : tQ x = 45 :: wQ x := by rw [tQ_w]; unfold sgL; rw [if_pos n]; rfl
      have c : bOf (eOp (pyEq false) (eSlice (eVar 0) none (some (eC (.int 1)))) (eC (.str (Str.ofString "-")))) [some (.str (S (tQ x))), none, none, none, none] [] = .ok true [] := by
        refine bOf_ok (eOp_ok s1 eC_ok ?_)
        rw [e, cut1, dash]
        exact (pyEq_S (by decide) (by decide)).trans rfl
      refine mAsg_ok (eIf_t c ?_)
      rw [s2, e, cutR]
    · have e : tQ x = wQ x := by rw [tQ_w]; unfold sgL; rw [if_neg n]; rfl
      have c : bOf (eOp (pyEq false) (eSlice (eVar 0) none (some (eC (.int 1)))) (eC (.str (Str.ofString "-")))) [some (.str (S (tQ x))), none, none, none, none] [] = .ok false [] := by
        refine bOf_ok (eOp_ok s1 eC_ok ?_)
        rw [e]
        cases d : Dg x.1.natAbs with
        | nil => exact absurd d (Dg_ne _)
        | cons k r =>
          have kd := Dg_all x.1.natAbs k (by rw [d]; exact List.mem_cons_self)
          have ew : wQ x = k :: (r ++ (if x.2 = 1 then [] else 47 :: Dg x.2.natAbs)) := by unfold wQ; rw [d]; rfl
          rw [ew, cut1, dash]
          refine (pyEq_S (fun c hc => by simp only [List.mem_cons, List.not_mem_nil, or_false] at hc; omega) (by decide)).trans ?_
          rw [decide_eq_false (fun z => by simp only [List.cons.injEq, and_true] at z; omega)]
          rfl
      refine mAsg_ok (eIf_f c ?_)
      rw [eVar_ok rfl, e]
  have b47 : ∀ n : Nat, 47 ∉ Dg n := Dg47
  have pos := g.pos
  have cb : ((x.2.natAbs : Nat) : Int) = x.2 := by omega
  have spl : ∃ ds : List Nat, (∀ n ∈ ds, n ≤ 2 ^ 250) ∧ Txt.split (S (wQ x)) (Str.ofString "/") = ds.map (fun n => S (Dg n)) ∧ hQ x = ds.map (fun n => CV.int ((n : Nat) : Int)) ∧ ds.length ≤ 2 := by
    by_cases o : x.2 = 1
    · refine ⟨[x.1.natAbs], fun n hn => by simp only [List.mem_cons, List.not_mem_nil, or_false] at hn; rw [hn]; exact g.b1, ?_, ?_, by simp⟩
      · unfold wQ
        rw [if_pos o, List.append_nil, split1 (Dg47 _)]
        rfl
      · unfold hQ
        rw [if_pos o]
        rfl
    · refine ⟨[x.1.natAbs, x.2.natAbs], fun n hn => by simp only [List.mem_cons, List.not_mem_nil, or_false] at hn; rcases hn with rfl | rfl; exact g.b1; exact g.b2, ?_, ?_, by simp⟩
      · unfold wQ
        rw [if_neg o, split2 (Dg47 _) (Dg47 _)]
        rfl
      · unfold hQ
        rw [if_neg o]
        show [CV.int _, CV.int x.2] = [CV.int _, CV.int ((x.2.natAbs : Nat) : Int)]
        rw [cb]
  obtain ⟨ds, hds, es, eh, hd2⟩ := spl
  have st2 : mAsg (gSet 2) (eLc (iSeq (eMt isStrV pySplit (eVar 1) (eConsA (eC (.str (Str.ofString "/"))) eNilA))) (gSet 4) bYes l_number_told_0 [4]) [some (.str (S (tQ x))), some (.str (S (wQ x))), none, none, none] [] = .mk (.nx [some (.str (S (tQ x))), some (.str (S (wQ x))), some (.lst (hQ x)), none, none]) [] := by
    have it : iSeq (eMt isStrV pySplit (eVar 1) (eConsA (eC (.str (Str.ofString "/"))) eNilA)) [some (.str (S (tQ x))), some (.str (S (wQ x))), none, none, none] [] = .ok (ds.map fun n => CV.str (S (Dg n))) [] := by
      have p : pySplit (.str (S (wQ x))) [.str (Str.ofString "/")] [] = .ok (.lst (ds.map fun n => CV.str (S (Dg n)))) [] := by
        have l1 : (Str.ofString "/").length ≠ 0 := by decide
        unfold pySplit
        simp only [txtOf]
        rw [if_pos ⟨l1, by rw [sm]; omega⟩, es, List.map_map]
        rfl
      unfold iSeq
      rw [rd_bnd]
      have m : eMt isStrV pySplit (eVar 1) (eConsA (eC (.str (Str.ofString "/"))) eNilA) [some (.str (S (tQ x))), some (.str (S (wQ x))), none, none, none] [] = .ok (.lst (ds.map fun n => CV.str (S (Dg n)))) [] := by
        unfold eMt
        rw [rd_bnd, eVar_ok rfl]
        simp only
        rw [if_pos (show isStrV (.str (S (wQ x))) [] = true from rfl), rd_bnd, eCons_ok eC_ok eNil_ok]
        exact p
      rw [m]
      rfl
    have q := lcV_ok (g := gSet 4) (te := l_number_told_0) (τ := wipeC [some (.str (S (tQ x))), some (.str (S (wQ x))), none, none, none] [4]) (h := []) (fun v => match v with | .str s => (match PySem.intText? s with | some n => CV.int n | none => .non) | v => v) (ds.map fun n => CV.str (S (Dg n))) (fun v hv => by
      obtain ⟨n, hn, rfl⟩ := List.mem_map.mp hv
      have e := txt_Dg (n80 (hds n hn))
      refine ⟨_, rd_gSet 4 _, eB_ok (eCons_ok (eVar_ok rfl) eNil_ok) ?_⟩
      simp only [e]
      exact digitsF (hds n hn))
    have em : (ds.map fun n => CV.str (S (Dg n))).map (fun v => match v with | .str s => (match PySem.intText? s with | some n => CV.int n | none => .non) | v => v) = hQ x := by
      rw [eh, List.map_map]
      refine List.map_congr_left fun n hn => ?_
      have e := txt_Dg (n80 (hds n hn))
      show (match PySem.intText? (S (Dg n)) with | some n => CV.int n | none => .non) = _
      rw [e]
    rw [em] at q
    exact mAsg_ok (eLc_ok it (by rw [List.length_map]; omega) q)
  have c3 : bOr (bOf (eOp pyGt (eB VE.pyLen (eConsA (eVar 2) eNilA)) (eC (.int 2)))) (bOr (bOf (eOp (pyIn false) (eC .non) (eVar 2))) (bOf (eOp (pyEq false) (eSlice (eVar 2) (some (eC (.int 1))) none) (eLst (eConsA (eC (.int 0)) eNilA))))) [some (.str (S (tQ x))), some (.str (S (wQ x))), some (.lst (hQ x)), none, none] [] = .ok false [] := by
    unfold hQ
    by_cases o : x.2 = 1
    · rw [if_pos o]
      have k1 : pyIn false .non (.lst [.int ((x.1.natAbs : Nat) : Int)]) [] = .ok (.bl false) [] := by kernel_rfl
      have k2 : eSlice (eVar 2) (some (eC (.int 1))) none [some (.str (S (tQ x))), some (.str (S (wQ x))), some (.lst [.int ((x.1.natAbs : Nat) : Int)]), none, none] [] = .ok (.lst []) [] := by kernel_rfl
      have z : pyEq false (.lst []) (.lst [.int 0]) [] = .ok (.bl false) [] := by kernel_rfl
      exact bOr_ff (bOf_ok (eOp_ok (eB_ok (eCons_ok (eVar_ok rfl) eNil_ok) rfl) eC_ok rfl)) (bOr_ff (bOf_ok (eOp_ok eC_ok (eVar_ok rfl) k1)) (bOf_ok (eOp_ok k2 (eLst_ok (eCons_ok eC_ok eNil_ok) (by simp)) z)))
    · rw [if_neg o]
      have z : pyEq false (.lst [.int x.2]) (.lst [.int 0]) [] = .ok (.bl false) [] := by
        show (if SeqAt.shaped (.list [.int x.2]) && SeqAt.shaped (.list [.int 0]) then Out.ok (CV.bl (false ^^ PyData.eqv (.list [.int x.2]) (.list [.int 0]))) [] else .bad) = _
        have e : PyData.eqv (.list [.int x.2]) (.list [.int 0]) = false := by
          have h0 : (x.2 == 0) = false := by
            rw [beq_eq_false_iff_ne]
            omega
          simp [PyData.eqv, PyData.eqvAll, h0]
        rw [e]
        rfl
      have k1 : pyIn false .non (.lst [.int ((x.1.natAbs : Nat) : Int), .int x.2]) [] = .ok (.bl false) [] := by kernel_rfl
      have k2 : eSlice (eVar 2) (some (eC (.int 1))) none [some (.str (S (tQ x))), some (.str (S (wQ x))), some (.lst [.int ((x.1.natAbs : Nat) : Int), .int x.2]), none, none] [] = .ok (.lst [.int x.2]) [] := by kernel_rfl
      exact bOr_ff (bOf_ok (eOp_ok (eB_ok (eCons_ok (eVar_ok rfl) eNil_ok) rfl) eC_ok rfl)) (bOr_ff (bOf_ok (eOp_ok eC_ok (eVar_ok rfl) k1)) (bOf_ok (eOp_ok k2 (eLst_ok (eCons_ok eC_ok eNil_ok) (by simp)) z)))
  have st4 : mAsg (gSet 3) (eB (callF 2 F_fraction_in) (eConsA (eOp pyIx (eVar 2) (eC (.int 0))) (eConsA (eIf (bOf (eOp (pyEq false) (eB VE.pyLen (eConsA (eVar 2) eNilA)) (eC (.int 2)))) (eOp pyIx (eVar 2) (eC (.int 1))) (eC (.int 1))) eNilA))) [some (.str (S (tQ x))), some (.str (S (wQ x))), some (.lst (hQ x)), none, none] [] = .mk (.nx [some (.str (S (tQ x))), some (.str (S (wQ x))), some (.lst (hQ x)), some (qCV (((x.1.natAbs : Nat) : Int), x.2)), none]) [] := by
    refine mAsg_ok ?_
    have fq : callF 2 F_fraction_in [.int ((x.1.natAbs : Nat) : Int), .int x.2] [] = .ok (qCV (((x.1.natAbs : Nat) : Int), x.2)) [] := by
      rw [← fr_abs g]
      exact fracInF (Int.ne_of_gt g.pos) (up g.b2)
    unfold hQ
    by_cases o : x.2 = 1
    · rw [if_pos o]
      have e2 : eIf (bOf (eOp (pyEq false) (eB VE.pyLen (eConsA (eVar 2) eNilA)) (eC (.int 2)))) (eOp pyIx (eVar 2) (eC (.int 1))) (eC (.int 1)) [some (.str (S (tQ x))), some (.str (S (wQ x))), some (.lst [.int ((x.1.natAbs : Nat) : Int)]), none, none] [] = .ok (.int x.2) [] := by
        rw [o]
        exact eIf_f (bOf_ok (eOp_ok (eB_ok (eCons_ok (eVar_ok rfl) eNil_ok) rfl) eC_ok (show pyEq false (.int 1) (.int 2) [] = .ok (.bl false) [] by kernel_rfl))) eC_ok
      exact eB_ok (eCons_ok (x := .int ((x.1.natAbs : Nat) : Int)) (eOp_ok (eVar_ok rfl) eC_ok rfl) (eCons_ok e2 eNil_ok)) fq
    · rw [if_neg o]
      have e2 : eIf (bOf (eOp (pyEq false) (eB VE.pyLen (eConsA (eVar 2) eNilA)) (eC (.int 2)))) (eOp pyIx (eVar 2) (eC (.int 1))) (eC (.int 1)) [some (.str (S (tQ x))), some (.str (S (wQ x))), some (.lst [.int ((x.1.natAbs : Nat) : Int), .int x.2]), none, none] [] = .ok (.int x.2) [] :=
        eIf_t (bOf_ok (eOp_ok (eB_ok (eCons_ok (eVar_ok rfl) eNil_ok) rfl) eC_ok (show pyEq false (.int 2) (.int 2) [] = .ok (.bl true) [] by kernel_rfl))) (eOp_ok (eVar_ok rfl) eC_ok rfl)
      exact eB_ok (eCons_ok (x := .int ((x.1.natAbs : Nat) : Int)) (eOp_ok (eVar_ok rfl) eC_ok rfl) (eCons_ok e2 eNil_ok)) fq
  have fin : mRet (eIf (bOf (eOp (pyEq true) (eVar 1) (eVar 0))) (eTup (eConsA (eUn pyNeg (eOp pyIx (eVar 3) (eC (.int 0)))) (eConsA (eOp pyIx (eVar 3) (eC (.int 1))) eNilA))) (eVar 3)) [some (.str (S (tQ x))), some (.str (S (wQ x))), some (.lst (hQ x)), some (qCV (((x.1.natAbs : Nat) : Int), x.2)), none] [] = .mk (.rt (qCV x)) [] := by
    have c : bOf (eOp (pyEq true) (eVar 1) (eVar 0)) [some (.str (S (tQ x))), some (.str (S (wQ x))), some (.lst (hQ x)), some (qCV (((x.1.natAbs : Nat) : Int), x.2)), none] [] = .ok (true ^^ decide (wQ x = tQ x)) [] := bOf_ok (eOp_ok (eVar_ok rfl) (eVar_ok rfl) (pyEq_S (wQ256 x) (tQ256 x)))
    by_cases n : x.1 < 0
    · have e : tQ x = 45 :: wQ x := by rw [tQ_w]; unfold sgL; rw [if_pos n]; rfl
      have ne : ¬ wQ x = tQ x := fun z => by
        have := congrArg List.length z
        rw [e, List.length_cons] at this
        omega
      rw [decide_eq_false ne] at c
      have ng : -((x.1.natAbs : Nat) : Int) = x.1 := by omega
      have r : qCV x = .tup [.int (-((x.1.natAbs : Nat) : Int)), .int x.2] := by rw [ng]; rfl
      rw [r]
      exact mRet_ok (eIf_t c (eTup_ok (eCons_ok (eUn_ok (ixI (x := (((x.1.natAbs : Nat) : Int), x.2)) (eVar_ok rfl) eC_ok) rfl) (eCons_ok (ixJ (x := (((x.1.natAbs : Nat) : Int), x.2)) (eVar_ok rfl) eC_ok) eNil_ok)) (by simp)))
    · have e : tQ x = wQ x := by rw [tQ_w]; unfold sgL; rw [if_neg n]; rfl
      rw [decide_eq_true e.symm] at c
      have r : qCV x = qCV (((x.1.natAbs : Nat) : Int), x.2) := by
        rw [show ((x.1.natAbs : Nat) : Int) = x.1 by omega]
      rw [r]
      exact mRet_ok (eIf_f c (eVar_ok rfl))
  exact callF_read (h' := []) (v := qCV x) (run_rt rfl ((mSeq_nx st1).trans ((mSeq_nx st2).trans ((mSeq_nx ((mIf_f c3).trans rd_mNil)).trans ((mSeq_nx st4).trans fin))))) rfl rfl rfl
theorem ofTextF {x : Int × Int} (g : Good x) {h : Mem} : callF 1 F_number_of_text [.str (S (tQ x))] h = .ok (qCV x) h := by
  have hl := tQL g
  have c1 : bAnd (bOf (eUn (isK isStr) (eVar 0))) (bOf (eOp pyLe (eB VE.pyLen (eConsA (eVar 0) eNilA)) (eC (.int 400)))) [some (.str (S (tQ x))), none] [] = .ok true [] := by
    refine bAnd_t (bOf_ok (eUn_ok (g := isK isStr) (eVar_ok rfl) rfl)) (bOf_ok (eOp_ok (eB_ok (eCons_ok (eVar_ok rfl) eNil_ok) (len_S (by omega))) eC_ok ?_))
    show Out.ok (CV.bl (decide _)) [] = _
    rw [decide_eq_true (by omega)]
  have c2 : bOf (eOp (pyIs false) (eVar 1) (eC .non)) [some (.str (S (tQ x))), some (qCV x)] [] = .ok false [] := bOf_ok (eOp_ok (eVar_ok rfl) eC_ok rfl)
  have c3 : bOf (eOp (pyEq true) (eB (callF 1 F_text_in) (eConsA (eVar 1) eNilA)) (eVar 0)) [some (.str (S (tQ x))), some (qCV x)] [] = .ok false [] := by
    refine bOf_ok (eOp_ok (eB_ok (eCons_ok (eVar_ok rfl) eNil_ok) (textInF g)) (eVar_ok rfl) ((pyEq_S (tQ256 x) (tQ256 x)).trans ?_))
    rw [decide_eq_true rfl]
    rfl
  exact callF_read (h' := []) (v := qCV x) (run_rt rfl ((mSeq_nx (mAsg_ok (eIf_t c1 (eB_ok (eCons_ok (eVar_ok rfl) eNil_ok) (toldF g))))).trans ((mSeq_nx ((mIf_f (bOr_ff c2 c3)).trans rd_mNil)).trans (mRet_ok (eVar_ok rfl))))) rfl rfl rfl

theorem powers_ok {h : Mem} {l c : Nat} (d : DiceN h l c) (hc : c ≤ 1000) : ∃ h', F_law_powers_right [.ref l] h = .ok (.bl true) h' ∧ DiceN h' l (c + 6) := by
  obtain ⟨N, x, h1, e1, n1, d1⟩ := nb_ok d (by omega)
  obtain ⟨r, h2, r0, r1, e2, d2⟩ := rolled 15 d1 (by omega) ⟨by decide, by decide +kernel⟩
  have g := n1.good
  generalize hv : r - 7 = v
  have hw : v.natAbs ≤ 7 := by omega
  generalize hwd : v.natAbs = w at hw
  have s1 : mPar 1 2 (eConsA (eCall 1 F_law_nb_drawn (eConsA (eVar 0) eNilA)) (eConsA (eOp pySub (eCall 2 F_law_roll (eConsA (eVar 0) (eConsA (eC (.int 15)) eNilA))) (eC (.int 7))) eNilA)) (startC 7 [.ref l]) h = .mk (.nx [some (.ref l), some N, some (.int v), none, none, none, none]) h2 := by
    rw [← hv]
    exact mPar_ok (i := 1) (j := 2) (eCons_ok (eCall_ok (eCons_ok (eVar_ok rfl) eNil_ok) rfl e1) (eCons_ok (eOp_ok (eCall_ok (eCons_ok (eVar_ok rfl) (eCons_ok eC_ok eNil_ok)) rfl e2) eC_ok rfl) eNil_ok))
  have s2 : mAsg (gSet 3) (eB (callF 1 F_law_nb_pair) (eConsA (eVar 1) eNilA)) [some (.ref l), some N, some (.int v), none, none, none, none] h2 = .mk (.nx [some (.ref l), some N, some (.int v), some (qCV x), none, none, none]) h2 := mAsg_ok (eB_ok (eCons_ok (eVar_ok rfl) eNil_ok) (lpairF n1))
  have ab : eB pyAbs (eConsA (eVar 2) eNilA) [some (.ref l), some N, some (.int v), some (qCV x), none, none, none] h2 = .ok (.int (w : Nat)) h2 := by
    rw [← hwd]
    exact eB_ok (eCons_ok (eVar_ok rfl) eNil_ok) absF
  have s3 : mPar 4 5 (eConsA (eB (callF 2 F_law_power) (eConsA (eOp pyIx (eVar 3) (eC (.int 0))) (eConsA (eB pyAbs (eConsA (eVar 2) eNilA)) eNilA))) (eConsA (eB (callF 2 F_law_power) (eConsA (eOp pyIx (eVar 3) (eC (.int 1))) (eConsA (eB pyAbs (eConsA (eVar 2) eNilA)) eNilA))) eNilA)) [some (.ref l), some N, some (.int v), some (qCV x), none, none, none] h2 =
      .mk (.nx [some (.ref l), some N, some (.int v), some (qCV x), some (.int (x.1 ^ w)), some (.int (x.2 ^ w)), none]) h2 :=
    mPar_ok (i := 4) (j := 5) (eCons_ok (eB_ok (eCons_ok (ixI (x := x) (eVar_ok rfl) eC_ok) (eCons_ok ab eNil_ok)) (lpowF (k := 250) g.b1 (by decide) (by omega) (by omega))) (eCons_ok (eB_ok (eCons_ok (ixJ (x := x) (eVar_ok rfl) eC_ok) (eCons_ok ab eNil_ok)) (lpowF (k := 250) g.b2 (by decide) (by omega) (by omega))) eNil_ok))
  have c4 : bAnd (bOf (eOp pyGe (eVar 2) (eC (.int 0)))) (bOf (eOp (pyEq true) (eB (callF 2 F_power_of) (eConsA (eVar 1) (eConsA (eVar 2) eNilA))) (eTup (eConsA (eVar 4) (eConsA (eVar 5) eNilA))))) [some (.ref l), some N, some (.int v), some (qCV x), some (.int (x.1 ^ w)), some (.int (x.2 ^ w)), none] h2 = .ok false h2 := by
    have e : bOf (eOp pyGe (eVar 2) (eC (.int 0))) [some (.ref l), some N, some (.int v), some (qCV x), some (.int (x.1 ^ w)), some (.int (x.2 ^ w)), none] h2 = .ok (decide (v ≥ 0)) h2 := bOf_ok (eOp_ok (eVar_ok rfl) eC_ok rfl)
    by_cases z : v ≥ 0
    · rw [decide_eq_true z] at e
      have q : callF 2 F_power_of [N, .int v] h2 = .ok (.tup [.int (x.1 ^ w), .int (x.2 ^ w)]) h2 := by
        rw [show v = (w : Int) by omega]
        exact powerOfP n1 hw
      exact bAnd_t e (bOf_ok (eOp_ok (eB_ok (eCons_ok (eVar_ok rfl) (eCons_ok (eVar_ok rfl) eNil_ok)) q) (eTup_ok (eCons_ok (eVar_ok rfl) (eCons_ok (eVar_ok rfl) eNil_ok)) (by simp)) (pyEq_same (n := 2) (by decide) rfl)))
    · rw [decide_eq_false z] at e
      exact bAnd_f e
  have c5 : bAnd (bOf (eOp pyLt (eVar 2) (eC (.int 0)))) (bAnd (bOf (eOp (pyEq true) (eOp pyIx (eVar 3) (eC (.int 0))) (eC (.int 0)))) (bOf (eOp (pyEq true) (eB (callF 2 F_power_of) (eConsA (eVar 1) (eConsA (eVar 2) eNilA))) (eB (callF 2 F_law_fraction) (eConsA (eVar 5) (eConsA (eVar 4) eNilA)))))) [some (.ref l), some N, some (.int v), some (qCV x), some (.int (x.1 ^ w)), some (.int (x.2 ^ w)), none] h2 = .ok false h2 := by
    have e : bOf (eOp pyLt (eVar 2) (eC (.int 0))) [some (.ref l), some N, some (.int v), some (qCV x), some (.int (x.1 ^ w)), some (.int (x.2 ^ w)), none] h2 = .ok (decide (v < 0)) h2 := bOf_ok (eOp_ok (eVar_ok rfl) eC_ok rfl)
    by_cases z : v < 0
    · rw [decide_eq_true z] at e
      by_cases t : x.1 = 0
      · exact bAnd_t e (bAnd_f (bOf_ok (eOp_ok (ixI (x := x) (eVar_ok rfl) eC_ok) eC_ok (pyEq_int.trans (by rw [decide_eq_true t]; rfl)))))
      · have q : callF 2 F_power_of [N, .int v] h2 = .ok (qCV (fr (x.2 ^ w) (x.1 ^ w))) h2 := by
          rw [show v = -(w : Int) by omega]
          exact powerOfN n1 hw (by omega) t
        exact bAnd_t e (bAnd_t (bOf_ok (eOp_ok (ixI (x := x) (eVar_ok rfl) eC_ok) eC_ok (pyEq_int.trans (by rw [decide_eq_false t]; rfl))))
          (bOf_ok (eOp_ok (eB_ok (eCons_ok (eVar_ok rfl) (eCons_ok (eVar_ok rfl) eNil_ok)) q) (eB_ok (eCons_ok (eVar_ok rfl) (eCons_ok (eVar_ok rfl) eNil_ok)) (lawFracF (powNe t w) (wP g.b2 hw) (wP g.b1 hw))) (pyEq_same (n := 2) (by decide) rfl))))
    · rw [decide_eq_false z] at e
      exact bAnd_f e
  have l1 := txLL g.b1
  have l2 := DgL g.b2
  have s6 : mAsg (gSet 6) (eOp pyAdd (eB (one pyStr) (eConsA (eOp pyIx (eVar 3) (eC (.int 0))) eNilA)) (eIf (bOf (eOp pyGt (eOp pyIx (eVar 3) (eC (.int 1))) (eC (.int 1)))) (eOp pyAdd (eC (.str (Str.ofString "/"))) (eB (one pyStr) (eConsA (eOp pyIx (eVar 3) (eC (.int 1))) eNilA))) (eC (.str (Str.ofString ""))))) [some (.ref l), some N, some (.int v), some (qCV x), some (.int (x.1 ^ w)), some (.int (x.2 ^ w)), none] h2 =
      .mk (.nx [some (.ref l), some N, some (.int v), some (qCV x), some (.int (x.1 ^ w)), some (.int (x.2 ^ w)), some (.str (S (tQ x)))]) h2 := by
    refine mAsg_ok ?_
    have sl : Str.ofString "/" = S [47] := by decide
    have em : Str.ofString "" = S [] := by decide
    have a1 : eB (one pyStr) (eConsA (eOp pyIx (eVar 3) (eC (.int 0))) eNilA) [some (.ref l), some N, some (.int v), some (qCV x), some (.int (x.1 ^ w)), some (.int (x.2 ^ w)), none] h2 = .ok (.str (S (txL x.1))) h2 := eB_ok (eCons_ok (ixI (x := x) (eVar_ok rfl) eC_ok) eNil_ok) (pyStr_int g.b1)
    have a2 : eB (one pyStr) (eConsA (eOp pyIx (eVar 3) (eC (.int 1))) eNilA) [some (.ref l), some N, some (.int v), some (qCV x), some (.int (x.1 ^ w)), some (.int (x.2 ^ w)), none] h2 = .ok (.str (S (Dg x.2.natAbs))) h2 := by
      rw [← txP g.pos]
      exact eB_ok (eCons_ok (ixJ (x := x) (eVar_ok rfl) eC_ok) eNil_ok) (pyStr_int g.b2)
    have e : bOf (eOp pyGt (eOp pyIx (eVar 3) (eC (.int 1))) (eC (.int 1))) [some (.ref l), some N, some (.int v), some (qCV x), some (.int (x.1 ^ w)), some (.int (x.2 ^ w)), none] h2 = .ok (decide (x.2 > 1)) h2 := bOf_ok (eOp_ok (ixJ (x := x) (eVar_ok rfl) eC_ok) eC_ok rfl)
    unfold tQ
    by_cases o : x.2 = 1
    · rw [decide_eq_false (by omega)] at e
      rw [if_pos o, sl, em]
      exact eOp_ok a1 (eIf_f e eC_ok) (pyAdd_S (by simp; omega))
    · have pos := g.pos
      rw [decide_eq_true (by omega)] at e
      rw [if_neg o, sl, em]
      exact eOp_ok a1 (eIf_t e (eOp_ok eC_ok a2 (pyAdd_S (a := [47]) (by simp; omega)))) (pyAdd_S (b := [47] ++ Dg x.2.natAbs) (by simp; omega))
  refine ⟨h2, run_rt rfl ((mSeq_nx s1).trans ((mSeq_nx s2).trans ((mSeq_nx s3).trans ((mSeq_nx ((mIf_f c4).trans rd_mNil)).trans ((mSeq_nx ((mIf_f c5).trans rd_mNil)).trans ((mSeq_nx s6).trans
    (mRet_ok (eAnd_t (eOp_ok (eB_ok (eCons_ok (eVar_ok rfl) eNil_ok) (numberTextF n1)) (eVar_ok rfl) ((pyEq_S (tQ256 x) (tQ256 x)).trans ?_)) (eOp_ok (eB_ok (eCons_ok (eVar_ok rfl) eNil_ok) (ofTextF g)) (eVar_ok rfl) (pyEq_same (n := 2) (by decide) rfl)))))))))), d2⟩
  rw [decide_eq_true rfl]
  rfl
theorem turn_ok {ns : List Int} {s : Nat} {x y : Option CV} {h : Mem} (hs : s ≤ 2 ^ 20) : ∃ r h', l_law_0 [some (.frz (ns.map CV.int)), some (.int s), x, y] h = .mk (.nx [some (.frz (ns.map CV.int)), some (.int s), some r, y]) h' := by
  obtain ⟨h1, e1, d1⟩ := dice_ok (ns := ns) (h := h) hs
  obtain ⟨h2, e2, d2⟩ := sums_ok d1 (by omega)
  obtain ⟨h3, e3, d3⟩ := powers_ok d2 (by omega)
  obtain ⟨h4, e4, d4⟩ := products_ok d3 (by omega)
  obtain ⟨h5, e5, d5⟩ := bernoulli_ok d4 (by omega)
  have c : ∀ (F : List CV → M CV) (m m' : Mem), F [.ref h.length] m = .ok (.bl true) m' → bNot (bOf (eCall 1 F (eConsA (eVar 2) eNilA))) [some (.frz (ns.map CV.int)), some (.int s), some (.ref h.length), y] m = .ok (!true) m' := fun F m m' e => bNot_ok (bOf_ok (eCall_ok (eCons_ok (eVar_ok rfl) eNil_ok) rfl e))
  exact ⟨_, h5, (mSeq_nx (mAsg_ok (eCall_ok (eCons_ok (eVar_ok rfl) (eCons_ok (eVar_ok rfl) eNil_ok)) rfl e1))).trans ((mSeq_nx ((mIf_f (bOr_ff (c _ _ _ e2) (bOr_ff (c _ _ _ e3) (c _ _ _ e4)))).trans rd_mNil)).trans ((mIf_f (c _ _ _ e5)).trans rd_mNil))⟩
theorem head_ok {ns : List Int} (hl : ns.length ≤ 63) {h : Mem} : ∃ m : Nat, m ≤ 3 ∧ iArgs rng1 (eConsA (eB pyMax (eConsA (eC (.int 1)) (eConsA (eB pyMin (eConsA (eC (.int 3)) (eConsA (eB VE.pyLen (eConsA (eVar 0) eNilA)) eNilA))) eNilA))) eNilA) (startC 4 [.frz (ns.map CV.int)]) h = .ok ((List.range m).map fun (i : Nat) => CV.int (0 + (i : Int))) h := by
  have q : ∃ m : Nat, m ≤ 3 ∧ eB pyMax (eConsA (eC (.int 1)) (eConsA (eB pyMin (eConsA (eC (.int 3)) (eConsA (eB VE.pyLen (eConsA (eVar 0) eNilA)) eNilA))) eNilA)) (startC 4 [.frz (ns.map CV.int)]) h = .ok (.int m) h := by
    have q1 : eB VE.pyLen (eConsA (eVar 0) eNilA) (startC 4 [.frz (ns.map CV.int)]) h = .ok (.int ((ns.map CV.int).length : Nat)) h := eB_ok (eCons_ok (eVar_ok rfl) eNil_ok) rfl
    have q2 := eB_ok (F := pyMin) (eCons_ok (eC_ok (v := .int 3)) (eCons_ok q1 eNil_ok)) rfl
    have q3 := eB_ok (F := pyMax) (eCons_ok (eC_ok (v := .int 1)) (eCons_ok q2 eNil_ok)) rfl
    refine ⟨(if (if (((ns.map CV.int).length : Nat) : Int) < 3 then (((ns.map CV.int).length : Nat) : Int) else 3) > 1 then (if (((ns.map CV.int).length : Nat) : Int) < 3 then (((ns.map CV.int).length : Nat) : Int) else 3) else 1).toNat, ?_, q3.trans ?_⟩
    · split <;> (try split) <;> omega
    · rw [Int.toNat_of_nonneg (by split <;> (try split) <;> omega)]
  obtain ⟨m, hm, q⟩ := q
  exact ⟨m, hm, iArgs_ok (eCons_ok q eNil_ok) (rng1_nat (by omega))⟩

theorem law_true (ns : List Int) (hl : ns.length ≤ 63) : ∃ h, F_law [.frz (ns.map CV.int)] [] = .ok (.bl true) h := by
  obtain ⟨m, hm, q⟩ := head_ok hl (h := [])
  obtain ⟨τ', h', e1, x, y, e2⟩ := forL_inv (g := gSet 1) (b := l_law_0) (fun j τ h => ∃ x y, τ = [some (.frz (ns.map CV.int)), x, y, none]) ((List.range m).map fun (i : Nat) => CV.int (0 + (i : Int))) 0
    (startC 4 [.frz (ns.map CV.int)]) [] ⟨none, none, rfl⟩ (fun i x τ h hx hi => by
      obtain ⟨a, b, rfl⟩ := hi
      obtain ⟨hlt, rfl⟩ := upto0_at hx
      obtain ⟨r, h2, e⟩ := turn_ok (ns := ns) (s := i) (x := b) (y := none) (h := h) (by omega)
      exact ⟨_, _, _, _, rd_gSet _ _, e, some (.int i), some r, rfl⟩)
  subst e2
  generalize ns.map CV.int = v at q e1 ⊢
  exact ⟨h', run_rt rfl ((mSeq_nx ((mFor_nx q).trans e1)).trans (by kernel_rfl))⟩
end Lw
end
namespace Lw
open PySem PySem.Spec PyProof.Rows L2 LamX VE
theorem end_law {P : Program} {w : World} {K : PySem.W.Frag} {mg : Str → Option Value} {fa ca : Nat → Addr} {fd : Nat → FuncData} (T : Txt K mg fa ca fd) {f : Addr} (hf : mg "law" = some (.ref f)) :
    ∃ fd : FuncData, (∀ (s : Shared) (u : Value), BindsTo s fd ⟨[u], []⟩ [("script", u)]) ∧ ∀ base : Heap, K.In base → base.Ns mainGlobals mg → FnOk P w K mg base (L2.CX P w) 8 f fd ["script"] (spLaw K) := by
  have e := hf.symm.trans T.d_law
  cases e
  obtain ⟨oc, od, kV, doc, pm, an, cdv, ct, osl, efd, lk, hcd⟩ := T.f_law.ex
  refine ⟨fd 57, fun s u => ?_, fun base _ _ => (ok_law T).imp fun vs H Q E h => spLaw_of (G := GG P w K fa ca) rfl rfl rfl law_true vs H Q E h⟩
  rw [efd]
  exact .of_eq rfl
end Lw
open PySem PySem.W PyProof.Rows
set_option maxRecDepth 100000 in
set_option maxHeartbeats 0 in
theorem PySem.Challenge.cw_bandrims_k01_whole_numbers_and_their_pro_holds : PySem.Challenge.rw_bandrims_k01_whole_numbers_and_their_pro.Holds := by
  w_on; o_law; k_head; (case hw => w_witness2)
  k_fill
  refine VE.walk_law (k := 8) (l := PySem.Challenge.rw_bandrims_k01_whole_numbers_and_their_pro) ⟨rfl, by decide, by decide⟩ rfl rfl (fun w h Y => PySem.W.kIn_of Y) ?F
  case F =>
    intro w mg fa h KX G hmg
    obtain ⟨f0, fd0, d0, F0⟩ : ∃ (f : Addr) (fd : FuncData), mg "is_whole" = some (.ref f) ∧ L2.Fun _ "is_whole" "is_whole" Lw.s_is_whole f fd := by
      refine' VE.def_mk KX G ?a ?l ?c ?k; (case a => k_is); (case l => k_is); (case c => k_is); (case k => k_is)
    obtain ⟨f1, fd1, d1, F1⟩ : ∃ (f : Addr) (fd : FuncData), mg "is_integer" = some (.ref f) ∧ L2.Fun _ "is_integer" "is_integer" Lw.s_is_integer f fd := by
      refine' VE.def_mk KX G ?a ?l ?c ?k; (case a => k_is); (case l => k_is); (case c => k_is); (case k => k_is)
    obtain ⟨f2, fd2, d2, F2⟩ : ∃ (f : Addr) (fd : FuncData), mg "is_within" = some (.ref f) ∧ L2.Fun _ "is_within" "is_within" Lw.s_is_within f fd := by
      refine' VE.def_mk KX G ?a ?l ?c ?k; (case a => k_is); (case l => k_is); (case c => k_is); (case k => k_is)
    obtain ⟨f3, fd3, d3, F3⟩ : ∃ (f : Addr) (fd : FuncData), mg "is_name" = some (.ref f) ∧ L2.Fun _ "is_name" "is_name" Lw.s_is_name f fd := by
      refine' VE.def_mk KX G ?a ?l ?c ?k; (case a => k_is); (case l => k_is); (case c => k_is); (case k => k_is)
    obtain ⟨f4, fd4, d4, F4⟩ : ∃ (f : Addr) (fd : FuncData), mg "is_fraction" = some (.ref f) ∧ L2.Fun _ "is_fraction" "is_fraction" Lw.s_is_fraction f fd := by
      refine' VE.def_mk KX G ?a ?l ?c ?k; (case a => k_is); (case l => k_is); (case c => k_is); (case k => k_is)
    obtain ⟨f5, fd5, d5, F5⟩ : ∃ (f : Addr) (fd : FuncData), mg "is_number" = some (.ref f) ∧ L2.Fun _ "is_number" "is_number" Lw.s_is_number f fd := by
      refine' VE.def_mk KX G ?a ?l ?c ?k; (case a => k_is); (case l => k_is); (case c => k_is); (case k => k_is)
    obtain ⟨f6, fd6, d6, F6⟩ : ∃ (f : Addr) (fd : FuncData), mg "require_within" = some (.ref f) ∧ L2.Fun _ "require_within" "require_within" Lw.s_require_within f fd := by
      refine' VE.def_mk KX G ?a ?l ?c ?k; (case a => k_is); (case l => k_is); (case c => k_is); (case k => k_is)
    obtain ⟨f7, fd7, d7, F7⟩ : ∃ (f : Addr) (fd : FuncData), mg "require_number" = some (.ref f) ∧ L2.Fun _ "require_number" "require_number" Lw.s_require_number f fd := by
      refine' VE.def_mk KX G ?a ?l ?c ?k; (case a => k_is); (case l => k_is); (case c => k_is); (case k => k_is)
    obtain ⟨f10, fd10, d10, F10⟩ : ∃ (f : Addr) (fd : FuncData), mg "pair_of" = some (.ref f) ∧ L2.Fun _ "pair_of" "pair_of" Lw.s_pair_of f fd := by
      refine' VE.def_mk KX G ?a ?l ?c ?k; (case a => k_is); (case l => k_is); (case c => k_is); (case k => k_is)
    obtain ⟨f8, fd8, d8, F8⟩ : ∃ (f : Addr) (fd : FuncData), mg "both_told" = some (.ref f) ∧ L2.Fun _ "both_told" "both_told" Lw.s_both_told f fd := by
      refine' VE.def_mk KX G ?a ?l ?c ?k; (case a => k_is); (case l => k_is); (case c => k_is); (case k => k_is)
    obtain ⟨f9, fd9, d9, F9⟩ : ∃ (f : Addr) (fd : FuncData), mg "fraction_in" = some (.ref f) ∧ L2.Fun _ "fraction_in" "fraction_in" Lw.s_fraction_in f fd := by
      refine' VE.def_mk KX G ?a ?l ?c ?k; (case a => k_is); (case l => k_is); (case c => k_is); (case k => k_is)
    obtain ⟨f11, fd11, d11, F11⟩ : ∃ (f : Addr) (fd : FuncData), mg "sum_in" = some (.ref f) ∧ L2.Fun _ "sum_in" "sum_in" Lw.s_sum_in f fd := by
      refine' VE.def_mk KX G ?a ?l ?c ?k; (case a => k_is); (case l => k_is); (case c => k_is); (case k => k_is)
    obtain ⟨f12, fd12, d12, F12⟩ : ∃ (f : Addr) (fd : FuncData), mg "less_in" = some (.ref f) ∧ L2.Fun _ "less_in" "less_in" Lw.s_less_in f fd := by
      refine' VE.def_mk KX G ?a ?l ?c ?k; (case a => k_is); (case l => k_is); (case c => k_is); (case k => k_is)
    obtain ⟨f13, fd13, d13, F13⟩ : ∃ (f : Addr) (fd : FuncData), mg "product_in" = some (.ref f) ∧ L2.Fun _ "product_in" "product_in" Lw.s_product_in f fd := by
      refine' VE.def_mk KX G ?a ?l ?c ?k; (case a => k_is); (case l => k_is); (case c => k_is); (case k => k_is)
    obtain ⟨f14, fd14, d14, F14⟩ : ∃ (f : Addr) (fd : FuncData), mg "quotient_in" = some (.ref f) ∧ L2.Fun _ "quotient_in" "quotient_in" Lw.s_quotient_in f fd := by
      refine' VE.def_mk KX G ?a ?l ?c ?k; (case a => k_is); (case l => k_is); (case c => k_is); (case k => k_is)
    obtain ⟨f15, fd15, d15, F15⟩ : ∃ (f : Addr) (fd : FuncData), mg "total_in" = some (.ref f) ∧ L2.Fun _ "total_in" "total_in" Lw.s_total_in f fd := by
      refine' VE.def_mk KX G ?a ?l ?c ?k; (case a => k_is); (case l => k_is); (case c => k_is); (case k => k_is)
    obtain ⟨f16, fd16, d16, F16⟩ : ∃ (f : Addr) (fd : FuncData), mg "order_in" = some (.ref f) ∧ L2.Fun _ "order_in" "order_in" Lw.s_order_in f fd := by
      refine' VE.def_mk KX G ?a ?l ?c ?k; (case a => k_is); (case l => k_is); (case c => k_is); (case k => k_is)
    obtain ⟨f17, fd17, d17, F17⟩ : ∃ (f : Addr) (fd : FuncData), mg "power_in" = some (.ref f) ∧ L2.Fun _ "power_in" "power_in" Lw.s_power_in f fd := by
      refine' VE.def_mk KX G ?a ?l ?c ?k; (case a => k_is); (case l => k_is); (case c => k_is); (case k => k_is)
    obtain ⟨f18, fd18, d18, F18⟩ : ∃ (f : Addr) (fd : FuncData), mg "product_from" = some (.ref f) ∧ L2.Fun _ "product_from" "product_from" Lw.s_product_from f fd := by
      refine' VE.def_mk KX G ?a ?l ?c ?k; (case a => k_is); (case l => k_is); (case c => k_is); (case k => k_is)
    obtain ⟨f19, fd19, d19, F19⟩ : ∃ (f : Addr) (fd : FuncData), mg "bernoulli_row" = some (.ref f) ∧ L2.Fun _ "bernoulli_row" "bernoulli_row" Lw.s_bernoulli_row f fd := by
      refine' VE.def_mk KX G ?a ?l ?c ?k; (case a => k_is); (case l => k_is); (case c => k_is); (case k => k_is)
    obtain ⟨f20, fd20, d20, F20⟩ : ∃ (f : Addr) (fd : FuncData), mg "text_in" = some (.ref f) ∧ L2.Fun _ "text_in" "text_in" Lw.s_text_in f fd := by
      refine' VE.def_mk KX G ?a ?l ?c ?k; (case a => k_is); (case l => k_is); (case c => k_is); (case k => k_is)
    obtain ⟨f21, fd21, d21, F21⟩ : ∃ (f : Addr) (fd : FuncData), mg "digits_told" = some (.ref f) ∧ L2.Fun _ "digits_told" "digits_told" Lw.s_digits_told f fd := by
      refine' VE.def_mk KX G ?a ?l ?c ?k; (case a => k_is); (case l => k_is); (case c => k_is); (case k => k_is)
    obtain ⟨f22, fd22, d22, F22⟩ : ∃ (f : Addr) (fd : FuncData), mg "number_told" = some (.ref f) ∧ L2.Fun _ "number_told" "number_told" Lw.s_number_told f fd := by
      refine' VE.def_mk KX G ?a ?l ?c ?k; (case a => k_is); (case l => k_is); (case c => k_is); (case k => k_is)
    obtain ⟨f23, fd23, d23, F23⟩ : ∃ (f : Addr) (fd : FuncData), mg "fraction" = some (.ref f) ∧ L2.Fun _ "fraction" "fraction" Lw.s_fraction f fd := by
      refine' VE.def_mk KX G ?a ?l ?c ?k; (case a => k_is); (case l => k_is); (case c => k_is); (case k => k_is)
    obtain ⟨f24, fd24, d24, F24⟩ : ∃ (f : Addr) (fd : FuncData), mg "added" = some (.ref f) ∧ L2.Fun _ "added" "added" Lw.s_added f fd := by
      refine' VE.def_mk KX G ?a ?l ?c ?k; (case a => k_is); (case l => k_is); (case c => k_is); (case k => k_is)
    obtain ⟨f25, fd25, d25, F25⟩ : ∃ (f : Addr) (fd : FuncData), mg "less" = some (.ref f) ∧ L2.Fun _ "less" "less" Lw.s_less f fd := by
      refine' VE.def_mk KX G ?a ?l ?c ?k; (case a => k_is); (case l => k_is); (case c => k_is); (case k => k_is)
    obtain ⟨f26, fd26, d26, F26⟩ : ∃ (f : Addr) (fd : FuncData), mg "multiplied" = some (.ref f) ∧ L2.Fun _ "multiplied" "multiplied" Lw.s_multiplied f fd := by
      refine' VE.def_mk KX G ?a ?l ?c ?k; (case a => k_is); (case l => k_is); (case c => k_is); (case k => k_is)
    obtain ⟨f27, fd27, d27, F27⟩ : ∃ (f : Addr) (fd : FuncData), mg "divided" = some (.ref f) ∧ L2.Fun _ "divided" "divided" Lw.s_divided f fd := by
      refine' VE.def_mk KX G ?a ?l ?c ?k; (case a => k_is); (case l => k_is); (case c => k_is); (case k => k_is)
    obtain ⟨f28, fd28, d28, F28⟩ : ∃ (f : Addr) (fd : FuncData), mg "compared" = some (.ref f) ∧ L2.Fun _ "compared" "compared" Lw.s_compared f fd := by
      refine' VE.def_mk KX G ?a ?l ?c ?k; (case a => k_is); (case l => k_is); (case c => k_is); (case k => k_is)
    obtain ⟨f29, fd29, d29, F29⟩ : ∃ (f : Addr) (fd : FuncData), mg "power_of" = some (.ref f) ∧ L2.Fun _ "power_of" "power_of" Lw.s_power_of f fd := by
      refine' VE.def_mk KX G ?a ?l ?c ?k; (case a => k_is); (case l => k_is); (case c => k_is); (case k => k_is)
    obtain ⟨f30, fd30, d30, F30⟩ : ∃ (f : Addr) (fd : FuncData), mg "floor_of" = some (.ref f) ∧ L2.Fun _ "floor_of" "floor_of" Lw.s_floor_of f fd := by
      refine' VE.def_mk KX G ?a ?l ?c ?k; (case a => k_is); (case l => k_is); (case c => k_is); (case k => k_is)
    obtain ⟨f31, fd31, d31, F31⟩ : ∃ (f : Addr) (fd : FuncData), mg "factorial" = some (.ref f) ∧ L2.Fun _ "factorial" "factorial" Lw.s_factorial f fd := by
      refine' VE.def_mk KX G ?a ?l ?c ?k; (case a => k_is); (case l => k_is); (case c => k_is); (case k => k_is)
    obtain ⟨f32, fd32, d32, F32⟩ : ∃ (f : Addr) (fd : FuncData), mg "binomial" = some (.ref f) ∧ L2.Fun _ "binomial" "binomial" Lw.s_binomial f fd := by
      refine' VE.def_mk KX G ?a ?l ?c ?k; (case a => k_is); (case l => k_is); (case c => k_is); (case k => k_is)
    obtain ⟨f33, fd33, d33, F33⟩ : ∃ (f : Addr) (fd : FuncData), mg "odd_product" = some (.ref f) ∧ L2.Fun _ "odd_product" "odd_product" Lw.s_odd_product f fd := by
      refine' VE.def_mk KX G ?a ?l ?c ?k; (case a => k_is); (case l => k_is); (case c => k_is); (case k => k_is)
    obtain ⟨f34, fd34, d34, F34⟩ : ∃ (f : Addr) (fd : FuncData), mg "bernoulli" = some (.ref f) ∧ L2.Fun _ "bernoulli" "bernoulli" Lw.s_bernoulli f fd := by
      refine' VE.def_mk KX G ?a ?l ?c ?k; (case a => k_is); (case l => k_is); (case c => k_is); (case k => k_is)
    obtain ⟨f35, fd35, d35, F35⟩ : ∃ (f : Addr) (fd : FuncData), mg "number_text" = some (.ref f) ∧ L2.Fun _ "number_text" "number_text" Lw.s_number_text f fd := by
      refine' VE.def_mk KX G ?a ?l ?c ?k; (case a => k_is); (case l => k_is); (case c => k_is); (case k => k_is)
    obtain ⟨f36, fd36, d36, F36⟩ : ∃ (f : Addr) (fd : FuncData), mg "number_of_text" = some (.ref f) ∧ L2.Fun _ "number_of_text" "number_of_text" Lw.s_number_of_text f fd := by
      refine' VE.def_mk KX G ?a ?l ?c ?k; (case a => k_is); (case l => k_is); (case c => k_is); (case k => k_is)
    obtain ⟨f37, fd37, d37, F37⟩ : ∃ (f : Addr) (fd : FuncData), mg "_law_dice" = some (.ref f) ∧ L2.Fun _ "_law_dice" "_law_dice" Lw.s_law_dice f fd := by
      refine' VE.def_mk KX G ?a ?l ?c ?k; (case a => k_is); (case l => k_is); (case c => k_is); (case k => k_is)
    obtain ⟨f38, fd38, d38, F38⟩ : ∃ (f : Addr) (fd : FuncData), mg "_law_roll" = some (.ref f) ∧ L2.Fun _ "_law_roll" "_law_roll" Lw.s_law_roll f fd := by
      refine' VE.def_mk KX G ?a ?l ?c ?k; (case a => k_is); (case l => k_is); (case c => k_is); (case k => k_is)
    obtain ⟨f39, fd39, d39, F39⟩ : ∃ (f : Addr) (fd : FuncData), mg "_law_pick" = some (.ref f) ∧ L2.Fun _ "_law_pick" "_law_pick" Lw.s_law_pick f fd := by
      refine' VE.def_mk KX G ?a ?l ?c ?k; (case a => k_is); (case l => k_is); (case c => k_is); (case k => k_is)
    obtain ⟨f40, fd40, d40, F40⟩ : ∃ (f : Addr) (fd : FuncData), mg "_law_gcd" = some (.ref f) ∧ L2.Fun _ "_law_gcd" "_law_gcd" Lw.s_law_gcd f fd := by
      refine' VE.def_mk KX G ?a ?l ?c ?k; (case a => k_is); (case l => k_is); (case c => k_is); (case k => k_is)
    obtain ⟨f41, fd41, d41, F41⟩ : ∃ (f : Addr) (fd : FuncData), mg "_law_fraction" = some (.ref f) ∧ L2.Fun _ "_law_fraction" "_law_fraction" Lw.s_law_fraction f fd := by
      refine' VE.def_mk KX G ?a ?l ?c ?k; (case a => k_is); (case l => k_is); (case c => k_is); (case k => k_is)
    obtain ⟨f42, fd42, d42, F42⟩ : ∃ (f : Addr) (fd : FuncData), mg "_law_plus" = some (.ref f) ∧ L2.Fun _ "_law_plus" "_law_plus" Lw.s_law_plus f fd := by
      refine' VE.def_mk KX G ?a ?l ?c ?k; (case a => k_is); (case l => k_is); (case c => k_is); (case k => k_is)
    obtain ⟨f43, fd43, d43, F43⟩ : ∃ (f : Addr) (fd : FuncData), mg "_law_times" = some (.ref f) ∧ L2.Fun _ "_law_times" "_law_times" Lw.s_law_times f fd := by
      refine' VE.def_mk KX G ?a ?l ?c ?k; (case a => k_is); (case l => k_is); (case c => k_is); (case k => k_is)
    obtain ⟨f44, fd44, d44, F44⟩ : ∃ (f : Addr) (fd : FuncData), mg "_law_less" = some (.ref f) ∧ L2.Fun _ "_law_less" "_law_less" Lw.s_law_less f fd := by
      refine' VE.def_mk KX G ?a ?l ?c ?k; (case a => k_is); (case l => k_is); (case c => k_is); (case k => k_is)
    obtain ⟨f45, fd45, d45, F45⟩ : ∃ (f : Addr) (fd : FuncData), mg "_law_over" = some (.ref f) ∧ L2.Fun _ "_law_over" "_law_over" Lw.s_law_over f fd := by
      refine' VE.def_mk KX G ?a ?l ?c ?k; (case a => k_is); (case l => k_is); (case c => k_is); (case k => k_is)
    obtain ⟨f46, fd46, d46, F46⟩ : ∃ (f : Addr) (fd : FuncData), mg "_law_sum" = some (.ref f) ∧ L2.Fun _ "_law_sum" "_law_sum" Lw.s_law_sum f fd := by
      refine' VE.def_mk KX G ?a ?l ?c ?k; (case a => k_is); (case l => k_is); (case c => k_is); (case k => k_is)
    obtain ⟨f47, fd47, d47, F47⟩ : ∃ (f : Addr) (fd : FuncData), mg "_law_power" = some (.ref f) ∧ L2.Fun _ "_law_power" "_law_power" Lw.s_law_power f fd := by
      refine' VE.def_mk KX G ?a ?l ?c ?k; (case a => k_is); (case l => k_is); (case c => k_is); (case k => k_is)
    obtain ⟨f48, fd48, d48, F48⟩ : ∃ (f : Addr) (fd : FuncData), mg "_law_factorial" = some (.ref f) ∧ L2.Fun _ "_law_factorial" "_law_factorial" Lw.s_law_factorial f fd := by
      refine' VE.def_mk KX G ?a ?l ?c ?k; (case a => k_is); (case l => k_is); (case c => k_is); (case k => k_is)
    obtain ⟨f49, fd49, d49, F49⟩ : ∃ (f : Addr) (fd : FuncData), mg "_law_binomial" = some (.ref f) ∧ L2.Fun _ "_law_binomial" "_law_binomial" Lw.s_law_binomial f fd := by
      refine' VE.def_mk KX G ?a ?l ?c ?k; (case a => k_is); (case l => k_is); (case c => k_is); (case k => k_is)
    obtain ⟨f50, fd50, d50, F50⟩ : ∃ (f : Addr) (fd : FuncData), mg "_law_nb_drawn" = some (.ref f) ∧ L2.Fun _ "_law_nb_drawn" "_law_nb_drawn" Lw.s_law_nb_drawn f fd := by
      refine' VE.def_mk KX G ?a ?l ?c ?k; (case a => k_is); (case l => k_is); (case c => k_is); (case k => k_is)
    obtain ⟨f51, fd51, d51, F51⟩ : ∃ (f : Addr) (fd : FuncData), mg "_law_nb_pair" = some (.ref f) ∧ L2.Fun _ "_law_nb_pair" "_law_nb_pair" Lw.s_law_nb_pair f fd := by
      refine' VE.def_mk KX G ?a ?l ?c ?k; (case a => k_is); (case l => k_is); (case c => k_is); (case k => k_is)
    obtain ⟨f52, fd52, d52, F52⟩ : ∃ (f : Addr) (fd : FuncData), mg "_law_sums_right" = some (.ref f) ∧ L2.Fun _ "_law_sums_right" "_law_sums_right" Lw.s_law_sums_right f fd := by
      refine' VE.def_mk KX G ?a ?l ?c ?k; (case a => k_is); (case l => k_is); (case c => k_is); (case k => k_is)
    obtain ⟨f53, fd53, d53, F53⟩ : ∃ (f : Addr) (fd : FuncData), mg "_law_powers_right" = some (.ref f) ∧ L2.Fun _ "_law_powers_right" "_law_powers_right" Lw.s_law_powers_right f fd := by
      refine' VE.def_mk KX G ?a ?l ?c ?k; (case a => k_is); (case l => k_is); (case c => k_is); (case k => k_is)
    obtain ⟨f54, fd54, d54, F54⟩ : ∃ (f : Addr) (fd : FuncData), mg "_law_products_right" = some (.ref f) ∧ L2.Fun _ "_law_products_right" "_law_products_right" Lw.s_law_products_right f fd := by
      refine' VE.def_mk KX G ?a ?l ?c ?k; (case a => k_is); (case l => k_is); (case c => k_is); (case k => k_is)
    obtain ⟨f55, fd55, d55, F55⟩ : ∃ (f : Addr) (fd : FuncData), mg "_law_bernoulli_right" = some (.ref f) ∧ L2.Fun _ "_law_bernoulli_right" "_law_bernoulli_right" Lw.s_law_bernoulli_right f fd := by
      refine' VE.def_mk KX G ?a ?l ?c ?k; (case a => k_is); (case l => k_is); (case c => k_is); (case k => k_is)
    obtain ⟨f56, fd56, d56, F56⟩ : ∃ (f : Addr) (fd : FuncData), mg "_law_judged" = some (.ref f) ∧ L2.Fun _ "_law_judged" "_law_judged" Lw.s_law_judged f fd := by
      refine' VE.def_mk KX G ?a ?l ?c ?k; (case a => k_is); (case l => k_is); (case c => k_is); (case k => k_is)
    obtain ⟨f57, fd57, d57, F57⟩ : ∃ (f : Addr) (fd : FuncData), mg "law" = some (.ref f) ∧ L2.Fun _ "law" "law" Lw.s_law f fd := by
      refine' VE.def_mk KX G ?a ?l ?c ?k; (case a => k_is); (case l => k_is); (case c => k_is); (case k => k_is)
    refine Lw.end_law (fa := fun i => ([f0, f1, f2, f3, f4, f5, f6, f7, f8, f9, f10, f11, f12, f13, f14, f15, f16, f17, f18, f19, f20, f21, f22, f23, f24, f25, f26, f27, f28, f29, f30, f31, f32, f33, f34, f35, f36, f37, f38, f39, f40, f41, f42, f43, f44, f45, f46, f47, f48, f49, f50, f51, f52, f53, f54, f55, f56, f57] : List Addr).getD i 0) (ca := fun _ => 0) (fd := fun i => ([fd0, fd1, fd2, fd3, fd4, fd5, fd6, fd7, fd8, fd9, fd10, fd11, fd12, fd13, fd14, fd15, fd16, fd17, fd18, fd19, fd20, fd21, fd22, fd23, fd24, fd25, fd26, fd27, fd28, fd29, fd30, fd31, fd32, fd33, fd34, fd35, fd36, fd37, fd38, fd39, fd40, fd41, fd42, fd43, fd44, fd45, fd46, fd47, fd48, fd49, fd50, fd51, fd52, fd53, fd54, fd55, fd56, fd57] : List FuncData).getD i fd0) {
      d_is_whole := d0
      f_is_whole := F0
      d_is_integer := d1
      f_is_integer := F1
      d_is_within := d2
      f_is_within := F2
      d_is_name := d3
      f_is_name := F3
      d_is_fraction := d4
      f_is_fraction := F4
      d_is_number := d5
      f_is_number := F5
      d_require_within := d6
      f_require_within := F6
      d_require_number := d7
      f_require_number := F7
      d_pair_of := d10
      f_pair_of := F10
      d_both_told := d8
      f_both_told := F8
      d_fraction_in := d9
      f_fraction_in := F9
      d_sum_in := d11
      f_sum_in := F11
      d_less_in := d12
      f_less_in := F12
      d_product_in := d13
      f_product_in := F13
      d_quotient_in := d14
      f_quotient_in := F14
      d_total_in := d15
      f_total_in := F15
      d_order_in := d16
      f_order_in := F16
      d_power_in := d17
      f_power_in := F17
      d_product_from := d18
      f_product_from := F18
      d_bernoulli_row := d19
      f_bernoulli_row := F19
      d_text_in := d20
      f_text_in := F20
      d_digits_told := d21
      f_digits_told := F21
      d_number_told := d22
      f_number_told := F22
      d_fraction := d23
      f_fraction := F23
      d_added := d24
      f_added := F24
      d_less := d25
      f_less := F25
      d_multiplied := d26
      f_multiplied := F26
      d_divided := d27
      f_divided := F27
      d_compared := d28
      f_compared := F28
      d_power_of := d29
      f_power_of := F29
      d_floor_of := d30
      f_floor_of := F30
      d_factorial := d31
      f_factorial := F31
      d_binomial := d32
      f_binomial := F32
      d_odd_product := d33
      f_odd_product := F33
      d_bernoulli := d34
      f_bernoulli := F34
      d_number_text := d35
      f_number_text := F35
      d_number_of_text := d36
      f_number_of_text := F36
      d_law_dice := d37
      f_law_dice := F37
      d_law_roll := d38
      f_law_roll := F38
      d_law_pick := d39
      f_law_pick := F39
      d_law_gcd := d40
      f_law_gcd := F40
      d_law_fraction := d41
      f_law_fraction := F41
      d_law_plus := d42
      f_law_plus := F42
      d_law_times := d43
      f_law_times := F43
      d_law_less := d44
      f_law_less := F44
      d_law_over := d45
      f_law_over := F45
      d_law_sum := d46
      f_law_sum := F46
      d_law_power := d47
      f_law_power := F47
      d_law_factorial := d48
      f_law_factorial := F48
      d_law_binomial := d49
      f_law_binomial := F49
      d_law_nb_drawn := d50
      f_law_nb_drawn := F50
      d_law_nb_pair := d51
      f_law_nb_pair := F51
      d_law_sums_right := d52
      f_law_sums_right := F52
      d_law_powers_right := d53
      f_law_powers_right := F53
      d_law_products_right := d54
      f_law_products_right := F54
      d_law_bernoulli_right := d55
      f_law_bernoulli_right := F55
      d_law_judged := d56
      f_law_judged := F56
      d_law := d57
      f_law := F57
      z_abs := PySem.W.mg_none_of KX G (by k_is)
      z_all := PySem.W.mg_none_of KX G (by k_is)
      z_bool := PySem.W.mg_none_of KX G (by k_is)
      z_enumerate := PySem.W.mg_none_of KX G (by k_is)
      z_int := PySem.W.mg_none_of KX G (by k_is)
      z_isinstance := PySem.W.mg_none_of KX G (by k_is)
      z_len := PySem.W.mg_none_of KX G (by k_is)
      z_max := PySem.W.mg_none_of KX G (by k_is)
      z_min := PySem.W.mg_none_of KX G (by k_is)
      z_range := PySem.W.mg_none_of KX G (by k_is)
      z_str := PySem.W.mg_none_of KX G (by k_is)
      z_sum := PySem.W.mg_none_of KX G (by k_is)
      z_tuple := PySem.W.mg_none_of KX G (by k_is)
      i_comb := PySem.W.mg_of KX G (by k_is)
      i_gcd := PySem.W.mg_of KX G (by k_is)
      c_BOUND := by (refine' VE.int_mk KX G ?a; (case a => k_is))
      c_DIGITS := by (refine' VE.str_mk KX G ?a; (case a => k_is))
      c_LETTERS := by (refine' VE.str_mk KX G ?a; (case a => k_is))
      c_MAX_BERNOULLI := by (refine' VE.int_mk KX G ?a; (case a => k_is))
      c_MAX_CHOSEN := by (refine' VE.int_mk KX G ?a; (case a => k_is))
      c_MAX_NAME := by (refine' VE.int_mk KX G ?a; (case a => k_is))
      c_MAX_RAISED := by (refine' VE.int_mk KX G ?a; (case a => k_is))
      c_MAX_TEXT := by (refine' VE.int_mk KX G ?a; (case a => k_is))
      c_ONE := by (refine' VE.gk_mk KX G ?a ?k; (case a => k_is); (case k => exact (by refine' VE.tup_mk ?l ?s ?r; (case l => k_is); (case s => decide); (case r => exact ⟨_, _, rfl, ⟨_, rfl⟩, ⟨_, _, rfl, ⟨_, rfl⟩, rfl⟩⟩))))
      c_ZERO := by (refine' VE.gk_mk KX G ?a ?k; (case a => k_is); (case k => exact (by refine' VE.tup_mk ?l ?s ?r; (case l => k_is); (case s => decide); (case r => exact ⟨_, _, rfl, ⟨_, rfl⟩, ⟨_, _, rfl, ⟨_, rfl⟩, rfl⟩⟩))))
      } hmg
