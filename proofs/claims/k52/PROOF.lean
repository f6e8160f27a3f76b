import PyProof.Rows.All
import Wide.All
import OpenK.AllK
import Wide.FinOn
import HandS.Base
import HandS.Slots
import HandS.Call
import HandS.List
import HandS.Comp
import HandS.Exc
import HandS.Words
import HandS.Lambda
import HandS.ForMost
import HandS.ForExc
import HandS.IsInst
import HandS.Wide
import HandS.Gcd
import HandS.FStr
import HandS.TryMany
import HandS.ExcOwn
import HandS.CallSlots
import HandS.Flow
import HandS.Style
import KE.KeyNested
import KE.KDictKeyed
import HandS.TupAny
import HandS.TupMul
import HandS.Ends
import KE.KTupSum
import KE.GoesEnum
import KE.KMathGC
import KE.KExcSuper
import HandS.TryOnly
import HandS.ExcField
import HandS.EndTab
import PyProof.ReprRoads
import HandS.Deep
import HandS.Text
import HandS.Dict
import PyProof.StrOps2
import HandS.CallLocal
import KE.KExcInit
import HandS.Star
import KE.KRevSl
import HandS.SortInts
import HandS.SlotsOwn
import HandS.DictComp
import KE.KDictLaws
import HandS.ClsMeth
import HandS.Property
import KE.KStateDown
import HandS.Head0
import HandS.Head1
import HandS.Head2
import HandS.HeadHook2
import KE.HD3
import KE.KNestM
import KE.SortData
import KE.SortLaws
import HandS.Conv
import KE.SortKeyHeap
import HandS.Zip
import KE.KDictWalk
import HandS.Iter
import KE.KDictSum
import KE.KDictCopyH
import KE.KDictItemsList
import HandS.DictTup
import HandS.Codes
import KE.KIntText
import PyProof.Rows.StrIntSpec
import PySem.Challenge.RW_bandrims_k52_errors_of_tau_numbers
set_option Elab.async false
set_option linter.all false
set_option maxRecDepth 100000
set_option maxHeartbeats 4000000
set_option exponentiation.threshold 500000
noncomputable section
namespace VE
open PySem PySem.Spec PyProof.Rows L2


inductive CV where
  | non | bl (b : Bool) | int (i : Int) | str (x : Str)
  | tup (xs : List CV) | lst (xs : List CV) | frz (xs : List CV)
  | ref (l : Nat) | cls (k : Nat) | fn (k : Nat) | ty (n : String)
  /-- an instance that nobody writes; a dict that nobody writes (n: its keys are tuples) -/
  | ins (k : Nat) (xs : List CV) | dic (n : Bool) (ks vs : List CV)
  deriving Inhabited

inductive CO where
  | lst (xs : List CV)
  /-- a dict (lk: it is read from now on, not written) | an instance -/
  | dic (lk n : Bool) (ks vs : List CV) | ins (k : Nat) (xs : List (Option CV))
  | none_

abbrev Mem := List CO
abbrev Sl := List (Option CV)
structure Exn where
  cls : Nat
  args : List CV

inductive Out (α : Type) where
  | ok (a : α) (h : Mem) | exc (x : Exn) (h : Mem) | bad
abbrev M (α : Type) := Mem → Out α
def bnd {α β : Type} (m : M α) (k : α → M β) : M β := fun h => Out.rec (fun a h' => k a h') (fun x h' => .exc x h') .bad (m h)
def ret {α : Type} (a : α) : M α := fun h => .ok a h
def stuck {α : Type} : M α := fun _ => .bad

def frN {α : Type} (n : Nat) (k : Nat → α) : α := Nat.rec (k 0) (fun m _ => k (Nat.succ m)) n
def frI {α : Type} (i : Int) (k : Int → α) : α := Int.rec (fun n => frN n fun n => k (.ofNat n)) (fun n => frN n fun n => k (.negSucc n)) i
def frB {α : Type} (b : Bool) (k : Bool → α) : α := Bool.rec (k false) (k true) b
def frLs {α : Type} (f : CV → (CV → α) → α) (xs : List CV) : (List CV → α) → α := List.rec (fun k => k []) (fun x _ ih k => f x fun x => ih fun xs => k (x :: xs)) xs
def frV {α : Type} (n : Nat) : CV → (CV → α) → α := Nat.rec (fun x k => k x) (fun _ ih x k => match x with
  | .int i => frI i fun i => k (.int i)
  | .bl b => frB b fun b => k (.bl b)
  | .tup xs => frLs ih xs fun xs => k (.tup xs)
  | .lst xs => frLs ih xs fun xs => k (.lst xs)
  | .ins c xs => frLs ih xs fun xs => k (.ins c xs)
  | .dic n ks vs => frLs ih ks fun ks => frLs ih vs fun vs => k (.dic n ks vs)
  | x => k x) n
def sget {α : Type} (l : List α) : Nat → Option α := List.rec (fun _ => none) (fun a _ ih n => Nat.rec (some a) (fun m _ => ih m) n) l
def sset {α β : Type} (l : List α) : Nat → α → (List α → β) → β := List.rec (fun _ _ k => k []) (fun a t ih n v k => Nat.rec (k (v :: t)) (fun m _ => ih m v fun t' => k (a :: t')) n) l
def sapp {α β : Type} (l : List α) : List α → (List α → β) → β := List.rec (fun r k => k r) (fun a _ ih r k => ih r fun t => k (a :: t)) l
theorem frN_eq {α : Type} (n : Nat) (k : Nat → α) : frN n k = k n := by cases n <;> rfl
theorem frI_eq {α : Type} (i : Int) (k : Int → α) : frI i k = k i := by
  cases i with
  | ofNat n => exact frN_eq n fun n => k (.ofNat n)
  | negSucc n => exact frN_eq n fun n => k (.negSucc n)
theorem frB_eq {α : Type} (b : Bool) (k : Bool → α) : frB b k = k b := by cases b <;> rfl
theorem frLs_eq {α : Type} {f : CV → (CV → α) → α} (hf : ∀ x k, f x k = k x) : ∀ (xs : List CV) (k : List CV → α), frLs f xs k = k xs
  | [], _ => rfl
  | x :: xs, k => by
    show f x (fun x => frLs f xs fun xs => k (x :: xs)) = _
    rw [hf, frLs_eq hf xs]
theorem frV_eq {α : Type} : ∀ (n : Nat) (x : CV) (k : CV → α), frV n x k = k x
  | 0, _, _ => rfl
  | n + 1, x, k => by
    cases x with
    | int i => exact frI_eq i fun i => k (.int i)
    | bl b => exact frB_eq b fun b => k (.bl b)
    | tup xs => exact frLs_eq (frV_eq n) xs fun xs => k (.tup xs)
    | lst xs => exact frLs_eq (frV_eq n) xs fun xs => k (.lst xs)
    | ins c xs => exact frLs_eq (frV_eq n) xs fun xs => k (.ins c xs)
    | dic b ks vs =>
      show frLs (frV n) ks (fun ks => frLs (frV n) vs fun vs => k (.dic b ks vs)) = _
      rw [frLs_eq (frV_eq n), frLs_eq (frV_eq n)]
    | _ => rfl
theorem sget_eq {α : Type} : ∀ (l : List α) (n : Nat), sget l n = l[n]?
  | [], _ => rfl
  | _ :: _, 0 => rfl
  | _ :: t, n + 1 => by
    show sget t n = _
    rw [sget_eq t n, List.getElem?_cons_succ]
theorem sset_eq {α β : Type} : ∀ (l : List α) (n : Nat) (v : α) (k : List α → β), sset l n v k = k (l.set n v)
  | [], _, _, _ => rfl
  | _ :: _, 0, _, _ => rfl
  | a :: t, n + 1, v, k => by
    show sset t n v (fun t' => k (a :: t')) = _
    rw [sset_eq t n v]; rfl
theorem sapp_eq {α β : Type} : ∀ (l r : List α) (k : List α → β), sapp l r k = k (l ++ r)
  | [], _, _ => rfl
  | a :: t, r, k => by
    show sapp t r (fun t' => k (a :: t')) = _
    rw [sapp_eq t r]; rfl
/-- a number's size -/
def big : Nat := 2 ^ 400000
/-- the exception that a suite holds: its slot, where it stands, its class, its dict, what it is -/
structure XI where
  slot : Nat
  at_ : Addr
  cls : Value
  d : Option Addr
  x : Exn
/-- the lambda that was handed in: what its maker's slots hold; where it stands, its code -/
structure LI where
  τ : Sl
  σ : L2.St
  f : Addr
  c : Addr
  q : Str
structure Cfg where
  P : Program
  w : World
  K : PySem.W.Frag
  cls : Nat → Addr
  fn : Nat → Addr
  fld : Nat → List Str
  T : List (Addr × Str)
  exi : Option XI := none
  lam : Option LI := none
/-- may slot i be stored into -/
def Cfg.fr (G : Cfg) (i : Nat) : Bool := (match G.exi with
  | none => true
  | some e => e.slot != i) && match G.lam with
  | none => true
  | some _ => i != 0
/-- the pairs of a dict whose keys are tuples: the key, where its tuple stands, the value -/
abbrev Ents := List (NestedKey × Addr × V)
def EntR (p : NestedKey × Addr × V) (q : NestedKey × Addr × Value) : Prop := p.1 = q.1 ∧ p.2.1 = q.2.1 ∧ RelV p.2.2 q.2.2
/-- such a dict, at a -/
def dN (P : Program) (w : World) (a : Addr) (es : Ents) : HO := .ext fun h => es.length ≤ sizeLine ∧ (a == sysModules) = false ∧ (∀ e ∈ es, e.1.depth ≤ 8) ∧ ∃ (xs : List (NestedKey × Addr × Value)) (o : Obj) (ds : Array DictEntry) (ep : Nat),
  Paired EntR es xs ∧ h.get? a = some o ∧ o.ExactDict ∧ o.data = .dict ds ep ∧ ds.toList = xs.map (entryOfKey (nestedKind P w)) ∧ (xs.map (·.1)).Nodup
/-- a key: an int, a text -/
def keyC : Key → CV
  | .inl i => .int i
  | .inr x => .str x
mutual
/-- what a key of tuples is -/
def nkey : CV → Option NestedKey
  | .non => some .none
  | .int i => some (.num i)
  | .str x => some (.text x)
  | .tup xs => match nkeys xs with
    | some ks => some (.tup ks)
    | none => none
  | _ => none
def nkeys : List CV → Option (List NestedKey)
  | [] => some []
  | x :: xs => match nkey x, nkeys xs with
    | some k, some ks => some (k :: ks)
    | _, _ => none
end
/-- the fields named so have these values -/
def FldR (ns : List Str) (us : List V) (fs : List (Str × V)) : Prop := Paired (fun n u => fs.lookup n = some u) ns us ∧ fs.length ≤ 900
/-- what may stand in the memory -/
def MutO (G : Cfg) (a : Addr) (o : HO) : Prop := (∃ ys, o = .lst ys) ∨ (∃ kvs, o = .dK kvs) ∨ (∃ es, o = dN G.P G.w a es) ∨ (∃ C dx vs, o = SlX.SlO a C dx vs) ∨ (∃ ob kvs, o = .frz ob (.dK kvs)) ∨ (∃ ob es, o = .frz ob (dN G.P G.w a es))

/-- the addresses of the memory's objects; those that are hidden from it -/
structure Wd where
  d : List Addr
  r : List Addr
def Wd.has (ρ : Wd) (a : Addr) : Prop := a ∈ ρ.r ∨ a ∈ ρ.d
/-- a list that nobody writes: not in the memory, or of the text's own -/
def SqF (K : PySem.W.Frag) (ρ : Wd) (H : Hp) (a : Addr) (ys : List V) : Prop := (¬ ρ.has a ∧ Rd H a (.lst ys)) ∨ SqL K (fun _ => none) a ys
theorem SqF.l {K : PySem.W.Frag} {ρ : Wd} {H : Hp} {a : Addr} {ys : List V} (r : SqF K ρ H a ys) : SqL K H a ys := by
  rcases r with ⟨_, r⟩ | r | r
  · exact .inl r
  · rcases r with r | ⟨_, r⟩ <;> cases r
  · exact .inr r
theorem slO_tbl {a C dx : Addr} {vs : List (Option V)} {ps : Array Value} (e : SlX.SlO a C dx vs = .tbl ps) : False := by unfold SlX.SlO at e; cases e
theorem slO_none {a C dx : Addr} {vs : List (Option V)} {H : Hp} (e : H a = some (SlX.SlO a C dx vs)) : H a ≠ none := fun z => by rw [z] at e; cases e
mutual
def ValR (G : Cfg) (ρ : Wd) (H : Hp) : CV → V → Prop
  | .non, v => v = .non
  | .bl b, v => v = .bl b
  | .int i, v => v = .int i
  | .str x, v => v = .str x
  | .tup xs, v => ∃ a ys, v = .ref a ∧ SqT G.K H a ys ∧ ValsR G ρ H xs ys
  | .lst xs, v => ∃ a ys, v = .ref a ∧ ¬ ρ.has a ∧ H a = some (.lst ys) ∧ ValsR G ρ H xs ys
  | .frz xs, v => ∃ a ys, v = .ref a ∧ SqF G.K ρ H a ys ∧ ValsR G ρ H xs ys
  | .ref l, v => ∃ a, ρ.r[l]? = some a ∧ v = .ref a
  | .cls k, v => v = .ref (G.cls k)
  | .fn k, v => v = .ref (G.fn k)
  | .ty n, v => v = .ty n
  | .ins k xs, v => ∃ a dx us, v = .ref a ∧ ¬ ρ.has a ∧ ¬ ρ.has dx ∧ H a = some (SlX.SlO a (G.cls k) dx (us.map some)) ∧ H dx = some (.xd []) ∧ ValsR G ρ H xs us
  | .dic n ks vs, v => ∃ a ob, v = .ref a ∧ ¬ ρ.has a ∧ (n = true → ∃ es us ws, H a = some (.frz ob (dN G.P G.w a es)) ∧ nkeys ks = some (es.map (·.1)) ∧ us = es.map (fun e => V.ref e.2.1) ∧ ws = es.map (·.2.2) ∧ ValsR G ρ H ks us ∧ ValsR G ρ H vs ws) ∧
      (n = false → ∃ kvs ws, H a = some (.frz ob (.dK kvs)) ∧ ks = kvs.map (fun e => keyC e.1) ∧ ws = kvs.map (·.2) ∧ ValsR G ρ H vs ws)
def ValsR (G : Cfg) (ρ : Wd) (H : Hp) : List CV → List V → Prop
  | [], ys => ys = []
  | x :: xs, ys => ∃ y r, ys = y :: r ∧ ValR G ρ H x y ∧ ValsR G ρ H xs r
end

/-- what stands at a, unlocked, is the dict of these pairs -/
def DicR (G : Cfg) (ρ : Wd) (H : Hp) (n : Bool) (ks vs : List CV) (a : Addr) (u : HO) : Prop :=
  (n = true → ∃ es, u = dN G.P G.w a es ∧ nkeys ks = some (es.map (·.1)) ∧ ValsR G ρ H ks (es.map fun e => V.ref e.2.1) ∧ ValsR G ρ H vs (es.map (·.2.2))) ∧
  (n = false → ∃ kvs, u = .dK kvs ∧ ks = kvs.map (fun e => keyC e.1) ∧ ValsR G ρ H vs (kvs.map (·.2)))
theorem DicR.mutO {G : Cfg} {ρ : Wd} {H : Hp} {n : Bool} {ks vs : List CV} {a : Addr} {u : HO} (d : DicR G ρ H n ks vs a u) : MutO G a u ∧ ∀ ob, MutO G a (.frz ob u) := by
  cases n with
  | true =>
    obtain ⟨es, rfl, _⟩ := d.1 rfl
    exact ⟨.inr (.inr (.inl ⟨_, rfl⟩)), fun ob => .inr (.inr (.inr (.inr (.inr ⟨_, _, rfl⟩))))⟩
  | false =>
    obtain ⟨es, rfl, _⟩ := d.2 rfl
    exact ⟨.inr (.inl ⟨_, rfl⟩), fun ob => .inr (.inr (.inr (.inr (.inl ⟨_, _, rfl⟩))))⟩
theorem valR_dic {G : Cfg} {ρ : Wd} {H : Hp} {n : Bool} {ks vs : List CV} {v : V} : ValR G ρ H (.dic n ks vs) v ↔ ∃ a ob u, v = .ref a ∧ ¬ ρ.has a ∧ H a = some (.frz ob u) ∧ DicR G ρ H n ks vs a u := by
  constructor
  · rintro ⟨a, ob, e, nh, h1, h2⟩
    cases n with
    | true =>
      obtain ⟨es, us, ws, q1, q2, rfl, rfl, q3, q4⟩ := h1 rfl
      exact ⟨a, ob, _, e, nh, q1, fun _ => ⟨es, rfl, q2, q3, q4⟩, fun z => nomatch z⟩
    | false =>
      obtain ⟨kvs, ws, q1, q2, rfl, q3⟩ := h2 rfl
      exact ⟨a, ob, _, e, nh, q1, (fun z => Bool.noConfusion z), fun _ => ⟨kvs, rfl, q2, q3⟩⟩
  · rintro ⟨a, ob, u, e, nh, hu, d⟩
    refine ⟨a, ob, e, nh, fun z => ?_, fun z => ?_⟩
    · obtain ⟨es, rfl, q2, q3, q4⟩ := d.1 z
      exact ⟨es, _, _, hu, q2, rfl, rfl, q3, q4⟩
    · obtain ⟨kvs, rfl, q2, q3⟩ := d.2 z
      exact ⟨kvs, _, hu, q2, rfl, q3⟩
/-- slots and what they hold -/
def SlV (G : Cfg) (ρ : Wd) (H : Hp) (τ : Sl) (σ : L2.St) : Prop := τ.length = σ.length ∧ ∀ (i : Nat) (v : CV), τ[i]? = some (some v) → ∃ u, σ[i]? = some (some u) ∧ ValR G ρ H v u
def ObjR (G : Cfg) (ρ : Wd) (H : Hp) : CO → Addr → Prop
  | .lst xs, a => ∃ ys, H a = some (.lst ys) ∧ ValsR G ρ H xs ys
  | .dic lk n ks vs, a => ∃ u, (lk = true → ∃ ob, H a = some (.frz ob u)) ∧ (lk = false → H a = some u) ∧ DicR G ρ H n ks vs a u
  | .ins k xs, a => ∃ dx us, H a = some (SlX.SlO a (G.cls k) dx us) ∧ ¬ ρ.has dx ∧ H dx = some (.xd []) ∧ SlV G ρ H xs us
  | .none_, _ => False

def ExcR (G : Cfg) (ρ : Wd) (H : Hp) (x : Exn) (c : Value) (d : Option Addr) : Prop :=
  c = .ref (G.cls x.cls) ∧ (x.args = [] ∨ ∃ da fs, d = some da ∧ H da = some (.xd fs) ∧ fs.map (·.1) = G.fld x.cls ∧ ValsR G ρ H x.args (fs.map (·.2)))
structure MemR (G : Cfg) (ρ : Wd) (h : Mem) (H : Hp) : Prop where
  len : ρ.r.length = h.length
  nd : ρ.r.Nodup
  obj : ∀ (i : Nat) (a : Addr) (co : CO), ρ.r[i]? = some a → h[i]? = some co → ObjR G ρ H co a
  hid : ∀ a ∈ ρ.d, (∃ o, H a = some o ∧ MutO G a o) ∧ a ∉ ρ.r
  tab : LamX.Tabs G.T H
  exc : ∀ e, G.exi = some e → ExcR G ρ H e.x e.cls e.d
  lam : ∀ L, G.lam = some L → SlV G ρ H L.τ L.σ ∧ H L.c = some (LamX.CodeO L.c L.q)

structure Ext (ρ : Wd) (H : Hp) (ρ' : Wd) (H' : Hp) : Prop where
  hid : ρ'.d = ρ.d
  pre : ∀ (i : Nat) (a : Addr), ρ.r[i]? = some a → ρ'.r[i]? = some a
  keep : ∀ a o, H a = some o → a ∉ ρ.r → (∀ ps, o ≠ .tbl ps) → H' a = some o
  tbl : ∀ a ps, H a = some (.tbl ps) → ∃ ps', H' a = some (.tbl ps')
  new : ∀ a, a ∈ ρ'.r → a ∈ ρ.r ∨ H a = none

/-- .. and more may be hidden -/
structure ExtH (ρ : Wd) (H : Hp) (ρ' : Wd) (H' : Hp) : Prop where
  hid : ∀ a ∈ ρ'.d, a ∈ ρ.d ∨ H a = none
  pre : ∀ (i : Nat) (a : Addr), ρ.r[i]? = some a → ρ'.r[i]? = some a
  keep : ∀ a o, H a = some o → ¬ ρ.has a → (∀ ps, o ≠ .tbl ps) → H' a = some o
  new : ∀ a, a ∈ ρ'.r → a ∈ ρ.r ∨ H a = none
section
variable {G : Cfg} {ρ ρ1 ρ2 : Wd} {h : Mem} {H H1 H2 : Hp}
theorem Ext.toH (a : Ext ρ H ρ1 H1) : ExtH ρ H ρ1 H1 := ⟨fun x e => .inl (a.hid ▸ e), a.pre, fun x o e n t => a.keep x o e (fun z => n (.inl z)) t, a.new⟩
theorem Ext.refl : Ext ρ H ρ H := ⟨rfl, fun _ _ e => e, fun _ _ e _ _ => e, fun _ ps e => ⟨ps, e⟩, fun _ e => .inl e⟩
theorem Ext.there (a : Ext ρ H ρ1 H1) {x : Addr} {o : HO} (e : H x = some o) (n : x ∉ ρ.r) : H1 x ≠ none := fun z => by
  by_cases ht : ∃ ps, o = .tbl ps
  · obtain ⟨ps, rfl⟩ := ht
    obtain ⟨q, hq⟩ := a.tbl x ps e
    rw [hq] at z; cases z
  · rw [a.keep x o e n fun ps e => ht ⟨ps, e⟩] at z; cases z
theorem Ext.trans (a : Ext ρ H ρ1 H1) (b : Ext ρ1 H1 ρ2 H2) : Ext ρ H ρ2 H2 where
  hid := b.hid.trans a.hid
  pre := fun i x e => b.pre i x (a.pre i x e)
  keep := fun x o e n t => b.keep x o (a.keep x o e n t) (fun z => by
    rcases a.new x z with z | z
    · exact n z
    · rw [e] at z; cases z) t
  tbl := fun x ps e => by
    obtain ⟨q, hq⟩ := a.tbl x ps e
    exact b.tbl x q hq
  new := fun x e => by
    rcases b.new x e with z | z
    · exact a.new x z
    · by_cases hx : x ∈ ρ.r
      · exact .inl hx
      · cases q : H x with
        | none => exact .inr rfl
        | some o => exact absurd z (a.there q hx)
theorem ObjR.there {co : CO} {x : Addr} (r : ObjR G ρ H co x) : ∃ o, H x = .some o ∧ MutO G x o := by
  cases co with
  | lst xs => obtain ⟨ys, e, _⟩ := r; exact ⟨_, e, .inl ⟨ys, rfl⟩⟩
  | dic lk n ks vs =>
    obtain ⟨u, h1, h2, d⟩ := r
    cases lk with
    | true =>
      obtain ⟨ob, e⟩ := h1 rfl
      exact ⟨_, e, d.mutO.2 ob⟩
    | false => exact ⟨_, h2 rfl, d.mutO.1⟩
  | ins k xs => obtain ⟨dx, us, e, _⟩ := r; exact ⟨_, e, .inr (.inr (.inr (.inl ⟨_, _, _, rfl⟩)))⟩
  | none_ => exact r.elim
theorem MemR.at_ (m : MemR G ρ h H) {x : Addr} (hx : ρ.has x) : ∃ o, H x = .some o ∧ MutO G x o := by
  rcases hx with hx | hx
  · obtain ⟨i, hi⟩ := List.getElem?_of_mem hx
    obtain ⟨hl, _⟩ := List.getElem?_eq_some_iff.mp hi
    have hl' : i < h.length := by rw [← m.len]; exact hl
    exact (m.obj i x h[i] hi (by simp [hl'])).there
  · exact (m.hid x hx).1
theorem MemR.notin (m : MemR G ρ h H) {x : Addr} {o : HO} (e : H x = .some o) (n : ¬ MutO G x o) : ¬ ρ.has x := fun hx => by
  obtain ⟨u, q, z⟩ := m.at_ hx
  rw [e] at q
  exact n (Option.some.inj q ▸ z)
theorem notMut_tup {xs : List V} {a : Addr} : ¬ MutO G a (.tup xs) := by
  rintro (⟨_, z⟩ | ⟨_, z⟩ | ⟨_, z⟩ | ⟨_, _, _, z⟩ | ⟨_, _, z⟩ | ⟨_, _, z⟩) <;> first | (cases z; done) | (unfold SlX.SlO at z; cases z; done)
theorem notMut_frzTup {xs : List V} {a : Addr} {o : Obj} : ¬ MutO G a (.frz o (.tup xs)) := by
  rintro (⟨_, z⟩ | ⟨_, z⟩ | ⟨_, z⟩ | ⟨_, _, _, z⟩ | ⟨_, _, z⟩ | ⟨_, _, z⟩) <;> first | (cases z; done) | (unfold SlX.SlO at z; cases z; done)
theorem notMut_frzLst {xs : List V} {a : Addr} {o : Obj} : ¬ MutO G a (.frz o (.lst xs)) := by
  rintro (⟨_, z⟩ | ⟨_, z⟩ | ⟨_, z⟩ | ⟨_, _, _, z⟩ | ⟨_, _, z⟩ | ⟨_, _, z⟩) <;> first | (cases z; done) | (unfold SlX.SlO at z; cases z; done)
theorem notMut_xd {fs : List (Str × V)} {a : Addr} : ¬ MutO G a (.xd fs) := by
  rintro (⟨_, z⟩ | ⟨_, z⟩ | ⟨_, z⟩ | ⟨_, _, _, z⟩ | ⟨_, _, z⟩ | ⟨_, _, z⟩) <;> first | (cases z; done) | (unfold SlX.SlO at z; cases z; done)
theorem notMut_own {x : Addr} {a : Addr} : ¬ MutO G a (.own x) := by
  rintro (⟨_, z⟩ | ⟨_, z⟩ | ⟨_, z⟩ | ⟨_, _, _, z⟩ | ⟨_, _, z⟩ | ⟨_, _, z⟩) <;> first | (cases z; done) | (unfold SlX.SlO at z; cases z; done)
theorem notMut_tbl {ps : Array Value} {a : Addr} : ¬ MutO G a (.tbl ps) := by
  rintro (⟨_, z⟩ | ⟨_, z⟩ | ⟨_, z⟩ | ⟨_, _, _, z⟩ | ⟨_, _, z⟩ | ⟨_, _, z⟩) <;> first | (cases z; done) | (unfold SlX.SlO at z; cases z; done)
theorem notMut_code {c a : Addr} {q : Str} : ¬ MutO G a (LamX.CodeO c q) := by
  rintro (⟨_, z⟩ | ⟨_, z⟩ | ⟨es, z⟩ | ⟨C, dx, vs, z⟩ | ⟨_, _, z⟩ | ⟨_, _, z⟩) <;> try (cases z; done)
  · have hn : (⟨Array.replicate (a + c + 1) { cls := .none, data := .fields #[.none, .str q 0] }, {}⟩ : Heap).get? c = some { cls := .none, data := .fields #[.none, .str q 0] } := by
      unfold Heap.get?
      rw [show (Array.replicate (a + c + 1) ({ cls := .none, data := .fields #[.none, .str q 0] } : Obj))[c]? = some { cls := .none, data := .fields #[.none, .str q 0] } by rw [Array.getElem?_replicate, if_pos (by omega)]]
    have ha : (⟨Array.replicate (a + c + 1) { cls := .none, data := .fields #[.none, .str q 0] }, {}⟩ : Heap).get? a = some { cls := .none, data := .fields #[.none, .str q 0] } := by
      unfold Heap.get?
      rw [show (Array.replicate (a + c + 1) ({ cls := .none, data := .fields #[.none, .str q 0] } : Obj))[a]? = some { cls := .none, data := .fields #[.none, .str q 0] } by rw [Array.getElem?_replicate, if_pos (by omega)]]
    unfold LamX.CodeO dN at z
    injection z with z
    have w := congrFun z ⟨Array.replicate (a + c + 1) { cls := .none, data := .fields #[.none, .str q 0] }, {}⟩
    have l : ∃ (oc : Obj) (vs : Array Value) (t : Tok), (⟨Array.replicate (a + c + 1) { cls := .none, data := .fields #[.none, .str q 0] }, {}⟩ : Heap).get? c = some oc ∧ oc.data = .fields vs ∧ vs[1]? = some (.str q t) := ⟨_, _, 0, hn, rfl, rfl⟩
    obtain ⟨_, _, _, _, o, _, _, _, e1, _, e2, _⟩ := w.mp l
    rw [ha] at e1
    cases e1
    cases e2
  · have hn : (⟨Array.replicate (a + c + 1) { cls := .none, data := .fields #[.none, .str q 0] }, {}⟩ : Heap).get? c = some { cls := .none, data := .fields #[.none, .str q 0] } := by
      unfold Heap.get?
      rw [show (Array.replicate (a + c + 1) ({ cls := .none, data := .fields #[.none, .str q 0] } : Obj))[c]? = some { cls := .none, data := .fields #[.none, .str q 0] } by rw [Array.getElem?_replicate, if_pos (by omega)]]
    have ha : (⟨Array.replicate (a + c + 1) { cls := .none, data := .fields #[.none, .str q 0] }, {}⟩ : Heap).get? a = some { cls := .none, data := .fields #[.none, .str q 0] } := by
      unfold Heap.get?
      rw [show (Array.replicate (a + c + 1) ({ cls := .none, data := .fields #[.none, .str q 0] } : Obj))[a]? = some { cls := .none, data := .fields #[.none, .str q 0] } by rw [Array.getElem?_replicate, if_pos (by omega)]]
    unfold LamX.CodeO SlX.SlO at z
    injection z with z
    have w := congrFun z ⟨Array.replicate (a + c + 1) { cls := .none, data := .fields #[.none, .str q 0] }, {}⟩
    have l : ∃ (oc : Obj) (vs : Array Value) (t : Tok), (⟨Array.replicate (a + c + 1) { cls := .none, data := .fields #[.none, .str q 0] }, {}⟩ : Heap).get? c = some oc ∧ oc.data = .fields vs ∧ vs[1]? = some (.str q t) := ⟨_, _, 0, hn, rfl, rfl⟩
    obtain ⟨sl, e1, _⟩ := w.mp l
    rw [ha] at e1
    cases e1
theorem MemR.free (m : MemR G ρ h H) {x : Addr} (e : H x = none) : ¬ ρ.has x := fun hx => by
  obtain ⟨u, q, _⟩ := m.at_ hx
  rw [e] at q; cases q
theorem nr {x : Addr} (n : ¬ ρ.has x) : x ∉ ρ.r := fun z => n (.inl z)
/-- a thing that is read and never written stays -/
theorem ExtH.rd (a : ExtH ρ H ρ1 H1) {x : Addr} {u : HO} (r : Rd H x u) (n : ¬ ρ.has x) (t : ∀ ps, u ≠ .tbl ps) : Rd H1 x u := by
  rcases r with r | ⟨o, r⟩
  · exact .inl (a.keep x _ r n t)
  · exact .inr ⟨o, a.keep x _ r n fun ps e => by cases e⟩
theorem ExtH.notin (a : ExtH ρ H ρ1 H1) {x : Addr} {u : HO} (r : Rd H x u) (n : ¬ ρ.has x) : ¬ ρ1.has x := fun z => by
  rcases z with z | z
  · rcases a.new x z with z | z
    · exact n (.inl z)
    · rcases r with r | ⟨o, r⟩ <;> rw [r] at z <;> cases z
  · rcases a.hid x z with z | z
    · exact n (.inr z)
    · rcases r with r | ⟨o, r⟩ <;> rw [r] at z <;> cases z
theorem Ext.rd (a : Ext ρ H ρ1 H1) {x : Addr} {u : HO} (r : Rd H x u) (n : ¬ ρ.has x) (t : ∀ ps, u ≠ .tbl ps) : Rd H1 x u := a.toH.rd r n t
theorem Ext.notin (a : Ext ρ H ρ1 H1) {x : Addr} {u : HO} (r : Rd H x u) (n : ¬ ρ.has x) : ¬ ρ1.has x := a.toH.notin r n
theorem MemR.rdTup (m : MemR G ρ h H) {x : Addr} {ys : List V} (r : Rd H x (.tup ys)) : ¬ ρ.has x := by
  rcases r with r | ⟨o, r⟩
  · exact m.notin r notMut_tup
  · exact m.notin r notMut_frzTup
theorem ExtH.sqT (a : ExtH ρ H ρ1 H1) (m : MemR G ρ h H) {x : Addr} {ys : List V} (r : SqT G.K H x ys) : SqT G.K H1 x ys := by
  rcases r with r | r
  · exact .inl (a.rd r (m.rdTup r) fun _ e => by cases e)
  · exact .inr r
mutual
theorem ValR.extH (m : MemR G ρ h H) (a : ExtH ρ H ρ1 H1) : ∀ {x : CV} {v : V}, ValR G ρ H x v → ValR G ρ1 H1 x v
  | .non, _, r => r
  | .bl _, _, r => r
  | .int _, _, r => r
  | .str _, _, r => r
  | .cls _, _, r => r
  | .fn _, _, r => r
  | .ty _, _, r => r
  | .ref l, _, ⟨x, e, q⟩ => ⟨x, a.pre l x e, q⟩
  | .tup xs, _, ⟨x, ys, e, s, r⟩ => ⟨x, ys, e, a.sqT m s, ValsR.extH m a r⟩
  | .lst xs, _, ⟨x, ys, e, n, s, r⟩ => ⟨x, ys, e, a.notin (.inl s) n, a.keep x _ s n (fun _ e => nomatch e), ValsR.extH m a r⟩
  | .frz xs, _, ⟨x, ys, e, s, r⟩ => by
    refine ⟨x, ys, e, ?_, ValsR.extH m a r⟩
    rcases s with ⟨n, s⟩ | s
    · exact .inl ⟨a.notin s n, a.rd s n fun _ e => by cases e⟩
    · exact .inr s
  | .ins k xs, _, ⟨x, dx, us, e, n, nd, s, sd, r⟩ => ⟨x, dx, us, e, a.notin (.inl s) n, a.notin (.inl sd) nd, a.keep x _ s n (fun _ e => slO_tbl e), a.keep dx _ sd nd (fun _ e => nomatch e), ValsR.extH m a r⟩
  | .dic n ks vs, _, ⟨x, ob, e, nh, h1, h2⟩ => ⟨x, ob, e, by
      have : ∃ u, H x = some (.frz ob u) := by
        cases n with
        | true => obtain ⟨es, us, ws, q1, _⟩ := h1 rfl; exact ⟨_, q1⟩
        | false => obtain ⟨es, ws, q1, _⟩ := h2 rfl; exact ⟨_, q1⟩
      obtain ⟨u, q⟩ := this
      exact a.notin (.inr ⟨ob, q⟩) nh,
      fun z => let ⟨es, us, ws, q1, q2, q3, q4, q5, q6⟩ := h1 z; ⟨es, us, ws, a.keep x _ q1 nh (fun _ e => nomatch e), q2, q3, q4, ValsR.extH m a q5, ValsR.extH m a q6⟩,
      fun z => let ⟨es, ws, q1, q2, q3, q4⟩ := h2 z; ⟨es, ws, a.keep x _ q1 nh (fun _ e => nomatch e), q2, q3, ValsR.extH m a q4⟩⟩
theorem ValsR.extH (m : MemR G ρ h H) (a : ExtH ρ H ρ1 H1) : ∀ {xs : List CV} {vs : List V}, ValsR G ρ H xs vs → ValsR G ρ1 H1 xs vs
  | [], _, r => r
  | x :: xs, _, ⟨y, r, e, q, s⟩ => ⟨y, r, e, ValR.extH m a q, ValsR.extH m a s⟩
end
theorem ValR.ext (m : MemR G ρ h H) (a : Ext ρ H ρ1 H1) {x : CV} {v : V} (r : ValR G ρ H x v) : ValR G ρ1 H1 x v := r.extH m a.toH
theorem ValsR.ext (m : MemR G ρ h H) (a : Ext ρ H ρ1 H1) {x : List CV} {v : List V} (r : ValsR G ρ H x v) : ValsR G ρ1 H1 x v := r.extH m a.toH
theorem Ext.sqT (a : Ext ρ H ρ1 H1) (m : MemR G ρ h H) {x : Addr} {ys : List V} (r : SqT G.K H x ys) : SqT G.K H1 x ys := a.toH.sqT m r
end

def SlR (G : Cfg) (ρ : Wd) (H : Hp) (τ : Sl) (σ : L2.St) : Prop :=
  τ.length = σ.length ∧ (∀ (i : Nat) (v : CV), τ[i]? = some (some v) → ∃ u, σ[i]? = some (some u) ∧ ValR G ρ H v u) ∧ (∀ e, G.exi = some e → σ[e.slot]? = some (some (.ref e.at_))) ∧ ∀ L, G.lam = some L → σ[0]? = some (some (.ref L.f))
theorem SlV.ext {G : Cfg} {ρ ρ1 : Wd} {h : Mem} {H H1 : Hp} {τ : Sl} {σ : L2.St} (m : MemR G ρ h H) (a : Ext ρ H ρ1 H1) (r : SlV G ρ H τ σ) : SlV G ρ1 H1 τ σ := ⟨r.1, fun i v e => let ⟨u, q, z⟩ := r.2 i v e; ⟨u, q, z.ext m a⟩⟩
theorem MemR.lamE {G : Cfg} {ρ ρ1 : Wd} {h : Mem} {H H1 : Hp} (m : MemR G ρ h H) (a : Ext ρ H ρ1 H1) : ∀ L, G.lam = some L → SlV G ρ1 H1 L.τ L.σ ∧ H1 L.c = some (LamX.CodeO L.c L.q) := fun L he =>
  ⟨(m.lam L he).1.ext m a, a.keep _ _ (m.lam L he).2 (nr (m.notin (m.lam L he).2 notMut_code)) (LamX.codeO_ne)⟩
theorem ExcR.ext {G : Cfg} {ρ ρ1 : Wd} {h : Mem} {H H1 : Hp} {x : Exn} {c : Value} {d : Option Addr} (m : MemR G ρ h H) (a : Ext ρ H ρ1 H1) (r : ExcR G ρ H x c d) : ExcR G ρ1 H1 x c d :=
  ⟨r.1, r.2.elim .inl fun ⟨da, fs, e1, e2, e3, e4⟩ => .inr ⟨da, fs, e1, a.keep da _ e2 (nr (m.notin e2 notMut_xd)) (fun _ z => nomatch z), e3, e4.ext m a⟩⟩
section
variable {G : Cfg} {ρ ρ1 ρ2 : Wd} {h : Mem} {H H1 H2 : Hp} {τ : Sl} {σ : L2.St}
theorem SlR.ext (m : MemR G ρ h H) (a : Ext ρ H ρ1 H1) (r : SlR G ρ H τ σ) : SlR G ρ1 H1 τ σ :=
  ⟨r.1, fun i v e => let ⟨u, q, z⟩ := r.2.1 i v e; ⟨u, q, z.ext m a⟩, r.2.2⟩
theorem fr_ne {i : Nat} {e : XI} (hf : G.fr i = true) (he : G.exi = some e) : i ≠ e.slot := fun z => by
  unfold Cfg.fr at hf
  rw [he] at hf
  subst z
  simp at hf
theorem fr_ne0 {i : Nat} {L : LI} (hf : G.fr i = true) (he : G.lam = some L) : i ≠ 0 := fun z => by
  unfold Cfg.fr at hf
  rw [he] at hf
  subst z
  simp at hf
theorem SlR.set (r : SlR G ρ H τ σ) (i : Nat) {x : CV} {v : V} (q : ValR G ρ H x v) (hf : G.fr i = true) : SlR G ρ H (τ.set i (some x)) (σ.set i (some v)) := by
  refine ⟨by simpa using r.1, fun j y e => ?_, fun e he => by rw [List.getElem?_set_ne (fr_ne hf he)]; exact r.2.2.1 e he, fun L he => by rw [List.getElem?_set_ne (fr_ne0 hf he)]; exact r.2.2.2 L he⟩
  by_cases hj : i = j
  · subst hj
    by_cases hl : i < τ.length
    · rw [List.getElem?_set_self hl] at e
      cases e
      exact ⟨v, by rw [List.getElem?_set_self (by rw [← r.1]; exact hl)], q⟩
    · rw [List.getElem?_eq_none (by simpa using hl)] at e; cases e
  · rw [List.getElem?_set_ne hj] at e
    obtain ⟨u, a, b⟩ := r.2.1 j y e
    exact ⟨u, by rw [List.getElem?_set_ne hj]; exact a, b⟩
theorem SlR.unset (r : SlR G ρ H τ σ) (i : Nat) (hf : G.fr i = true) : SlR G ρ H (τ.set i none) (σ.set i none) := by
  refine ⟨by simpa using r.1, fun j y e => ?_, fun e he => by rw [List.getElem?_set_ne (fr_ne hf he)]; exact r.2.2.1 e he, fun L he => by rw [List.getElem?_set_ne (fr_ne0 hf he)]; exact r.2.2.2 L he⟩
  by_cases hj : i = j
  · subst hj
    by_cases hl : i < τ.length
    · rw [List.getElem?_set_self hl] at e; cases e
    · rw [List.getElem?_eq_none (by simpa using hl)] at e; cases e
  · rw [List.getElem?_set_ne hj] at e
    obtain ⟨u, a, b⟩ := r.2.1 j y e
    exact ⟨u, by rw [List.getElem?_set_ne hj]; exact a, b⟩
end

section
variable (G : Cfg) (W : WX)
def Post {α β : Type} (R : Wd → Hp → α → β → Prop) (σ : L2.St) (ρ : Wd) (H : Hp) (o : Out α) (Q : β → Hp → Prop) : Prop :=
  match o with
  | .ok a h' => ∀ ρ' H' b, MemR G ρ' h' H' → Ext ρ H ρ' H' → R ρ' H' a b → Q b H'
  | .exc x h' => ∀ ρ' H' c d, MemR G ρ' h' H' → Ext ρ H ρ' H' → ExcR G ρ' H' x c d → W c d σ H'
  | .bad => False
def tM {α β : Type} (R : Wd → Hp → α → β → Prop) (m : Sl → M α) : L2.St → Hp → (β → Hp → Prop) → Prop :=
  fun σ H Q => ∃ ρ h τ, MemR G ρ h H ∧ SlR G ρ H τ σ ∧ Post G W R σ ρ H (m τ h) Q
abbrev tV (m : Sl → M CV) : TE := tM G W (ValR G) m
abbrev tBo (m : Sl → M Bool) : TT := tM G W (fun _ _ (a b : Bool) => a = b) m
abbrev tL (m : Sl → M (List CV)) : TA := tM G W (ValsR G) m
abbrev SE (X : Cx) (e : Expr) (m : Sl → M CV) : Prop := PE X e (tV G W m)
abbrev ST (X : Cx) (e : Expr) (m : Sl → M Bool) : Prop := PT X e (tBo G W m)
abbrev SW (X : Cx) (e : Expr) (m : Sl → M Bool) : Prop := PW X e (tBo G W m)
abbrev SA (X : Cx) (es : List Expr) (m : Sl → M (List CV)) : Prop := PA X es (tL G W m)
end
structure Bx (G : Cfg) (W : WX) (X : Cx) : Prop where
  k : G.K = X.K
  p : G.P = X.prog
  w : G.w = X.w
  tk : Takes X W

section
variable {G : Cfg} {W : WX} {ρ ρ1 : Wd} {h : Mem} {H H1 : Hp} {τ : Sl} {σ : L2.St} {α β γ δ : Type} {R : Wd → Hp → α → β → Prop} {S : Wd → Hp → γ → δ → Prop}
theorem Post.ext {o : Out α} {Q : β → Hp → Prop} (p : Post G W R σ ρ H o Q) (a : Ext ρ H ρ1 H1) : Post G W R σ ρ1 H1 o Q := by
  cases o with
  | ok x h' => exact fun ρ' H' b m e r => p ρ' H' b m (a.trans e) r
  | exc x h' => exact fun ρ' H' c d m e r => p ρ' H' c d m (a.trans e) r
  | bad => exact p
/-- the first of two -/
theorem tM_bind {ma : Sl → M α} {k : α → M γ} {Q : δ → Hp → Prop} {C : β → Hp → Prop} (m : MemR G ρ h H) (s : SlR G ρ H τ σ) (p : Post G W S σ ρ H (bnd (ma τ) k h) Q)
    (hC : ∀ a h1 ρ1 H1 b, MemR G ρ1 h1 H1 → Ext ρ H ρ1 H1 → SlR G ρ1 H1 τ σ → R ρ1 H1 a b → Post G W S σ ρ1 H1 (k a h1) Q → C b H1) : tM G W R ma σ H C := by
  refine ⟨ρ, h, τ, m, s, ?_⟩
  unfold bnd at p
  cases e : ma τ h with
  | ok a h1 =>
    rw [e] at p
    exact fun ρ1 H1 b m1 e1 r => hC a h1 ρ1 H1 b m1 e1 (s.ext m e1) r (Post.ext (G := G) (W := W) p e1)
  | exc x h1 => rw [e] at p; exact p
  | bad => rw [e] at p; exact p
theorem Post.fin {a : α} {b : β} {Q : β → Hp → Prop} (m : MemR G ρ h H) (p : Post G W R σ ρ H (ret a h) Q) (r : R ρ H a b) : Q b H := p ρ H b m Ext.refl r
end
theorem _root_.L2.PE.wk {X : Cx} {e : Expr} {t t' : TE} (h : PE X e t) (w : ∀ σ H Q, t' σ H Q → t σ H Q) : PE X e t' := ⟨fun pins s σ H Q I q => h.run pins s σ H Q I (w σ H Q q)⟩
theorem _root_.L2.PT.wk {X : Cx} {e : Expr} {t t' : TT} (h : PT X e t) (w : ∀ σ H Q, t' σ H Q → t σ H Q) : PT X e t' := ⟨fun pins s σ H Q I q => h.run pins s σ H Q I (w σ H Q q)⟩
theorem _root_.L2.PW.wk {X : Cx} {e : Expr} {t t' : TT} (h : PW X e t) (w : ∀ σ H Q, t' σ H Q → t σ H Q) : PW X e t' := ⟨fun wh pins s σ H Q I q => h.run wh pins s σ H Q I (w σ H Q q)⟩
theorem _root_.L2.PA.wk {X : Cx} {es : List Expr} {t t' : TA} (h : PA X es t) (w : ∀ σ H Q, t' σ H Q → t σ H Q) : PA X es t' := ⟨fun p pins s σ H Q I q => h.run p pins s σ H Q I (w σ H Q q)⟩
theorem _root_.L2.PS.wk {X : Cx} {e : Stmt} {t t' : TS} (h : PS X e t) (w : ∀ D σ H, t' D σ H → t D σ H) : PS X e t' := ⟨fun pins s σ H D I q => h.run pins s σ H D I (w D σ H q)⟩
theorem _root_.L2.PSs.wk {X : Cx} {e : List Stmt} {t t' : TS} (h : PSs X e t) (w : ∀ D σ H, t' D σ H → t D σ H) : PSs X e t' := ⟨fun pins s σ H D I q => h.run pins s σ H D I (w D σ H q)⟩

def eVar (i : Nat) : Sl → M CV := fun τ h => Option.rec .bad (fun o => Option.rec .bad (fun v => .ok v h) o) (sget τ i)
def eC (v : CV) : Sl → M CV := fun _ => ret v
def eOp (g : CV → CV → M CV) (a b : Sl → M CV) : Sl → M CV := fun τ => bnd (a τ) fun x => bnd (b τ) fun y => g x y
def eUn (g : CV → M CV) (a : Sl → M CV) : Sl → M CV := fun τ => bnd (a τ) g
def eNilA : Sl → M (List CV) := fun _ => ret []
def eConsA (a : Sl → M CV) (r : Sl → M (List CV)) : Sl → M (List CV) := fun τ => bnd (a τ) fun x => bnd (r τ) fun xs => ret (x :: xs)
def eApp (g : List CV → M CV) (a : Sl → M (List CV)) : Sl → M CV := fun τ => bnd (a τ) g
/-- a two-place rule, by plain values -/
def Op2 (G : Cfg) (r : R2) (g : CV → CV → M CV) : Prop :=
  ∀ (W : WX) (σ : L2.St) (ρ : Wd) (h : Mem) (H : Hp) (x y : CV) (u v : V) (Q : VK), MemR G ρ h H → ValR G ρ H x u → ValR G ρ H y v → Post G W (ValR G) σ ρ H (g x y h) Q → r u v H Q
def Op1 (G : Cfg) (r : V → Hp → VK → Prop) (g : CV → M CV) : Prop :=
  ∀ (W : WX) (σ : L2.St) (ρ : Wd) (h : Mem) (H : Hp) (x : CV) (u : V) (Q : VK), MemR G ρ h H → ValR G ρ H x u → Post G W (ValR G) σ ρ H (g x h) Q → r u H Q
def OpL (G : Cfg) (r : List V → Hp → VK → Prop) (g : List CV → M CV) : Prop :=
  ∀ (W : WX) (σ : L2.St) (ρ : Wd) (h : Mem) (H : Hp) (xs : List CV) (us : List V) (Q : VK), MemR G ρ h H → ValsR G ρ H xs us → Post G W (ValR G) σ ρ H (g xs h) Q → r us H Q

section
variable {G : Cfg} {W : WX} {X : Cx} {pos : Pos}
theorem se_var (i : Nat) {x : Str} (hN : X.N[i]? = some x := by rfl) (hv : Vis X.env.scope x := by first | exact Or.inl rfl | exact Or.inr (Or.inl rfl) | exact Or.inr (Or.inr rfl)) (hd : (x == ("__debug__" : Str)) = false := by decide)
    (hcd : (x == ("__classdict__" : Str)) = false := by decide) : SE G W X (.Name x pos) (eVar i) :=
  (pe_var hN hv hd hcd).wk fun σ H Q ⟨ρ, h, τ, m, s, p⟩ => by
    unfold eVar at p
    rw [sget_eq] at p
    cases e : τ[i]? with
    | none => rw [e] at p; exact p.elim
    | some o =>
      rw [e] at p
      cases o with
      | none => exact p.elim
      | some v =>
        obtain ⟨u, q, r⟩ := s.2.1 i v e
        exact ⟨u, q, p ρ H u m Ext.refl r⟩
theorem se_const {e : Expr} {v : V} {x : CV} (he : PE X e (tC v)) (r : ∀ ρ H, ValR G ρ H x v) : SE G W X e (eC x) :=
  he.wk fun σ H Q ⟨ρ, h, τ, m, s, p⟩ => p ρ H v m Ext.refl (r ρ H)
theorem se_int {i : Int} {j pos} : SE G W X (.Constant (.int i) j pos) (eC (.int i)) := se_const pe_int fun _ _ => rfl
theorem se_bl {b : Bool} {j pos} : SE G W X (.Constant (.bool b) j pos) (eC (.bl b)) := se_const pe_bl fun _ _ => rfl
theorem se_non {j pos} : SE G W X (.Constant .none j pos) (eC .non) := se_const pe_non fun _ _ => rfl
theorem se_str {x : Str} {j pos} : SE G W X (.Constant (.str x) j pos) (eC (.str x)) := se_const pe_str fun _ _ => rfl
variable {a b c : Expr} {ma mb mc : Sl → M CV} {es : List Expr} {ml : Sl → M (List CV)}
theorem se_op {op : Operator} {r : R2} {g : CV → CV → M CV} (ho : OpR X (binaryOp op) r) (hg : Op2 G r g) (ha : SE G W X a ma) (hb : SE G W X b mb) : SE G W X (.BinOp a op b pos) (eOp g ma mb) :=
  (pe_op ho ha hb).wk fun σ H Q ⟨ρ, h, τ, m, s, p⟩ => tM_bind m s p fun x h1 ρ1 H1 u m1 e1 s1 r1 p1 => tM_bind m1 s1 p1 fun y h2 ρ2 H2 v m2 e2 s2 r2 p2 => hg W σ ρ2 h2 H2 x y u v Q m2 (r1.ext m1 e2) r2 p2
theorem se_un {op : UnaryOp} {r : V → Hp → VK → Prop} {g : CV → M CV} (ho : UnR X (unaryOp op) r) (hg : Op1 G r g) (ha : SE G W X a ma) : SE G W X (.UnaryOp op a pos) (eUn g ma) :=
  (pe_un ho ha).wk fun σ H Q ⟨ρ, h, τ, m, s, p⟩ => tM_bind m s p fun x h1 ρ1 H1 u m1 e1 s1 r1 p1 => hg W σ ρ1 h1 H1 x u Q m1 r1 p1
theorem se_cmp {op : CmpOp} {r : R2} {g : CV → CV → M CV} (ho : OpR X (compareOp op) r) (hg : Op2 G r g) (ha : SE G W X a ma) (hb : SE G W X b mb) (hm : behindInMarks op b = false := by first | exact nomark _ | rfl) : SE G W X (.Compare a [op] [b] pos) (eOp g ma mb) :=
  (pe_cmpR ho ha hb hm).wk fun σ H Q ⟨ρ, h, τ, m, s, p⟩ => tM_bind m s p fun x h1 ρ1 H1 u m1 e1 s1 r1 p1 => tM_bind m1 s1 p1 fun y h2 ρ2 H2 v m2 e2 s2 r2 p2 => hg W σ ρ2 h2 H2 x y u v Q m2 (r1.ext m1 e2) r2 p2
theorem sa_nil : SA G W X [] eNilA := pa_nil.wk fun σ H Q ⟨ρ, h, τ, m, s, p⟩ => p ρ H [] m Ext.refl rfl
theorem sa_cons (ha : SE G W X a ma) (hr : SA G W X es ml) (hs : starEach (a :: es) X.env = (false, eval a X.env) :: starEach es X.env := by rfl) : SA G W X (a :: es) (eConsA ma ml) :=
  (pa_cons ha hr hs).wk fun σ H Q ⟨ρ, h, τ, m, s, p⟩ => tM_bind m s p fun x h1 ρ1 H1 u m1 e1 s1 r1 p1 => tM_bind m1 s1 p1 fun y h2 ρ2 H2 v m2 e2 s2 r2 p2 => p2 ρ2 H2 (u :: v) m2 Ext.refl ⟨u, v, rfl, r1.ext m1 e2, r2⟩
end
end VE

noncomputable section
namespace VE
open PySem PySem.Spec PyProof.Rows L2

inductive Fl where
  | nx (τ : Sl) | rt (v : CV) | bk (τ : Sl) | ct (τ : Sl) | ex (x : Exn) (τ : Sl)
inductive OS where
  | mk (f : Fl) (h : Mem) | bad
abbrev MS := Sl → Mem → OS
/-- an expression within a statement -/
def inS {α : Type} (m : M α) (τ : Sl) (k : α → Mem → OS) : Mem → OS := fun h => Out.rec (fun a h' => k a h') (fun x h' => .mk (.ex x τ) h') .bad (m h)
section
variable (G : Cfg) (W : WX)
def PostS (ρ : Wd) (H : Hp) (o : OS) (D : Ends) : Prop :=
  match o with
  | .mk (.nx τ) h' => ∀ ρ' H' σ', MemR G ρ' h' H' → Ext ρ H ρ' H' → SlR G ρ' H' τ σ' → D.nx σ' H'
  | .mk (.bk τ) h' => ∀ ρ' H' σ', MemR G ρ' h' H' → Ext ρ H ρ' H' → SlR G ρ' H' τ σ' → D.bk σ' H'
  | .mk (.ct τ) h' => ∀ ρ' H' σ', MemR G ρ' h' H' → Ext ρ H ρ' H' → SlR G ρ' H' τ σ' → D.ct σ' H'
  | .mk (.rt v) h' => ∀ ρ' H' u, MemR G ρ' h' H' → Ext ρ H ρ' H' → ValR G ρ' H' v u → D.rt u H'
  | .mk (.ex x τ) h' => ∀ ρ' H' c d σ', MemR G ρ' h' H' → Ext ρ H ρ' H' → SlR G ρ' H' τ σ' → ExcR G ρ' H' x c d → W c d σ' H'
  | .bad => False
def tS (m : MS) : TS := fun D σ H => ∃ ρ h τ, MemR G ρ h H ∧ SlR G ρ H τ σ ∧ PostS G W ρ H (m τ h) D
abbrev SS (X : Cx) (st : Stmt) (m : MS) : Prop := PS X st (tS G W m)
abbrev SSs (X : Cx) (st : List Stmt) (m : MS) : Prop := PSs X st (tS G W m)
def tGt (g : CV → Sl → M Sl) : TG := fun v σ H Q => ∃ ρ h τ x, MemR G ρ h H ∧ SlR G ρ H τ σ ∧ ValR G ρ H x v ∧ match g x τ h with
  | .ok τ' h' => ∀ ρ' H' σ', MemR G ρ' h' H' → Ext ρ H ρ' H' → SlR G ρ' H' τ' σ' → Q σ' H'
  | _ => False
def tGts (g : List CV → Sl → M Sl) : TGs := fun vs σ H Q => ∃ ρ h τ xs, MemR G ρ h H ∧ SlR G ρ H τ σ ∧ ValsR G ρ H xs vs ∧ match g xs τ h with
  | .ok τ' h' => ∀ ρ' H' σ', MemR G ρ' h' H' → Ext ρ H ρ' H' → SlR G ρ' H' τ' σ' → Q σ' H'
  | _ => False
abbrev SG (X : Cx) (tg : Expr) (g : CV → Sl → M Sl) : Prop := PG X tg (tGt G g)
abbrev SGs (X : Cx) (tg : List Expr) (g : List CV → Sl → M Sl) : Prop := PGs X tg (tGts G g)
end
theorem _root_.L2.PG.wk {X : Cx} {e : Expr} {t t' : TG} (h : PG X e t) (w : ∀ v σ H Q, t' v σ H Q → t v σ H Q) : PG X e t' := ⟨fun pins s σ H v u Q I r q => h.run pins s σ H v u Q I r (w v σ H Q q)⟩
theorem _root_.L2.PGs.wk {X : Cx} {e : List Expr} {t t' : TGs} (h : PGs X e t) (w : ∀ v σ H Q, t' v σ H Q → t v σ H Q) : PGs X e t' := ⟨fun pins s σ H v u Q I r q => h.run pins s σ H v u Q I r (w v σ H Q q)⟩
theorem _root_.L2.PI.wk {X : Cx} {tg e : Expr} {t t' : TI} (h : PI X tg e t) (w : ∀ σ H R, t' σ H R → t σ H R) : PI X tg e t' := ⟨fun pins s σ H R I q => h.run pins s σ H R I (w σ H R q)⟩

section
variable {G : Cfg} {W : WX} {ρ ρ1 : Wd} {h : Mem} {H H1 : Hp} {τ : Sl} {σ : L2.St} {α β : Type} {R : Wd → Hp → α → β → Prop} {D : Ends}
theorem PostS.ext {o : OS} (p : PostS G W ρ H o D) (a : Ext ρ H ρ1 H1) : PostS G W ρ1 H1 o D := by
  cases o with
  | mk f h' =>
    cases f with
    | nx τ => exact fun ρ' H' σ' m e r => p ρ' H' σ' m (a.trans e) r
    | bk τ => exact fun ρ' H' σ' m e r => p ρ' H' σ' m (a.trans e) r
    | ct τ => exact fun ρ' H' σ' m e r => p ρ' H' σ' m (a.trans e) r
    | rt v => exact fun ρ' H' σ' m e r => p ρ' H' σ' m (a.trans e) r
    | ex x τ => exact fun ρ' H' c d σ' m e r z => p ρ' H' c d σ' m (a.trans e) r z
  | bad => exact p
theorem tM_inS {ma : Sl → M α} {k : α → Mem → OS} {C : β → Hp → Prop} (m : MemR G ρ h H) (s : SlR G ρ H τ σ) (p : PostS G W ρ H (inS (ma τ) τ k h) D)
    (hC : ∀ a h1 ρ1 H1 b, MemR G ρ1 h1 H1 → Ext ρ H ρ1 H1 → SlR G ρ1 H1 τ σ → R ρ1 H1 a b → PostS G W ρ1 H1 (k a h1) D → C b H1) : tM G W R ma σ H C := by
  refine ⟨ρ, h, τ, m, s, ?_⟩
  unfold inS at p
  cases e : ma τ h with
  | ok a h1 =>
    rw [e] at p
    exact fun ρ1 H1 b m1 e1 r => hC a h1 ρ1 H1 b m1 e1 (s.ext m e1) r (PostS.ext (G := G) (W := W) p e1)
  | exc x h1 =>
    rw [e] at p
    exact fun ρ1 H1 c d m1 e1 r => p ρ1 H1 c d σ m1 e1 (s.ext m e1) r
  | bad => rw [e] at p; exact p
theorem PostS.nx' (m : MemR G ρ h H) (s : SlR G ρ H τ σ) (p : PostS G W ρ H (.mk (.nx τ) h) D) : D.nx σ H := p ρ H σ m Ext.refl s
end

def mNil : MS := fun τ h => .mk (.nx τ) h
def mSeq (a b : MS) : MS := fun τ h => OS.rec (fun f h' => Fl.rec (fun τ' => b τ' h') (fun v => .mk (.rt v) h') (fun τ' => .mk (.bk τ') h') (fun τ' => .mk (.ct τ') h') (fun x τ' => .mk (.ex x τ') h') f) .bad (a τ h)
def mAsg (g : CV → Sl → M Sl) (e : Sl → M CV) : MS := fun τ => inS (e τ) τ fun x h => Out.rec (fun τ' h' => .mk (.nx τ') h') (fun _ _ => .bad) .bad (g x τ h)
def gSet (i : Nat) : CV → Sl → M Sl := fun x τ h => frV 3 x fun x => sset τ i (some x) fun τ => .ok τ h
theorem gSet_eq {i : Nat} {x : CV} {τ : Sl} {h : Mem} : gSet i x τ h = .ok (τ.set i (some x)) h := by
  unfold gSet
  rw [frV_eq, sset_eq]
def gNilT : List CV → Sl → M Sl := fun xs τ => match xs with
  | [] => ret τ
  | _ => stuck
def gConsT (g : CV → Sl → M Sl) (r : List CV → Sl → M Sl) : List CV → Sl → M Sl := fun xs τ => match xs with
  | x :: xs => bnd (g x τ) (r xs)
  | _ => stuck
def gUnp (n : Nat) (g : List CV → Sl → M Sl) : CV → Sl → M Sl := fun x τ => match x with
  | .tup xs => if xs.length = n then g xs τ else stuck
  | _ => stuck
def mIf (c : Sl → M Bool) (a b : MS) : MS := fun τ => inS (c τ) τ fun k h => Bool.rec (b τ h) (a τ h) k
def mRet (e : Sl → M CV) : MS := fun τ => inS (e τ) τ fun x h => .mk (.rt x) h
def mRetN : MS := fun τ h => .mk (.rt .non) h
def mExpr (e : Sl → M CV) : MS := fun τ => inS (e τ) τ fun _ h => .mk (.nx τ) h
def mBreak : MS := fun τ h => .mk (.bk τ) h
def mCont : MS := fun τ h => .mk (.ct τ) h
def mAug (i : Nat) (g : CV → CV → M CV) (e : Sl → M CV) : MS := fun τ h => Option.rec .bad (fun o => Option.rec .bad (fun x =>
    inS (e τ) τ (fun y h1 => Out.rec (fun z h2 => frV 3 z fun z => sset τ i (some z) fun τ => .mk (.nx τ) h2) (fun _ _ => .bad) .bad (g x y h1)) h) o) (sget τ i)
/-- behind a loop's turn: go on, or leave -/
def turn (go : Sl → Mem → OS) (o : OS) : OS := OS.rec (fun f h' => Fl.rec (fun τ' => go τ' h') (fun v => .mk (.rt v) h') (fun τ' => .mk (.nx τ') h') (fun τ' => go τ' h') (fun x τ' => .mk (.ex x τ') h') f) .bad o
def mWhile (c : Sl → M Bool) (b : MS) (n : Nat) : MS := Nat.rec (fun _ _ => .bad) (fun _ ih τ => inS (c τ) τ fun k h => Bool.rec (.mk (.nx τ) h) (turn ih (b τ h)) k) n
def mForL (g : CV → Sl → M Sl) (b : MS) (xs : List CV) : MS := List.rec (fun τ h => .mk (.nx τ) h) (fun x _ ih τ h => Out.rec (fun τ1 h1 => turn ih (b τ1 h1)) (fun _ _ => .bad) .bad (g x τ h)) xs
theorem mWhile_succ (c : Sl → M Bool) (b : MS) (n : Nat) : mWhile c b (n + 1) = fun τ => inS (c τ) τ fun k h => Bool.rec (.mk (.nx τ) h) (turn (mWhile c b n) (b τ h)) k := rfl
theorem mForL_cons (g : CV → Sl → M Sl) (b : MS) (x : CV) (xs : List CV) : mForL g b (x :: xs) = fun τ h => Out.rec (fun τ1 h1 => turn (mForL g b xs) (b τ1 h1)) (fun _ _ => .bad) .bad (g x τ h) := rfl
def mFor (it : Sl → M (List CV)) (g : CV → Sl → M Sl) (b : MS) : MS := fun τ => inS (it τ) τ fun xs h => mForL g b xs τ h

section
variable {G : Cfg} {W : WX} {X : Cx} {pos : Pos} {st : Stmt} {rest : List Stmt} {ma mb : MS} {e : Expr} {me : Sl → M CV} {mc : Sl → M Bool}
theorem sss_nil : SSs G W X [] mNil := pss_nil.wk fun D σ H ⟨ρ, h, τ, m, s, p⟩ => p.nx' m s
theorem sss_cons (h1 : SS G W X st ma) (h2 : SSs G W X rest mb) : SSs G W X (st :: rest) (mSeq ma mb) :=
  (pss_cons h1 h2).wk fun D σ H ⟨ρ, h, τ, m, s, p⟩ => by
    refine ⟨ρ, h, τ, m, s, ?_⟩
    unfold mSeq at p
    cases q : ma τ h with
    | mk f h' =>
      rw [q] at p
      cases f with
      | nx τ' => exact fun ρ1 H1 σ1 m1 e1 s1 => ⟨ρ1, h', τ', m1, s1, PostS.ext (G := G) (W := W) p e1⟩
      | bk τ' => exact p
      | ct τ' => exact p
      | rt v => exact p
      | ex x τ' => exact p
    | bad => rw [q] at p; exact p
theorem sss_one (h1 : SS G W X st ma) : SSs G W X [st] ma := pss_one h1
theorem sg_set {i : Nat} {x : Str} (hN : X.N.Nodup) (hi : X.N[i]? = some x) (hx : Loc X.env.scope x) (hf : X.fn x = true ∨ X.env.scope.names.lookup x = some .local := by first | exact .inl rfl | exact .inr rfl | assumption) (hfr : G.fr i = true := by rfl) : SG G X (.Name x pos) (gSet i) :=
  (pg_name hN hi hx hf).wk fun v σ H Q ⟨ρ, h, τ, x, m, s, r, p⟩ => by
    rw [gSet_eq] at p
    exact p ρ H _ m Ext.refl (s.set i r hfr)
theorem sgs_nil : SGs G X [] gNilT := pgs_nil.wk fun vs σ H Q ⟨ρ, h, τ, xs, m, s, r, p⟩ => by
  cases xs with
  | nil => exact ⟨r, p ρ H σ m Ext.refl s⟩
  | cons x xs => exact p.elim
theorem sgs_cons {t : Expr} {ts : List Expr} {g : CV → Sl → M Sl} {gr : List CV → Sl → M Sl} (h1 : SG G X t g) (h2 : SGs G X ts gr)
    (hs : (assignEach (t :: ts) X.env).map (·.2) = assign t X.env :: (assignEach ts X.env).map (·.2) := by rfl) : SGs G X (t :: ts) (gConsT g gr) :=
  (pgs_cons h1 h2 hs).wk fun vs σ H Q ⟨ρ, h, τ, xs, m, s, r, p⟩ => by
    cases xs with
    | nil => exact p.elim
    | cons x xs =>
      obtain ⟨v, vr, e, r1, r2⟩ := r
      refine ⟨v, vr, e, ρ, h, τ, x, m, s, r1, ?_⟩
      simp only [gConsT, bnd] at p
      cases q : g x τ h with
      | ok τ' h' =>
        rw [q] at p
        intro ρ1 H1 σ1 m1 e1 s1
        refine ⟨ρ1, h', τ', xs, m1, s1, ValsR.ext m e1 r2, ?_⟩
        simp only at p
        cases q2 : gr xs τ' h' with
        | ok τ2 h2 => rw [q2] at p; exact fun ρ2 H2 σ2 m2 e2 s2 => p ρ2 H2 σ2 m2 (e1.trans e2) s2
        | exc x2 h2 => rw [q2] at p; exact p
        | bad => rw [q2] at p; exact p
      | exc x2 h2 => rw [q] at p; exact p
      | bad => rw [q] at p; exact p
theorem sg_unp {es : List Expr} {k n : Nat} {g : List CV → Sl → M Sl} (hK : G.K = X.K) (hc : X.calm = true) (hg : SGs G X es g) (hn : (assignEach es X.env).length = n := by rfl) (hst : (assignEach es X.env).findIdx? (·.1) = none := by rfl) :
    SG G X (.Tuple es k pos) (gUnp n g) :=
  (pg_tup hc hg hn hst).wk fun v σ H Q ⟨ρ, h, τ, x, m, s, r, p⟩ => by
    cases x with
    | tup xs =>
      obtain ⟨a, ys, e, q, z⟩ := r
      simp only [gUnp] at p
      by_cases hl : xs.length = n
      · rw [if_pos hl] at p
        refine ⟨a, ys, e, hK ▸ q, ?_, ρ, h, τ, xs, m, s, z, p⟩
        have len : ∀ {xs : List CV} {ys : List V}, ValsR G ρ H xs ys → xs.length = ys.length := by
          intro xs
          induction xs with
          | nil => intro ys r; rw [show ys = [] from r]; rfl
          | cons x xs ih => intro ys r; obtain ⟨y, r', e, _, r2⟩ := r; rw [e, List.length_cons, List.length_cons, ih r2]
        rw [← len z, hl]
      · rw [if_neg hl] at p; exact p.elim
    | _ => exact p.elim
theorem ss_asg {tg : Expr} {g : CV → Sl → M Sl} (hg : SG G X tg g) (he : SE G W X e me) (hs : swapsWithSole [tg] e pos.line X.env = pure false := by rfl) (hw : swappedStores [tg] e X.env = pure none := by rfl)
    (h1 : (assignEach [tg] X.env).map (·.2) = [assign tg X.env] := by rfl) : SS G W X (.Assign [tg] e pos) (mAsg g me) :=
  (ps_asg he hg hs hw h1).wk fun D σ H ⟨ρ, h, τ, m, s, p⟩ => tM_inS m s p fun x h1 ρ1 H1 u m1 e1 s1 r1 p1 => by
    refine ⟨ρ1, h1, τ, x, m1, s1, r1, ?_⟩
    cases q : g x τ h1 with
    | ok τ' h' => rw [q] at p1; exact p1
    | exc x h' => rw [q] at p1; exact p1
    | bad => rw [q] at p1; exact p1
theorem ss_if {c : Expr} {a b : List Stmt} (hc : ST G W X c mc) (ha : SSs G W X a ma) (hb : SSs G W X b mb) : SS G W X (.If c a b pos) (mIf mc ma mb) :=
  (ps_if hc ha hb).wk fun D σ H ⟨ρ, h, τ, m, s, p⟩ => tM_inS m s p fun k h1 ρ1 H1 u m1 e1 s1 r1 p1 => by
    subst r1
    cases k with
    | true => exact (if_pos rfl) ▸ ⟨ρ1, h1, τ, m1, s1, p1⟩
    | false => exact (if_neg Bool.false_ne_true) ▸ ⟨ρ1, h1, τ, m1, s1, p1⟩
theorem ss_ret (he : SE G W X e me) : SS G W X (.Return (some e) pos) (mRet me) :=
  (ps_ret he).wk fun D σ H ⟨ρ, h, τ, m, s, p⟩ => tM_inS m s p fun x h1 ρ1 H1 u m1 e1 s1 r1 p1 => p1 ρ1 H1 u m1 Ext.refl r1
theorem ss_retN : SS G W X (.Return none pos) mRetN := ps_retN.wk fun D σ H ⟨ρ, h, τ, m, s, p⟩ => p ρ H .non m Ext.refl rfl
theorem ss_expr (he : SE G W X e me) (hs : swapsWith e none pos.line X.env = pure false := by rfl) : SS G W X (.Expr e pos) (mExpr me) :=
  (ps_expr he hs).wk fun D σ H ⟨ρ, h, τ, m, s, p⟩ => tM_inS m s p fun x h1 ρ1 H1 u m1 e1 s1 r1 p1 => p1 ρ1 H1 σ m1 Ext.refl s1
theorem ss_break : SS G W X (.Break pos) mBreak := ps_break.wk fun D σ H ⟨ρ, h, τ, m, s, p⟩ => p ρ H σ m Ext.refl s
theorem ss_cont : SS G W X (.Continue pos) mCont := ps_continue.wk fun D σ H ⟨ρ, h, τ, m, s, p⟩ => p ρ H σ m Ext.refl s
theorem ss_pass : SS G W X (.Pass pos) mNil := ps_pass.wk fun D σ H ⟨ρ, h, τ, m, s, p⟩ => p.nx' m s
theorem ss_aug {i : Nat} {x : Str} {op : Operator} {ti : TIp} {g : CV → CV → M CV} {pos' : Pos} (ho : PIp X op ti) (hg : Op2 G ti g) (hN : X.N.Nodup) (hi : X.N[i]? = some x) (hx : Loc X.env.scope x) (he : SE G W X e me)
    (hf : X.fn x = true ∨ X.env.scope.names.lookup x = some .local := by first | exact .inl rfl | exact .inr rfl | assumption) (hfr : G.fr i = true := by rfl) : SS G W X (.AugAssign (.Name x pos') op e pos) (mAug i g me) :=
  (ps_aug hN hi hx he ho hf).wk fun D σ H ⟨ρ, h, τ, m, s, p⟩ => by
    unfold mAug at p
    rw [sget_eq] at p
    cases hv : τ[i]? with
    | none => rw [hv] at p; exact p.elim
    | some o =>
      rw [hv] at p
      cases o with
      | none => exact p.elim
      | some v =>
        obtain ⟨u, q, r⟩ := s.2.1 i v hv
        refine ⟨u, q, tM_inS m s p fun y h1 ρ1 H1 w m1 e1 s1 r1 p1 => ?_⟩
        refine hg (fun _ _ _ _ => True) σ ρ1 h1 H1 v y u w _ m1 (r.ext m e1) r1 ?_
        cases z : g v y h1 with
        | ok a h2 =>
          rw [z] at p1
          simp only [frV_eq, sset_eq] at p1
          exact fun ρ2 H2 b m2 e2 r2 => p1 ρ2 H2 _ m2 e2 ((s1.ext m1 e2).set i r2 hfr)
        | exc x h2 => rw [z] at p1; exact p1.elim
        | bad => rw [z] at p1; exact p1.elim
theorem ss_while {c : Expr} {body : List Stmt} (n : Nat) (hp : PassesOwn (model X.prog X.w) X.A X.env X.xe) (hc : ST G W X c mc) (hb : SSs G W X body mb) : SS G W X (.While c body [] pos) (mWhile mc mb n) :=
  (ps_while hp hc hb).wk fun D σ H ⟨ρ, h, τ, m, s, p⟩ => by
    refine ⟨fun n σ H => ∃ ρ h τ, MemR G ρ h H ∧ SlR G ρ H τ σ ∧ PostS G W ρ H (mWhile mc mb n τ h) D, ⟨n, ρ, h, τ, m, s, p⟩, ?_⟩
    rintro n σ H ⟨ρ, h, τ, m, s, p⟩
    cases n with
    | zero => exact p.elim
    | succ n =>
      rw [mWhile_succ] at p
      refine tM_inS m s p fun k h1 ρ1 H1 u m1 e1 s1 r1 p1 => ?_
      subst r1
      cases k with
      | false =>
        rw [if_neg Bool.false_ne_true]
        exact p1.nx' m1 s1
      | true =>
        rw [if_pos rfl]
        refine ⟨_, fun σ' H' q => ⟨n, Nat.lt_succ_self n, q⟩, ρ1, h1, τ, m1, s1, ?_⟩
        have p1 : PostS G W ρ1 H1 (turn (mWhile mc mb n) (mb τ h1)) D := p1
        cases q : mb τ h1 with
        | mk f h' =>
          rw [q] at p1
          cases f with
          | nx τ' => exact fun ρ2 H2 σ2 m2 e2 s2 => ⟨ρ2, h', τ', m2, s2, PostS.ext (G := G) (W := W) p1 e2⟩
          | ct τ' => exact fun ρ2 H2 σ2 m2 e2 s2 => ⟨ρ2, h', τ', m2, s2, PostS.ext (G := G) (W := W) p1 e2⟩
          | bk τ' => exact p1
          | rt v => exact p1
          | ex x τ' => exact p1
        | bad => rw [q] at p1; exact p1
def ItR (G : Cfg) (ρ0 : Wd) (H0 : Hp) (J : It) (xs : List CV) : Prop :=
  ∀ ρ h H, MemR G ρ h H → ExtH ρ0 H0 ρ H → (∀ i, i < xs.length → J.go i H) ∧ J.stop xs.length H ∧ ∀ (i : Nat) (x : CV) (u : V) (H' : Hp), xs[i]? = some x → J.yld i H u H' → MemR G ρ h H' ∧ Ext ρ H ρ H' ∧ ValR G ρ H' x u
def tIt (G : Cfg) (W : WX) (it : Sl → M (List CV)) : TI := fun σ H R => tM G W (fun ρ H (xs : List CV) (J : It) => ItR G ρ H J xs) it σ H R
abbrev SI (G : Cfg) (W : WX) (X : Cx) (tg e : Expr) (it : Sl → M (List CV)) : Prop := PI X tg e (tIt G W it)
theorem ss_for {tg : Expr} {body : List Stmt} {it : Sl → M (List CV)} {g : CV → Sl → M Sl} (hp : PassesOwn (model X.prog X.w) X.A X.env X.xe) (hc : X.calm = true) (hi : SI G W X tg e it) (hg : SG G X tg g) (hb : SSs G W X body mb)
    (hs : ∀ x, foldedSetIterable e X.env x = pure x := by intro _; rfl) : SS G W X (.For tg e body [] pos) (mFor it g mb) :=
  (ps_for hp hc hi hg hb hs).wk fun D σ H ⟨ρ, h, τ, m, s, p⟩ => by
    refine tM_inS m s p fun xs h1 ρ1 H1 J m1 e1 s1 r1 p1 => ?_
    refine ⟨fun i n σ H => i + n = xs.length ∧ ∃ ρ h τ, MemR G ρ h H ∧ Ext ρ1 H1 ρ H ∧ SlR G ρ H τ σ ∧ PostS G W ρ H (mForL g mb (xs.drop i) τ h) D, ⟨xs.length, Nat.zero_add _, ρ1, h1, τ, m1, Ext.refl, s1, p1⟩, ?_⟩
    rintro i n σ H ⟨hi, ρ, h, τ, m, ex, s, p⟩
    obtain ⟨go, stop, yld⟩ := r1 ρ h H m ex.toH
    cases n with
    | zero =>
      have e : i = xs.length := by omega
      subst e
      rw [List.drop_length] at p
      exact .inl ⟨stop, p.nx' m s⟩
    | succ n =>
      have hlt : i < xs.length := by omega
      refine .inr ⟨go i hlt, _, fun σ' H' q => ⟨n, Nat.lt_succ_self n, q⟩, fun u H' y => ?_⟩
      obtain ⟨m', e', r'⟩ := yld i xs[i] u H' (by simp [hlt]) y
      rw [List.drop_eq_getElem_cons hlt] at p
      refine ⟨ρ, h, τ, xs[i], m', s.ext m e', r', ?_⟩
      rw [mForL_cons] at p
      cases q : g xs[i] τ h with
      | ok τ1 h2 =>
        simp only [q] at p
        intro ρ2 H2 σ2 m2 e2 s2
        refine ⟨ρ2, h2, τ1, m2, s2, ?_⟩
        have p : PostS G W ρ H (turn (mForL g mb (xs.drop (i + 1))) (mb τ1 h2)) D := p
        cases q2 : mb τ1 h2 with
        | mk f h3 =>
          rw [q2] at p
          cases f with
          | nx τ' => exact fun ρ3 H3 σ3 m3 e3 s3 => ⟨by omega, ρ3, h3, τ', m3, ex.trans (e'.trans (e2.trans e3)), s3, PostS.ext (G := G) (W := W) p (e'.trans (e2.trans e3))⟩
          | ct τ' => exact fun ρ3 H3 σ3 m3 e3 s3 => ⟨by omega, ρ3, h3, τ', m3, ex.trans (e'.trans (e2.trans e3)), s3, PostS.ext (G := G) (W := W) p (e'.trans (e2.trans e3))⟩
          | bk τ' => exact fun ρ3 H3 σ3 m3 e3 s3 => p ρ3 H3 σ3 m3 (e'.trans (e2.trans e3)) s3
          | rt v => exact fun ρ3 H3 σ3 m3 e3 s3 => p ρ3 H3 σ3 m3 (e'.trans (e2.trans e3)) s3
          | ex x τ' => exact fun ρ3 H3 c d σ3 m3 e3 s3 z => p ρ3 H3 c d σ3 m3 (e'.trans (e2.trans e3)) s3 z
        | bad => rw [q2] at p; exact p
      | exc x h2 => simp only [q] at p; exact p
      | bad => simp only [q] at p; exact p
end
end VE

noncomputable section
namespace VE
open PySem PySem.Spec PyProof.Rows L2

/-- the slots at the entry -/
def startC (nl : Nat) (xs : List CV) : Sl := xs.map some ++ List.replicate (nl - xs.length) none
def endB (o : OS) : Out CV := OS.rec (fun f h' => Fl.rec (fun _ => .ok .non h') (fun v => .ok v h') (fun _ => .bad) (fun _ => .bad) (fun x _ => .exc x h') f) .bad o
def runB (np nl : Nat) (b : MS) (xs : List CV) : M CV := fun h =>
  if xs.length = np then frLs (frV 3) xs fun xs => sapp (xs.map some) (List.replicate (nl - xs.length) none) fun τ => endB (b τ h) else .bad
theorem runB_eq {np nl : Nat} {b : MS} {xs : List CV} {h : Mem} : runB np nl b xs h = if xs.length = np then endB (b (startC nl xs) h) else .bad := by
  unfold runB startC
  rw [frLs_eq (frV_eq 3), sapp_eq]
def spH (G : Cfg) (np : Nat) (F : List CV → M CV) : Sp := fun vs H Q E => vs.length = np ∧ ∃ ρ h xs, MemR G ρ h H ∧ ValsR G ρ H xs vs ∧ Post G (fun c d _ H' => E c d H') (ValR G) [] ρ H (F xs h) Q
theorem ValsR.len {G : Cfg} {ρ : Wd} {H : Hp} : ∀ {xs : List CV} {ys : List V}, ValsR G ρ H xs ys → xs.length = ys.length
  | [], _, r => by rw [show _ = [] from r]; rfl
  | x :: xs, _, ⟨y, r', e, _, r2⟩ => by rw [e, List.length_cons, List.length_cons, r2.len]
theorem ValsR.get {G : Cfg} {ρ : Wd} {H : Hp} : ∀ {xs : List CV} {ys : List V} {i : Nat} {x : CV}, ValsR G ρ H xs ys → xs[i]? = some x → ∃ y, ys[i]? = some y ∧ ValR G ρ H x y
  | [], _, i, x, _, e => by simp at e
  | x :: xs, _, 0, _, ⟨y, r', e, r1, _⟩, q => by
    subst e
    simp only [List.getElem?_cons_zero, Option.some.injEq] at q ⊢
    subst q
    exact ⟨y, rfl, r1⟩
  | x :: xs, _, i + 1, _, ⟨y, r', e, _, r2⟩, q => by
    subst e
    simp only [List.getElem?_cons_succ] at q ⊢
    exact r2.get q
theorem SlR.start {G : Cfg} {ρ : Wd} {H : Hp} {xs : List CV} {vs : List V} {N : List Str} (r : ValsR G ρ H xs vs) (hx : G.exi = none) (hy : G.lam = none) :
    SlR G ρ H (xs.map some ++ List.replicate (N.length - xs.length) none) (L2.start N vs) := by
  have hl := r.len
  refine ⟨by unfold L2.start; simp [hl], fun i v e => ?_, fun e he => by (rw [hx] at he; cases he), fun e he => by rw [hy] at he; cases he⟩
  by_cases hi : i < xs.length
  · rw [List.getElem?_append_left (by simpa using hi)] at e
    rw [List.getElem?_map] at e
    cases q : xs[i]? with
    | none => rw [q] at e; simp at e
    | some x =>
      rw [q] at e
      simp only [Option.map_some, Option.some.injEq] at e
      subst e
      obtain ⟨y, a, b⟩ := r.get q
      refine ⟨y, ?_, b⟩
      unfold L2.start
      rw [List.getElem?_append_left (by simpa [← hl] using hi), List.getElem?_map, a]
      rfl
  · rw [List.getElem?_append_right (by simpa using hi)] at e
    rw [List.getElem?_replicate] at e
    split at e <;> simp at e
section
variable {G : Cfg} {W : WX} {X : Cx} {P : Program} {w : World} {K : PySem.W.Frag} {mg : Str → Option Value} {base : Heap}
theorem fnX {x qual : Str} {st : Stmt} {f : Addr} {fd : FuncData} {N ps : List Str} {k : Nat} (np nl : Nat) {mb : MS} {FF : List CV → M CV} (hFF : FF = runB np nl mb) (F : Fun K x qual st f fd) (S : FnScope N ps (defScope st)) (hnp : ps.length = np) (hnl : N.length = nl) (hG : G.K = K) (hGP : G.P = P) (hGw : G.w = w) (hGx : G.exi = none) (hGl : G.lam = none)
    (hbody : ∀ (cdv : Value) (A : Around) (outer : List Env) (s : Shared) (H : Hp) (E : XK), Room k (A.deeper (envOfC qual (defScope st) s.heap.objs.size f cdv)) →
      Bx G (fun c d _ H => E c d H) (cxOf (L2.CX P w) P w K mg base N qual (defScope st) f cdv A outer s H E) → PassesOwn (model P w) (cxOf (L2.CX P w) P w K mg base N qual (defScope st) f cdv A outer s H E).A (cxOf (L2.CX P w) P w K mg base N qual (defScope st) f cdv A outer s H E).env (cxOf (L2.CX P w) P w K mg base N qual (defScope st) f cdv A outer s H E).xe →
      SSs G (fun c d _ H => E c d H) (cxOf (L2.CX P w) P w K mg base N qual (defScope st) f cdv A outer s H E) (defBody st) mb) :
    FnOk P w K mg base (L2.CX P w) (k + 1) f fd ps (spH G np FF) := by
  subst hnp hnl hFF
  refine F.okX S (fun vs H Q E h => h.1) fun cdv A outer s H vs Q E hr h => ?_
  obtain ⟨hl, ρ, h, xs, m, r, p⟩ := h
  refine ⟨_, hbody cdv A outer s H E hr ⟨hG, hGP, hGw, takes_of rfl rfl rfl rfl⟩ (passes_of rfl), ρ, h, _, m, SlR.start r hGx hGl, ?_⟩
  rw [runB_eq] at p
  by_cases hx : xs.length = ps.length
  · rw [if_pos hx] at p
    have e0 : startC N.length xs = xs.map some ++ List.replicate (N.length - xs.length) none := rfl
    rw [e0] at p
    cases q : mb (xs.map some ++ List.replicate (N.length - xs.length) none) h with
    | mk f h' =>
      rw [q] at p
      cases f with
      | nx τ => exact fun ρ1 H1 σ1 m1 e1 s1 => p ρ1 H1 .non m1 e1 rfl
      | rt v => exact p
      | ex x τ => exact fun ρ1 H1 c d σ1 m1 e1 s1 z => p ρ1 H1 c d m1 e1 z
      | bk τ => exact p.elim
      | ct τ => exact p.elim
    | bad => rw [q] at p; exact p.elim
  · rw [if_neg hx] at p; exact p.elim
variable {k : Nat} {f : Addr} {fd : FuncData} {ps : List Str} {x : Str} {p pos : Pos} {e : Expr} {es : List Expr} {ml : Sl → M (List CV)} {F : List CV → M CV} {np : Nat}
theorem Post.wx {α β : Type} {W' : WX} {R : Wd → Hp → α → β → Prop} {σ σ' : L2.St} {ρ : Wd} {H : Hp} {o : Out α} {Q : β → Hp → Prop} (q : Post G W R σ ρ H o Q) (hw : ∀ c d H', W c d σ H' → W' c d σ' H') : Post G W' R σ' ρ H o Q := by
  cases o with
  | ok a h => exact q
  | exc x h => exact fun ρ1 H1 c d m1 e1 z => hw _ _ _ (q ρ1 H1 c d m1 e1 z)
  | bad => exact q
/-- f(e, ..) -/
def eCall (np : Nat) (F : List CV → M CV) (ml : Sl → M (List CV)) : Sl → M CV := fun τ => bnd (ml τ) fun xs => if xs.length = np then F xs else stuck
theorem se_call (B : Bx G W X) (ok : FnOk X.prog X.w X.K X.mg X.base (L2.CX X.prog X.w) k f fd ps (spH G np F)) (hr : Room k X.A) (hg : Gl X x) (hm : X.mg x = some (.ref f)) (hk : PySem.W.keepIn X.K (.ref f) = true) (hb : Binds X.K fd ps [])
    (ha : SA G W X (e :: es) ml) (hdb : (x == ("__debug__" : Str)) = false := by decide) (he : starEach (e :: es) X.env = (false, eval e X.env) :: starEach es X.env := by rfl) (hpl : (backTo pos (starEach es X.env)).any (·.1) = false := by rfl) :
    SE G W X (.Call (.Name x p) (e :: es) [] pos) (eCall np F ml) :=
  (pe_callS ok hr hg hm hk hb (fun σ => passAt B.tk σ) ha hdb he hpl).wk fun σ H Q ⟨ρ, h, τ, m, s, p⟩ => tM_bind m s p fun xs h1 ρ1 H1 us m1 e1 s1 r1 p1 => by
    by_cases hl : xs.length = np
    · rw [if_pos hl] at p1
      exact ⟨r1.len.symm.trans hl, ρ1, h1, xs, m1, r1, Post.wx (σ := σ) p1 fun _ _ _ z => z⟩
    · rw [if_neg hl] at p1; exact p1.elim
/-- a built-in -/
def eB (g : List CV → M CV) (ml : Sl → M (List CV)) : Sl → M CV := fun τ => bnd (ml τ) g
theorem se_callB {id : String} {r : List V → Hp → VK → Prop} {g : List CV → M CV} (hc : CallR X (.builtin id) r) (hgr : OpL G r g) (hg : Gl X x) (hm : X.mg x = none) (hv : bootBuiltins x = some (.builtin id)) (ha : SA G W X (e :: es) ml)
    (hn : x ≠ "__name__" := by decide) (hdb : (x == ("__debug__" : Str)) = false := by decide) (he : starEach (e :: es) X.env = (false, eval e X.env) :: starEach es X.env := by rfl) (hpl : (backTo pos (starEach es X.env)).any (·.1) = false := by rfl) :
    SE G W X (.Call (.Name x p) (e :: es) [] pos) (eB g ml) :=
  (pe_callB hc hg hm hv ha hn hdb he hpl).wk fun σ H Q ⟨ρ, h, τ, m, s, p⟩ => tM_bind m s p fun xs h1 ρ1 H1 us m1 e1 s1 r1 p1 => hgr W σ ρ1 h1 H1 xs us Q m1 r1 p1
theorem se_callTy {T : String} {r : List V → Hp → VK → Prop} {g : List CV → M CV} (hc : CallR X (.type T) r) (hgr : OpL G r g) (hg : Gl X x) (hm : X.mg x = none) (hv : bootBuiltins x = some (.type T)) (ha : SA G W X (e :: es) ml)
    (hn : x ≠ "__name__" := by decide) (hdb : (x == ("__debug__" : Str)) = false := by decide) (he : starEach (e :: es) X.env = (false, eval e X.env) :: starEach es X.env := by rfl) (hpl : (backTo pos (starEach es X.env)).any (·.1) = false := by rfl) :
    SE G W X (.Call (.Name x p) (e :: es) [] pos) (eB g ml) :=
  (pe_callTy hc hg hm hv ha hn hdb he hpl).wk fun σ H Q ⟨ρ, h, τ, m, s, p⟩ => tM_bind m s p fun xs h1 ρ1 H1 us m1 e1 s1 r1 p1 => hgr W σ ρ1 h1 H1 xs us Q m1 r1 p1
end

def isB (x : CV) : M Bool := match x with
  | .bl b => ret b
  | _ => stuck
def bOf (e : Sl → M CV) : Sl → M Bool := fun τ => bnd (e τ) isB
def bAnd (a b : Sl → M Bool) : Sl → M Bool := fun τ => bnd (a τ) fun k => Bool.rec (ret false) (b τ) k
def bOr (a b : Sl → M Bool) : Sl → M Bool := fun τ => bnd (a τ) fun k => Bool.rec (b τ) (ret true) k
def bNot (a : Sl → M Bool) : Sl → M Bool := fun τ => bnd (a τ) fun k => ret (!k)
def eAnd (a b : Sl → M CV) : Sl → M CV := fun τ => bnd (a τ) fun x => bnd (isB x) fun k => Bool.rec (ret (.bl false)) (b τ) k
def eOr (a b : Sl → M CV) : Sl → M CV := fun τ => bnd (a τ) fun x => bnd (isB x) fun k => Bool.rec (b τ) (ret (.bl true)) k
def eNot (a : Sl → M CV) : Sl → M CV := fun τ => bnd (a τ) fun x => bnd (isB x) fun k => ret (.bl (!k))
def eIf (c : Sl → M Bool) (a b : Sl → M CV) : Sl → M CV := fun τ => bnd (c τ) fun k => Bool.rec (b τ) (a τ) k
section
variable {G : Cfg} {W : WX} {X : Cx} {pos : Pos} {a b c : Expr} {rest : List Expr} {ma mb : Sl → M CV} {ca cb : Sl → M Bool}
theorem st_val (h : SE G W X a ma) (he : ∀ whole, isTrue a X.env whole = (do let v ← whole; standAt a.pos; holding [v] (truthy v)) := by intro _; rfl) : ST G W X a (bOf ma) :=
  (pt_val h he).wk fun σ H Q ⟨ρ, h, τ, m, s, p⟩ => tM_bind m s p fun x h1 ρ1 H1 u m1 e1 s1 r1 p1 => by
    cases x with
    | bl b => exact ⟨b, r1, p1 ρ1 H1 b m1 Ext.refl rfl⟩
    | _ => exact p1.elim
theorem st_cmp {op : CmpOp} {r : R2} {g : CV → CV → M CV} (ho : OpR X (compareOp op) r) (hg : Op2 G r g) (ha : SE G W X a ma) (hb : SE G W X b mb) (hm : behindInMarks op b = false := by first | exact nomark _ | rfl) : ST G W X (.Compare a [op] [b] pos) (bOf (eOp g ma mb)) :=
  (pt_cmpR ho ha hb hm).wk fun σ H Q ⟨ρ, h, τ, m, s, p⟩ => by
    unfold bOf at p
    have p' : Post G W (fun _ _ (a b : Bool) => a = b) σ ρ H (bnd (ma τ) (fun x => bnd (mb τ) fun y => bnd (g x y) isB) h) Q := by
      simp only [eOp, bnd] at p ⊢
      cases q : ma τ h with
      | ok x h1 =>
        rw [q] at p
        simp only at p ⊢
        cases q2 : mb τ h1 with
        | ok y h2 => rw [q2] at p; exact p
        | exc y h2 => rw [q2] at p; exact p
        | bad => rw [q2] at p; exact p
      | exc x h1 => rw [q] at p; exact p
      | bad => rw [q] at p; exact p
    exact tM_bind m s p' fun x h1 ρ1 H1 u m1 e1 s1 r1 p1 => tM_bind m1 s1 p1 fun y h2 ρ2 H2 v m2 e2 s2 r2 p2 => hg W σ ρ2 h2 H2 x y u v _ m2 (r1.ext m1 e2) r2 (by
      unfold bnd at p2
      cases q : g x y h2 with
      | ok z h3 =>
        rw [q] at p2
        intro ρ3 H3 t m3 e3 r3
        cases z with
        | bl b => exact ⟨b, r3, p2 ρ3 H3 b m3 e3 rfl⟩
        | _ => exact p2.elim
      | exc z h3 => rw [q] at p2; exact p2
      | bad => rw [q] at p2; exact p2)
theorem sw_and1 (ha : ST G W X a ca) : SW G W X (.BoolOp .And [a] pos) ca := pw_and1 ha
theorem sw_or1 (ha : ST G W X a ca) : SW G W X (.BoolOp .Or [a] pos) ca := pw_or1 ha
theorem sw_and (ha : ST G W X a ca) (hb : SW G W X (.BoolOp .And (b :: rest) pos) cb) : SW G W X (.BoolOp .And (a :: b :: rest) pos) (bAnd ca cb) :=
  (pw_and ha hb).wk fun σ H Q ⟨ρ, h, τ, m, s, p⟩ => tM_bind m s p fun k h1 ρ1 H1 u m1 e1 s1 r1 p1 => by
    subst r1
    cases k with
    | true => exact (if_pos rfl) ▸ ⟨ρ1, h1, τ, m1, s1, p1⟩
    | false => exact (if_neg Bool.false_ne_true) ▸ p1 ρ1 H1 false m1 Ext.refl rfl
theorem sw_or (ha : ST G W X a ca) (hb : SW G W X (.BoolOp .Or (b :: rest) pos) cb) : SW G W X (.BoolOp .Or (a :: b :: rest) pos) (bOr ca cb) :=
  (pw_or ha hb).wk fun σ H Q ⟨ρ, h, τ, m, s, p⟩ => tM_bind m s p fun k h1 ρ1 H1 u m1 e1 s1 r1 p1 => by
    subst r1
    cases k with
    | true => exact (if_pos rfl) ▸ p1 ρ1 H1 true m1 Ext.refl rfl
    | false => exact (if_neg Bool.false_ne_true) ▸ ⟨ρ1, h1, τ, m1, s1, p1⟩
theorem st_bool (h : SW G W X a ca) : ST G W X a ca := L2.PW.pt h
theorem st_not (ha : ST G W X a ca) : ST G W X (.UnaryOp .Not a pos) (bNot ca) :=
  (pt_not ha).wk fun σ H Q ⟨ρ, h, τ, m, s, p⟩ => tM_bind m s p fun k h1 ρ1 H1 u m1 e1 s1 r1 p1 => by
    subst r1
    exact p1 ρ1 H1 _ m1 Ext.refl rfl
theorem se_and1 {op : BoolOp} (ha : SE G W X a ma) : SE G W X (.BoolOp op [a] pos) ma := pe_one ha
theorem se_and (ha : SE G W X a ma) (hb : SE G W X (.BoolOp .And (b :: rest) pos) mb) : SE G W X (.BoolOp .And (a :: b :: rest) pos) (eAnd ma mb) :=
  (pe_and ha hb).wk fun σ H Q ⟨ρ, h, τ, m, s, p⟩ => tM_bind m s p fun x h1 ρ1 H1 u m1 e1 s1 r1 p1 => by
    cases x with
    | bl k =>
      refine ⟨k, r1, ?_⟩
      cases k with
      | true => exact (if_pos rfl) ▸ ⟨ρ1, h1, τ, m1, s1, p1⟩
      | false => exact (if_neg Bool.false_ne_true) ▸ p1 ρ1 H1 _ m1 Ext.refl rfl
    | _ => exact p1.elim
theorem se_or (ha : SE G W X a ma) (hb : SE G W X (.BoolOp .Or (b :: rest) pos) mb) : SE G W X (.BoolOp .Or (a :: b :: rest) pos) (eOr ma mb) :=
  (pe_or ha hb).wk fun σ H Q ⟨ρ, h, τ, m, s, p⟩ => tM_bind m s p fun x h1 ρ1 H1 u m1 e1 s1 r1 p1 => by
    cases x with
    | bl k =>
      refine ⟨k, r1, ?_⟩
      cases k with
      | true => exact (if_pos rfl) ▸ p1 ρ1 H1 _ m1 Ext.refl rfl
      | false => exact (if_neg Bool.false_ne_true) ▸ ⟨ρ1, h1, τ, m1, s1, p1⟩
    | _ => exact p1.elim
theorem se_not (ha : SE G W X a ma) : SE G W X (.UnaryOp .Not a pos) (eNot ma) :=
  (pe_not ha).wk fun σ H Q ⟨ρ, h, τ, m, s, p⟩ => tM_bind m s p fun x h1 ρ1 H1 u m1 e1 s1 r1 p1 => by
    cases x with
    | bl k => exact ⟨k, r1, p1 ρ1 H1 _ m1 Ext.refl rfl⟩
    | _ => exact p1.elim
theorem se_if (hc : ST G W X c ca) (ha : SE G W X a ma) (hb : SE G W X b mb) : SE G W X (.IfExp c a b pos) (eIf ca ma mb) :=
  (pe_ifExp hc ha hb).wk fun σ H Q ⟨ρ, h, τ, m, s, p⟩ => tM_bind m s p fun k h1 ρ1 H1 u m1 e1 s1 r1 p1 => by
    subst r1
    cases k with
    | true => exact (if_pos rfl) ▸ ⟨ρ1, h1, τ, m1, s1, p1⟩
    | false => exact (if_neg Bool.false_ne_true) ▸ ⟨ρ1, h1, τ, m1, s1, p1⟩
end

def mRaise (e : Sl → Mem → Out Exn) : MS := fun τ => inS (e τ) τ fun x h => .mk (.ex x τ) h
def tX (G : Cfg) (W : WX) (m : Sl → M Exn) : L2.St → Hp → XK → Prop := fun σ H Q => ∃ ρ h τ, MemR G ρ h H ∧ SlR G ρ H τ σ ∧ match m τ h with
  | .ok x h' => ∀ ρ' H' c d, MemR G ρ' h' H' → Ext ρ H ρ' H' → ExcR G ρ' H' x c d → Q c d H'
  | .exc x h' => ∀ ρ' H' c d, MemR G ρ' h' H' → Ext ρ H ρ' H' → ExcR G ρ' H' x c d → W c d σ H'
  | .bad => False
def SX (G : Cfg) (W : WX) (X : Cx) (e : Expr) (m : Sl → M Exn) : Prop := PMk X e (tX G W m)
section
variable {G : Cfg} {W : WX} {X : Cx} {pos : Pos} {e : Expr} {me : Sl → M Exn}
theorem ss_raise (B : Bx G W X) (hc : X.calm = true) (he : SX G W X e me) : SS G W X (.Raise (some e) none pos) (mRaise me) :=
  (ps_raise hc B.tk he).wk fun D σ H ⟨ρ, h, τ, m, s, p⟩ => by
    refine ⟨ρ, h, τ, m, s, ?_⟩
    unfold mRaise inS at p
    cases q : me τ h with
    | ok x h' =>
      rw [q] at p
      exact fun ρ1 H1 c d m1 e1 z => p ρ1 H1 c d σ m1 e1 (s.ext m e1) z
    | exc x h' =>
      rw [q] at p
      exact fun ρ1 H1 c d m1 e1 z => p ρ1 H1 c d σ m1 e1 (s.ext m e1) z
    | bad => rw [q] at p; exact p
/-- X('m'), X an own class without an own __init__ -/
def xMsg (k : Nat) : Sl → M Exn := fun _ => ret ⟨k, []⟩
theorem sx_own {x m : Str} {C : Addr} {bmB : List Value} {B newId initId : String} {j k : Nat} {p p2 pos : Pos} (F : ExcBaseFacts B newId initId bmB) (q : PySem.W.excIn X.K C bmB newId = true) (gC : X.mg x = some (.ref C)) (kC : PySem.W.keepIn X.K (.ref C) = true) (r : Raises X (.ref C)) (hg : Gl X x)
    (hk : G.cls k = C) (hdb : (x == ("__debug__" : Str)) = false := by decide) : SX G W X (.Call (.Name x p) [.Constant (.str m) j p2] [] pos) (xMsg k) := by
  intro pins s σ H Q I h
  refine pmk_own F q gC kC r hg hdb pins s σ H Q I ?_
  obtain ⟨ρ, h, τ, m, s, p⟩ := h
  exact p ρ H _ none m Ext.refl ⟨by rw [hk], .inl rfl⟩
end
end VE

noncomputable section
namespace VE
open PySem PySem.Spec PyProof.Rows L2

section
variable {G : Cfg} {ρ ρ1 : Wd} {h : Mem} {H : Hp} {p : Addr} {o : HO}
theorem Ext.laid (hp : H p = none) : Ext ρ H ρ (upd H p o) :=
  ⟨rfl, fun _ _ e => e, fun a u e _ _ => by rw [upd_ne (ne_of_none e hp)]; exact e, fun a ps e => ⟨ps, by rw [upd_ne (ne_of_none e hp)]; exact e⟩, fun _ e => .inl e⟩
theorem has_push {x : Addr} : (⟨ρ.d, ρ.r ++ [p]⟩ : Wd).has x ↔ ρ.has x ∨ x = p := by
  unfold Wd.has
  simp only [List.mem_append, List.mem_singleton]
  exact ⟨fun z => by rcases z with (z | z) | z <;> first | exact .inl (.inl z) | exact .inr z | exact .inl (.inr z), fun z => by rcases z with (z | z) | z <;> first | exact .inl (.inl z) | exact .inr z | exact .inl (.inr z)⟩
theorem tabs_laid (t : LamX.Tabs G.T H) (hp : H p = none) : LamX.Tabs G.T (upd H p o) := t.ext fun b u e => by rw [upd_ne (ne_of_none e hp)]; exact e
theorem dicR_ext {n : Bool} {ks vs : List CV} {u : HO} {H1 : Hp} {a : Addr} (m : MemR G ρ h H) (e : Ext ρ H ρ1 H1) (d : DicR G ρ H n ks vs a u) : DicR G ρ1 H1 n ks vs a u :=
  ⟨fun z => let ⟨es, q1, q2, q3, q4⟩ := d.1 z; ⟨es, q1, q2, q3.ext m e, q4.ext m e⟩, fun z => let ⟨es, q1, q2, q3⟩ := d.2 z; ⟨es, q1, q2, q3.ext m e⟩⟩
theorem objR_ext {co : CO} {H1 : Hp} {a : Addr} (m : MemR G ρ h H) (e : Ext ρ H ρ1 H1) (ha : H1 a = H a) (r : ObjR G ρ H co a) : ObjR G ρ1 H1 co a := by
  cases co with
  | lst xs => obtain ⟨ys, q, z⟩ := r; exact ⟨ys, ha.trans q, z.ext m e⟩
  | dic lk n ks vs => obtain ⟨u, q1, q2, z⟩ := r; exact ⟨u, fun z => (q1 z).imp fun _ w => ha.trans w, fun z => ha.trans (q2 z), dicR_ext m e z⟩
  | ins k xs => obtain ⟨dx, us, q, nd, q2, z⟩ := r; exact ⟨dx, us, ha.trans q, e.notin (.inl q2) nd, e.keep dx _ q2 (nr nd) (fun _ e => nomatch e), z.ext m e⟩
  | none_ => exact r.elim
theorem MemR.laid (m : MemR G ρ h H) (hp : H p = none) : MemR G ρ h (upd H p o) where
  len := m.len
  nd := m.nd
  obj := fun i a co e1 e2 => by
    have r := m.obj i a co e1 e2
    obtain ⟨ys, q, _⟩ := r.there
    exact objR_ext m (Ext.laid hp) (by rw [upd_ne (ne_of_none q hp)]) r
  hid := fun a ha => by
    obtain ⟨⟨ys, q, q2⟩, n⟩ := m.hid a ha
    exact ⟨⟨ys, by rw [upd_ne (ne_of_none q hp)]; exact q, q2⟩, n⟩
  tab := tabs_laid m.tab hp
  exc := fun e he => (m.exc e he).ext m (Ext.laid hp)
  lam := m.lamE (Ext.laid hp)
/-- a new object of the memory -/
theorem Ext.push (hp : H p = none) : Ext ρ H ⟨ρ.d, ρ.r ++ [p]⟩ (upd H p o) where
  hid := rfl
  pre := fun i a e => by
    obtain ⟨hi, _⟩ := List.getElem?_eq_some_iff.mp e
    rw [List.getElem?_append_left hi]; exact e
  keep := fun a u e _ _ => by rw [upd_ne (ne_of_none e hp)]; exact e
  tbl := fun a ps e => ⟨ps, by rw [upd_ne (ne_of_none e hp)]; exact e⟩
  new := fun a e => by
    rcases List.mem_append.mp e with e | e
    · exact .inl e
    · rw [List.mem_singleton.mp e]; exact .inr hp
theorem MemR.pushO {co : CO} (m : MemR G ρ h H) (hp : H p = none) (r : ObjR G ⟨ρ.d, ρ.r ++ [p]⟩ (upd H p o) co p) : MemR G ⟨ρ.d, ρ.r ++ [p]⟩ (h ++ [co]) (upd H p o) where
  len := by simp [m.len]
  nd := by
    refine List.nodup_append.mpr ⟨m.nd, by simp, fun a ha b hb => ?_⟩
    rw [List.mem_singleton.mp hb]
    intro e
    exact m.free hp (.inl (e ▸ ha))
  obj := fun i a co e1 e2 => by
    by_cases hi : i < ρ.r.length
    · rw [List.getElem?_append_left hi] at e1
      rw [List.getElem?_append_left (by rw [← m.len]; exact hi)] at e2
      have q := m.obj i a co e1 e2
      obtain ⟨zs, z, _⟩ := q.there
      exact objR_ext m (Ext.push hp) (by rw [upd_ne (ne_of_none z hp)]) q
    · rw [List.getElem?_append_right (by omega)] at e1
      rw [List.getElem?_append_right (by rw [← m.len]; omega)] at e2
      have hl := m.len
      have h0 : i - ρ.r.length = 0 := by
        cases q : i - ρ.r.length with
        | zero => rfl
        | succ n => rw [q] at e1; simp at e1
      rw [h0] at e1
      rw [← hl, h0] at e2
      simp only [List.getElem?_cons_zero, Option.some.injEq] at e1 e2
      subst e1 e2
      exact r
  hid := fun a ha => by
    obtain ⟨⟨ys, q, q2⟩, n⟩ := m.hid a ha
    refine ⟨⟨ys, by rw [upd_ne (ne_of_none q hp)]; exact q, q2⟩, fun z => ?_⟩
    rcases List.mem_append.mp z with z | z
    · exact n z
    · rw [List.mem_singleton.mp z, hp] at q; cases q
  tab := tabs_laid m.tab hp
  exc := fun e he => (m.exc e he).ext m (Ext.push hp)
  lam := m.lamE (Ext.push hp)
theorem MemR.push {xs : List CV} {ys : List V} (m : MemR G ρ h H) (hp : H p = none) (r : ValsR G ρ H xs ys) : MemR G ⟨ρ.d, ρ.r ++ [p]⟩ (h ++ [.lst xs]) (upd H p (.lst ys)) :=
  m.pushO hp ⟨ys, upd_same, r.ext m (Ext.push hp)⟩
/-- an object of the memory (or a hidden one) is written -/
theorem Ext.write (hp : p ∈ ρ.r) (e : ∃ u, H p = some u ∧ ∀ ps, u ≠ .tbl ps) : Ext ρ H ρ (upd H p o) where
  hid := rfl
  pre := fun _ _ e => e
  keep := fun a u e n _ => by rw [upd_ne (fun (z : a = p) => n (by rw [z]; exact hp))]; exact e
  tbl := fun a ps q => ⟨ps, by
    rw [upd_ne (fun z => by
      obtain ⟨ys, e, n⟩ := e
      rw [z, e] at q
      exact n ps (Option.some.inj q))]
    exact q⟩
  new := fun _ e => .inl e
theorem mut_ne {a b : Addr} {u : HO} (e : ∃ u, H p = some u ∧ MutO G p u) (h1 : H a = some u) (h2 : ¬ MutO G a u) : a ≠ p := fun z => by
  obtain ⟨w, q, m⟩ := e
  subst z
  rw [h1] at q
  exact h2 (Option.some.inj q ▸ m)
mutual
theorem ValR.wr (hp : ρ.has p) (e : ∃ u, H p = some u ∧ MutO G p u) {o : HO} : ∀ {x : CV} {v : V}, ValR G ρ H x v → ValR G ρ (upd H p o) x v
  | .non, _, r => r
  | .bl _, _, r => r
  | .int _, _, r => r
  | .str _, _, r => r
  | .cls _, _, r => r
  | .fn _, _, r => r
  | .ty _, _, r => r
  | .ref l, _, r => r
  | .tup xs, _, ⟨a, ys, q, s, r⟩ => by
    refine ⟨a, ys, q, ?_, ValsR.wr hp e r⟩
    rcases s with s | s
    · have n : a ≠ p := by
        rcases s with s | ⟨ob, s⟩
        · exact mut_ne (b := p) e s notMut_tup
        · exact mut_ne (b := p) e s notMut_frzTup
      exact .inl (s.elim (fun s => .inl (by rw [upd_ne n]; exact s)) fun ⟨ob, s⟩ => .inr ⟨ob, by rw [upd_ne n]; exact s⟩)
    · exact .inr s
  | .lst xs, _, ⟨a, ys, q, n, s, r⟩ => ⟨a, ys, q, n, by rw [upd_ne (fun (z : a = p) => n (by rw [z]; exact hp))]; exact s, ValsR.wr hp e r⟩
  | .frz xs, _, ⟨a, ys, q, s, r⟩ => by
    refine ⟨a, ys, q, ?_, ValsR.wr hp e r⟩
    rcases s with ⟨n, s⟩ | s
    · have n' : a ≠ p := fun (z : a = p) => n (by rw [z]; exact hp)
      exact .inl ⟨n, s.elim (fun s => .inl (by rw [upd_ne n']; exact s)) fun ⟨ob, s⟩ => .inr ⟨ob, by rw [upd_ne n']; exact s⟩⟩
    · exact .inr s
  | .ins k xs, _, ⟨x, dx, us, q, n, nd, s, f, r⟩ => ⟨x, dx, us, q, n, nd, by rw [upd_ne (fun (z : x = p) => n (by rw [z]; exact hp))]; exact s, by rw [upd_ne (fun (z : dx = p) => nd (by rw [z]; exact hp))]; exact f, ValsR.wr hp e r⟩
  | .dic n ks vs, _, ⟨x, ob, q, nh, h1, h2⟩ => by
    have nx : x ≠ p := fun z => nh (by rw [z]; exact hp)
    exact ⟨x, ob, q, nh, fun z => let ⟨es, us, ws, q1, q2, q3, q4, q5, q6⟩ := h1 z; ⟨es, us, ws, by rw [upd_ne nx]; exact q1, q2, q3, q4, ValsR.wr hp e q5, ValsR.wr hp e q6⟩,
      fun z => let ⟨es, ws, q1, q2, q3, q4⟩ := h2 z; ⟨es, ws, by rw [upd_ne nx]; exact q1, q2, q3, ValsR.wr hp e q4⟩⟩
theorem ValsR.wr (hp : ρ.has p) (e : ∃ u, H p = some u ∧ MutO G p u) {o : HO} : ∀ {xs : List CV} {vs : List V}, ValsR G ρ H xs vs → ValsR G ρ (upd H p o) xs vs
  | [], _, r => r
  | x :: xs, _, ⟨y, r, q, z, s⟩ => ⟨y, r, q, ValR.wr hp e z, ValsR.wr hp e s⟩
end
theorem dicR_wr {n : Bool} {ks vs : List CV} {u : HO} {a : Addr} (hp : ρ.has p) (e : ∃ u, H p = some u ∧ MutO G p u) {o : HO} (d : DicR G ρ H n ks vs a u) : DicR G ρ (upd H p o) n ks vs a u :=
  ⟨fun z => let ⟨es, q1, q2, q3, q4⟩ := d.1 z; ⟨es, q1, q2, q3.wr hp e, q4.wr hp e⟩, fun z => let ⟨es, q1, q2, q3⟩ := d.2 z; ⟨es, q1, q2, q3.wr hp e⟩⟩
theorem objR_wr {co : CO} {a : Addr} {o : HO} (hp : ρ.has p) (e : ∃ u, H p = some u ∧ MutO G p u) (n : a ≠ p) (r : ObjR G ρ H co a) : ObjR G ρ (upd H p o) co a := by
  cases co with
  | lst xs =>
    obtain ⟨ys, q, z⟩ := r
    exact ⟨ys, by rw [upd_ne n]; exact q, z.wr hp e⟩
  | dic lk m ks vs => obtain ⟨u, q1, q2, z⟩ := r; exact ⟨u, fun z => (q1 z).imp fun _ w => by rw [upd_ne n]; exact w, fun z => by rw [upd_ne n]; exact q2 z, dicR_wr hp e z⟩
  | ins k xs => obtain ⟨dx, us, q, nd, q2, z⟩ := r; exact ⟨dx, us, by rw [upd_ne n]; exact q, nd, by rw [upd_ne (fun (z : dx = p) => nd (by rw [z]; exact hp))]; exact q2, z.1, fun i v w => let ⟨u, a, b⟩ := z.2 i v w; ⟨u, a, b.wr hp e⟩⟩
  | none_ => exact r.elim
theorem tabs_wr (t : LamX.Tabs G.T H) (e : ∃ u, H p = some u ∧ MutO G p u) : LamX.Tabs G.T (upd H p o) := fun q hq => by
  obtain ⟨ps, h1, h2, h3⟩ := t q hq
  refine ⟨ps, by rw [upd_ne (mut_ne (b := p) e h1 notMut_tbl)]; exact h1, h2, fun pos cv hc => ?_⟩
  obtain ⟨c, e1, e2⟩ := h3 pos cv hc
  exact ⟨c, e1, by rw [upd_ne (mut_ne (b := p) e e2 notMut_code)]; exact e2⟩
theorem ExcR.wr {x : Exn} {c : Value} {d : Option Addr} (hp : ρ.has p) (e : ∃ u, H p = some u ∧ MutO G p u) {o : HO} (r : ExcR G ρ H x c d) : ExcR G ρ (upd H p o) x c d :=
  ⟨r.1, r.2.elim .inl fun ⟨da, fs, e1, e2, e3, e4⟩ => .inr ⟨da, fs, e1, by rw [upd_ne (mut_ne (b := p) e e2 notMut_xd)]; exact e2, e3, e4.wr hp e⟩⟩
theorem MemR.lamW (m : MemR G ρ h H) (hp : ρ.has p) (e : ∃ u, H p = some u ∧ MutO G p u) {o : HO} : ∀ L, G.lam = some L → SlV G ρ (upd H p o) L.τ L.σ ∧ upd H p o L.c = some (LamX.CodeO L.c L.q) := fun L he =>
  ⟨⟨(m.lam L he).1.1, fun i v q => let ⟨u, a, b⟩ := (m.lam L he).1.2 i v q; ⟨u, a, b.wr hp e⟩⟩, by rw [upd_ne (mut_ne (b := p) e (m.lam L he).2 notMut_code)]; exact (m.lam L he).2⟩
theorem MemR.writeO {l : Nat} {co : CO} (m : MemR G ρ h H) (hl : ρ.r[l]? = some p) (r : ObjR G ρ (upd H p o) co p) : MemR G ρ (h.set l co) (upd H p o) := by
  have hp : p ∈ ρ.r := List.mem_of_getElem? hl
  have e := m.at_ (.inl hp)
  refine ⟨by simp [m.len], m.nd, fun i a co e1 e2 => ?_, fun a ha => ?_, tabs_wr m.tab e, fun x he => ?_, m.lamW (.inl hp) e⟩
  · by_cases hi : l = i
    · subst hi
      rw [hl] at e1
      cases e1
      have hlt : l < h.length := by rw [← m.len]; exact (List.getElem?_eq_some_iff.mp hl).1
      rw [List.getElem?_set_self hlt] at e2
      cases e2
      exact r
    · rw [List.getElem?_set_ne hi] at e2
      have n : a ≠ p := fun z => by
        subst z
        have h1 := (List.getElem?_eq_some_iff.mp e1)
        have h2 := (List.getElem?_eq_some_iff.mp hl)
        obtain ⟨h1, q1⟩ := h1
        obtain ⟨h2, q2⟩ := h2
        exact hi ((List.getElem_inj m.nd).mp (q2.trans q1.symm))
      exact objR_wr (.inl hp) e n (m.obj i a co e1 e2)
  · obtain ⟨⟨zs, q, q2⟩, n⟩ := m.hid a ha
    exact ⟨⟨zs, by rw [upd_ne (fun (z : a = p) => n (by rw [z]; exact hp))]; exact q, q2⟩, n⟩
  · exact (m.exc x he).wr (.inl hp) e
theorem MemR.write {l : Nat} {xs : List CV} {ys : List V} (m : MemR G ρ h H) (hl : ρ.r[l]? = some p) (r : ValsR G ρ H xs ys) : MemR G ρ (h.set l (.lst xs)) (upd H p (.lst ys)) :=
  m.writeO hl ⟨ys, upd_same, r.wr (.inl (List.mem_of_getElem? hl)) (m.at_ (.inl (List.mem_of_getElem? hl)))⟩
theorem Ext.writeAt {l : Nat} (m : MemR G ρ h H) (hl : ρ.r[l]? = some p) : Ext ρ H ρ (upd H p o) :=
  Ext.write (List.mem_of_getElem? hl) (by
    obtain ⟨u, q, z⟩ := m.at_ (.inl (List.mem_of_getElem? hl))
    exact ⟨u, q, fun ps w => notMut_tbl (w ▸ z)⟩)
end

def eTup (ml : Sl → M (List CV)) : Sl → M CV := fun τ => bnd (ml τ) fun xs => if xs.length ≤ 1000 then ret (.tup xs) else stuck
/-- a list that nobody writes -/
def eLst (ml : Sl → M (List CV)) : Sl → M CV := fun τ => bnd (ml τ) fun xs => if xs.length ≤ 1000 then ret (.lst xs) else stuck
/-- a list that is written later -/
def eNew (ml : Sl → M (List CV)) : Sl → M CV := fun τ => bnd (ml τ) fun xs h => if xs.length ≤ 1000 then frLs (frV 3) xs fun xs => frN h.length fun n => sapp h [.lst xs] fun h => .ok (.ref n) h else .bad
theorem line1000 {n : Nat} (h : n ≤ 1000) : n ≤ sizeLine := by rw [sizeLine_eq]; omega
theorem Post.newTup {G : Cfg} {W : WX} {σ : L2.St} {ρ : Wd} {h : Mem} {H : Hp} {p : Addr} {xs : List CV} {ys : List V} {Q : VK} (m : MemR G ρ h H) (r : ValsR G ρ H xs ys) (q : Post G W (ValR G) σ ρ H (ret (.tup xs) h) Q) (hp : H p = none) : Q (.ref p) (upd H p (.tup ys)) :=
  q ρ _ _ (m.laid hp) (Ext.laid hp) ⟨p, ys, rfl, SqT.of upd_same, r.ext m (Ext.laid hp)⟩
theorem Post.newLst {G : Cfg} {W : WX} {σ : L2.St} {ρ : Wd} {h : Mem} {H : Hp} {p : Addr} {xs : List CV} {ys : List V} {Q : VK} (m : MemR G ρ h H) (r : ValsR G ρ H xs ys) (q : Post G W (ValR G) σ ρ H (ret (.lst xs) h) Q) (hp : H p = none) : Q (.ref p) (upd H p (.lst ys)) :=
  q ρ _ _ (m.laid hp) (Ext.laid hp) ⟨p, ys, rfl, m.free hp, upd_same, r.ext m (Ext.laid hp)⟩
section
variable {G : Cfg} {W : WX} {X : Cx} {pos : Pos} {es : List Expr} {ml : Sl → M (List CV)} {a b : Expr} {ma mb : Sl → M CV}
theorem se_tup {x1} (ha : SA G W X es ml) : SE G W X (.Tuple es x1 pos) (eTup ml) :=
  (pe_tup ha).wk fun σ H Q ⟨ρ, h, τ, m, s, p⟩ => tM_bind m s p fun xs h1 ρ1 H1 us m1 e1 s1 r1 p1 => by
    by_cases hl : xs.length ≤ 1000
    · rw [if_pos hl] at p1
      exact ⟨by rw [← r1.len]; exact line1000 hl, fun p hp => p1.newTup m1 r1 hp⟩
    · rw [if_neg hl] at p1; exact p1.elim
theorem se_lst (ha : SA G W X es ml) : SE G W X (.List es pos) (eLst ml) :=
  (pe_lst ha).wk fun σ H Q ⟨ρ, h, τ, m, s, p⟩ => tM_bind m s p fun xs h1 ρ1 H1 us m1 e1 s1 r1 p1 => by
    by_cases hl : xs.length ≤ 1000
    · rw [if_pos hl] at p1
      exact ⟨by rw [← r1.len]; exact line1000 hl, fun p hp => p1.newLst m1 r1 hp⟩
    · rw [if_neg hl] at p1; exact p1.elim
theorem se_new (ha : SA G W X es ml) : SE G W X (.List es pos) (eNew ml) :=
  (pe_lst ha).wk fun σ H Q ⟨ρ, h, τ, m, s, p⟩ => tM_bind m s p fun xs h1 ρ1 H1 us m1 e1 s1 r1 p1 => by
    by_cases hl : xs.length ≤ 1000
    · rw [if_pos hl, frLs_eq (frV_eq 3), frN_eq, sapp_eq] at p1
      refine ⟨by rw [← r1.len]; exact line1000 hl, fun p hp => p1 _ _ _ (m1.push hp r1) (Ext.push hp) ⟨p, ?_, rfl⟩⟩
      show (ρ1.r ++ [p])[h1.length]? = some p
      rw [← m1.len]; simp
    · rw [if_neg hl] at p1; exact p1.elim
end

/-- what stands at a place of the memory -/
def memAt (h : Mem) (l : Nat) : Option (List CV) := Option.rec none (fun co => match co with
  | .lst xs => some xs
  | _ => none) (sget h l)
theorem memAt_some {h : Mem} {l : Nat} {xs : List CV} (e : memAt h l = some xs) : h[l]? = some (.lst xs) := by
  unfold memAt at e
  rw [sget_eq] at e
  cases q : h[l]? with
  | none => rw [q] at e; cases e
  | some co =>
    rw [q] at e
    cases co with
    | lst ys => cases e; rfl
    | _ => cases e
/-- the items of a list or tuple -/
def seqOf (x : CV) (h : Mem) : Option (List CV) := match x with
  | .tup xs => some xs
  | .lst xs => some xs
  | .frz xs => some xs
  | .ref l => memAt h l
  | _ => none
def isTup : CV → Bool
  | .tup _ => true
  | _ => false
theorem seqOf_r {G : Cfg} {ρ : Wd} {h : Mem} {H : Hp} {x : CV} {u : V} {xs : List CV} (m : MemR G ρ h H) (r : ValR G ρ H x u) (e : seqOf x h = some xs) :
    ∃ a ys, u = .ref a ∧ ValsR G ρ H xs ys ∧ (if isTup x then SqT G.K H a ys else SqL G.K H a ys) := by
  cases x with
  | tup zs =>
    obtain ⟨a, ys, q, z, r⟩ := r
    cases e
    exact ⟨a, ys, q, r, z⟩
  | lst zs =>
    obtain ⟨a, ys, q, n, z, r⟩ := r
    cases e
    exact ⟨a, ys, q, r, SqL.of z⟩
  | frz zs =>
    obtain ⟨a, ys, q, z, r⟩ := r
    cases e
    exact ⟨a, ys, q, r, z.l⟩
  | ref l =>
    obtain ⟨a, q, z⟩ := r
    obtain ⟨ys, w, r⟩ := m.obj l a _ q (memAt_some e)
    exact ⟨a, ys, z, r, SqL.of w⟩
  | _ => cases e
/-- an item by its number -/
def pyAt (xs : List CV) (i : Int) : Option CV := Int.rec (fun n => sget xs n) (fun n => if n < xs.length then sget xs (xs.length - (n + 1)) else none) i
theorem pyAt_eq (xs : List CV) (i : Int) : pyAt xs i = L2.atI xs i := by
  unfold pyAt L2.atI L2.ixN
  cases i with
  | ofNat n =>
    show sget xs n = _
    rw [sget_eq]
    by_cases h : n < xs.length
    · rw [if_pos (by simp), if_pos (by simpa using h)]
      rfl
    · rw [if_pos (by simp), if_neg (by simpa using h), List.getElem?_eq_none (by omega)]
      rfl
  | negSucc n =>
    show (if n < xs.length then sget xs (xs.length - (n + 1)) else none) = _
    by_cases h : n < xs.length
    · rw [if_pos h, if_neg (by omega), if_pos (by omega), sget_eq]
      show _ = xs[_]?
      congr 1
      omega
    · rw [if_neg h, if_neg (by omega), if_neg (by omega)]
      rfl
theorem ValsR.atI {G : Cfg} {ρ : Wd} {H : Hp} {xs : List CV} {ys : List V} {i : Int} {x : CV} (r : ValsR G ρ H xs ys) (e : L2.atI xs i = some x) : ∃ y, L2.atI ys i = some y ∧ ValR G ρ H x y := by
  unfold L2.atI at e ⊢
  rw [← r.len]
  cases q : ixN xs.length i with
  | none => rw [q] at e; cases e
  | some j =>
    rw [q] at e
    exact r.get e
def pyIx (x i : CV) : M CV := fun h => match i with
  | .int i => match x with
    | .str z => match L2.atI z.cps.toList i with
      | some c => if z.length ≤ 1000000 then .ok (.str ⟨#[c]⟩) h else .bad
      | none => .bad
    | x => match seqOf x h with
      | some xs => match pyAt xs i with
        | some v => .ok v h
        | none => .bad
      | none => .bad
  | _ => .bad
theorem pyIx_ok {G : Cfg} : Op2 G (rIx G.K) pyIx := by
  intro W σ ρ h H x y u v Q m rx ry p
  unfold pyIx at p
  cases y with
  | int i =>
    have ev : v = .int i := ry
    simp only at p
    have seq : ∀ {x : CV}, ValR G ρ H x u → Post G W (ValR G) σ ρ H (match seqOf x h with
      | some xs => match pyAt xs i with
        | some v => .ok v h
        | none => .bad
      | none => .bad) Q → rIx G.K u v H Q := by
      intro x rx p
      cases e : seqOf x h with
      | none => rw [e] at p; exact p.elim
      | some xs =>
        rw [e] at p
        simp only [pyAt_eq] at p
        cases q : L2.atI xs i with
        | none => rw [q] at p; exact p.elim
        | some z =>
          rw [q] at p
          obtain ⟨a, ys, eu, r, sq⟩ := seqOf_r m rx e
          obtain ⟨w, e2, rw'⟩ := r.atI q
          by_cases ht : isTup x = true
          · rw [if_pos ht] at sq
            exact .inr (.inl ⟨a, ys, i, w, eu, ev, sq, e2, p ρ H w m Ext.refl rw'⟩)
          · rw [if_neg ht] at sq
            exact .inl ⟨a, ys, i, w, eu, ev, sq, e2, p ρ H w m Ext.refl rw'⟩
    cases x with
    | str z =>
      have eu : u = .str z := rx
      simp only at p
      cases e : L2.atI z.cps.toList i with
      | none => rw [e] at p; exact p.elim
      | some c =>
        rw [e] at p
        simp only at p
        by_cases hz : z.length ≤ 1000000
        · rw [if_pos hz] at p
          exact .inr (.inr ⟨z, i, c, eu, ev, by rw [sizeLine_eq]; omega, e, p ρ H _ m Ext.refl rfl⟩)
        · rw [if_neg hz] at p; exact p.elim
    | _ => exact seq rx p
  | _ => exact p.elim
section
variable {G : Cfg} {W : WX} {X : Cx} {pos : Pos} {a b : Expr} {ma mb : Sl → M CV}
theorem se_ix (hK : G.K = X.K) (ha : SE G W X a ma) (hb : SE G W X b mb) (hs : PlainIx b := by exact fun _ _ => rfl) : SE G W X (.Subscript a b pos) (eOp pyIx ma mb) :=
  (pe_ix ix_seq ha hb hs).wk fun σ H Q ⟨ρ, h, τ, m, s, p⟩ => tM_bind m s p fun x h1 ρ1 H1 u m1 e1 s1 r1 p1 => tM_bind m1 s1 p1 fun y h2 ρ2 H2 v m2 e2 s2 r2 p2 => hK ▸ pyIx_ok W σ ρ2 h2 H2 x y u v Q m2 (r1.ext m1 e2) r2 p2
end

end VE

noncomputable section
namespace VE
open PySem PySem.Spec PyProof.Rows L2

/-- the items of a list that may be joined -/
def lstOf (x : CV) (h : Mem) : Option (List CV) := match x with
  | .lst xs => some xs
  | .ref l => memAt h l
  | _ => none
theorem lstOf_r {G : Cfg} {ρ : Wd} {h : Mem} {H : Hp} {x : CV} {u : V} {xs : List CV} (m : MemR G ρ h H) (r : ValR G ρ H x u) (e : lstOf x h = some xs) :
    ∃ a ys, u = .ref a ∧ ValsR G ρ H xs ys ∧ H a = some (.lst ys) := by
  cases x with
  | lst zs =>
    obtain ⟨a, ys, q, n, z, r⟩ := r
    cases e
    exact ⟨a, ys, q, r, z⟩
  | ref l =>
    obtain ⟨a, q, z⟩ := r
    obtain ⟨ys, w, r⟩ := m.obj l a _ q (memAt_some e)
    exact ⟨a, ys, z, r, w⟩
  | _ => cases e
theorem log2_of {n k : Nat} (h : Nat.ble n (2 ^ k) = true) : n.log2 ≤ k := by
  have h := Nat.le_of_ble_eq_true h
  by_cases h0 : n = 0
  · subst h0; simp
  · have h1 : n < 2 ^ (k + 1) := Nat.lt_of_le_of_lt h (Nat.pow_lt_pow_right (by decide) (Nat.lt_succ_self k))
    exact Nat.le_of_lt_succ ((Nat.log2_lt h0).mpr h1)
def fit (i : Int) : Bool := Nat.ble i.natAbs big
theorem fit_mul {i j : Int} (h : (fit i && fit j) = true) : i.natAbs.log2 + j.natAbs.log2 < 1000000 := by
  rw [Bool.and_eq_true] at h
  have h1 := log2_of (k := 400000) h.1
  have h2 := log2_of (k := 400000) h.2
  omega
/-- a divisor's size -/
def fitD (j : Int) : Bool := Nat.ble j.natAbs (2 ^ 8999)
theorem fit_div {j : Int} (h : fitD j = true) : j.natAbs.log2 < 9000 := Nat.lt_succ_of_le (log2_of h)
theorem ValsR.app {G : Cfg} {ρ : Wd} {H : Hp} {ys : List CV} {vs : List V} : ∀ {xs : List CV} {us : List V}, ValsR G ρ H xs us → ValsR G ρ H ys vs → ValsR G ρ H (xs ++ ys) (us ++ vs)
  | [], _, r, s => by rw [show _ = [] from r]; exact s
  | x :: xs, _, ⟨y, r', e, r1, r2⟩, s => by subst e; exact ⟨y, _, rfl, r1, r2.app s⟩
theorem ValsR.nil_iff {G : Cfg} {ρ : Wd} {H : Hp} {xs : List CV} {us : List V} (r : ValsR G ρ H xs us) : us = [] ↔ xs = [] := by
  have := r.len
  cases xs <;> cases us <;> simp_all
theorem lineM {n : Nat} (h : n ≤ 1000000) : n ≤ sizeLine := by rw [sizeLine_eq]; omega

def pyAdd (x y : CV) : M CV := fun h => match x, y with
  | .int i, .int j => .ok (.int (i + j)) h
  | .str i, .str j => if i.length + j.length ≤ 1000000 then .ok (.str (i ++ j)) h else .bad
  | .tup xs, .tup ys => if xs.length + ys.length ≤ 1000000 then .ok (.tup (xs ++ ys)) h else .bad
  | x, y => match lstOf x h, lstOf y h with
    | some xs, some ys => if xs.length + ys.length ≤ 1000000 then .ok (.lst (xs ++ ys)) h else .bad
    | _, _ => .bad
def rPlus (K : PySem.W.Frag) : R2 := fun x y H Q => rI0 (fun i j => .int (i + j)) x y H Q ∨ (∃ i j, x = .str i ∧ y = .str j ∧ i.length + j.length ≤ sizeLine ∧ Q (.str (i ++ j)) H) ∨ rCatA K x y H Q ∨ rCat x y H Q
theorem op_plus {X : Cx} : OpR X (binaryOp .Add) (rPlus X.K) := op_add.or (op_add_str.or (op_catA.or op_cat))
theorem plus_ok {G : Cfg} : Op2 G (rPlus G.K) pyAdd := by
  intro W σ ρ h H x y u v Q m rx ry p
  unfold pyAdd at p
  split at p
  · exact .inl ⟨_, _, rx, ry, p ρ H _ m Ext.refl rfl⟩
  · rename_i i j
    split at p
    · rename_i hl
      exact .inr (.inl ⟨i, j, rx, ry, lineM hl, p ρ H _ m Ext.refl rfl⟩)
    · exact p.elim
  · rename_i xs ys
    split at p
    · rename_i hl
      obtain ⟨a, us, ea, sa, ra⟩ := rx
      obtain ⟨b, vs, eb, sb, rb⟩ := ry
      refine .inr (.inr (.inl ⟨a, b, us, vs, ea, eb, sa, sb, by rw [← ra.len, ← rb.len]; exact lineM hl, fun e => ?_, fun e e2 => ?_, fun _ _ p' hp => ?_⟩))
      · have ex : xs = [] := ra.nil_iff.mp e
        subst ex
        exact p ρ H _ m Ext.refl ⟨b, vs, rfl, sb, rb⟩
      · have ey : ys = [] := rb.nil_iff.mp e2
        subst ey
        exact p ρ H _ m Ext.refl ⟨a, us, rfl, sa, by rw [List.append_nil]; exact ra⟩
      · exact p.newTup m (ra.app rb) hp
    · exact p.elim
  · split at p
    · rename_i xs ys e1 e2
      split at p
      · rename_i hl
        obtain ⟨a, us, ea, ra, sa⟩ := lstOf_r m rx e1
        obtain ⟨b, vs, eb, rb, sb⟩ := lstOf_r m ry e2
        exact .inr (.inr (.inr ⟨a, b, us, vs, ea, eb, sa, sb, by rw [← ra.len, ← rb.len]; exact lineM hl, fun p' hp => p.newLst m (ra.app rb) hp⟩))
      · exact p.elim
    · exact p.elim
theorem ValsR.rep {G : Cfg} {ρ : Wd} {H : Hp} {xs : List CV} {us : List V} (r : ValsR G ρ H xs us) : ∀ k : Nat, ValsR G ρ H (List.replicate k xs).flatten (List.replicate k us).flatten
  | 0 => rfl
  | k + 1 => by rw [List.replicate_succ, List.replicate_succ, List.flatten_cons, List.flatten_cons]; exact r.app (r.rep k)

def pySub (x y : CV) : M CV := match x, y with
  | .int i, .int j => ret (.int (i - j))
  | _, _ => stuck
theorem sub_ok {G : Cfg} : Op2 G (rI0 fun i j => .int (i - j)) pySub := by
  intro W σ ρ h H x y u v Q m rx ry p
  unfold pySub at p
  split at p
  · exact ⟨_, _, rx, ry, p ρ H _ m Ext.refl rfl⟩
  · exact p.elim
def pyFdiv (x y : CV) : M CV := match x, y with
  | .int i, .int j => if j ≠ 0 ∧ fitD j = true then ret (.int (i.fdiv j)) else stuck
  | _, _ => stuck
def CDivG (_ j : Int) : Prop := j ≠ 0 ∧ j.natAbs.log2 < 9000
theorem op_fdivG {X : Cx} : OpR X (binaryOp .FloorDiv) (rI CDivG fun i j => .int (i.fdiv j)) := opI fun i j _ _ _ _ _ hc q => floordiv_int hc.1 q (.inl (PyProof.noPylong_of_log2 hc.2))
theorem iop_fdivG {X : Cx} : OpR X (inplaceOp .FloorDiv) (rI CDivG fun i j => .int (i.fdiv j)) := opI fun i j _ _ _ _ _ hc q => ifloordiv_int hc.1 q (.inl (PyProof.noPylong_of_log2 hc.2))
theorem fdiv_ok {G : Cfg} : Op2 G (rI CDivG fun i j => .int (i.fdiv j)) pyFdiv := by
  intro W σ ρ h H x y u v Q m rx ry p
  unfold pyFdiv at p
  split at p
  · split at p
    · rename_i hc
      exact ⟨_, _, rx, ry, ⟨hc.1, fit_div hc.2⟩, p ρ H _ m Ext.refl rfl⟩
    · exact p.elim
  · exact p.elim
def pyMod (x y : CV) : M CV := match x, y with
  | .int i, .int j => if j ≠ 0 then ret (.int (i.fmod j)) else stuck
  | _, _ => stuck
theorem mod_ok {G : Cfg} : Op2 G (rI (fun _ j => j ≠ 0) fun i j => .int (i.fmod j)) pyMod := by
  intro W σ ρ h H x y u v Q m rx ry p
  unfold pyMod at p
  split at p
  · split at p
    · rename_i hc
      exact ⟨_, _, rx, ry, hc, p ρ H _ m Ext.refl rfl⟩
    · exact p.elim
  · exact p.elim
def pyPow (x y : CV) : M CV := match x, y with
  | .int i, .int j => if 0 ≤ j ∧ j ≤ 1000000 ∧ i.natAbs < 2 ^ 64 then ret (.int (i ^ j.toNat)) else stuck
  | _, _ => stuck
theorem pow_ok {G : Cfg} : Op2 G (rI CPow fun i j => .int (i ^ j.toNat)) pyPow := by
  intro W σ ρ h H x y u v Q m rx ry p
  unfold pyPow at p
  split at p
  · split at p
    · rename_i hc
      exact ⟨_, _, rx, ry, hc, p ρ H _ m Ext.refl rfl⟩
    · exact p.elim
  · exact p.elim
def pyMul (x y : CV) : M CV := fun h => match x, y with
  | .int i, .int j => if (fit i && fit j) = true then .ok (.int (i * j)) h else .bad
  | .tup xs, .int k => if xs ≠ [] ∧ 2 ≤ k ∧ k ≤ 1000 ∧ xs.length ≤ 1000 then .ok (.tup (List.replicate k.toNat xs).flatten) h else .bad
  | x, .int k => match lstOf x h with
    | some xs => if 0 ≤ k ∧ k ≤ 1000 ∧ xs.length ≤ 1000 then .ok (.lst (List.replicate k.toNat xs).flatten) h else .bad
    | none => .bad
  | _, _ => .bad
def rTimes (K : PySem.W.Frag) : R2 := fun x y H Q => rI CMulW (fun i j => .int (i * j)) x y H Q ∨ rRepT K x y H Q ∨ rRep x y H Q
theorem op_times {X : Cx} : OpR X (binaryOp .Mult) (rTimes X.K) := op_mulW.or (op_repT.or op_rep)
def pyNeg (x : CV) : M CV := match x with
  | .int i => ret (.int (-i))
  | _ => stuck
theorem neg_ok {G : Cfg} : Op1 G (rU fun i => .int (-i)) pyNeg := by
  intro W σ ρ h H x u Q m rx p
  unfold pyNeg at p
  split at p
  · exact ⟨_, rx, p ρ H _ m Ext.refl rfl⟩
  · exact p.elim
/-- two ints compared -/
def pyCmp (f : Int → Int → Bool) (x y : CV) : M CV := match x, y with
  | .int i, .int j => ret (.bl (f i j))
  | _, _ => stuck
theorem cmp_ok {G : Cfg} {f : Int → Int → Bool} : Op2 G (rI0 fun i j => .bl (f i j)) (pyCmp f) := by
  intro W σ ρ h H x y u v Q m rx ry p
  unfold pyCmp at p
  split at p
  · exact ⟨_, _, rx, ry, p ρ H _ m Ext.refl rfl⟩
  · exact p.elim
abbrev pyLt := pyCmp fun i j => decide (i < j)
abbrev pyLe := pyCmp fun i j => decide (i ≤ j)
abbrev pyGt := pyCmp fun i j => decide (j < i)
abbrev pyGe := pyCmp fun i j => decide (j ≤ i)
/-- a op1 b op2 c -/
def eChain (g g' : CV → CV → M CV) (a b c : Sl → M CV) : Sl → M CV := fun τ => bnd (a τ) fun x => bnd (b τ) fun y => bnd (g x y) fun z => match z with
  | .bl true => bnd (c τ) fun w => g' y w
  | .bl false => ret (.bl false)
  | _ => stuck

theorem times_ok {G : Cfg} : Op2 G (rTimes G.K) pyMul := by
  intro W σ ρ h H x y u v Q m rx ry p
  unfold pyMul at p
  split at p
  · split at p
    · rename_i hc
      exact .inl ⟨_, _, rx, ry, fit_mul hc, p ρ H _ m Ext.refl rfl⟩
    · exact p.elim
  · rename_i xs k
    split at p
    · rename_i hc
      obtain ⟨a, us, ea, sa, ra⟩ := rx
      exact .inr (.inl ⟨a, k, us, ea, ry, sa, fun e => hc.1 (ra.nil_iff.mp e), hc.2.1, hc.2.2.1, by rw [← ra.len]; exact hc.2.2.2, fun p' hp => p.newTup m (ra.rep _) hp⟩)
    · exact p.elim
  · rename_i k _ _
    split at p
    · rename_i xs e
      split at p
      · rename_i hc
        obtain ⟨a, us, ea, ra, sa⟩ := lstOf_r m rx e
        refine .inr (.inr ⟨a, k, us, ea, ry, sa, by omega, by omega, ?_, fun p' hp => p.newLst m (ra.rep _) hp⟩)
        rw [← ra.len]
        have h1 : k.toNat ≤ 1000 := by omega
        have h2 := Nat.mul_le_mul hc.2.2 h1
        rw [sizeLine_eq]; omega
      · exact p.elim
    · exact p.elim
  · exact p.elim
section
variable {G : Cfg} {W : WX} {X : Cx} {pos : Pos} {a b c : Expr} {ma mb mc : Sl → M CV} {r r' : R2} {g g' : CV → CV → M CV} {op op' : CmpOp}
theorem chain_red (hg : Op2 G r g) (hg' : Op2 G r' g') {σ : L2.St} {H : Hp} {Q : VK} (q : tV G W (eChain g g' ma mb mc) σ H Q) : tChain r r' (tV G W ma) (tV G W mb) (tV G W mc) σ H Q := by
  obtain ⟨ρ, h, τ, m, s, p⟩ := q
  refine tM_bind m s p fun x h1 ρ1 H1 u m1 e1 s1 r1 p1 => tM_bind m1 s1 p1 fun y h2 ρ2 H2 v m2 e2 s2 r2 p2 => hg W σ ρ2 h2 H2 x y u v _ m2 (r1.ext m1 e2) r2 ?_
  unfold bnd at p2
  cases e : g x y h2 with
  | ok z h3 =>
    rw [e] at p2
    intro ρ3 H3 t m3 e3 r3
    cases z with
    | bl k =>
      refine ⟨k, r3, ?_⟩
      cases k with
      | true =>
        rw [if_pos rfl]
        exact tM_bind m3 (s2.ext m2 e3) (Post.ext (G := G) (W := W) p2 e3) fun w' h4 ρ4 H4 t' m4 e4 s4 r4 p4 => hg' W σ ρ4 h4 H4 y w' v t' Q m4 (r2.ext m2 (e3.trans e4)) r4 p4
      | false =>
        rw [if_neg Bool.false_ne_true]
        exact p2 ρ3 H3 _ m3 e3 rfl
    | _ => exact p2.elim
  | exc z h3 => rw [e] at p2; exact p2
  | bad => rw [e] at p2; exact p2
theorem se_chain (ho : OpR X (compareOp op) r) (hg : Op2 G r g) (ho' : OpR X (compareOp op') r') (hg' : Op2 G r' g') (ha : SE G W X a ma) (hb : SE G W X b mb) (hc : SE G W X c mc) (hm : lastMarks [op, op'] [b, c] = false := by with_unfolding_all rfl) :
    SE G W X (.Compare a [op, op'] [b, c] pos) (eChain g g' ma mb mc) := (pe_chain ho ho' ha hb hc hm).wk fun σ H Q q => chain_red hg hg' q
theorem st_chain (ho : OpR X (compareOp op) r) (hg : Op2 G r g) (ho' : OpR X (compareOp op') r') (hg' : Op2 G r' g') (ha : SE G W X a ma) (hb : SE G W X b mb) (hc : SE G W X c mc) (hm : lastMarks [op, op'] [b, c] = false := by with_unfolding_all rfl) :
    ST G W X (.Compare a [op, op'] [b, c] pos) (bOf (eChain g g' ma mb mc)) := by
  refine (pt_chain ho ho' ha hb hc hm).wk fun σ H Q ⟨ρ, h, τ, m, s, p⟩ => ?_
  refine chain_red (W := W) hg hg' ⟨ρ, h, τ, m, s, ?_⟩
  unfold bOf bnd at p
  cases e : eChain g g' ma mb mc τ h with
  | ok z h3 =>
    rw [e] at p
    intro ρ3 H3 t m3 e3 r3
    cases z with
    | bl k => exact ⟨k, r3, p ρ3 H3 k m3 e3 rfl⟩
    | _ => exact p.elim
  | exc z h3 => rw [e] at p; exact p
  | bad => rw [e] at p; exact p
end

mutual
def dat : CV → Option PyData
  | .non => some .none
  | .bl b => some (.bool b)
  | .int i => some (.int i)
  | .str x => some (.str x)
  | .tup xs => (dats xs).map .tuple
  | .lst xs => (dats xs).map .list
  | .frz xs => (dats xs).map .list
  | _ => none
def dats : List CV → Option (List PyData)
  | [] => some []
  | x :: xs => match dat x, dats xs with
    | some d, some ds => some (d :: ds)
    | _, _ => none
end
def datM (x : CV) (h : Mem) : Option PyData := match x with
  | .ref l => match memAt h l with
    | some xs => (dats xs).map .list
    | none => none
  | x => dat x
section
variable {G : Cfg} {ρ : Wd} {h : Mem} {H : Hp}
mutual
theorem dat_r : ∀ {x : CV} {u : V} {d : PyData}, ValR G ρ H x u → dat x = some d → Dp G.K H u d
  | .non, _, _, r, e => by cases e; rw [show _ = V.non from r]; exact .non
  | .bl b, _, _, r, e => by cases e; rw [show _ = V.bl b from r]; exact .bl b
  | .int i, _, _, r, e => by cases e; rw [show _ = V.int i from r]; exact .int i
  | .str x, _, _, r, e => by cases e; rw [show _ = V.str x from r]; exact .str x
  | .tup xs, _, d, ⟨a, ys, q, s, r⟩, e => by
    unfold dat at e
    cases z : dats xs with
    | none => simp [z] at e
    | some ds =>
      simp only [z, Option.map_some, Option.some.injEq] at e
      subst e q
      exact .tup s (dats_r r z)
  | .lst xs, _, d, ⟨a, ys, q, n, s, r⟩, e => by
    unfold dat at e
    cases z : dats xs with
    | none => simp [z] at e
    | some ds =>
      simp only [z, Option.map_some, Option.some.injEq] at e
      subst e q
      exact .lst (SqL.of s) (dats_r r z)
  | .frz xs, _, d, ⟨a, ys, q, s, r⟩, e => by
    unfold dat at e
    cases z : dats xs with
    | none => simp [z] at e
    | some ds =>
      simp only [z, Option.map_some, Option.some.injEq] at e
      subst e q
      exact .lst s.l (dats_r r z)
  | .ref l, _, _, _, e => by simp [dat] at e
  | .cls l, _, _, _, e => by simp [dat] at e
  | .fn l, _, _, _, e => by simp [dat] at e
  | .ty l, _, _, _, e => by simp [dat] at e
  | .ins _ _, _, _, _, e => by simp [dat] at e
  | .dic _ _ _, _, _, _, e => by simp [dat] at e
theorem dats_r : ∀ {xs : List CV} {us : List V} {ds : List PyData}, ValsR G ρ H xs us → dats xs = some ds → DpAll G.K H us ds
  | [], _, _, r, e => by rw [show _ = [] from r]; cases e; exact .nil
  | x :: xs, _, ds, ⟨y, r, q, r1, r2⟩, e => by
    subst q
    unfold dats at e
    cases z1 : dat x with
    | none => simp [z1] at e
    | some d =>
      cases z2 : dats xs with
      | none => simp [z1, z2] at e
      | some ds' =>
        simp only [z1, z2, Option.some.injEq] at e
        subst e
        exact .cons (dat_r r1 z1) (dats_r r2 z2)
end
theorem datM_r {x : CV} {u : V} {d : PyData} (m : MemR G ρ h H) (r : ValR G ρ H x u) (e : datM x h = some d) : Dp G.K H u d := by
  cases x with
  | ref l =>
    obtain ⟨a, q, z⟩ := r
    unfold datM at e
    cases hc : memAt h l with
    | none => simp [hc] at e
    | some xs =>
      simp only [hc] at e
      obtain ⟨ys, w, r⟩ := m.obj l a _ q (memAt_some hc)
      cases z2 : dats xs with
      | none => simp [z2] at e
      | some ds =>
        simp only [z2, Option.map_some, Option.some.injEq] at e
        subst e z
        exact .lst (SqL.of w) (dats_r r z2)
  | _ => exact dat_r r e
end
def pyEq (neg : Bool) (x y : CV) : M CV := fun h => match datM x h, datM y h with
  | some d, some e => if SeqAt.shaped d && SeqAt.shaped e then .ok (.bl (neg ^^ PyData.eqv d e)) h else .bad
  | _, _ => .bad
theorem eq_ok {G : Cfg} : Op2 G (rEqD G.K) (pyEq false) := by
  intro W σ ρ h H x y u v Q m rx ry p
  unfold pyEq at p
  split at p
  · rename_i d e h1 h2
    split at p
    · rename_i hs
      rw [Bool.and_eq_true] at hs
      exact ⟨d, e, datM_r m rx h1, datM_r m ry h2, hs.1, hs.2, by simpa using p ρ H _ m Ext.refl rfl⟩
    · exact p.elim
  · exact p.elim
theorem ne_ok {G : Cfg} : Op2 G (rNeD G.K) (pyEq true) := by
  intro W σ ρ h H x y u v Q m rx ry p
  unfold pyEq at p
  split at p
  · rename_i d e h1 h2
    split at p
    · rename_i hs
      rw [Bool.and_eq_true] at hs
      exact ⟨d, e, datM_r m rx h1, datM_r m ry h2, hs.1, hs.2, by simpa using p ρ H _ m Ext.refl rfl⟩
    · exact p.elim
  · exact p.elim

def pyLen (xs : List CV) : M CV := fun h => match xs with
  | [.str z] => if z.length ≤ 1000000 then .ok (.int z.length) h else .bad
  | [x] => match seqOf x h with
    | some ys => .ok (.int ys.length) h
    | none => .bad
  | _ => .bad
theorem len_ok {G : Cfg} : OpL G (fun xs H Q => ∃ x n, xs = [x] ∧ LenV G.K x H n ∧ Q (.int n) H) pyLen := by
  intro W σ ρ h H xs us Q m r p
  unfold pyLen at p
  split at p
  · rename_i z
    obtain ⟨y, t, e, r1, r2⟩ := r
    cases (show t = [] from r2)
    cases (show y = V.str z from r1)
    split at p
    · rename_i hl
      exact ⟨_, _, e, ⟨lineM hl, rfl⟩, p ρ H _ m Ext.refl rfl⟩
    · exact p.elim
  · obtain ⟨y, t, e, r1, r2⟩ := r
    cases (show t = [] from r2)
    split at p
    · rename_i ys q
      obtain ⟨a, us', eu, rr, sq⟩ := seqOf_r m r1 q
      subst eu
      have hp := p ρ H (.int ys.length) m Ext.refl rfl
      rw [rr.len] at hp
      split at sq
      · exact ⟨_, _, e, .inr ⟨_, sq, rfl⟩, hp⟩
      · exact ⟨_, _, e, .inl ⟨_, sq, rfl⟩, hp⟩
    · exact p.elim
  · exact p.elim
def pyAbs (xs : List CV) : M CV := match xs with
  | [.int i] => ret (.int (if i < 0 then -i else i))
  | _ => stuck
theorem abs_ok {G : Cfg} : OpL G (fun xs H Q => ∃ i, xs = [.int i] ∧ Q (.int (if i < 0 then -i else i)) H) pyAbs := by
  intro W σ ρ h H xs us Q m r p
  unfold pyAbs at p
  split at p
  · rename_i i
    obtain ⟨y, t, e, r1, r2⟩ := r
    cases (show t = [] from r2)
    cases (show y = V.int i from r1)
    exact ⟨i, e, p ρ H _ m Ext.refl rfl⟩
  · exact p.elim
def pyMax (xs : List CV) : M CV := match xs with
  | [.int i, .int j] => ret (.int (if j > i then j else i))
  | _ => stuck
theorem max_ok {G : Cfg} : OpL G (fun xs H Q => ∃ i j, xs = [.int i, .int j] ∧ Q (.int (if j > i then j else i)) H) pyMax := by
  intro W σ ρ h H xs us Q m r p
  unfold pyMax at p
  split at p
  · rename_i i j
    obtain ⟨y, t, e, r1, y2, t2, e2, r2, r3⟩ := r
    cases (show t2 = [] from r3)
    cases (show y = V.int i from r1)
    cases (show y2 = V.int j from r2)
    subst e2
    exact ⟨i, j, e, p ρ H _ m Ext.refl rfl⟩
  · exact p.elim
def pyMin (xs : List CV) : M CV := match xs with
  | [.int i, .int j] => ret (.int (if j < i then j else i))
  | _ => stuck
theorem min_ok {G : Cfg} : OpL G (fun xs H Q => ∃ i j, xs = [.int i, .int j] ∧ Q (.int (if j < i then j else i)) H) pyMin := by
  intro W σ ρ h H xs us Q m r p
  unfold pyMin at p
  split at p
  · rename_i i j
    obtain ⟨y, t, e, r1, y2, t2, e2, r2, r3⟩ := r
    cases (show t2 = [] from r3)
    cases (show y = V.int i from r1)
    cases (show y2 = V.int j from r2)
    subst e2
    exact ⟨i, j, e, p ρ H _ m Ext.refl rfl⟩
  · exact p.elim
def pyInt (xs : List CV) : M CV := match xs with
  | [.int i] => ret (.int i)
  | [.bl b] => ret (.int (if b then 1 else 0))
  | _ => stuck
theorem int_ok {G : Cfg} : OpL G (fun xs H Q => (∃ i, xs = [.int i] ∧ Q (.int i) H) ∨ ∃ k, xs = [.bl k] ∧ Q (.int (if k then 1 else 0)) H) pyInt := by
  intro W σ ρ h H xs us Q m r p
  unfold pyInt at p
  split at p
  · rename_i i
    obtain ⟨y, t, e, r1, r2⟩ := r
    cases (show t = [] from r2)
    cases (show y = V.int i from r1)
    exact .inl ⟨i, e, p ρ H _ m Ext.refl rfl⟩
  · rename_i i
    obtain ⟨y, t, e, r1, r2⟩ := r
    cases (show t = [] from r2)
    cases (show y = V.bl i from r1)
    exact .inr ⟨i, e, p ρ H _ m Ext.refl rfl⟩
  · exact p.elim
end VE

noncomputable section
namespace VE
open PySem PySem.Spec PyProof.Rows L2

theorem _root_.L2.PI.or {X : Cx} {tg e : Expr} {t t' : TI} (h : PI X tg e t) (h' : PI X tg e t') : PI X tg e (fun σ H R => t σ H R ∨ t' σ H R) :=
  ⟨fun pins s σ H R I q => q.elim (fun q => h.run pins s σ H R I q) fun q => h'.run pins s σ H R I q⟩
def strItems (z : Str) : List CV := z.cps.toList.map fun c => .str ⟨#[c]⟩
/-- the items that a for draws of a value that nobody writes -/
def itOf (x : CV) : M (List CV) := match x with
  | .tup xs => ret xs
  | .lst xs => ret xs
  | .frz xs => ret xs
  | .str z => ret (strItems z)
  | _ => stuck
def iSeq (e : Sl → M CV) : Sl → M (List CV) := fun τ => bnd (e τ) itOf
section
variable {G : Cfg} {ρ : Wd} {h : Mem} {H : Hp} {a : Addr} {ys : List V} {xs : List CV}
theorem itR_list (m : MemR G ρ h H) (s : SqF G.K ρ H a ys) (r : ValsR G ρ H xs ys) : ItR G ρ H (Itl G.K a) xs := by
  intro ρ1 h1 H1 m1 e1
  have s1 : SqL G.K H1 a ys := by
    rcases s with ⟨n, s⟩ | s
    · exact .inl (e1.rd s n fun _ e => by cases e)
    · exact (show SqF G.K ρ1 H1 a ys from .inr s).l
  have r1 := r.extH m e1
  refine ⟨fun i hi => ⟨ys, ys[i]'(by rw [← r.len]; exact hi), s1, by simp [← r.len, hi]⟩, ⟨ys, s1, by rw [r.len]; exact Nat.le_refl _⟩, fun i x u H' q y => ?_⟩
  obtain ⟨e, y⟩ := y
  subst e
  have q2 := y ys s1
  obtain ⟨w, q3, r3⟩ := r1.get q
  rw [q2] at q3
  cases q3
  exact ⟨m1, Ext.refl, r3⟩
theorem itR_tup (m : MemR G ρ h H) (s : SqT G.K H a ys) (r : ValsR G ρ H xs ys) : ItR G ρ H (Itt G.K a) xs := by
  intro ρ1 h1 H1 m1 e1
  have s1 := e1.sqT m s
  have r1 := r.extH m e1
  refine ⟨fun i hi => ⟨ys, ys[i]'(by rw [← r.len]; exact hi), s1, by simp [← r.len, hi]⟩, ⟨ys, s1, by rw [r.len]; exact Nat.le_refl _⟩, fun i x u H' q y => ?_⟩
  obtain ⟨e, y⟩ := y
  subst e
  have q2 := y ys s1
  obtain ⟨w, q3, r3⟩ := r1.get q
  rw [q2] at q3
  cases q3
  exact ⟨m1, Ext.refl, r3⟩
theorem itR_str {z : Str} : ItR G ρ H (Its z) (strItems z) := by
  intro ρ1 h1 H1 m1 e1
  have hl : (strItems z).length = z.cps.size := by unfold strItems; simp
  refine ⟨fun i hi => by rw [hl] at hi; exact hi, by rw [hl]; exact Nat.le_refl _, fun i x u H' q y => ?_⟩
  obtain ⟨e, c, hc, eu⟩ := y
  subst e eu
  refine ⟨m1, Ext.refl, ?_⟩
  unfold strItems at q
  rw [List.getElem?_map, Array.getElem?_toList, hc] at q
  cases q
  exact rfl
theorem itR_rng {lo : Int} {n : Nat} : ItR G ρ H (Itr lo n) ((List.range n).map fun (i : Nat) => CV.int (lo + (i : Int))) := by
  intro ρ1 h1 H1 m1 e1
  refine ⟨fun i hi => (show i < n by simpa using hi), by simp [Itr], fun i x u H' q y => ?_⟩
  obtain ⟨e, eu⟩ := y
  subst e eu
  refine ⟨m1, Ext.refl, ?_⟩
  rw [List.getElem?_map] at q
  by_cases hi : i < n
  · rw [List.getElem?_range hi] at q
    cases q
    exact rfl
  · rw [List.getElem?_eq_none (by simpa using hi)] at q
    cases q
theorem itR_rngC {lo c : Int} {n : Nat} : ItR G ρ H (Itc lo c n) ((List.range n).map fun (i : Nat) => CV.int (lo + (i : Int) * c)) := by
  intro ρ1 h1 H1 m1 e1
  refine ⟨fun i hi => (show i < n by simpa using hi), by simp [Itc], fun i x u H' q y => ?_⟩
  obtain ⟨e, eu⟩ := y
  subst e eu
  refine ⟨m1, Ext.refl, ?_⟩
  rw [List.getElem?_map] at q
  by_cases hi : i < n
  · rw [List.getElem?_range hi] at q
    cases q
    exact rfl
  · rw [List.getElem?_eq_none (by simpa using hi)] at q
    cases q
/-- (0, x), (1, y), .. -/
def enumL (i : Nat) : List CV → List CV
  | [] => []
  | x :: xs => .tup [.int (i : Int), x] :: enumL (i + 1) xs
theorem enumL_get : ∀ {xs : List CV} {n i : Nat} {y : CV}, (enumL n xs)[i]? = some y → ∃ x, xs[i]? = some x ∧ y = .tup [.int ((n + i : Nat) : Int), x]
  | [], n, i, y, e => by simp [enumL] at e
  | x :: xs, n, 0, y, e => by
    simp only [enumL, List.getElem?_cons_zero, Option.some.injEq] at e
    exact ⟨x, rfl, e.symm⟩
  | x :: xs, n, i + 1, y, e => by
    simp only [enumL, List.getElem?_cons_succ] at e
    obtain ⟨z, h1, h2⟩ := enumL_get e
    exact ⟨z, by simpa using h1, by rw [h2]; congr 4; omega⟩
theorem enumL_len : ∀ {xs : List CV} {n : Nat}, (enumL n xs).length = xs.length
  | [], _ => rfl
  | x :: xs, n => by simp [enumL, enumL_len]
theorem itR_enum (m : MemR G ρ h H) (s : SqF G.K ρ H a ys) (r : ValsR G ρ H xs ys) : ItR G ρ H (Ite G.K a) (enumL 0 xs) := by
  intro ρ1 h1 H1 m1 e1
  have s1 : SqL G.K H1 a ys := by
    rcases s with ⟨n, s⟩ | s
    · exact .inl (e1.rd s n fun _ e => by cases e)
    · exact (show SqF G.K ρ1 H1 a ys from .inr s).l
  have r1 := r.extH m e1
  refine ⟨fun i hi => ⟨ys, ys[i]'(by rw [← r.len]; rw [enumL_len] at hi; exact hi), s1, by rw [enumL_len] at hi; simp [← r.len, hi]⟩, ⟨ys, s1, by rw [enumL_len, r.len]; exact Nat.le_refl _⟩, fun i x u H' q y => ?_⟩
  obtain ⟨T, w, eu, hT, eH, hw⟩ := y
  subst eu eH
  obtain ⟨z, h1, h2⟩ := enumL_get q
  subst h2
  have q2 := hw ys s1
  obtain ⟨w', q3, r3⟩ := r1.get h1
  rw [q2] at q3
  cases q3
  refine ⟨m1.laid hT, Ext.laid hT, T, _, rfl, SqT.of upd_same, _, _, rfl, (by rw [Nat.zero_add]; exact (rfl : V.int _ = V.int _)), _, _, rfl, r3.ext m1 (Ext.laid hT), rfl⟩
def zipL : List CV → List CV → List CV
  | x :: xs, y :: ys => .tup [x, y] :: zipL xs ys
  | _, _ => []
theorem zipL_get : ∀ {xs ys : List CV} {i : Nat} {z : CV}, (zipL xs ys)[i]? = some z → ∃ x y, xs[i]? = some x ∧ ys[i]? = some y ∧ z = .tup [x, y]
  | [], _, i, z, e => by simp [zipL] at e
  | x :: xs, [], i, z, e => by simp [zipL] at e
  | x :: xs, y :: ys, 0, z, e => by
    simp only [zipL, List.getElem?_cons_zero, Option.some.injEq] at e
    exact ⟨x, y, rfl, rfl, e.symm⟩
  | x :: xs, y :: ys, i + 1, z, e => by
    simp only [zipL, List.getElem?_cons_succ] at e
    obtain ⟨a, b, h1, h2, h3⟩ := zipL_get e
    exact ⟨a, b, by simpa using h1, by simpa using h2, h3⟩
theorem zipL_len : ∀ {xs ys : List CV}, (zipL xs ys).length = min xs.length ys.length
  | [], _ => by simp [zipL]
  | x :: xs, [] => by simp [zipL]
  | x :: xs, y :: ys => by simp [zipL, zipL_len]
end
theorem SqF.ext {G : Cfg} {ρ ρ1 : Wd} {h : Mem} {H H1 : Hp} {a : Addr} {ys : List V} (s : SqF G.K ρ H a ys) (e1 : ExtH ρ H ρ1 H1) : SqL G.K H1 a ys := by
  rcases s with ⟨n, s⟩ | s
  · exact .inl (e1.rd s n fun _ e => by cases e)
  · exact (show SqF G.K ρ1 H1 a ys from .inr s).l
/-- a list (that nobody writes), a tuple -/
def frzOf (x : CV) : Option (List CV) := match x with
  | .lst xs => some xs
  | .frz xs => some xs
  | _ => none
theorem frzOf_r {G : Cfg} {ρ : Wd} {H : Hp} {x : CV} {u : V} {xs : List CV} (r : ValR G ρ H x u) (e : frzOf x = some xs) : ∃ a ys, u = .ref a ∧ SqF G.K ρ H a ys ∧ ValsR G ρ H xs ys := by
  cases x with
  | lst zs =>
    obtain ⟨a, ys, q, n, z, r⟩ := r
    cases e
    exact ⟨a, ys, q, .inl ⟨n, .inl z⟩, r⟩
  | frz zs =>
    obtain ⟨a, ys, q, z, r⟩ := r
    cases e
    exact ⟨a, ys, q, z, r⟩
  | _ => cases e
section
variable {G : Cfg} {W : WX} {X : Cx} {pos p : Pos} {e e2 tg : Expr} {es : List Expr} {me : Sl → M CV} {ml : Sl → M (List CV)}
theorem si_seq (hK : G.K = X.K) (he : SE G W X e me) : SI G W X tg e (iSeq me) :=
  ((pi_list he).or ((pi_tup he).or (pi_str he))).wk fun σ H R ⟨ρ, h, τ, m, s, p⟩ => by
    rw [← hK]
    have p' := p
    unfold iSeq bnd at p'
    cases q : me τ h with
    | exc x h1 => exact .inl ⟨ρ, h, τ, m, s, by rw [q] at p' ⊢; exact p'⟩
    | bad => exact .inl ⟨ρ, h, τ, m, s, by rw [q] at p' ⊢; exact p'⟩
    | ok x h1 =>
      rw [q] at p'
      cases x with
      | tup xs => exact .inr (.inl ⟨ρ, h, τ, m, s, by
          rw [q]
          intro ρ1 H1 u m1 e1 r1
          obtain ⟨a, ys, eu, z, r⟩ := r1
          exact ⟨a, eu, ⟨ys, z⟩, p' ρ1 H1 _ m1 e1 (itR_tup m1 z r)⟩⟩)
      | lst xs => exact .inl ⟨ρ, h, τ, m, s, by
          rw [q]
          intro ρ1 H1 u m1 e1 r1
          obtain ⟨a, ys, eu, z, r⟩ := frzOf_r r1 rfl
          exact ⟨a, eu, ⟨ys, z.l⟩, p' ρ1 H1 _ m1 e1 (itR_list m1 z r)⟩⟩
      | frz xs => exact .inl ⟨ρ, h, τ, m, s, by
          rw [q]
          intro ρ1 H1 u m1 e1 r1
          obtain ⟨a, ys, eu, z, r⟩ := frzOf_r r1 rfl
          exact ⟨a, eu, ⟨ys, z.l⟩, p' ρ1 H1 _ m1 e1 (itR_list m1 z r)⟩⟩
      | str z => exact .inr (.inr ⟨ρ, h, τ, m, s, by
          rw [q]
          intro ρ1 H1 u m1 e1 r1
          exact ⟨z, r1, p' ρ1 H1 _ m1 e1 itR_str⟩⟩)
      | _ => exact p'.elim
def rng1 (xs : List CV) : M (List CV) := match xs with
  | [.int n] => if -(2 ^ 62) ≤ n ∧ n < 2 ^ 62 then ret ((List.range n.toNat).map fun (i : Nat) => CV.int (0 + (i : Int))) else stuck
  | _ => stuck
def rng2 (xs : List CV) : M (List CV) := match xs with
  | [.int a, .int b] => if -(2 ^ 62) ≤ a ∧ a < 2 ^ 62 ∧ -(2 ^ 62) ≤ b ∧ b < 2 ^ 62 then ret ((List.range (b - a).toNat).map fun (i : Nat) => CV.int (a + (i : Int))) else stuck
  | _ => stuck
def rng3 (xs : List CV) : M (List CV) := match xs with
  | [.int a, .int b, .int c] => if c ≠ 0 ∧ c.natAbs < 1073741824 ∧ Builtin.Range.small a b c = true ∧ 0 ≤ Builtin.Range.rangeSize a b c then ret ((List.range (Builtin.Range.rangeSize a b c).toNat).map fun (i : Nat) => CV.int (a + (i : Int) * c)) else stuck
  | _ => stuck
def iArgs (g : List CV → M (List CV)) (ml : Sl → M (List CV)) : Sl → M (List CV) := fun τ => bnd (ml τ) g
theorem ints1 {G : Cfg} {ρ : Wd} {H : Hp} {n : Int} {us : List V} (r : ValsR G ρ H [.int n] us) : us = [.int n] := by
  obtain ⟨y, t, e, r1, r2⟩ := r
  cases (show t = [] from r2)
  cases (show y = V.int n from r1)
  exact e
theorem ints2 {G : Cfg} {ρ : Wd} {H : Hp} {n m : Int} {us : List V} (r : ValsR G ρ H [.int n, .int m] us) : us = [.int n, .int m] := by
  obtain ⟨y, t, e, r1, r2⟩ := r
  cases (show y = V.int n from r1)
  rw [e, ints1 r2]
theorem ints3 {G : Cfg} {ρ : Wd} {H : Hp} {n m k : Int} {us : List V} (r : ValsR G ρ H [.int n, .int m, .int k] us) : us = [.int n, .int m, .int k] := by
  obtain ⟨y, t, e, r1, r2⟩ := r
  cases (show y = V.int n from r1)
  rw [e, ints2 r2]
theorem si_rng1 (hg : Gl X "range") (hm : X.mg "range" = none) (ha : SA G W X [e] ml) (hs : starEach [e] X.env = [(false, eval e X.env)] := by rfl) : SI G W X tg (.Call (.Name "range" p) [e] [] pos) (iArgs rng1 ml) :=
  (pi_range1 hg hm ha hs).wk fun σ H R ⟨ρ, h, τ, m, s, p⟩ => tM_bind m s p fun xs h1 ρ1 H1 us m1 e1 s1 r1 p1 => by
    unfold rng1 at p1
    split at p1
    · rename_i n
      split at p1
      · rename_i hc
        exact ⟨n, ints1 r1, hc.1, hc.2, p1 ρ1 H1 _ m1 Ext.refl itR_rng⟩
      · exact p1.elim
    · exact p1.elim
theorem si_rng2 (hg : Gl X "range") (hm : X.mg "range" = none) (ha : SA G W X [e, e2] ml) (hs : starEach [e, e2] X.env = [(false, eval e X.env), (false, eval e2 X.env)] := by rfl) (hs2 : starEach [e2] X.env = [(false, eval e2 X.env)] := by rfl) :
    SI G W X tg (.Call (.Name "range" p) [e, e2] [] pos) (iArgs rng2 ml) :=
  (pi_range2 hg hm ha hs hs2).wk fun σ H R ⟨ρ, h, τ, m, s, p⟩ => tM_bind m s p fun xs h1 ρ1 H1 us m1 e1 s1 r1 p1 => by
    unfold rng2 at p1
    split at p1
    · rename_i n k
      split at p1
      · rename_i hc
        exact ⟨n, k, ints2 r1, hc, p1 ρ1 H1 _ m1 Ext.refl itR_rng⟩
      · exact p1.elim
    · exact p1.elim
theorem si_rng3 {e3 : Expr} (hg : Gl X "range") (hm : X.mg "range" = none) (ha : SA G W X [e, e2, e3] ml) (hs : starEach [e, e2, e3] X.env = (false, eval e X.env) :: starEach [e2, e3] X.env := by rfl) (hpl : (backTo pos (starEach [e2, e3] X.env)).any (·.1) = false := by rfl) :
    SI G W X tg (.Call (.Name "range" p) [e, e2, e3] [] pos) (iArgs rng3 ml) :=
  (pi_range3 hg hm ha hs hpl).wk fun σ H R ⟨ρ, h, τ, m, s, p⟩ => tM_bind m s p fun xs h1 ρ1 H1 us m1 e1 s1 r1 p1 => by
    unfold rng3 at p1
    split at p1
    · rename_i n k c
      split at p1
      · rename_i hc
        refine ⟨n, k, c, (Builtin.Range.rangeSize n k c).toNat, ints3 r1, ⟨hc.1, hc.2.1, hc.2.2.1, by omega⟩, p1 ρ1 H1 _ m1 Ext.refl itR_rngC⟩
      · exact p1.elim
    · exact p1.elim
def enumOf (xs : List CV) : M (List CV) := match xs with
  | [x] => match frzOf x with
    | some ys => ret (enumL 0 ys)
    | none => stuck
  | _ => stuck
theorem si_enum {elts : List Expr} {kk : Nat} {tpos : Pos} (hK : G.K = X.K) (hg : Gl X "enumerate") (hm : X.mg "enumerate" = none) (ha : SA G W X [e] ml) (hs : starEach [e] X.env = [(false, eval e X.env)] := by rfl) :
    SI G W X (.Tuple elts kk tpos) (.Call (.Name "enumerate" p) [e] [] pos) (iArgs enumOf ml) :=
  (pi_enum hg hm ha hs).wk fun σ H R ⟨ρ, h, τ, m, s, p⟩ => tM_bind m s p fun xs h1 ρ1 H1 us m1 e1 s1 r1 p1 => by
    rw [← hK]
    cases xs with
    | nil => exact p1.elim
    | cons x t =>
      cases t with
      | cons _ _ => exact p1.elim
      | nil =>
        simp only [enumOf] at p1
        cases q : frzOf x with
        | none => rw [q] at p1; exact p1.elim
        | some ys =>
          rw [q] at p1
          obtain ⟨y, t, eu, ry, rt⟩ := r1
          cases (show t = [] from rt)
          obtain ⟨a, vs, ea, z, r⟩ := frzOf_r ry q
          subst ea
          exact ⟨a, vs, eu, z.l, p1 ρ1 H1 _ m1 Ext.refl (itR_enum m1 z r)⟩
end

def wipeC (τ : Sl) : List Nat → Sl
  | [] => τ
  | v :: vs => (wipeC τ vs).set v none
theorem SlR.wipe {G : Cfg} {ρ : Wd} {H : Hp} {τ : Sl} {σ : L2.St} (r : SlR G ρ H τ σ) : ∀ vs, vs.all G.fr = true → SlR G ρ H (wipeC τ vs) (L2.wipe σ vs)
  | [], _ => r
  | v :: vs, e => by
    rw [List.all_cons, Bool.and_eq_true] at e
    exact (r.wipe vs e.2).unset v e.1
/-- [e for target in it if ..]; the items that it makes -/
def lcL (g : CV → Sl → M Sl) (tt : Sl → M Bool) (te : Sl → M CV) (τ : Sl) (xs : List CV) : M (List CV) :=
  List.rec (fun h => .ok [] h) (fun x _ ih h => Out.rec (fun τ1 h1 => Out.rec (fun b h2 => Bool.rec (ih h2) (Out.rec (fun y h3 => frV 3 y fun y => Out.rec (fun ys h4 => .ok (y :: ys) h4) (fun _ _ => .bad) .bad (ih h3)) (fun _ _ => .bad) .bad (te τ1 h2)) b) (fun _ _ => .bad) .bad (tt τ1 h1)) (fun _ _ => .bad) .bad (g x τ h)) xs
/-- the same, to be read -/
def lcR (g : CV → Sl → M Sl) (tt : Sl → M Bool) (te : Sl → M CV) (τ : Sl) : List CV → M (List CV)
  | [] => ret []
  | x :: xs => fun h => match g x τ h with
    | .ok τ1 h1 => match tt τ1 h1 with
      | .ok true h2 => match te τ1 h2 with
        | .ok y h3 => match lcR g tt te τ xs h3 with
          | .ok ys h4 => .ok (y :: ys) h4
          | _ => .bad
        | _ => .bad
      | .ok false h2 => lcR g tt te τ xs h2
      | _ => .bad
    | _ => .bad
theorem lcL_eq {g : CV → Sl → M Sl} {tt : Sl → M Bool} {te : Sl → M CV} {τ : Sl} : ∀ (xs : List CV) (h : Mem), lcL g tt te τ xs h = lcR g tt te τ xs h
  | [], _ => rfl
  | x :: xs, h => by
    have ih := fun h => lcL_eq (g := g) (tt := tt) (te := te) (τ := τ) xs h
    show (Out.rec (fun τ1 h1 => Out.rec (fun b h2 => Bool.rec (lcL g tt te τ xs h2) (Out.rec (fun y h3 => frV 3 y fun y => Out.rec (fun ys h4 => .ok (y :: ys) h4) (fun _ _ => .bad) .bad (lcL g tt te τ xs h3)) (fun _ _ => .bad) .bad (te τ1 h2)) b) (fun _ _ => .bad) .bad (tt τ1 h1)) (fun _ _ => .bad) .bad (g x τ h) : Out (List CV)) = _
    simp only [lcR]
    cases g x τ h with
    | ok τ1 h1 =>
      simp only
      cases tt τ1 h1 with
      | ok b h2 =>
        cases b with
        | true =>
          simp only
          cases te τ1 h2 with
          | ok y h3 =>
            simp only [frV_eq, ih]
            cases lcR g tt te τ xs h3 <;> rfl
          | exc _ _ => rfl
          | bad => rfl
        | false => exact ih h2
      | exc _ _ => rfl
      | bad => rfl
    | exc _ _ => rfl
    | bad => rfl
theorem wipe_get {σ : L2.St} {j : Nat} : ∀ {vs : List Nat}, (L2.wipe σ vs)[j]? = if j ∈ vs ∧ j < σ.length then some none else σ[j]?
  | [] => by simp [L2.wipe]
  | v :: vs => by
    unfold L2.wipe
    by_cases hv : v = j
    · subst hv
      by_cases hl : v < σ.length
      · rw [List.getElem?_set_self (by rw [wipe_length]; exact hl), if_pos ⟨List.mem_cons_self, hl⟩]
      · rw [List.getElem?_eq_none (by rw [List.length_set, wipe_length]; omega), if_neg (fun z => hl z.2), List.getElem?_eq_none (by omega)]
    · rw [List.getElem?_set_ne hv, wipe_get]
      have : (j ∈ v :: vs) ↔ j ∈ vs := by
        simp only [List.mem_cons]
        exact ⟨fun z => z.elim (fun z => absurd z.symm hv) id, .inr⟩
      simp only [this]
theorem wipe_set {σ : L2.St} {i : Nat} {x : Option V} {vs : List Nat} (hi : i ∈ vs) : L2.wipe (σ.set i x) vs = L2.wipe σ vs := by
  apply List.ext_getElem?
  intro j
  rw [wipe_get, wipe_get, List.length_set]
  by_cases hj : j ∈ vs ∧ j < σ.length
  · rw [if_pos hj, if_pos hj]
  · rw [if_neg hj, if_neg hj]
    by_cases e : i = j
    · subst e
      have hl : ¬ i < σ.length := fun z => hj ⟨hi, z⟩
      rw [List.getElem?_eq_none (by rw [List.length_set]; omega), List.getElem?_eq_none (by omega)]
    · rw [List.getElem?_set_ne e]
theorem wipe_wipe {σ : L2.St} {vs : List Nat} : L2.wipe (L2.wipe σ vs) vs = L2.wipe σ vs := by
  apply List.ext_getElem?
  intro j
  rw [wipe_get, wipe_length, wipe_get]
  by_cases hj : j ∈ vs ∧ j < σ.length
  · rw [if_pos hj, if_pos hj]
  · rw [if_neg hj]
/-- a target within a comprehension: it touches the block's own names alone -/
def LcG (G : Cfg) (g : TG) (gg : CV → Sl → M Sl) (vs : List Nat) : Prop := ∀ (ρ : Wd) (h : Mem) (H : Hp) (τ : Sl) (σ : L2.St) (x : CV) (v : V) (τ1 : Sl) (h1 : Mem) (Q : L2.St → Hp → Prop), MemR G ρ h H → SlR G ρ H τ σ → ValR G ρ H x v → gg x τ h = .ok τ1 h1 →
  (∀ σ2, h1 = h → SlR G ρ H τ1 σ2 → L2.wipe σ2 vs = L2.wipe σ vs → Q σ2 H) → g v σ H Q
def LcGs (G : Cfg) (g : TGs) (gg : List CV → Sl → M Sl) (vs : List Nat) : Prop := ∀ (ρ : Wd) (h : Mem) (H : Hp) (τ : Sl) (σ : L2.St) (x : List CV) (v : List V) (τ1 : Sl) (h1 : Mem) (Q : L2.St → Hp → Prop), MemR G ρ h H → SlR G ρ H τ σ → ValsR G ρ H x v → gg x τ h = .ok τ1 h1 →
  (∀ σ2, h1 = h → SlR G ρ H τ1 σ2 → L2.wipe σ2 vs = L2.wipe σ vs → Q σ2 H) → g v σ H Q
section
variable {G : Cfg} {vs : List Nat}
theorem lcg_set {i : Nat} (hi : i ∈ vs) (hfr : G.fr i = true := by rfl) : LcG G (gName i) (gSet i) vs := by
  intro ρ h H τ σ x v τ1 h1 Q m s r e hq
  rw [gSet_eq] at e
  cases e
  exact hq _ rfl (s.set i r hfr) (wipe_set hi)
theorem lcg_nil : LcGs G gNil gNilT vs := by
  intro ρ h H τ σ x v τ1 h1 Q m s r e hq
  cases x with
  | nil =>
    cases e
    exact ⟨r, hq σ rfl s rfl⟩
  | cons _ _ => cases e
theorem lcg_cons {g : TG} {gr : TGs} {gg : CV → Sl → M Sl} {ggr : List CV → Sl → M Sl} (h1 : LcG G g gg vs) (h2 : LcGs G gr ggr vs) : LcGs G (gCons g gr) (gConsT gg ggr) vs := by
  intro ρ h H τ σ x v τ1 h3 Q m s r e hq
  cases x with
  | nil => cases e
  | cons x xs =>
    obtain ⟨y, t, ev, r1, r2⟩ := r
    simp only [gConsT, bnd] at e
    cases q : gg x τ h with
    | ok τ2 h4 =>
      rw [q] at e
      refine ⟨y, t, ev, h1 ρ h H τ σ x y τ2 h4 _ m s r1 q fun σ2 eh s2 w2 => ?_⟩
      subst eh
      exact h2 ρ h4 H τ2 σ2 xs t τ1 h3 Q m s2 r2 e fun σ3 eh3 s3 w3 => hq σ3 eh3 s3 (w3.trans w2)
    | exc _ _ => rw [q] at e; cases e
    | bad => rw [q] at e; cases e
theorem lcg_unp {g : TGs} {gg : List CV → Sl → M Sl} {n : Nat} (h : LcGs G g gg vs) : LcG G (gTup G.K n g) (gUnp n gg) vs := by
  intro ρ h0 H τ σ x v τ1 h1 Q m s r e hq
  cases x with
  | tup xs =>
    obtain ⟨a, ys, ev, z, r⟩ := r
    simp only [gUnp] at e
    by_cases hl : xs.length = n
    · rw [if_pos hl] at e
      exact ⟨a, ys, ev, z, by rw [← r.len, hl], h ρ h0 H τ σ xs ys τ1 h1 Q m s r e hq⟩
    · rw [if_neg hl] at e; cases e
  | _ => cases e
end
mutual
/-- another world: it has no more, and its numbers go on -/
theorem ValR.tr {G : Cfg} {ρ ρ' : Wd} {H : Hp} (h1 : ∀ a, ρ'.has a → ρ.has a) (h2 : ∀ (l : Nat) (a : Addr), ρ.r[l]? = some a → ρ'.r[l]? = some a) : ∀ {x : CV} {v : V}, ValR G ρ H x v → ValR G ρ' H x v
  | .non, _, r => r
  | .bl _, _, r => r
  | .int _, _, r => r
  | .str _, _, r => r
  | .cls _, _, r => r
  | .fn _, _, r => r
  | .ty _, _, r => r
  | .ref l, _, ⟨a, e, q⟩ => ⟨a, h2 l a e, q⟩
  | .tup xs, _, ⟨x, ys, e, s, r⟩ => ⟨x, ys, e, s, ValsR.tr h1 h2 r⟩
  | .lst xs, _, ⟨x, ys, e, n, s, r⟩ => ⟨x, ys, e, fun z => n (h1 x z), s, ValsR.tr h1 h2 r⟩
  | .frz xs, _, ⟨x, ys, e, s, r⟩ => ⟨x, ys, e, s.elim (fun ⟨n, s⟩ => .inl ⟨fun z => n (h1 x z), s⟩) .inr, ValsR.tr h1 h2 r⟩
  | .ins k xs, _, ⟨x, dx, us, e, n, nd, s, f, r⟩ => ⟨x, dx, us, e, fun z => n (h1 x z), fun z => nd (h1 dx z), s, f, ValsR.tr h1 h2 r⟩
  | .dic n ks vs, _, ⟨x, ob, e, nh, p1, p2⟩ => ⟨x, ob, e, fun z => nh (h1 x z), fun z => let ⟨es, us, ws, q1, q2, q3, q4, q5, q6⟩ := p1 z; ⟨es, us, ws, q1, q2, q3, q4, ValsR.tr h1 h2 q5, ValsR.tr h1 h2 q6⟩,
      fun z => let ⟨es, ws, q1, q2, q3, q4⟩ := p2 z; ⟨es, ws, q1, q2, q3, ValsR.tr h1 h2 q4⟩⟩
theorem ValsR.tr {G : Cfg} {ρ ρ' : Wd} {H : Hp} (h1 : ∀ a, ρ'.has a → ρ.has a) (h2 : ∀ (l : Nat) (a : Addr), ρ.r[l]? = some a → ρ'.r[l]? = some a) : ∀ {xs : List CV} {vs : List V}, ValsR G ρ H xs vs → ValsR G ρ' H xs vs
  | [], _, r => r
  | x :: xs, _, ⟨y, r, e, q, s⟩ => ⟨y, r, e, ValR.tr h1 h2 q, ValsR.tr h1 h2 s⟩
end
theorem ObjR.tr {G : Cfg} {ρ ρ' : Wd} {H : Hp} {co : CO} {a : Addr} (h1 : ∀ a, ρ'.has a → ρ.has a) (h2 : ∀ (l : Nat) (a : Addr), ρ.r[l]? = some a → ρ'.r[l]? = some a) (r : ObjR G ρ H co a) : ObjR G ρ' H co a := by
  cases co with
  | lst xs => obtain ⟨ys, w, z⟩ := r; exact ⟨ys, w, z.tr h1 h2⟩
  | dic lk n ks vs =>
    obtain ⟨u, q1, q2, d⟩ := r
    exact ⟨u, q1, q2, fun z => let ⟨es, w1, w2, w3, w4⟩ := d.1 z; ⟨es, w1, w2, w3.tr h1 h2, w4.tr h1 h2⟩, fun z => let ⟨es, w1, w2, w3⟩ := d.2 z; ⟨es, w1, w2, w3.tr h1 h2⟩⟩
  | ins k xs => obtain ⟨dx, us, w, nd, f, z⟩ := r; exact ⟨dx, us, w, fun z => nd (h1 dx z), f, z.1, fun i v q => let ⟨u, a, b⟩ := z.2 i v q; ⟨u, a, b.tr h1 h2⟩⟩
  | none_ => exact r.elim
theorem ExcR.tr {G : Cfg} {ρ ρ' : Wd} {H : Hp} {x : Exn} {c : Value} {d : Option Addr} (h1 : ∀ a, ρ'.has a → ρ.has a) (h2 : ∀ (l : Nat) (a : Addr), ρ.r[l]? = some a → ρ'.r[l]? = some a) (r : ExcR G ρ H x c d) : ExcR G ρ' H x c d :=
  ⟨r.1, r.2.elim .inl fun ⟨da, fs, e1, e2, e3, e4⟩ => .inr ⟨da, fs, e1, e2, e3, e4.tr h1 h2⟩⟩
theorem MemR.lamT {G : Cfg} {ρ ρ' : Wd} {h : Mem} {H : Hp} (m : MemR G ρ h H) (h1 : ∀ a, ρ'.has a → ρ.has a) (h2 : ∀ (l : Nat) (a : Addr), ρ.r[l]? = some a → ρ'.r[l]? = some a) : ∀ L, G.lam = some L → SlV G ρ' H L.τ L.σ ∧ H L.c = some (LamX.CodeO L.c L.q) := fun L he =>
  ⟨⟨(m.lam L he).1.1, fun i v q => let ⟨u, a, b⟩ := (m.lam L he).1.2 i v q; ⟨u, a, b.tr h1 h2⟩⟩, (m.lam L he).2⟩
theorem unh1 {D : Addr} {d r : List Addr} : ∀ a, (⟨d, r⟩ : Wd).has a → (⟨D :: d, r⟩ : Wd).has a := fun _ z => z.elim .inl fun z => .inr (List.mem_cons_of_mem _ z)
theorem unh2 {D : Addr} {d r : List Addr} : ∀ a, (⟨d, r ++ [D]⟩ : Wd).has a → (⟨D :: d, r⟩ : Wd).has a := fun _ z => by
  rcases z with z | z
  · rcases List.mem_append.mp z with z | z
    · exact .inl z
    · exact .inr (List.mem_singleton.mp z ▸ List.mem_cons_self)
  · exact .inr (List.mem_cons_of_mem _ z)
theorem unh3 {D : Addr} {r : List Addr} : ∀ (l : Nat) (a : Addr), r[l]? = some a → (r ++ [D])[l]? = some a := fun l a e => by
  rw [List.getElem?_append_left (List.getElem?_eq_some_iff.mp e).1]; exact e
theorem ValR.unhid {G : Cfg} {D : Addr} {d r : List Addr} {H : Hp} {x : CV} {v : V} (q : ValR G ⟨D :: d, r⟩ H x v) : ValR G ⟨d, r⟩ H x v := q.tr unh1 fun _ _ e => e
theorem ValsR.unhid {G : Cfg} {D : Addr} {d r : List Addr} {H : Hp} {xs : List CV} {vs : List V} (q : ValsR G ⟨D :: d, r⟩ H xs vs) : ValsR G ⟨d, r⟩ H xs vs := q.tr unh1 fun _ _ e => e
theorem ValsR.unhidN {G : Cfg} {D : Addr} {d r : List Addr} {H : Hp} {xs : List CV} {vs : List V} (q : ValsR G ⟨D :: d, r⟩ H xs vs) : ValsR G ⟨d, r ++ [D]⟩ H xs vs := q.tr unh2 unh3
theorem MemR.unhid {G : Cfg} {D : Addr} {d r : List Addr} {h : Mem} {H : Hp} (m : MemR G ⟨D :: d, r⟩ h H) : MemR G ⟨d, r⟩ h H :=
  ⟨m.len, m.nd, fun i a co e1 e2 => (m.obj i a co e1 e2).tr unh1 fun _ _ e => e, fun a ha => m.hid a (List.mem_cons_of_mem _ ha), m.tab, fun e he => (m.exc e he).tr unh1 fun _ _ e => e, m.lamT unh1 fun _ _ e => e⟩
/-- a hidden object comes into the memory -/
theorem MemR.unhidO {G : Cfg} {D : Addr} {d r : List Addr} {h : Mem} {H : Hp} {co : CO} (m : MemR G ⟨D :: d, r⟩ h H) (v : ObjR G ⟨D :: d, r⟩ H co D) (hn : D ∉ d) : MemR G ⟨d, r ++ [D]⟩ (h ++ [co]) H where
  len := by simp [show r.length = h.length from m.len]
  nd := by
    refine List.nodup_append.mpr ⟨m.nd, by simp, fun a ha b hb => ?_⟩
    rw [List.mem_singleton.mp hb]
    intro z
    exact (m.hid D List.mem_cons_self).2 (z ▸ ha)
  obj := fun i a co e1 e2 => by
    have hl : r.length = h.length := m.len
    by_cases hi : i < r.length
    · rw [List.getElem?_append_left hi] at e1
      rw [List.getElem?_append_left (by omega)] at e2
      exact (m.obj i a co e1 e2).tr unh2 unh3
    · rw [List.getElem?_append_right (by omega)] at e1
      rw [List.getElem?_append_right (by omega)] at e2
      have h0 : i - r.length = 0 := by
        cases q : i - r.length with
        | zero => rfl
        | succ n => rw [q] at e1; simp at e1
      rw [h0] at e1
      rw [← hl, h0] at e2
      simp only [List.getElem?_cons_zero, Option.some.injEq] at e1 e2
      subst e1 e2
      exact v.tr unh2 unh3
  hid := fun a ha => by
    obtain ⟨q, n⟩ := m.hid a (List.mem_cons_of_mem _ ha)
    refine ⟨q, fun z => ?_⟩
    rcases List.mem_append.mp z with z | z
    · exact n z
    · exact hn (List.mem_singleton.mp z ▸ ha)
  tab := m.tab
  exc := fun e he => (m.exc e he).tr unh2 unh3
  lam := m.lamT unh2 unh3
theorem MemR.unhidN {G : Cfg} {D : Addr} {d r : List Addr} {h : Mem} {H : Hp} {ys : List CV} {us : List V} (m : MemR G ⟨D :: d, r⟩ h H) (v : ValsR G ⟨D :: d, r⟩ H ys us) (e : H D = some (.lst us)) (hn : D ∉ d) : MemR G ⟨d, r ++ [D]⟩ (h ++ [.lst ys]) H := m.unhidO ⟨us, e, v⟩ hn
/-- a new object is hidden -/
theorem MemR.hideO {G : Cfg} {ρ : Wd} {h : Mem} {H : Hp} {D : Addr} {o : HO} (m : MemR G ρ h H) (hD : H D = none) (mo : MutO G D o) : MemR G ⟨D :: ρ.d, ρ.r⟩ h (upd H D o) where
  len := m.len
  nd := m.nd
  obj := fun i a co e1 e2 => by
    have q := m.obj i a co e1 e2
    have ex : ExtH ρ H ⟨D :: ρ.d, ρ.r⟩ (upd H D o) := ⟨fun a ha => by
      rcases List.mem_cons.mp ha with z | z
      · exact .inr (z ▸ hD)
      · exact .inl z, fun _ _ e => e, fun a u e _ _ => by rw [upd_ne (ne_of_none e hD)]; exact e, fun _ e => .inl e⟩
    obtain ⟨u, w, _⟩ := q.there
    have nD : a ≠ D := ne_of_none w hD
    cases co with
    | lst xs =>
      obtain ⟨zs, w, z⟩ := q
      exact ⟨zs, by rw [upd_ne nD]; exact w, z.extH m ex⟩
    | dic lk n ks vs =>
      obtain ⟨u, q1, q2, d⟩ := q
      exact ⟨u, fun z => (q1 z).imp fun _ w => by rw [upd_ne nD]; exact w, fun z => by rw [upd_ne nD]; exact q2 z, fun z => let ⟨es, w1, w2, w3, w4⟩ := d.1 z; ⟨es, w1, w2, w3.extH m ex, w4.extH m ex⟩, fun z => let ⟨es, w1, w2, w3⟩ := d.2 z; ⟨es, w1, w2, w3.extH m ex⟩⟩
    | ins k xs => obtain ⟨dx, us, w, nd, f, z⟩ := q; exact ⟨dx, us, by rw [upd_ne nD]; exact w, ex.notin (.inl f) nd, by rw [upd_ne (ne_of_none f hD)]; exact f, z.1, fun i v q => let ⟨u, a, b⟩ := z.2 i v q; ⟨u, a, b.extH m ex⟩⟩
    | none_ => exact q.elim
  hid := fun a ha => by
    rcases List.mem_cons.mp ha with z | z
    · subst z
      exact ⟨⟨o, upd_same, mo⟩, fun z => m.free hD (.inl z)⟩
    · obtain ⟨⟨zs, q, q2⟩, n⟩ := m.hid a z
      exact ⟨⟨zs, by rw [upd_ne (ne_of_none q hD)]; exact q, q2⟩, n⟩
  tab := tabs_laid m.tab hD
  exc := fun e he => by
    have ex : ExtH ρ H ⟨D :: ρ.d, ρ.r⟩ (upd H D o) := ⟨fun a ha => by
      rcases List.mem_cons.mp ha with z | z
      · exact .inr (z ▸ hD)
      · exact .inl z, fun _ _ e => e, fun a u e _ _ => by rw [upd_ne (ne_of_none e hD)]; exact e, fun _ e => .inl e⟩
    obtain ⟨r1, r2⟩ := m.exc e he
    exact ⟨r1, r2.elim .inl fun ⟨da, fs, e1, e2, e3, e4⟩ => .inr ⟨da, fs, e1, ex.keep da _ e2 (m.notin e2 notMut_xd) (fun _ z => nomatch z), e3, e4.extH m ex⟩⟩
  lam := fun L he => by
    have ex : ExtH ρ H ⟨D :: ρ.d, ρ.r⟩ (upd H D o) := ⟨fun a ha => by
      rcases List.mem_cons.mp ha with z | z
      · exact .inr (z ▸ hD)
      · exact .inl z, fun _ _ e => e, fun a u e _ _ => by rw [upd_ne (ne_of_none e hD)]; exact e, fun _ e => .inl e⟩
    exact ⟨⟨(m.lam L he).1.1, fun i v q => let ⟨u, a, b⟩ := (m.lam L he).1.2 i v q; ⟨u, a, b.extH m ex⟩⟩, by rw [upd_ne (ne_of_none (m.lam L he).2 hD)]; exact (m.lam L he).2⟩
theorem MemR.hide {G : Cfg} {ρ : Wd} {h : Mem} {H : Hp} {D : Addr} {ys : List V} (m : MemR G ρ h H) (hD : H D = none) : MemR G ⟨D :: ρ.d, ρ.r⟩ h (upd H D (.lst ys)) := m.hideO hD (.inl ⟨ys, rfl⟩)
/-- a hidden object is written -/
theorem MemR.hidwrO {G : Cfg} {ρ : Wd} {h : Mem} {H : Hp} {D : Addr} {o : HO} (m : MemR G ρ h H) (hD : D ∈ ρ.d) (mo : MutO G D o) : MemR G ρ h (upd H D o) where
  len := m.len
  nd := m.nd
  obj := fun i a co e1 e2 => objR_wr (.inr hD) (m.hid D hD).1 (fun z => (m.hid D hD).2 (z ▸ List.mem_of_getElem? e1)) (m.obj i a co e1 e2)
  hid := fun a ha => by
    obtain ⟨⟨zs, q, q2⟩, n⟩ := m.hid a ha
    refine ⟨?_, n⟩
    by_cases e : a = D
    · rw [e]; exact ⟨o, upd_same, mo⟩
    · exact ⟨zs, by rw [upd_ne e]; exact q, q2⟩
  tab := tabs_wr m.tab (m.hid D hD).1
  exc := fun e he => (m.exc e he).wr (.inr hD) (m.hid D hD).1
  lam := m.lamW (.inr hD) (m.hid D hD).1
theorem MemR.hidwr {G : Cfg} {ρ : Wd} {h : Mem} {H : Hp} {D : Addr} {ys : List V} (m : MemR G ρ h H) (hD : D ∈ ρ.d) : MemR G ρ h (upd H D (.lst ys)) := m.hidwrO hD (.inl ⟨ys, rfl⟩)
abbrev W0 : WX := fun _ _ _ _ => False
theorem lc_core' {G : Cfg} {W' : Wd → Mem → List CV → Hp → Prop} {g : TG} {gg : CV → Sl → M Sl} {tt : Sl → M Bool} {te : Sl → M CV} {vs : List Nat} {τ : Sl} {σ : L2.St} {ρ1 : Wd} {H1 : Hp} {h1 : Mem} {J : It} {xs : List CV} {D : Addr} {Q : VK}
    (m1 : MemR G ρ1 h1 H1) (s1 : SlR G ρ1 H1 τ σ) (r1 : ItR G ρ1 H1 J xs) (hD : H1 D = none) (hg : LcG G g gg vs) (hfv : vs.all G.fr = true) (hl : xs.length ≤ 1000000) {ys : List CV} {hf : Mem} (e : lcR gg tt te (wipeC τ vs) xs h1 = .ok ys hf)
    (fin : ∀ r H us, MemR G ⟨D :: ρ1.d, r⟩ hf H → Ext ρ1 H1 ⟨ρ1.d, r⟩ H → H D = some (.lst us) → ValsR G ⟨D :: ρ1.d, r⟩ H ys us → Q (.ref D) H) :
    ∃ W : Nat → Nat → Hp → Prop, (∃ m, W 0 m (upd H1 D (.lst []))) ∧ ∀ i m H, W i m H →
      (J.stop i H ∧ Q (.ref D) H) ∨ (J.go i H ∧ ∃ Nx : Hp → Prop, (∀ H', Nx H' → ∃ m', m' < m ∧ W (i + 1) m' H') ∧ ∀ x H', J.yld i H x H' → g x (L2.wipe σ vs) H' fun σ2 H2 => L2.wipe σ2 vs = L2.wipe σ vs ∧ tBo G W0 tt σ2 H2 fun b H3 =>
        if b = true then tV G W0 te σ2 H3 fun y H4 => ∃ acc, H4 D = some (.lst acc) ∧ acc.length < sizeLine ∧ Nx (upd H4 D (.lst (acc ++ [y]))) else Nx H3) := by
  refine ⟨fun i n H => i + n = xs.length ∧ ∃ r h done acc rest, MemR G ⟨D :: ρ1.d, r⟩ h H ∧ Ext ρ1 H1 ⟨ρ1.d, r⟩ H ∧ H D = some (.lst acc) ∧ ValsR G ⟨D :: ρ1.d, r⟩ H done acc ∧ done.length ≤ i ∧ lcR gg tt te (wipeC τ vs) (xs.drop i) h = .ok rest hf ∧ ys = done ++ rest, ⟨xs.length, Nat.zero_add _, ρ1.r, h1, [], [], ys, m1.hide hD, Ext.laid hD, upd_same, rfl, Nat.le_refl _, e, rfl⟩, ?_⟩
  rintro i n H ⟨hin, r, h, done, acc, rest, m, ex, hacc, rd, hdl, el, ey⟩
  have exH : ExtH ρ1 H1 ⟨D :: ρ1.d, r⟩ H := ⟨fun a ha => by
    rcases List.mem_cons.mp ha with z | z
    · exact .inr (z ▸ hD)
    · exact .inl z, ex.pre, fun a o e n t => ex.keep a o e (fun z => n (.inl z)) t, ex.new⟩
  obtain ⟨go, stop, yld⟩ := r1 _ h H m exH
  have hDd : D ∈ (⟨D :: ρ1.d, r⟩ : Wd).d := List.mem_cons_self
  have hDr : D ∉ r := (m.hid D hDd).2
  cases n with
  | zero =>
    have ei : i = xs.length := by omega
    subst ei
    rw [List.drop_length] at el
    cases el
    rw [List.append_nil] at ey
    subst ey
    exact .inl ⟨stop, fin r H acc m ex hacc rd⟩
  | succ n =>
    have hlt : i < xs.length := by omega
    rw [List.drop_eq_getElem_cons hlt] at el
    simp only [lcR] at el
    -- what is kept on the way to the end of the turn
    have fin' : ∀ (ρ4 : Wd) (h4 : Mem) (H4 : Hp), MemR G ρ4 h4 H4 → Ext ⟨D :: ρ1.d, r⟩ H ρ4 H4 → ρ4.d = D :: ρ1.d ∧ H4 D = some (.lst acc) ∧ Ext ρ1 H1 ⟨ρ1.d, ρ4.r⟩ H4 := fun ρ4 h4 H4 m4 e4 => by
      refine ⟨e4.hid, e4.keep D _ hacc hDr (fun _ z => by cases z), rfl, fun i a q => e4.pre i a (ex.pre i a q), fun a o q n t => ?_, fun a ps q => ?_, fun a q => ?_⟩
      · refine e4.keep a o (ex.keep a o q n t) (fun z => ?_) t
        rcases ex.new a z with z | z
        · exact n z
        · rw [q] at z; cases z
      · obtain ⟨p1, q1⟩ := ex.tbl a ps q
        exact e4.tbl a p1 q1
      · rcases e4.new a q with z | z
        · exact ex.new a z
        · by_cases hx : a ∈ ρ1.r
          · exact .inl hx
          · cases q1 : H1 a with
            | none => exact .inr rfl
            | some o => exact absurd z (ex.there q1 hx)
    refine .inr ⟨go i hlt, fun H' => i + 1 + n = xs.length ∧ ∃ r h done acc rest, MemR G ⟨D :: ρ1.d, r⟩ h H' ∧ Ext ρ1 H1 ⟨ρ1.d, r⟩ H' ∧ H' D = some (.lst acc) ∧ ValsR G ⟨D :: ρ1.d, r⟩ H' done acc ∧ done.length ≤ i + 1 ∧ lcR gg tt te (wipeC τ vs) (xs.drop (i + 1)) h = .ok rest hf ∧ ys = done ++ rest, fun H' q => ⟨n, Nat.lt_succ_self n, q⟩, fun u H' y => ?_⟩
    obtain ⟨m', e', r'⟩ := yld i xs[i] u H' (by simp [hlt]) y
    have s' : SlR G ⟨D :: ρ1.d, r⟩ H' (wipeC τ vs) (L2.wipe σ vs) := by
      have q : SlR G ⟨D :: ρ1.d, r⟩ H τ σ := ⟨s1.1, fun i v q => let ⟨u, a, b⟩ := s1.2.1 i v q; ⟨u, a, b.extH m1 exH⟩, s1.2.2⟩
      exact (q.ext m e').wipe vs hfv
    cases q : gg xs[i] (wipeC τ vs) h with
    | ok τ1 h2 =>
      rw [q] at el
      refine hg _ h H' _ _ _ u τ1 h2 _ m' s' r' q fun σ2 eh s2 w2 => ?_
      subst eh
      refine ⟨w2.trans wipe_wipe, ⟨_, h2, τ1, m', s2, ?_⟩⟩
      simp only at el
      cases q2 : tt τ1 h2 with
      | ok b h3 =>
        rw [q2] at el
        intro ρ3 H3 b' m3 e3 eb
        subst eb
        have s3 := s2.ext m' e3
        cases b with
        | true =>
          rw [if_pos rfl]
          simp only at el
          refine ⟨ρ3, h3, τ1, m3, s3, ?_⟩
          cases q3 : te τ1 h3 with
          | ok z h4 =>
            rw [q3] at el
            simp only at el
            intro ρ4 H4 w m4 e4 r4
            obtain ⟨f1, f2, f3⟩ := fin' ρ4 h4 H4 m4 (e'.trans (e3.trans e4))
            obtain ⟨d4, r4'⟩ := ρ4
            cases f1
            have hacl : acc.length ≤ i := by rw [← rd.len]; exact hdl
            refine ⟨acc, f2, by rw [sizeLine_eq]; omega, by omega, r4', h4, done ++ [z], acc ++ [w], ?_⟩
            cases q4 : lcR gg tt te (wipeC τ vs) (xs.drop (i + 1)) h4 with
            | ok zs h5 =>
              rw [q4] at el
              cases el
              refine ⟨zs, m4.hidwr List.mem_cons_self, ?_, upd_same, ?_, by simp; omega, rfl, by rw [ey, List.append_assoc]; rfl⟩
              · refine ⟨rfl, f3.pre, fun a o z n t => ?_, fun a ps z => ?_, f3.new⟩
                · rw [upd_ne (ne_of_none z hD)]
                  exact f3.keep a o z n t
                · rw [upd_ne (ne_of_none z hD)]
                  exact f3.tbl a ps z
              · exact ((rd.ext m (e'.trans (e3.trans e4))).app (show ValsR G _ H4 [z] [w] from ⟨w, [], rfl, r4, rfl⟩)).wr (.inr List.mem_cons_self) ⟨_, f2, .inl ⟨_, rfl⟩⟩
            | exc _ _ => rw [q4] at el; cases el
            | bad => rw [q4] at el; cases el
          | exc _ _ => rw [q3] at el; cases el
          | bad => rw [q3] at el; cases el
        | false =>
          rw [if_neg Bool.false_ne_true]
          simp only at el
          obtain ⟨f1, f2, f3⟩ := fin' ρ3 h3 H3 m3 (e'.trans e3)
          obtain ⟨d3, r3⟩ := ρ3
          cases f1
          exact ⟨by omega, r3, h3, done, acc, rest, m3, f3, f2, rd.ext m (e'.trans e3), by omega, el, ey⟩
      | exc _ _ => rw [q2] at el; cases el
      | bad => rw [q2] at el; cases el
    | exc _ _ => rw [q] at el; cases el
    | bad => rw [q] at el; cases el
/-- frozen -/
def eLc (it : Sl → M (List CV)) (g : CV → Sl → M Sl) (tt : Sl → M Bool) (te : Sl → M CV) (vs : List Nat) : Sl → M CV := fun τ => bnd (it τ) fun xs h =>
  if xs.length ≤ 1000000 then match lcL g tt te (wipeC τ vs) xs h with
    | .ok ys h' => .ok (.lst ys) h'
    | _ => .bad
  else .bad
/-- written later -/
def eLcN (it : Sl → M (List CV)) (g : CV → Sl → M Sl) (tt : Sl → M Bool) (te : Sl → M CV) (vs : List Nat) : Sl → M CV := fun τ => bnd (it τ) fun xs h =>
  if xs.length ≤ 1000000 then match lcL g tt te (wipeC τ vs) xs h with
    | .ok ys h' => frN h'.length fun n => sapp h' [.lst ys] fun h'' => .ok (.ref n) h''
    | _ => .bad
  else .bad
theorem lc_red {G : Cfg} {W : WX} {it : Sl → M (List CV)} {g : TG} {gg : CV → Sl → M Sl} {tt : Sl → M Bool} {te : Sl → M CV} {vs : List Nat} (hg : LcG G g gg vs) (hfv : vs.all G.fr = true) {σ : L2.St} {H : Hp} {Q : VK} (q : tV G W (eLc it gg tt te vs) σ H Q) : tLc (tIt G W it) g (tBo G W0 tt) (tV G W0 te) vs σ H Q := by
  obtain ⟨ρ, h, τ, m, s, p⟩ := q
  refine tM_bind m s p fun xs h1 ρ1 H1 J m1 e1 s1 r1 p1 D hD => ?_
  by_cases hl : xs.length ≤ 1000000
  · rw [if_pos hl] at p1
    rw [lcL_eq] at p1
    cases e : lcR gg tt te (wipeC τ vs) xs h1 with
    | ok ys hf =>
      rw [e] at p1
      refine lc_core' (W' := fun _ _ _ _ => True) m1 s1 r1 hD hg hfv hl e fun r H2 us m2 e2 hus rus => ?_
      refine p1 ⟨ρ1.d, r⟩ H2 _ m2.unhid e2 ⟨D, us, rfl, fun z => ?_, hus, rus.unhid⟩
      rcases z with z | z
      · exact (m2.hid D List.mem_cons_self).2 z
      · obtain ⟨⟨_, w, _⟩, _⟩ := m1.hid D z
        rw [hD] at w; cases w
    | exc _ _ => rw [e] at p1; exact p1.elim
    | bad => rw [e] at p1; exact p1.elim
  · rw [if_neg hl] at p1; exact p1.elim
theorem lc_redN {G : Cfg} {W : WX} {it : Sl → M (List CV)} {g : TG} {gg : CV → Sl → M Sl} {tt : Sl → M Bool} {te : Sl → M CV} {vs : List Nat} (hg : LcG G g gg vs) (hfv : vs.all G.fr = true) {σ : L2.St} {H : Hp} {Q : VK} (q : tV G W (eLcN it gg tt te vs) σ H Q) : tLc (tIt G W it) g (tBo G W0 tt) (tV G W0 te) vs σ H Q := by
  obtain ⟨ρ, h, τ, m, s, p⟩ := q
  refine tM_bind m s p fun xs h1 ρ1 H1 J m1 e1 s1 r1 p1 D hD => ?_
  by_cases hl : xs.length ≤ 1000000
  · rw [if_pos hl] at p1
    rw [lcL_eq] at p1
    cases e : lcR gg tt te (wipeC τ vs) xs h1 with
    | ok ys hf =>
      rw [e] at p1
      simp only [frN_eq, sapp_eq] at p1
      refine lc_core' (W' := fun _ _ _ _ => True) m1 s1 r1 hD hg hfv hl e fun r H2 us m2 e2 hus rus => ?_
      have nD : D ∉ r := (m2.hid D List.mem_cons_self).2
      have ndd : D ∉ ρ1.d := fun z => by
        obtain ⟨⟨_, w, _⟩, _⟩ := m1.hid D z
        rw [hD] at w; cases w
      refine p1 ⟨ρ1.d, r ++ [D]⟩ H2 _ (m2.unhidN rus hus ndd) ?_ ⟨D, ?_, rfl⟩
      · refine ⟨rfl, fun i a z => ?_, e2.keep, e2.tbl, fun a z => ?_⟩
        · have z2 := e2.pre i a z
          have hi : i < r.length := (List.getElem?_eq_some_iff.mp z2).1
          show (r ++ [D])[i]? = some a
          rw [List.getElem?_append_left hi]; exact z2
        · rcases List.mem_append.mp z with z | z
          · exact e2.new a z
          · rw [List.mem_singleton.mp z]; exact .inr hD
      · show (r ++ [D])[hf.length]? = some D
        rw [← m2.len]; simp
    | exc _ _ => rw [e] at p1; exact p1.elim
    | bad => rw [e] at p1; exact p1.elim
  · rw [if_neg hl] at p1; exact p1.elim

theorem _root_.L2.PTs.wk {X : Cx} {e : List Expr} {t t' : TT} (h : PTs X e t) (w : ∀ σ H Q, t' σ H Q → t σ H Q) : PTs X e t' := ⟨fun pins s σ H Q I q => h.run pins s σ H Q I (w σ H Q q)⟩
def bYes : Sl → M Bool := fun _ => ret true
section
variable {G : Cfg} {W : WX} {X : Cx} {pos : Pos}
theorem sts_nil : PTs X [] (tBo G W bYes) := pts_nil.wk fun σ H Q ⟨ρ, h, τ, m, s, p⟩ => p ρ H true m Ext.refl rfl
theorem sts_one {c : Expr} {t : Sl → M Bool} (h : ST G W X c t) : PTs X [c] (tBo G W t) := pts_one h
abbrev Blk (X : Cx) (scope : Scope) (f : Cx → Prop) : Prop := ∀ (s : Shared) (H : Hp) (C : Addr) (cl : List (Str × Addr)) (fp : List Addr), f (X.blk s H scope (compEnvC scope cl C X.env) fp)
theorem se_lc {elt tg iter : Expr} {ifs : List Expr} {scope : Scope} {own : List (Str × Nat)} {it : Sl → M (List CV)} {g : TG} {gg : CV → Sl → M Sl} {tt : Sl → M Bool} {te : Sl → M CV} (hc : X.calm = true) (hN : X.N.Nodup) (hi : SI G W X tg iter it) (ok : BlkOk X.N X.env.scope scope own)
    (hgg : LcG G g gg (own.map (·.2))) (hg : Blk X scope fun Y => PG Y tg g) (ht : Blk X scope fun Y => PTs Y ifs (tBo G W0 tt)) (he : Blk X scope fun Y => SE G W0 Y elt te) (hs : ∀ x, foldedSetIterable iter X.env x = pure x := by intro _; rfl) (hfv : (own.map (·.2)).all G.fr = true := by rfl) :
    SE G W X (.ListComp elt [⟨tg, iter, ifs, 0⟩] scope pos) (eLc it gg tt te (own.map (·.2))) := (pe_lc hc hN hi ok hg ht he hs).wk fun σ H Q q => lc_red hgg hfv q
theorem se_lcN {elt tg iter : Expr} {ifs : List Expr} {scope : Scope} {own : List (Str × Nat)} {it : Sl → M (List CV)} {g : TG} {gg : CV → Sl → M Sl} {tt : Sl → M Bool} {te : Sl → M CV} (hc : X.calm = true) (hN : X.N.Nodup) (hi : SI G W X tg iter it) (ok : BlkOk X.N X.env.scope scope own)
    (hgg : LcG G g gg (own.map (·.2))) (hg : Blk X scope fun Y => PG Y tg g) (ht : Blk X scope fun Y => PTs Y ifs (tBo G W0 tt)) (he : Blk X scope fun Y => SE G W0 Y elt te) (hs : ∀ x, foldedSetIterable iter X.env x = pure x := by intro _; rfl) (hfv : (own.map (·.2)).all G.fr = true := by rfl) :
    SE G W X (.ListComp elt [⟨tg, iter, ifs, 0⟩] scope pos) (eLcN it gg tt te (own.map (·.2))) := (pe_lc hc hN hi ok hg ht he hs).wk fun σ H Q q => lc_redN hgg hfv q
/-- name = [..] -/
theorem asg_red {te : TE} {me : Sl → M CV} {i : Nat} (w : ∀ σ H Q, tV G W me σ H Q → te σ H Q) (hfr : G.fr i = true) {D : Ends} {σ : L2.St} {H : Hp} (q : tS G W (mAsg (gSet i) me) D σ H) : tAsg te (gName i) D σ H := by
  obtain ⟨ρ, h, τ, m, s, p⟩ := q
  exact w σ H _ (tM_inS m s p fun x h1 ρ1 H1 u m1 e1 s1 r1 p1 => by
    rw [gSet_eq] at p1
    exact p1 ρ1 H1 _ m1 Ext.refl (s1.set i r1 hfr))
theorem ss_setLc {i : Nat} {y : Str} {py spos : Pos} {elt tg iter : Expr} {ifs : List Expr} {scope : Scope} {own : List (Str × Nat)} {it : Sl → M (List CV)} {g : TG} {gg : CV → Sl → M Sl} {tt : Sl → M Bool} {te : Sl → M CV} (hc : X.calm = true) (hN : X.N.Nodup) (hy : X.N[i]? = some y) (hyl : X.env.scope.names.lookup y = some .local)
    (hsw : swapsWith (.ListComp elt [⟨tg, iter, ifs, 0⟩] scope pos) (some (.Name y py)) spos.line X.env = pure true) (hi : SI G W X tg iter it) (ok : BlkOk X.N X.env.scope scope own)
    (hgg : LcG G g gg (own.map (·.2))) (hg : Blk X scope fun Y => PG Y tg g) (ht : Blk X scope fun Y => PTs Y ifs (tBo G W0 tt)) (he : Blk X scope fun Y => SE G W0 Y elt te) (hs : ∀ x, foldedSetIterable iter X.env x = pure x := by intro _; rfl) (hfv : (own.map (·.2)).all G.fr = true := by rfl) (hfr : G.fr i = true := by rfl) :
    SS G W X (.Assign [.Name y py] (.ListComp elt [⟨tg, iter, ifs, 0⟩] scope pos) spos) (mAsg (gSet i) (eLc it gg tt te (own.map (·.2)))) := (ps_setLc hc hN hy hyl hsw hi ok hg ht he hs).wk fun D σ H q => asg_red (fun σ H Q q => lc_red hgg hfv q) hfr q
theorem ss_setLcN {i : Nat} {y : Str} {py spos : Pos} {elt tg iter : Expr} {ifs : List Expr} {scope : Scope} {own : List (Str × Nat)} {it : Sl → M (List CV)} {g : TG} {gg : CV → Sl → M Sl} {tt : Sl → M Bool} {te : Sl → M CV} (hc : X.calm = true) (hN : X.N.Nodup) (hy : X.N[i]? = some y) (hyl : X.env.scope.names.lookup y = some .local)
    (hsw : swapsWith (.ListComp elt [⟨tg, iter, ifs, 0⟩] scope pos) (some (.Name y py)) spos.line X.env = pure true) (hi : SI G W X tg iter it) (ok : BlkOk X.N X.env.scope scope own)
    (hgg : LcG G g gg (own.map (·.2))) (hg : Blk X scope fun Y => PG Y tg g) (ht : Blk X scope fun Y => PTs Y ifs (tBo G W0 tt)) (he : Blk X scope fun Y => SE G W0 Y elt te) (hs : ∀ x, foldedSetIterable iter X.env x = pure x := by intro _; rfl) (hfv : (own.map (·.2)).all G.fr = true := by rfl) (hfr : G.fr i = true := by rfl) :
    SS G W X (.Assign [.Name y py] (.ListComp elt [⟨tg, iter, ifs, 0⟩] scope pos) spos) (mAsg (gSet i) (eLcN it gg tt te (own.map (·.2)))) := (ps_setLc hc hN hy hyl hsw hi ok hg ht he hs).wk fun D σ H q => asg_red (fun σ H Q q => lc_redN hgg hfv q) hfr q
end
end VE

noncomputable section
namespace VE
open PySem PySem.Spec PyProof.Rows L2

mutual
def noRef : CV → Bool
  | .ref _ => false
  | .tup xs => noRefs xs
  | .lst xs => noRefs xs
  | .frz xs => noRefs xs
  | .ins _ xs => noRefs xs
  | .dic _ ks vs => noRefs ks && noRefs vs
  | _ => true
def noRefs : List CV → Bool
  | [] => true
  | x :: xs => noRef x && noRefs xs
end
mutual
/-- no list within -/
def scal : CV → Bool
  | .ref _ => false
  | .lst _ => false
  | .frz _ => false
  | .ins _ _ => false
  | .dic _ _ _ => false
  | .tup xs => scals xs
  | _ => true
def scals : List CV → Bool
  | [] => true
  | x :: xs => scal x && scals xs
end
def mapO (f : CV → Option CV) : List CV → Option (List CV)
  | [] => some []
  | x :: xs => match f x, mapO f xs with
    | some y, some ys => some (y :: ys)
    | _, _ => none
/-- all slots are filled -/
def allO : List (Option CV) → Option (List CV)
  | [] => some []
  | some x :: xs => match allO xs with
    | some ys => some (x :: ys)
    | none => none
  | none :: _ => none
/-- the memory's lists as lists that nobody writes -/
def frzV : Nat → Mem → CV → Option CV
  | 0, _, _ => none
  | n + 1, h, x => match x with
    | .ref l => match sget h l with
      | some (.lst xs) => match mapO (frzV n h) xs with
        | some ys => some (.lst ys)
        | none => none
      | some (.dic true b ks vs) => if noRefs ks then match mapO (frzV n h) vs with
        | some ys => some (.dic b ks ys)
        | none => none
        else none
      | some (.ins k xs) => match allO xs with
        | some zs => match mapO (frzV n h) zs with
          | some ys => some (.ins k ys)
          | none => none
        | none => none
      | _ => none
    | .tup xs => match mapO (frzV n h) xs with
      | some ys => some (.tup ys)
      | none => none
    | .lst xs => match mapO (frzV n h) xs with
      | some ys => some (.lst ys)
      | none => none
    | .frz xs => match mapO (frzV n h) xs with
      | some ys => some (.frz ys)
      | none => none
    | .ins k xs => match mapO (frzV n h) xs with
      | some ys => some (.ins k ys)
      | none => none
    | .dic b ks vs => if noRefs ks then match mapO (frzV n h) vs with
      | some ys => some (.dic b ks ys)
      | none => none
      else none
    | x => some x
theorem mapO_r {G : Cfg} {ρ ρ' : Wd} {H : Hp} {f : CV → Option CV} (hf : ∀ x y u, f x = some y → ValR G ρ H x u → ValR G ρ' H y u) : ∀ {xs ys : List CV} {us : List V}, mapO f xs = some ys → ValsR G ρ H xs us → ValsR G ρ' H ys us
  | [], _, _, e, r => by cases e; exact r
  | x :: xs, ys, us, e, ⟨u, t, eu, r1, r2⟩ => by
    unfold mapO at e
    cases q : f x with
    | none => simp [q] at e
    | some y =>
      cases q2 : mapO f xs with
      | none => simp [q, q2] at e
      | some zs =>
        simp only [q, q2, Option.some.injEq] at e
        subst e
        exact ⟨u, t, eu, hf x y u q r1, mapO_r hf q2 r2⟩
theorem allO_r {G : Cfg} {ρ : Wd} {H : Hp} : ∀ {xs : List (Option CV)} {ys : List CV} {us : List (Option V)}, allO xs = some ys → SlV G ρ H xs us → ∃ vs, us = vs.map some ∧ ValsR G ρ H ys vs
  | [], ys, us, e, r => by
    cases e
    have : us = [] := List.length_eq_zero_iff.mp r.1.symm
    exact ⟨[], this, rfl⟩
  | some x :: xs, ys, [], e, r => by have := r.1; simp at this
  | some x :: xs, ys, u :: us, e, r => by
    unfold allO at e
    cases q : allO xs with
    | none => rw [q] at e; cases e
    | some zs =>
      rw [q] at e
      cases e
      obtain ⟨w, hw, rw_⟩ := r.2 0 x rfl
      have hw : some u = some (some w) := hw
      cases hw
      obtain ⟨vs, ev, rv⟩ := allO_r q (us := us) ⟨by have := r.1; simpa using this, fun i v h => r.2 (i + 1) v h⟩
      subst ev
      exact ⟨w :: vs, rfl, w, vs, rfl, rw_, rv⟩
  | none :: xs, ys, us, e, r => by cases e
mutual
/-- a value without the memory does not know the world, but for what may be in it -/
theorem noRef_r {G : Cfg} {ρ ρ' : Wd} {H : Hp} (h3 : ∀ a, ρ'.has a → ρ.has a) : ∀ {x : CV} {u : V}, noRef x = true → ValR G ρ H x u → ValR G ρ' H x u
  | .non, _, _, r => r
  | .bl _, _, _, r => r
  | .int _, _, _, r => r
  | .str _, _, _, r => r
  | .cls _, _, _, r => r
  | .fn _, _, _, r => r
  | .ty _, _, _, r => r
  | .ref l, _, e, _ => by simp [noRef] at e
  | .tup xs, _, e, ⟨a, us, eu, s, rr⟩ => ⟨a, us, eu, s, noRefs_r h3 (by simpa [noRef] using e) rr⟩
  | .lst xs, _, e, ⟨a, us, eu, n, s, rr⟩ => ⟨a, us, eu, fun z => n (h3 a z), s, noRefs_r h3 (by simpa [noRef] using e) rr⟩
  | .frz xs, _, e, ⟨a, us, eu, s, rr⟩ => ⟨a, us, eu, s.elim (fun ⟨nn, s⟩ => .inl ⟨fun z => nn (h3 a z), s⟩) .inr, noRefs_r h3 (by simpa [noRef] using e) rr⟩
  | .ins k xs, _, e, ⟨a, dx, us, eu, n, nd, s, f, rr⟩ => ⟨a, dx, us, eu, fun z => n (h3 a z), fun z => nd (h3 dx z), s, f, noRefs_r h3 (by simpa [noRef] using e) rr⟩
  | .dic n ks vs, _, e, ⟨x, ob, eu, nh, p1, p2⟩ => by
    have e : noRefs ks = true ∧ noRefs vs = true := by simpa [noRef] using e
    exact ⟨x, ob, eu, fun z => nh (h3 x z), fun z => let ⟨es, us, ws, q1, q2, q3, q4, q5, q6⟩ := p1 z; ⟨es, us, ws, q1, q2, q3, q4, noRefs_r h3 e.1 q5, noRefs_r h3 e.2 q6⟩,
      fun z => let ⟨es, ws, q1, q2, q3, q4⟩ := p2 z; ⟨es, ws, q1, q2, q3, noRefs_r h3 e.2 q4⟩⟩
theorem noRefs_r {G : Cfg} {ρ ρ' : Wd} {H : Hp} (h3 : ∀ a, ρ'.has a → ρ.has a) : ∀ {xs : List CV} {us : List V}, noRefs xs = true → ValsR G ρ H xs us → ValsR G ρ' H xs us
  | [], _, _, r => r
  | x :: xs, _, e, ⟨u, t, eu, r1, r2⟩ => by
    simp only [noRefs, Bool.and_eq_true] at e
    exact ⟨u, t, eu, noRef_r h3 e.1 r1, noRefs_r h3 e.2 r2⟩
end
/-- with all that is written hidden from the new world -/
theorem frzV_r {G : Cfg} {ρ : Wd} {h : Mem} {H : Hp} (m : MemR G ρ h H) (ρ' : Wd) (h2 : ∀ a ∈ ρ.r, ¬ ρ'.has a) (h3 : ∀ a, ρ'.has a → ρ.has a) : ∀ (n : Nat) (x y : CV) (u : V), frzV n h x = some y → ValR G ρ H x u → ValR G ρ' H y u
  | 0, x, y, u, e, _ => by cases e
  | n + 1, x, y, u, e, r => by
    have ih := frzV_r m ρ' h2 h3 n
    unfold frzV at e
    cases x with
    | ref l =>
      obtain ⟨a, q, eu⟩ := r
      have na := h2 a (List.mem_of_getElem? q)
      simp only at e
      cases hc : sget h l with
      | none => simp [hc] at e
      | some co =>
        have hc' := hc
        rw [sget_eq] at hc'
        have ob := m.obj l a _ q hc'
        rw [hc] at e
        cases co with
        | lst xs =>
          simp only at e
          obtain ⟨us, w, rr⟩ := ob
          cases q2 : mapO (frzV n h) xs with
          | none => simp [q2] at e
          | some ys =>
            simp only [q2, Option.some.injEq] at e
            subst e
            exact ⟨a, us, eu, na, w, mapO_r ih q2 rr⟩
        | dic lk b ks vs =>
          cases lk with
          | false => simp at e
          | true =>
            simp only at e
            obtain ⟨w, q1, _, d⟩ := ob
            obtain ⟨od, q1⟩ := q1 rfl
            by_cases hn : noRefs ks = true
            · rw [if_pos hn] at e
              cases q2 : mapO (frzV n h) vs with
              | none => simp [q2] at e
              | some ys =>
                simp only [q2, Option.some.injEq] at e
                subst e
                exact valR_dic.mpr ⟨a, od, w, eu, na, q1, fun z => let ⟨es, w1, w2, w3, w4⟩ := d.1 z; ⟨es, w1, w2, noRefs_r h3 hn w3, mapO_r ih q2 w4⟩, fun z => let ⟨es, w1, w2, w3⟩ := d.2 z; ⟨es, w1, w2, mapO_r ih q2 w3⟩⟩
            · rw [if_neg hn] at e; cases e
        | ins k xs =>
          simp only at e
          obtain ⟨dx, us, w, nd, f, rr⟩ := ob
          cases q1 : allO xs with
          | none => simp [q1] at e
          | some zs =>
            simp only [q1] at e
            obtain ⟨vs, ev, rv⟩ := allO_r q1 rr
            subst ev
            cases q2 : mapO (frzV n h) zs with
            | none => simp [q2] at e
            | some ys =>
              simp only [q2, Option.some.injEq] at e
              subst e
              exact ⟨a, dx, vs, eu, na, fun z => nd (h3 dx z), w, f, mapO_r ih q2 rv⟩
        | none_ => simp at e
    | tup xs =>
      obtain ⟨a, us, eu, s, rr⟩ := r
      simp only at e
      cases q2 : mapO (frzV n h) xs with
      | none => simp [q2] at e
      | some ys =>
        simp only [q2, Option.some.injEq] at e
        subst e
        exact ⟨a, us, eu, s, mapO_r ih q2 rr⟩
    | lst xs =>
      obtain ⟨a, us, eu, nn, s, rr⟩ := r
      simp only at e
      cases q2 : mapO (frzV n h) xs with
      | none => simp [q2] at e
      | some ys =>
        simp only [q2, Option.some.injEq] at e
        subst e
        exact ⟨a, us, eu, fun z => nn (h3 a z), s, mapO_r ih q2 rr⟩
    | frz xs =>
      obtain ⟨a, us, eu, s, rr⟩ := r
      simp only at e
      cases q2 : mapO (frzV n h) xs with
      | none => simp [q2] at e
      | some ys =>
        simp only [q2, Option.some.injEq] at e
        subst e
        exact ⟨a, us, eu, s.elim (fun ⟨nn, s⟩ => .inl ⟨fun z => nn (h3 a z), s⟩) .inr, mapO_r ih q2 rr⟩
    | ins k xs =>
      obtain ⟨a, dx, us, eu, nn, nd, s, f, rr⟩ := r
      simp only at e
      cases q2 : mapO (frzV n h) xs with
      | none => simp [q2] at e
      | some ys =>
        simp only [q2, Option.some.injEq] at e
        subst e
        exact ⟨a, dx, us, eu, fun z => nn (h3 a z), fun z => nd (h3 dx z), s, f, mapO_r ih q2 rr⟩
    | dic b ks vs =>
      obtain ⟨a, od, w, eu, nn, q1, d⟩ := valR_dic.mp r
      simp only at e
      by_cases hn : noRefs ks = true
      · rw [if_pos hn] at e
        cases q2 : mapO (frzV n h) vs with
        | none => simp [q2] at e
        | some ys =>
          simp only [q2, Option.some.injEq] at e
          subst e
          exact valR_dic.mpr ⟨a, od, w, eu, fun z => nn (h3 a z), q1, fun z => let ⟨es, w1, w2, w3, w4⟩ := d.1 z; ⟨es, w1, w2, noRefs_r h3 hn w3, mapO_r ih q2 w4⟩, fun z => let ⟨es, w1, w2, w3⟩ := d.2 z; ⟨es, w1, w2, mapO_r ih q2 w3⟩⟩
      · rw [if_neg hn] at e; cases e
    | non => cases e; exact r
    | bl b => cases e; exact r
    | int i => cases e; exact r
    | str z => cases e; exact r
    | cls k => cases e; exact r
    | fn k => cases e; exact r
    | ty k => cases e; exact r
mutual
theorem scal_r {G : Cfg} {ρ ρ' : Wd} {H : Hp} : ∀ {x : CV} {u : V}, scal x = true → ValR G ρ H x u → ValR G ρ' H x u
  | .non, _, _, r => r
  | .bl _, _, _, r => r
  | .int _, _, _, r => r
  | .str _, _, _, r => r
  | .cls _, _, _, r => r
  | .fn _, _, _, r => r
  | .ty _, _, _, r => r
  | .ref l, _, e, _ => by simp [scal] at e
  | .tup xs, _, e, ⟨a, us, eu, s, rr⟩ => ⟨a, us, eu, s, scals_r (by simpa [scal] using e) rr⟩
  | .lst xs, _, e, _ => by simp [scal] at e
  | .frz xs, _, e, _ => by simp [scal] at e
  | .ins _ _, _, e, _ => by simp [scal] at e
  | .dic _ _ _, _, e, _ => by simp [scal] at e
theorem scals_r {G : Cfg} {ρ ρ' : Wd} {H : Hp} : ∀ {xs : List CV} {us : List V}, scals xs = true → ValsR G ρ H xs us → ValsR G ρ' H xs us
  | [], _, _, r => r
  | x :: xs, _, e, ⟨u, t, eu, r1, r2⟩ => by
    simp only [scals, Bool.and_eq_true] at e
    exact ⟨u, t, eu, scal_r e.1 r1, scals_r e.2 r2⟩
end
inductive LockL (K : Hp → Prop) : Hp → Prop
  | done {H : Hp} : K H → LockL K H
  | lock {H : Hp} {d : Addr} {u : HO} : H d = some u → Mut (some u) → (∀ od, LockL K (upd H d (.frz od u))) → LockL K H
def tLk (t : TE) : TE := fun σ H Q => t σ H fun v H1 => LockL (Q v) H1
theorem pe_lk {X : Cx} {e : Expr} {t : TE} (he : PE X e t) : PE X e (tLk t) := by
  refine ⟨fun pins s σ H Q I h => thn (he.run pins s σ H _ I h) fun u s1 ⟨v, H1, I1, r, l⟩ => ?_⟩
  have go : ∀ {H1 : Hp}, LockL (Q v) H1 → Inv X pins σ H1 s1 → ∃ H2, Inv X pins σ H2 s1 ∧ Q v H2 := by
    intro H1 l
    induction l with
    | done k => exact fun I => ⟨_, I, k⟩
    | lock e mu _ ih =>
      intro I
      obtain ⟨od, I2⟩ := I.lock e mu
      exact ih od I2
  obtain ⟨H2, I2, q⟩ := go l I1
  exact ⟨v, H2, I2, r, q⟩
def lockO : CO → CO
  | .dic _ n ks vs => .dic true n ks vs
  | co => co
def lockM (h : Mem) : Mem := List.rec [] (fun co _ ih => lockO co :: ih) h
theorem lockM_eq : ∀ h : Mem, lockM h = h.map lockO
  | [] => rfl
  | co :: h => by
    show lockO co :: lockM h = _
    rw [lockM_eq h]; rfl
theorem MemR.locked {G : Cfg} {ρ : Wd} {K : Hp → Prop} : ∀ (n i : Nat) {h : Mem} {H : Hp}, i + n = h.length → MemR G ρ h H → (∀ H', MemR G ρ (h.take i ++ (h.drop i).map lockO) H' → Ext ρ H ρ H' → K H') → LockL K H
  | 0, i, h, H, e, m, k => by
    refine .done (k H ?_ Ext.refl)
    rw [List.take_of_length_le (by omega), List.drop_of_length_le (by omega), List.map_nil, List.append_nil]
    exact m
  | n + 1, i, h, H, e, m, k => by
    have hi : i < h.length := by omega
    have ed : h.drop i = h[i] :: h.drop (i + 1) := List.drop_eq_getElem_cons hi
    have et : h.take (i + 1) = h.take i ++ [h[i]] := List.take_succ_eq_append_getElem hi
    have skip : lockO h[i] = h[i] → LockL K H := fun sk => MemR.locked n (i + 1) (by omega) m fun H' m' e' => k H' (by
      rw [ed, List.map_cons, sk]
      rw [et, List.append_assoc] at m'
      exact m') e'
    cases hc : h[i] with
    | lst xs => exact skip (by rw [hc]; rfl)
    | ins c xs => exact skip (by rw [hc]; rfl)
    | none_ => exact skip (by rw [hc]; rfl)
    | dic lk b ks vs =>
      cases lk with
      | true => exact skip (by rw [hc]; rfl)
      | false =>
        have hlr : i < ρ.r.length := by rw [m.len]; exact hi
        have ha : ρ.r[i]? = some ρ.r[i] := by simp [hlr]
        obtain ⟨u, _, q2, d⟩ := m.obj i _ _ ha (by rw [List.getElem?_eq_getElem hi, hc])
        have q2 := q2 rfl
        have mu : Mut (some u) := by
          cases b with
          | true => obtain ⟨es, rfl, _⟩ := d.1 rfl; exact True.intro
          | false => obtain ⟨es, rfl, _⟩ := d.2 rfl; exact True.intro
        refine .lock q2 mu fun od => ?_
        have hp : ρ.r[i] ∈ ρ.r := List.mem_of_getElem? ha
        have m2 : MemR G ρ (h.set i (.dic true b ks vs)) (upd H ρ.r[i] (.frz od u)) := m.writeO ha ⟨u, fun _ => ⟨od, upd_same⟩, fun z => (Bool.noConfusion z), dicR_wr (.inl hp) (m.at_ (.inl hp)) d⟩
        refine MemR.locked n (i + 1) (by rw [List.length_set]; omega) m2 fun H' m' e' => k H' ?_ ((Ext.writeAt m ha).trans e')
        rw [ed, hc, List.map_cons]
        rw [List.take_succ_eq_append_getElem (by rw [List.length_set]; exact hi), List.take_set_of_le (Nat.le_refl i), List.drop_set_of_lt (by omega), List.append_assoc, List.getElem_set_self] at m'
        exact m'
theorem MemR.lock {G : Cfg} {ρ : Wd} {h : Mem} {H : Hp} {K : Hp → Prop} (m : MemR G ρ h H) (k : ∀ H', MemR G ρ (lockM h) H' → Ext ρ H ρ H' → K H') : LockL K H :=
  MemR.locked h.length 0 (Nat.zero_add _) m fun H' m' e' => k H' (by rw [lockM_eq]; exact m') e'
/-- f(e, ..) by plain values: f has a memory of its own -/
def callF (np : Nat) (F : List CV → M CV) (xs : List CV) : M CV := fun h =>
  if xs.length = np then
    if noRefs xs then match F xs [] with
      | .ok v h' => match frzV 9 (lockM h') v with
        | some v' => .ok v' h
        | none => .bad
      | .exc x h' => match mapO (frzV 9 h') x.args with
        | some ys => .exc ⟨x.cls, ys⟩ h
        | none => .bad
      | .bad => .bad
    else match mapO (frzV 9 h) xs with
      | some ys => match F ys [] with
        | .ok v _ => if scal v then .ok v h else .bad
        | .exc x _ => if scals x.args then .exc x h else .bad
        | .bad => .bad
      | none => .bad
  else .bad
theorem MemR.back {G : Cfg} {ρ ρ' : Wd} {h h' : Mem} {H H' : Hp} {d : List Addr} (m : MemR G ρ h H) (e : Ext ⟨d, []⟩ H ρ' H') (m' : MemR G ρ' h' H') (hx : G.exi = none) (hy : G.lam = none) : MemR G ρ h H' ∧ Ext ρ H ρ H' := by
  have ex : Ext ρ H ρ H' := ⟨rfl, fun _ _ q => q, fun a o q _ t => e.keep a o q (by simp) t, e.tbl, fun a q => .inl q⟩
  refine ⟨⟨m.len, m.nd, fun i a co e1 e2 => ?_, fun a ha => ?_, m'.tab, fun e he => by (rw [hx] at he; cases he), fun e he => by rw [hy] at he; cases he⟩, ex⟩
  · have q := m.obj i a co e1 e2
    obtain ⟨ys, w, mw⟩ := q.there
    exact objR_ext m ex ((e.keep a _ w (by simp) (fun ps z => notMut_tbl (G := G) (a := a) (ps := ps) (z ▸ mw))).trans w.symm) q
  · obtain ⟨⟨ys, w, w2⟩, n⟩ := m.hid a ha
    exact ⟨⟨ys, e.keep a _ w (by simp) (fun ps z => notMut_tbl (G := G) (a := a) (ps := ps) (z ▸ w2)), w2⟩, n⟩
theorem ExcR.of {G : Cfg} {ρ ρ' : Wd} {H : Hp} {k : Nat} {xs ys : List CV} {c : Value} {d : Option Addr} (h : ∀ us, ValsR G ρ H xs us → ValsR G ρ' H ys us) (hn : xs = [] → ys = []) (r : ExcR G ρ H ⟨k, xs⟩ c d) : ExcR G ρ' H ⟨k, ys⟩ c d := by
  obtain ⟨ec, r⟩ := r
  refine ⟨ec, ?_⟩
  rcases r with r | ⟨da, fs, e1, e2, e3, e4⟩
  · exact .inl (hn r)
  · exact .inr ⟨da, fs, e1, e2, e3, h _ e4⟩
theorem callF_ok {G : Cfg} (hx : G.exi = none) (hy : G.lam = none) {np : Nat} {F : List CV → M CV} {W : WX} {σ : L2.St} {ρ : Wd} {h : Mem} {H : Hp} {xs : List CV} {us : List V} {Q : VK} {E : XK} (m : MemR G ρ h H) (r : ValsR G ρ H xs us) (p : Post G W (ValR G) σ ρ H (callF np F xs h) Q) (hE : ∀ c d H', W c d σ H' → E c d H') : spH G np F us H (fun v H1 => LockL (Q v) H1) E := by
  unfold callF at p
  by_cases hl : xs.length = np
  · rw [if_pos hl] at p
    refine ⟨r.len.symm.trans hl, ?_⟩
    by_cases hr : noRefs xs = true
    · rw [if_pos hr] at p
      have hh : ∀ a, (⟨ρ.r ++ ρ.d, []⟩ : Wd).has a ↔ ρ.has a := fun a => by
        unfold Wd.has
        simp
      have m0 : MemR G ⟨ρ.r ++ ρ.d, []⟩ [] H := ⟨rfl, List.nodup_nil, fun i a co e1 => by simp at e1, fun a ha => ⟨m.at_ (List.mem_append.mp ha), by simp⟩, m.tab, fun e he => by (rw [hx] at he; cases he), fun e he => by rw [hy] at he; cases he⟩
      refine ⟨_, [], xs, m0, noRefs_r (fun a z => (hh a).mp z) hr r, ?_⟩
      cases e : F xs [] with
      | ok v h' =>
        rw [e] at p
        simp only at p
        cases q : frzV 9 (lockM h') v with
        | none => rw [q] at p; exact p.elim
        | some v' =>
          rw [q] at p
          intro ρ' H' u m' e' ru
          refine m'.lock fun H'' m'' e'' => ?_
          have ru := ru.ext m' e''
          have e' := e'.trans e''
          obtain ⟨mb, eb⟩ := m.back e' m'' hx hy
          have hd := e'.hid
          refine p ρ H'' u mb eb (frzV_r m'' ρ (fun a h1 h2 => ?_) (fun a h1 => ?_) 9 v v' u q ru)
          · exact (m''.hid a (by rw [hd]; exact List.mem_append.mpr h2)).2 h1
          · exact .inr (by rw [hd]; exact List.mem_append.mpr h1)
      | exc x h' =>
        rw [e] at p
        simp only at p
        cases q : mapO (frzV 9 h') x.args with
        | none => rw [q] at p; exact p.elim
        | some ys =>
          rw [q] at p
          intro ρ' H' c d m' e' rx
          obtain ⟨mb, eb⟩ := m.back e' m' hx hy
          have hd := e'.hid
          refine hE _ _ _ (p ρ H' c d mb eb (ExcR.of (xs := x.args) (fun us ru => mapO_r (frzV_r m' ρ (fun a h1 h2 => ?_) (fun a h1 => ?_) 9) q ru) (fun z => by rw [z] at q; cases q; rfl) rx))
          · exact (m'.hid a (by rw [hd]; exact List.mem_append.mpr h2)).2 h1
          · exact .inr (by rw [hd]; exact List.mem_append.mpr h1)
      | bad => rw [e] at p; exact p.elim
    · rw [if_neg hr] at p
      cases q : mapO (frzV 9 h) xs with
      | none => rw [q] at p; exact p.elim
      | some ys =>
        rw [q] at p
        simp only at p
        have m0 : MemR G ⟨[], []⟩ [] H := ⟨rfl, List.nodup_nil, fun i a co e1 => by simp at e1, fun a ha => by simp at ha, m.tab, fun e he => by (rw [hx] at he; cases he), fun e he => by rw [hy] at he; cases he⟩
        have nh : ∀ a, ¬ (⟨[], []⟩ : Wd).has a := fun a z => by
          rcases z with z | z <;> simp at z
        refine ⟨_, [], ys, m0, mapO_r (frzV_r m ⟨[], []⟩ (fun a _ => nh a) (fun a z => absurd z (nh a)) 9) q r, ?_⟩
        cases e : F ys [] with
        | ok v h' =>
          rw [e] at p
          simp only at p
          by_cases hs : scal v = true
          · rw [if_pos hs] at p
            intro ρ' H' u m' e' ru
            obtain ⟨mb, eb⟩ := m.back e' m' hx hy
            exact .done (p ρ H' u mb eb (scal_r hs ru))
          · rw [if_neg hs] at p; exact p.elim
        | exc x h' =>
          rw [e] at p
          simp only at p
          by_cases hs : scals x.args = true
          · rw [if_pos hs] at p
            intro ρ' H' c d m' e' rx
            obtain ⟨mb, eb⟩ := m.back e' m' hx hy
            exact hE _ _ _ (p ρ H' c d mb eb (ExcR.of (xs := x.args) (fun us ru => scals_r hs ru) id rx))
          · rw [if_neg hs] at p; exact p.elim
        | bad => rw [e] at p; exact p.elim
  · rw [if_neg hl] at p; exact p.elim
section
variable {G : Cfg} {W : WX} {X : Cx} {k : Nat} {f : Addr} {fd : FuncData} {ps : List Str} {x : Str} {p pos : Pos} {e : Expr} {es : List Expr} {ml : Sl → M (List CV)} {F : List CV → M CV} {np : Nat}
theorem se_callF (B : Bx G W X) (hx : G.exi = none) (hy : G.lam = none) (ok : FnOk X.prog X.w X.K X.mg X.base (L2.CX X.prog X.w) k f fd ps (spH G np F)) (hr : Room k X.A) (hg : Gl X x) (hm : X.mg x = some (.ref f)) (hk : PySem.W.keepIn X.K (.ref f) = true) (hb : Binds X.K fd ps [])
    (ha : SA G W X (e :: es) ml) (hdb : (x == ("__debug__" : Str)) = false := by decide) (he : starEach (e :: es) X.env = (false, eval e X.env) :: starEach es X.env := by rfl) (hpl : (backTo pos (starEach es X.env)).any (·.1) = false := by rfl) :
    SE G W X (.Call (.Name x p) (e :: es) [] pos) (eB (callF np F) ml) :=
  (pe_lk (pe_callS ok hr hg hm hk hb (fun σ => passAt B.tk σ) ha hdb he hpl)).wk fun σ H Q ⟨ρ, h, τ, m, s, p⟩ => tM_bind m s p fun xs h1 ρ1 H1 us m1 e1 s1 r1 p1 => callF_ok hx hy m1 r1 p1 fun _ _ _ z => z
end
end VE

noncomputable section
namespace VE
open PySem PySem.Spec PyProof.Rows L2

section
variable {G : Cfg} {W : WX} {X : Cx} {pos : Pos} {x : Str}
theorem se_glo {u : Value} {v : V} {c : CV} (hg : Gl X x) (hm : X.mg x = some u) (rv : RelV v u) (r : ∀ ρ H, ValR G ρ H c v) (hd : (x == ("__debug__" : Str)) = false := by decide) : SE G W X (.Name x pos) (eC c) :=
  se_const (pe_glob hg hm rv hd) r
theorem se_gint {i : Int} {t : Tok} (hg : Gl X x) (hm : X.mg x = some (.int i t)) (hd : (x == ("__debug__" : Str)) = false := by decide) : SE G W X (.Name x pos) (eC (.int i)) := se_glo (v := .int i) hg hm ⟨t, rfl⟩ (fun _ _ => rfl) hd
theorem se_gstr {z : Str} {t : Tok} (hg : Gl X x) (hm : X.mg x = some (.str z t)) (hd : (x == ("__debug__" : Str)) = false := by decide) : SE G W X (.Name x pos) (eC (.str z)) := se_glo (v := .str z) hg hm ⟨t, rfl⟩ (fun _ _ => rfl) hd
theorem se_ty {n : String} (hg : Gl X x) (hm : X.mg x = none) (hv : bootBuiltins x = some (.type n)) (hn : x ≠ "__name__" := by decide) (hd : (x == ("__debug__" : Str)) = false := by decide) : SE G W X (.Name x pos) (eC (.ty n)) :=
  se_const (pe_bltn (v := .ty n) hg hm hv rfl hn hd) fun _ _ => rfl
/-- a tuple of the text's own -/
theorem se_gtup {a : Addr} {xs : List CV} (hg : Gl X x) (hm : X.mg x = some (.ref a)) (hK : G.K = X.K) (r : ∀ ρ H, ValR G ρ H (.tup xs) (.ref a)) (hd : (x == ("__debug__" : Str)) = false := by decide) : SE G W X (.Name x pos) (eC (.tup xs)) := se_glo (v := .ref a) hg hm rfl r hd
end

inductive Knd where
  | non | bl | int | str | tup | lst | dic
def Knd.name : Knd → String
  | .non => "NoneType"
  | .bl => "bool"
  | .int => "int"
  | .str => "str"
  | .tup => "tuple"
  | .lst => "list"
  | .dic => "dict"
def kindOf (h : Mem) : CV → Option Knd
  | .non => some .non
  | .bl _ => some .bl
  | .int _ => some .int
  | .str _ => some .str
  | .tup _ => some .tup
  | .lst _ => some .lst
  | .frz _ => some .lst
  | .ref l => match sget h l with
    | some (.lst _) => some .lst
    | _ => none
  | .dic false _ _ => some .dic
  | _ => none
theorem kindOf_r {G : Cfg} {ρ : Wd} {h : Mem} {H : Hp} {x : CV} {u : V} {k : Knd} (m : MemR G ρ h H) (r : ValR G ρ H x u) (e : kindOf h x = some k) : TyX G.K H u (.type k.name) := by
  cases x with
  | non => cases e; rw [show u = .non from r]; exact .base .non
  | bl b => cases e; rw [show u = .bl b from r]; exact .base (.bl b)
  | int b => cases e; rw [show u = .int b from r]; exact .base (.int b)
  | str b => cases e; rw [show u = .str b from r]; exact .base (.str b)
  | tup xs =>
    cases e
    obtain ⟨a, us, eu, s, _⟩ := r
    rw [eu]
    rcases s with (s | ⟨o, s⟩) | ⟨o, its, n, s, c, _⟩
    · exact .base (.tup s)
    · exact .fTuple s
    · exact .kTuple s c
  | lst xs =>
    cases e
    obtain ⟨a, us, eu, _, s, _⟩ := r
    rw [eu]
    exact .base (.lst s)
  | frz xs =>
    cases e
    obtain ⟨a, us, eu, s, _⟩ := r
    rw [eu]
    rcases s.l with (s | ⟨o, s⟩) | ⟨o, its, n, s, c, _⟩
    · exact .base (.lst s)
    · exact .base (.frz s)
    · exact .kList s c
  | ref l =>
    obtain ⟨a, q, eu⟩ := r
    rw [eu]
    unfold kindOf at e
    simp only [sget_eq] at e
    cases hc : h[l]? with
    | none => rw [hc] at e; cases e
    | some co =>
      rw [hc] at e
      cases co with
      | lst xs =>
        cases e
        obtain ⟨ys, w, _⟩ := m.obj l a _ q hc
        exact .base (.lst w)
      | _ => cases e
  | dic n ks vs =>
    cases n with
    | true => cases e
    | false =>
      cases e
      obtain ⟨a, ob, w, eu, _, q, d⟩ := valR_dic.mp r
      obtain ⟨kvs, ew, _⟩ := d.2 rfl
      subst ew
      rw [eu]
      exact .fDict q
  | _ => cases e
def isK (f : Knd → Bool) (x : CV) : M CV := fun h => match kindOf h x with
  | some k => .ok (.bl (f k)) h
  | none => .bad
theorem se_isi {G : Cfg} {W : WX} {X : Cx} {pos p p2 : Pos} {a : Expr} {ma : Sl → M CV} {T : Str} {t : String} (f : Knd → Bool) (hf : ∀ k : Knd, kitB k.name t = some (f k)) (hK : G.K = X.K) (hg : Gl X "isinstance") (hm : X.mg "isinstance" = none) (hgT : Gl X T) (hmT : X.mg T = none) (hvT : bootBuiltins T = some (.type t))
    (ha : SE G W X a ma) (hn : T ≠ "__name__" := by decide) (hd : (T == ("__debug__" : Str)) = false := by decide)
    (he : starEach [a, .Name T p2] X.env = (false, eval a X.env) :: starEach [.Name T p2] X.env := by rfl) (he2 : starEach [.Name T p2] X.env = (false, eval (.Name T p2) X.env) :: starEach [] X.env := by rfl) (hpl : (backTo pos (starEach [.Name T p2] X.env)).any (·.1) = false := by rfl) :
    SE G W X (.Call (.Name "isinstance" p) [a, .Name T p2] [] pos) (eUn (isK f) ma) :=
  (pe_callB call_isi hg hm (by decide +kernel) (pa_cons ha (pa_cons (pe_bltn (v := .ty t) hgT hmT hvT rfl hn hd) pa_nil he2) he) (by decide) (by decide) he hpl).wk fun σ H Q ⟨ρ, h, τ, m, s, p⟩ => tM_bind m s p fun x h1 ρ1 H1 u m1 e1 s1 r1 p1 => by
    show rIsi X.K [u, .ty t] H1 Q
    unfold isK at p1
    cases q : kindOf h1 x with
    | none => rw [q] at p1; exact p1.elim
    | some k =>
      rw [q] at p1
      exact ⟨u, .ty t, .type k.name, .type t, f k, rfl, .ty t, hK ▸ kindOf_r m1 r1 q, kit_ty (hf k), p1 ρ1 H1 _ m1 Ext.refl rfl⟩
def isInt : Knd → Bool
  | .bl => true
  | .int => true
  | _ => false
def isBool : Knd → Bool
  | .bl => true
  | _ => false
def isStr : Knd → Bool
  | .str => true
  | _ => false
def isTupK : Knd → Bool
  | .tup => true
  | _ => false
def isLst : Knd → Bool
  | .lst => true
  | _ => false
def isDic : Knd → Bool
  | .dic => true
  | _ => false
theorem isInt_ok : ∀ k : Knd, kitB k.name "int" = some (isInt k) := by intro k; cases k <;> decide +kernel
theorem isBool_ok : ∀ k : Knd, kitB k.name "bool" = some (isBool k) := by intro k; cases k <;> decide +kernel
theorem isStr_ok : ∀ k : Knd, kitB k.name "str" = some (isStr k) := by intro k; cases k <;> decide +kernel
theorem isTup_ok : ∀ k : Knd, kitB k.name "tuple" = some (isTupK k) := by intro k; cases k <;> decide +kernel
theorem isLst_ok : ∀ k : Knd, kitB k.name "list" = some (isLst k) := by intro k; cases k <;> decide +kernel
theorem isDict_ok : ∀ k : Knd, kitB k.name "dict" = some (isDic k) := by intro k; cases k <;> decide +kernel

def boolsOf : List CV → Option (List Bool)
  | [] => some []
  | .bl b :: r => match boolsOf r with
    | some bs => some (b :: bs)
    | none => none
  | _ => none
theorem boolsOf_r {G : Cfg} {ρ : Wd} {H : Hp} : ∀ {xs : List CV} {us : List V} {bs : List Bool}, boolsOf xs = some bs → ValsR G ρ H xs us → us = bs.map V.bl
  | [], _, _, e, r => by cases e; exact r
  | x :: xs, us, bs, e, ⟨u, t, eu, r1, r2⟩ => by
    cases x with
    | bl b =>
      simp only [boolsOf] at e
      cases q : boolsOf xs with
      | none => rw [q] at e; cases e
      | some cs =>
        rw [q] at e
        cases e
        rw [eu, show u = .bl b from r1, boolsOf_r q r2]
        rfl
    | _ => simp [boolsOf] at e
def intsOf : List CV → Option (List Int)
  | [] => some []
  | .int b :: r => match intsOf r with
    | some bs => some (b :: bs)
    | none => none
  | _ => none
theorem intsOf_r {G : Cfg} {ρ : Wd} {H : Hp} : ∀ {xs : List CV} {us : List V} {bs : List Int}, intsOf xs = some bs → ValsR G ρ H xs us → us = bs.map V.int
  | [], _, _, e, r => by cases e; exact r
  | x :: xs, us, bs, e, ⟨u, t, eu, r1, r2⟩ => by
    cases x with
    | int b =>
      simp only [intsOf] at e
      cases q : intsOf xs with
      | none => rw [q] at e; cases e
      | some cs =>
        rw [q] at e
        cases e
        rw [eu, show u = .int b from r1, intsOf_r q r2]
        rfl
    | _ => simp [intsOf] at e
def one (g : CV → M CV) (xs : List CV) : M CV := match xs with
  | [x] => g x
  | _ => stuck
theorem one_ok {G : Cfg} {r : List V → Hp → VK → Prop} {g : CV → M CV} (h : ∀ (W : WX) (σ : L2.St) (ρ : Wd) (h : Mem) (H : Hp) (x : CV) (u : V) (Q : VK), MemR G ρ h H → ValR G ρ H x u → Post G W (ValR G) σ ρ H (g x h) Q → r [u] H Q) : OpL G r (one g) := by
  intro W σ ρ h0 H xs us Q m rx p
  cases xs with
  | nil => exact p.elim
  | cons x t =>
    cases t with
    | cons _ _ => exact p.elim
    | nil =>
      obtain ⟨u, t, eu, r1, r2⟩ := rx
      cases (show t = [] from r2)
      subst eu
      exact h W σ ρ h0 H x u Q m r1 p
/-- the items of a list, not of a tuple -/
def lisOf (x : CV) (h : Mem) : Option (List CV) := if isTup x then none else seqOf x h
theorem lisOf_r {G : Cfg} {ρ : Wd} {h : Mem} {H : Hp} {x : CV} {u : V} {xs : List CV} (m : MemR G ρ h H) (r : ValR G ρ H x u) (e : lisOf x h = some xs) : ∃ a ys, u = .ref a ∧ ValsR G ρ H xs ys ∧ SqL G.K H a ys := by
  unfold lisOf at e
  by_cases ht : isTup x = true
  · rw [if_pos ht] at e; cases e
  · rw [if_neg ht] at e
    obtain ⟨a, ys, eu, rr, sq⟩ := seqOf_r m r e
    rw [if_neg ht] at sq
    exact ⟨a, ys, eu, rr, sq⟩
def pyAll (x : CV) : M CV := fun h => match lisOf x h with
  | some xs => match boolsOf xs with
    | some bs => .ok (.bl (bs.all id)) h
    | none => .bad
  | none => .bad
theorem all_ok {G : Cfg} : OpL G (rAll G.K) (one pyAll) := one_ok fun W σ ρ h H x u Q m rx p => by
  unfold pyAll at p
  cases e : lisOf x h with
  | none => rw [e] at p; exact p.elim
  | some xs =>
    rw [e] at p
    simp only at p
    cases q : boolsOf xs with
    | none => rw [q] at p; exact p.elim
    | some bs =>
      rw [q] at p
      obtain ⟨a, ys, eu, rr, sq⟩ := lisOf_r m rx e
      exact ⟨a, bs, by rw [eu], by rw [← boolsOf_r q rr]; exact sq, p ρ H _ m Ext.refl rfl⟩
def pySum (x : CV) : M CV := fun h => match lisOf x h with
  | some xs => match intsOf xs with
    | some bs => .ok (.int bs.sum) h
    | none => .bad
  | none => .bad
theorem sum_ok {G : Cfg} : OpL G (rSum G.K) (one pySum) := one_ok fun W σ ρ h H x u Q m rx p => by
  unfold pySum at p
  cases e : lisOf x h with
  | none => rw [e] at p; exact p.elim
  | some xs =>
    rw [e] at p
    simp only at p
    cases q : intsOf xs with
    | none => rw [q] at p; exact p.elim
    | some bs =>
      rw [q] at p
      obtain ⟨a, ys, eu, rr, sq⟩ := lisOf_r m rx e
      exact ⟨a, bs, by rw [eu], by rw [← intsOf_r q rr]; exact sq, p ρ H _ m Ext.refl rfl⟩
def pyTuple (x : CV) : M CV := fun h => match seqOf x h with
  | some xs => .ok (.tup xs) h
  | none => .bad
theorem tuple_ok {G : Cfg} : OpL G (fun xs H Q => ∃ p ys, xs = [.ref p] ∧ ((SqL G.K H p ys ∧ ∀ l, H l = none → Q (.ref l) (upd H l (.tup ys))) ∨ (SqT G.K H p ys ∧ Q (.ref p) H))) (one pyTuple) := one_ok fun W σ ρ h H x u Q m rx p => by
  unfold pyTuple at p
  cases e : seqOf x h with
  | none => rw [e] at p; exact p.elim
  | some xs =>
    rw [e] at p
    obtain ⟨a, ys, eu, rr, sq⟩ := seqOf_r m rx e
    refine ⟨a, ys, by rw [eu], ?_⟩
    split at sq
    · exact .inr ⟨sq, p ρ H _ m Ext.refl ⟨a, ys, rfl, sq, rr⟩⟩
    · exact .inl ⟨sq, fun l hl => p.newTup m rr hl⟩
/-- list(x), never written -/
def pyList (x : CV) : M CV := fun h => match seqOf x h with
  | some xs => .ok (.lst xs) h
  | none => .bad
/-- list(x), written later -/
def pyListN (x : CV) : M CV := fun h => match seqOf x h with
  | some xs => frN h.length fun n => sapp h [.lst xs] fun h => .ok (.ref n) h
  | none => .bad
theorem list_ok {G : Cfg} : OpL G (fun xs H Q => ∃ p ys, xs = [.ref p] ∧ (SqL G.K H p ys ∨ SqT G.K H p ys) ∧ ∀ l, H l = none → Q (.ref l) (upd H l (.lst ys))) (one pyList) := one_ok fun W σ ρ h H x u Q m rx p => by
  unfold pyList at p
  cases e : seqOf x h with
  | none => rw [e] at p; exact p.elim
  | some xs =>
    rw [e] at p
    obtain ⟨a, ys, eu, rr, sq⟩ := seqOf_r m rx e
    refine ⟨a, ys, by rw [eu], ?_, fun l hl => p.newLst m rr hl⟩
    split at sq
    · exact .inr sq
    · exact .inl sq
theorem listN_ok {G : Cfg} : OpL G (fun xs H Q => ∃ p ys, xs = [.ref p] ∧ (SqL G.K H p ys ∨ SqT G.K H p ys) ∧ ∀ l, H l = none → Q (.ref l) (upd H l (.lst ys))) (one pyListN) := one_ok fun W σ ρ h H x u Q m rx p => by
  unfold pyListN at p
  cases e : seqOf x h with
  | none => rw [e] at p; exact p.elim
  | some xs =>
    rw [e] at p
    simp only [frN_eq, sapp_eq] at p
    obtain ⟨a, ys, eu, rr, sq⟩ := seqOf_r m rx e
    refine ⟨a, ys, by rw [eu], ?_, fun l hl => p _ _ _ (m.push hl rr) (Ext.push hl) ⟨l, ?_, rfl⟩⟩
    · split at sq
      · exact .inr sq
      · exact .inl sq
    · show (ρ.r ++ [l])[h.length]? = some l
      rw [← m.len]; simp

/-- o.m(e, ..), m of a built-in type -/
def eMt (ty : CV → Mem → Bool) (g : CV → List CV → M CV) (o : Sl → M CV) (ml : Sl → M (List CV)) : Sl → M CV := fun τ => bnd (o τ) fun x h => if ty x h then bnd (ml τ) (fun xs => g x xs) h else .bad
def Mt (G : Cfg) (r : V → List V → Hp → VK → Prop) (g : CV → List CV → M CV) : Prop :=
  ∀ (W : WX) (σ : L2.St) (ρ : Wd) (h : Mem) (H : Hp) (x : CV) (u : V) (xs : List CV) (us : List V) (Q : VK), MemR G ρ h H → ValR G ρ H x u → ValsR G ρ H xs us → Post G W (ValR G) σ ρ H (g x xs h) Q → r u us H Q
def isRef : CV → Bool
  | .ref _ => true
  | _ => false
def isStrV (x : CV) (_ : Mem) : Bool := match x with
  | .str _ => true
  | _ => false
def isLis (x : CV) (h : Mem) : Bool := match x with
  | .ref l => match sget h l with
    | some (.lst _) => true
    | _ => false
  | .lst _ => true
  | .frz _ => true
  | _ => false
theorem isLis_ty {G : Cfg} {ρ : Wd} {h : Mem} {H : Hp} {x : CV} {u : V} (m : MemR G ρ h H) (r : ValR G ρ H x u) (e : isLis x h = true) : tyV G.K "list" u H := by
  cases x with
  | ref l =>
    obtain ⟨a, q, eu⟩ := r
    rw [eu]
    unfold isLis at e
    simp only [sget_eq] at e
    cases hc : h[l]? with
    | none => rw [hc] at e; cases e
    | some co =>
      rw [hc] at e
      cases co with
      | lst xs =>
        obtain ⟨ys, w, _⟩ := m.obj l a _ q hc
        exact .inl ⟨rfl, ys, SqL.of w⟩
      | _ => cases e
  | lst xs =>
    obtain ⟨a, ys, eu, _, s, _⟩ := r
    rw [eu]
    exact .inl ⟨rfl, ys, SqL.of s⟩
  | frz xs =>
    obtain ⟨a, ys, eu, s, _⟩ := r
    rw [eu]
    exact .inl ⟨rfl, ys, s.l⟩
  | _ => cases e
theorem isStrV_ty {G : Cfg} {ρ : Wd} {h : Mem} {H : Hp} {x : CV} {u : V} (m : MemR G ρ h H) (r : ValR G ρ H x u) (e : isStrV x h = true) : tyV G.K "str" u H := by
  cases x with
  | str z => rw [show u = .str z from r]; exact rfl
  | _ => cases e
section
variable {G : Cfg} {W : WX} {X : Cx} {o e : Expr} {es : List Expr} {mo : Sl → M CV} {ml : Sl → M (List CV)} {name : Str} {apos cpos : Pos} {T id : String} {r : V → List V → Hp → VK → Prop} {ty : CV → Mem → Bool} {g : CV → List CV → M CV}
theorem se_mt (hty' : ∀ {ρ : Wd} {h : Mem} {H : Hp} {x : CV} {u : V}, MemR G ρ h H → ValR G ρ H x u → ty x h = true → tyV X.K T u H) (pa : PlainAttrs T) (slot : Slot T name id) (hty : typeOf (.builtin id) = pure (.type "method_descriptor")) (hm : MtR X id r) (hg : Mt G r g) (ho : SE G W X o mo) (ha : SA G W X (e :: es) ml) (hbase : attributeBase o name X.env (eval o X.env) = eval o X.env := by rfl) (hfew : ((backTo cpos (starEach (e :: es) X.env)).all (fun x => !x.1) && (backToKw cpos (keywordEach [] X.env)).all (fun x => x.1.isSome) && decide ((e :: es).length + ([] : List Keyword).length + (if ([] : List Keyword).isEmpty then 0 else 1) < 30)) = true := by rfl) (hline : (apos.endLine == cpos.line) = true := by rfl) (hs : starEach (e :: es) X.env = (false, eval e X.env) :: starEach es X.env := by rfl) (hplain : (backTo cpos (starEach es X.env)).any (·.1) = false := by rfl) :
    SE G W X (.Call (.Attribute o name apos) (e :: es) [] cpos) (eMt ty g mo ml) :=
  (pe_bm pa slot hty hm ho ha hbase hfew hline hs hplain).wk fun σ H Q ⟨ρ, h, τ, m, s, p⟩ => tM_bind m s p fun x h1 ρ1 H1 u m1 e1 s1 r1 p1 => by
    by_cases ht : ty x h1 = true
    · rw [if_pos ht] at p1
      exact ⟨hty' m1 r1 ht, tM_bind m1 s1 p1 fun xs h2 ρ2 H2 us m2 e2 s2 r2 p2 => hg W σ ρ2 h2 H2 x u xs us Q m2 (r1.ext m1 e2) r2 p2⟩
    · rw [if_neg ht] at p1; exact p1.elim
def eMt0 (ty : CV → Mem → Bool) (g : CV → List CV → M CV) (o : Sl → M CV) : Sl → M CV := fun τ => bnd (o τ) fun x h => if ty x h then g x [] h else .bad
theorem se_mt0 (hty' : ∀ {ρ : Wd} {h : Mem} {H : Hp} {x : CV} {u : V}, MemR G ρ h H → ValR G ρ H x u → ty x h = true → tyV X.K T u H) (pa : PlainAttrs T) (slot : Slot T name id) (hty : typeOf (.builtin id) = pure (.type "method_descriptor")) (hm : MtR X id r) (hg : Mt G r g) (ho : SE G W X o mo)
    (hbase : attributeBase o name X.env (eval o X.env) = eval o X.env := by rfl) (hline : (apos.endLine == cpos.line) = true := by rfl) :
    SE G W X (.Call (.Attribute o name apos) [] [] cpos) (eMt0 ty g mo) :=
  (pe_bm0 pa slot hty hm ho hbase hline).wk fun σ H Q ⟨ρ, h, τ, m, s, p⟩ => tM_bind m s p fun x h1 ρ1 H1 u m1 e1 s1 r1 p1 => by
    by_cases ht : ty x h1 = true
    · rw [if_pos ht] at p1
      exact ⟨hty' m1 r1 ht, hg W σ ρ1 h1 H1 x u [] [] Q m1 r1 rfl p1⟩
    · rw [if_neg ht] at p1; exact p1.elim
end
def pyAppend (x : CV) (ys : List CV) : M CV := fun h => match x, ys with
  | .ref l, [y] => match memAt h l with
    | some xs => if xs.length < 1000000 then frV 3 y fun y => sapp xs [y] fun zs => sset h l (.lst zs) fun h => .ok .non h else .bad
    | none => .bad
  | _, _ => .bad
theorem append_ok {G : Cfg} : Mt G rAppend pyAppend := by
  intro W σ ρ h H x u ys us Q m rx rys p
  unfold pyAppend at p
  split at p
  · rename_i l y
    obtain ⟨a, q, eu⟩ := rx
    obtain ⟨w, t, ew, r1, r2⟩ := rys
    cases (show t = [] from r2)
    split at p
    · rename_i xs hc
      obtain ⟨zs, e, rr⟩ := m.obj l a _ q (memAt_some hc)
      split at p
      · rename_i hl
        rw [frV_eq, sapp_eq, sset_eq] at p
        exact ⟨a, zs, w, eu, ew, e, by rw [← rr.len, sizeLine_eq]; omega, p ρ _ _ (m.write q (rr.app (show ValsR G ρ H [y] [w] from ⟨w, [], rfl, r1, rfl⟩))) (Ext.writeAt m q) rfl⟩
      · exact p.elim
    · exact p.elim
  · exact p.elim
def pyExtend (x : CV) (ys : List CV) : M CV := fun h => match x, ys with
  | .ref l, [y] => match memAt h l, lstOf y h with
    | some xs, some zs => if xs.length + zs.length < 1000000 then sapp xs zs fun ys => sset h l (.lst ys) fun h => .ok .non h else .bad
    | _, _ => .bad
  | _, _ => .bad
theorem extend_ok {G : Cfg} : Mt G rExtend pyExtend := by
  intro W σ ρ h H x u ys us Q m rx rys p
  unfold pyExtend at p
  split at p
  · rename_i l y
    obtain ⟨a, q, eu⟩ := rx
    obtain ⟨w, t, ew, r1, r2⟩ := rys
    cases (show t = [] from r2)
    split at p
    · rename_i xs zs hc hz
      obtain ⟨vs, e, rr⟩ := m.obj l a _ q (memAt_some hc)
      obtain ⟨b, ws, eb, rb, sb⟩ := lstOf_r m r1 hz
      split at p
      · rename_i hl
        rw [sapp_eq, sset_eq] at p
        subst eb
        exact ⟨a, b, vs, ws, eu, ew, e, sb, by rw [← rr.len, ← rb.len, sizeLine_eq]; omega, p ρ _ _ (m.write q (rr.app rb)) (Ext.writeAt m q) rfl⟩
      · exact p.elim
    · exact p.elim
  · exact p.elim
def gSub (o i : Sl → M CV) : CV → Sl → M Sl := fun v τ => bnd (o τ) fun x => bnd (i τ) fun k h => match x, k with
  | .ref l, .int k => match memAt h l with
    | some xs => match L2.ixN xs.length k with
      | some j => frV 3 v fun v => sset xs j v fun xs => sset h l (.lst xs) fun h => .ok τ h
      | none => .bad
    | none => .bad
  | _, _ => .bad
theorem ValsR.set {G : Cfg} {ρ : Wd} {H : Hp} {x : CV} {u : V} (q : ValR G ρ H x u) : ∀ {xs : List CV} {us : List V} (j : Nat), ValsR G ρ H xs us → ValsR G ρ H (xs.set j x) (us.set j u)
  | [], _, j, r => by rw [show _ = [] from r]; exact rfl
  | y :: ys, _, 0, ⟨w, t, e, r1, r2⟩ => by subst e; exact ⟨u, t, rfl, q, r2⟩
  | y :: ys, _, j + 1, ⟨w, t, e, r1, r2⟩ => by subst e; exact ⟨w, _, rfl, r1, r2.set q j⟩
theorem tM_noexc {α β : Type} {G : Cfg} {R : Wd → Hp → α → β → Prop} {m : Sl → M α} {σ : L2.St} {ρ : Wd} {h : Mem} {H : Hp} {τ : Sl} {C : β → Hp → Prop} {W : WX} (mm : MemR G ρ h H) (s : SlR G ρ H τ σ) {a : α} {h1 : Mem} (e : m τ h = .ok a h1)
    (hC : ∀ ρ1 H1 b, MemR G ρ1 h1 H1 → Ext ρ H ρ1 H1 → SlR G ρ1 H1 τ σ → R ρ1 H1 a b → C b H1) : tM G W R m σ H C :=
  ⟨ρ, h, τ, mm, s, by rw [e]; exact fun ρ1 H1 b m1 e1 r => hC ρ1 H1 b m1 e1 (s.ext mm e1) r⟩
theorem sg_sub {G : Cfg} {W : WX} {X : Cx} {pos : Pos} {o i : Expr} {mo mi : Sl → M CV} (ho : SE G W X o mo) (hi : SE G W X i mi) 
    (ha : ∀ v, assign (.Subscript o i pos) X.env v = (holding [v] (eval o X.env) >>= fun ov => holding [v, ov] (eval i X.env) >>= fun iv => standAt pos >>= fun _ => holding [v, ov, iv] (setItem ov iv v) >>= fun _ => release [v, ov, iv] []) := by intro _; rfl) : SG G X (.Subscript o i pos) (gSub mo mi) :=
  (pg_sub ho hi set_list ha).wk fun v σ H Q ⟨ρ, h, τ, x, m, s, r, p⟩ => by
    unfold gSub bnd at p
    cases e : mo τ h with
    | ok ov h1 =>
      rw [e] at p
      simp only at p
      refine tM_noexc m s e fun ρ1 H1 u m1 e1 s1 r1 => ?_
      cases e2 : mi τ h1 with
      | ok iv h2 =>
        rw [e2] at p
        simp only at p
        refine tM_noexc m1 s1 e2 fun ρ2 H2 w m2 e2' s2 r2 => ?_
        split at p
        · rename_i τ' h' he
          split at he
          · rename_i l k
            cases hc : memAt h2 l with
            | none => simp [hc] at he
            | some xs =>
              simp only [hc] at he
              obtain ⟨a, q, eu⟩ := r1.ext m1 e2'
              obtain ⟨ys, ea, rr⟩ := m2.obj l a _ q (memAt_some hc)
              cases hj : L2.ixN xs.length k with
              | none => simp [hj] at he
              | some j =>
                simp only [hj, frV_eq, sset_eq] at he
                cases he
                refine ⟨a, ys, k, j, eu, r2, ea, by rw [← rr.len]; exact hj, ?_⟩
                have rv := (r.ext m e1).ext m1 e2'
                exact p ρ2 _ _ (m2.write q (rr.set rv j)) ((e1.trans e2').trans (Ext.writeAt m2 q)) (s2.ext m2 (Ext.writeAt m2 q))
          · cases he
        · exact p.elim
      | exc _ _ => rw [e2] at p; exact p.elim
      | bad => rw [e2] at p; exact p.elim
    | exc _ _ => rw [e] at p; exact p.elim
    | bad => rw [e] at p; exact p.elim
end VE

noncomputable section
namespace VE
open PySem PySem.Spec PyProof.Rows L2
def mNever : MS := fun _ _ => .bad
def mPar (i j : Nat) (ml : Sl → M (List CV)) : MS := fun τ => inS (ml τ) τ fun xs h => match xs with
  | [x, y] => frV 3 x fun x => frV 3 y fun y => sset τ i (some x) fun τ => sset τ j (some y) fun τ => .mk (.nx τ) h
  | _ => .bad
def mPar3 (i j l : Nat) (ml : Sl → M (List CV)) : MS := fun τ => inS (ml τ) τ fun xs h => match xs with
  | [x, y, z] => frV 3 x fun x => frV 3 y fun y => frV 3 z fun z => sset τ i (some x) fun τ => sset τ j (some y) fun τ => sset τ l (some z) fun τ => .mk (.nx τ) h
  | _ => .bad
section
variable {G : Cfg} {W : WX} {X : Cx} {pos : Pos} {st : Stmt}
theorem ss_never : SS G W X st mNever := ps_never.wk fun D σ H ⟨ρ, h, τ, m, s, p⟩ => p.elim
theorem ss_par {i j : Nat} {x y : Str} {a b : Expr} {ml : Sl → M (List CV)} {px py pt : Pos} {kt k2 pt2} (hc : X.calm = true) (hN : X.N.Nodup) (hi : X.N[i]? = some x) (hj : X.N[j]? = some y) (hij : i ≠ j)
    (hx : X.env.scope.names.lookup x = some .local) (hy : X.env.scope.names.lookup y = some .local) (ha : SA G W X [a, b] ml) (hw : swappedStores [.Tuple [.Name x px, .Name y py] kt pt] (.Tuple [a, b] k2 pt2) X.env = pure (some [x, y])) (hs : swapsWithSole [.Tuple [.Name x px, .Name y py] kt pt] (.Tuple [a, b] k2 pt2) pos.line X.env = pure false := by rfl) (f1 : G.fr i = true := by rfl) (f2 : G.fr j = true := by rfl) :
    SS G W X (.Assign [.Tuple [.Name x px, .Name y py] kt pt] (.Tuple [a, b] k2 pt2) pos) (mPar i j ml) :=
  (ps_par hc hN hi hj hij hx hy ha hw hs).wk fun D σ H ⟨ρ, h, τ, m, s, p⟩ => tM_inS m s p fun xs h1 ρ1 H1 us m1 e1 s1 r1 p1 => by
    split at p1
    · obtain ⟨u, t, e, q1, u2, t2, e2, q2, q3⟩ := r1
      cases (show t2 = [] from q3)
      subst e2
      simp only [frV_eq, sset_eq] at p1
      exact ⟨u, u2, e, p1 ρ1 H1 _ m1 Ext.refl ((s1.set i q1 f1).set j q2 f2)⟩
    · exact p1.elim
theorem ss_par3 {i j l : Nat} {x y z : Str} {a b c : Expr} {ml : Sl → M (List CV)} {px py pz pt : Pos} {kt k2 pt2} (hc : X.calm = true) (hN : X.N.Nodup) (hi : X.N[i]? = some x) (hj : X.N[j]? = some y) (hl : X.N[l]? = some z) (hij : i ≠ j) (hil : i ≠ l) (hjl : j ≠ l)
    (hx : X.env.scope.names.lookup x = some .local) (hy : X.env.scope.names.lookup y = some .local) (hz : X.env.scope.names.lookup z = some .local) (ha : SA G W X [a, b, c] ml) (hw : swappedStores [.Tuple [.Name x px, .Name y py, .Name z pz] kt pt] (.Tuple [a, b, c] k2 pt2) X.env = pure (some [x, y, z])) (hs : swapsWithSole [.Tuple [.Name x px, .Name y py, .Name z pz] kt pt] (.Tuple [a, b, c] k2 pt2) pos.line X.env = pure false := by rfl) (f1 : G.fr i = true := by rfl) (f2 : G.fr j = true := by rfl) (f3 : G.fr l = true := by rfl) :
    SS G W X (.Assign [.Tuple [.Name x px, .Name y py, .Name z pz] kt pt] (.Tuple [a, b, c] k2 pt2) pos) (mPar3 i j l ml) :=
  (ps_par3 hc hN hi hj hl hij hil hjl hx hy hz ha hw hs).wk fun D σ H ⟨ρ, h, τ, m, s, p⟩ => tM_inS m s p fun xs h1 ρ1 H1 us m1 e1 s1 r1 p1 => by
    split at p1
    · obtain ⟨u, t, e, q1, u2, t2, e2, q2, u3, t3, e3, q3, q4⟩ := r1
      cases (show t3 = [] from q4)
      subst e3 e2
      simp only [frV_eq, sset_eq] at p1
      exact ⟨u, u2, u3, e, p1 ρ1 H1 _ m1 Ext.refl (((s1.set i q1 f1).set j q2 f2).set l q3 f3)⟩
    · exact p1.elim
end
def pyIAdd (x y : CV) : M CV := match x, y with
  | .int i, .int j => ret (.int (i + j))
  | _, _ => stuck
theorem iadd_ok {G : Cfg} : Op2 G (rI0 fun i j => .int (i + j)) pyIAdd := by
  intro W σ ρ h H x y u v Q m rx ry p
  unfold pyIAdd at p
  split at p
  · exact ⟨_, _, rx, ry, p ρ H _ m Ext.refl rfl⟩
  · exact p.elim
def pyIMul (x y : CV) : M CV := match x, y with
  | .int i, .int j => if (fit i && fit j) = true then ret (.int (i * j)) else stuck
  | _, _ => stuck
theorem imul_ok {G : Cfg} : Op2 G (rI CMulW fun i j => .int (i * j)) pyIMul := by
  intro W σ ρ h H x y u v Q m rx ry p
  unfold pyIMul at p
  split at p
  · split at p
    · rename_i hc
      exact ⟨_, _, rx, ry, fit_mul hc, p ρ H _ m Ext.refl rfl⟩
    · exact p.elim
  · exact p.elim
theorem iop_mulW {X : Cx} : OpR X (inplaceOp .Mult) (rI CMulW fun i j => .int (i * j)) := opI fun _ _ _ _ _ _ _ hc q => imul_int q hc.ok
theorem cx_no {P : Program} {w : World} {H : Hp} {s s' : Shared} {e : Value} (z : L2.CX P w [] H s (fun _ _ _ => False) e s') : False := by
  obtain ⟨_, _, _, _, _, _, _, _, _, _, _, _, z⟩ := z
  exact z
theorem law_sp {G : Cfg} {F : List CV → M CV} {H : Hp} {a : Addr} {ns : List Int} (hT : G.T = []) (hx : G.exi = none) (hy : G.lam = none) (hO : Only H) (hS : SqL G.K H a (ns.map V.int)) (hF : ∃ h, F [.frz (ns.map CV.int)] [] = .ok (.bl true) h) :
    spH G 1 F [.ref a] H (fun v _ => v = .bl true) fun _ _ _ => False := by
  have nh : ∀ a, ¬ (⟨[], []⟩ : Wd).has a := fun a z => by
    rcases z with z | z <;> simp at z
  have hints : ∀ (ρ : Wd) (H : Hp) (ns : List Int), ValsR G ρ H (ns.map CV.int) (ns.map V.int) := fun ρ H ns => by
    induction ns with
    | nil => rfl
    | cons n ns ih => exact ⟨.int n, _, rfl, rfl, ih⟩
  refine ⟨rfl, ⟨[], []⟩, [], [.frz (ns.map CV.int)], ⟨rfl, List.nodup_nil, fun i a co e1 => by simp at e1, fun a ha => by simp at ha, fun p hp => by (rw [hT] at hp; simp at hp), fun e he => by (rw [hx] at he; cases he), fun e he => by rw [hy] at he; cases he⟩, ⟨_, _, rfl, ⟨a, _, rfl, ?_, hints _ _ ns⟩, rfl⟩, ?_⟩
  · rcases hS with hS | hS
    · exact .inl ⟨nh a, hS⟩
    · exact .inr (.inr hS)
  · obtain ⟨h, e⟩ := hF
    rw [e]
    exact fun ρ' H' u m' e' r => r

/-- law's promise: a list of at most 63 ints is handed in, True comes out -/
def spLaw (K : PySem.W.Frag) : Sp := fun vs H Q _ => ∃ (a : Addr) (ns : List Int), vs = [.ref a] ∧ SqL K H a (ns.map V.int) ∧ ns.length ≤ 63 ∧ ∀ H', Q (.bl true) H'
theorem spLaw_of {G : Cfg} {F : List CV → M CV} (hT : G.T = []) (hx : G.exi = none) (hy : G.lam = none) (hF : ∀ ns : List Int, ns.length ≤ 63 → ∃ h, F [.frz (ns.map CV.int)] [] = .ok (.bl true) h) (vs : List V) (H : Hp) (Q : VK) (E : XK) (h : spLaw G.K vs H Q E) : spH G 1 F vs H Q E := by
  obtain ⟨a, ns, rfl, hS, hl, q⟩ := h
  have nh : ∀ a, ¬ (⟨[], []⟩ : Wd).has a := fun a z => by
    rcases z with z | z <;> simp at z
  have hints : ∀ (ρ : Wd) (H : Hp) (ns : List Int), ValsR G ρ H (ns.map CV.int) (ns.map V.int) := fun ρ H ns => by
    induction ns with
    | nil => rfl
    | cons n ns ih => exact ⟨.int n, _, rfl, rfl, ih⟩
  refine ⟨rfl, ⟨[], []⟩, [], [.frz (ns.map CV.int)], ⟨rfl, List.nodup_nil, fun i a co e1 => by simp at e1, fun a ha => by simp at ha, fun p hp => by (rw [hT] at hp; simp at hp), fun e he => by (rw [hx] at he; cases he), fun e he => by rw [hy] at he; cases he⟩, ⟨_, _, rfl, ⟨a, _, rfl, ?_, hints _ _ ns⟩, rfl⟩, ?_⟩
  · rcases hS with hS | hS
    · exact .inl ⟨nh a, hS⟩
    · exact .inr (.inr hS)
  · obtain ⟨h, e⟩ := hF ns hl
    rw [e]
    exact fun ρ' H' u m' e' r => by rw [show u = .bl true from r]; exact q H'
theorem def_mk {K : PySem.W.Frag} {h : Heap} {mg : Str → Option Value} (X : K.In h) (G : h.Ns mainGlobals mg) {x : Str} {st : Stmt} {f : Addr} {od an : Option Addr} {osl : Array (Option Value)} {oc kV doc pm cdv ct : Value} (a : PySem.W.nsIn K mainGlobals x = some (some (.ref f)))
    (l : K.lookup f = some ⟨oc, od, .func (PySem.W.fnOf x x (defArgs st) (defBody st) (defScope st) .none kV doc pm an cdv ct), osl⟩) (c : PySem.W.codeIn K cdv x = true) (k : PySem.W.keepIn K (.ref f) = true) :
    ∃ (f : Addr) (fd : FuncData), mg x = some (.ref f) ∧ Fun K x x st f fd := ⟨f, _, PySem.W.mg_of X G a, fun_mk l c k⟩
theorem int_mk {K : PySem.W.Frag} {h : Heap} {mg : Str → Option Value} (X : K.In h) (G : h.Ns mainGlobals mg) {x : Str} {i : Int} {t : Tok} (a : PySem.W.nsIn K mainGlobals x = some (some (.int i t))) : ∃ t, mg x = some (.int i t) := ⟨t, PySem.W.mg_of X G a⟩
theorem str_mk {K : PySem.W.Frag} {h : Heap} {mg : Str → Option Value} (X : K.In h) (G : h.Ns mainGlobals mg) {x : Str} {i : Str} {t : Tok} (a : PySem.W.nsIn K mainGlobals x = some (some (.str i t))) : ∃ t, mg x = some (.str i t) := ⟨t, PySem.W.mg_of X G a⟩
theorem walk_law {l : PySem.W.OpenLaw} {q : Program} {loose : List Str} {XP : (Str → Option Value) → Heap → Prop} {YP : World → Heap → Prop} {d : DefRec} {K : Params → PySem.W.Frag} {k : Nat} (hr : Room k callerA) (hn : l.most = some 63) (hdf : d.params.defaults = [])
    (hY : ∀ (w : World) (h : Heap), YP w h → (K w.params).In h)
    (F : ∀ (w : World) (mg : Str → Option Value) (fa : Addr) (h : Heap), (K w.params).In h → h.Ns mainGlobals mg → mg d.name = some (.ref fa) →
      ∃ fd : FuncData, (∀ (s : Shared) (u : Value), BindsTo s fd ⟨[u], []⟩ [("script", u)]) ∧ ∀ base : Heap, (K w.params).In base → base.Ns mainGlobals mg → FnOk l.prog w (K w.params) mg base (L2.CX l.prog w) k fa fd ["script"] (spLaw (K w.params))) :
    PySem.W.WalkO q loose XP YP l.row.toRowW d [] (fun f vs => PySem.call f vs) :=
  L2.walk_of (n := 63) (k := k) (x := "script") (CX := fun w => L2.CX l.prog w) (sp := fun w => spLaw (K w.params)) hn (by decide) hdf hr hY F (fun _ _ a ns hl _ hS => ⟨a, ns, rfl, hS, hl, fun _ => rfl⟩) fun _ _ _ _ _ z => cx_no z
end VE

namespace VE
open PySem PySem.Spec PyProof.Rows PyProof.V L2 PySem.W
open PySem hiding Program
set_option maxHeartbeats 4000000 in
theorem meets_enum1 {v : Value} {o : Obj} {H : Heap → Prop} (B : Begins v o H) :
    Meets (Builtin.«enumerate.__new__» ⟨[.type "enumerate", v], []⟩) (fun _ R s => H s.heap ∧
      R (.ok (.ret (.ref (s.heap.push o).objs.size))) { s with heap := (s.heap.push o).push { cls := .type "enumerate", data := .fields #[.none, .bool false, .ref s.heap.objs.size, rawInt 0, .none, .none] } }) :=
  .of_wp fun prog w A R s h => by
    obtain ⟨has, out⟩ := h
    obtain ⟨heap, gs, dr, tk, os⟩ := s
    have below := sub_enumerate
    have begun : ∀ {A1 : Around} {E1 : Value → Shared → Prop} {Q1 : Value → Shared → Prop}, Q1 (.ref heap.objs.size) ⟨heap.push o, gs, dr, tk, os⟩ → wpAny (model prog w) A1 (pyIter v) Q1 E1 ⟨heap, gs, dr, tk, os⟩ := fun z => B.iter prog w _ _ ⟨heap, gs, dr, tk, os⟩ _ has z
    wp_walk using begun
    refine wpAny_stack_any fun _ => wpAny_pure ?_
    split
    all_goals first
      | (rename_i c _ _ _ _ _; cases (c == Value.type "enumerate") <;> (wp_walk using begun; exact ⟨_, rfl, out⟩))
      | (wp_walk using begun; exact ⟨_, rfl, out⟩)
section
variable {prog : PySem.Program} {w : World} {A : Around} {E : Value → Shared → Prop} {s : Shared}
theorem enum1_begins {v : Value} {o : Obj} {Has : Heap → Prop} {Q : Value → Shared → Prop} (B : Begins v o Has) (has : Has s.heap)
    (next : ∀ hp, IsEnum hp (s.heap.objs.size + 1) s.heap.objs.size 0 .none → hp.get? s.heap.objs.size = some o → hp.objs.size = s.heap.objs.size + 2 →
      (∀ b ob, s.heap.get? b = some ob → hp.get? b = some ob) → Q (.ref (s.heap.objs.size + 1)) { s with heap := hp }) :
    wpAny (model prog w) A (call (.type "enumerate") [v]) Q E s := by
  have size1 : (s.heap.push o).objs.size = s.heap.objs.size + 1 := by simp [Heap.size_push]
  have two : IsEnum ((s.heap.push o).push { cls := .type "enumerate", data := .fields #[.none, .bool false, .ref s.heap.objs.size, rawInt 0, .none, .none] }) (s.heap.objs.size + 1) s.heap.objs.size 0 .none :=
    size1 ▸ Heap.get?_push_size (s.heap.push o) (o := { cls := .type "enumerate", data := .fields #[.none, .bool false, .ref s.heap.objs.size, rawInt 0, .none, .none] }) rfl
  have tyE := F.typeCall_enumerate_1 v
  refine callType_new F.called_enumerate (by decide) tyE (F.newCall_enumerate_1 v) (fun ob => F.args_object_init_2 ob v) F.entry_enumerate_new (meets_enum1 B) ⟨has, ?_⟩
  refine (show _ ∧ _ from ?_)
  rw [size1]
  have first := Heap.get?_push_size s.heap (o := o) B.free
  exact ⟨⟨_, two, rfl⟩, next _ two (Heap.get?_push_of_some _ first) (by rw [Heap.size_push, size1]) fun b ob z => Heap.get?_push_of_some _ (Heap.get?_push_of_some _ z)⟩
theorem sumT_raw {l : Addr} {its : List Value} {ns : List Int} {Q : Value → Shared → Prop} (calm : A.handled = none) (tp : s.heap.IsTuple l its.toArray) (allInt : IntsAre its ns)
    (next : ∀ hp tk tok, (∀ b ob, s.heap.get? b = some ob → hp.get? b = some ob) → Q (.int ns.sum tok) { s with heap := hp, toks := tk }) : wpAny (model prog w) A (call (.builtin "sum") [.ref l]) Q E s := by
  obtain ⟨xs, shape⟩ := allInt.allInts.items
  have nums : numsOf (intItems xs).toList = ns := shape ▸ allInt.numsOf
  rw [nums_intItems] at nums
  refine PySem.W.ktm_sumG calm (shape ▸ tp) fun hp tk tok kept => ?_
  rw [preSum_eq, List.take_of_length_le (by simp), nums]
  exact next hp tk tok kept
theorem wpAny_pyNext_enum_endT {en ti l : Addr} {n : Nat} {items : Array Value} {was : Value} {Q : Option Value → Shared → Prop} (calm : A.handled = none)
    (ge : IsEnum s.heap en ti n was) (hi : s.heap.IsTupleIter ti l n) (tp : s.heap.IsTuple l items) (over : items[n]? = none)
    (next : ∀ hp, Heap.ExtBut ti s.heap hp → Q none { s with heap := hp }) : wpAny (model prog w) A (pyNext (.ref en)) Q E s := by
  unfold pyNext
  have ty : s.TypeIs (.ref en) "enumerate" := ⟨_, ge, rfl⟩
  refine wpAny_bind (wpAny_attempt (wpAny_callSpecial?_slot (name := Str.ofString "__next__") ty F.slot_enumerate_next (wpAny_call_entry F.slot_enumerate_next ty F.entry_enumerate_next ?_ (F.args_enumerate_next_1 _))))
  refine (show wpAny (model prog w) _ (field (.ref en) 2 >>= _) _ _ _ from wpAny_bind (wpAny_field ge rfl (x := .ref ti) rfl (wpAny_bind (wpAny_nextOf_tuple_end calm hi tp over fun hp stop but is => ?_))))
  obtain ⟨ob, go, cl⟩ := is
  exact wpAny_bind (wpAny_isInstance (T := "StopIteration") (b := true) ⟨ob, go, cl⟩ isSubtype_stop (wpAny_pure (next _ but)))
end
def rSumT (K : PySem.W.Frag) : List V → Hp → VK → Prop := fun vs H Q => ∃ (a : Addr) (ns : List Int), vs = [V.ref a] ∧ SqT K H a (ns.map V.int) ∧ Q (.int ns.sum) H
theorem cr_sumT {X : Cx} (hc : X.calm = true) : CallR X (.builtin "sum") (rSumT X.K) := by
  intro pins sh σ Hh vs us Q inv rel ⟨t, ns, ev, sq, next⟩
  subst ev
  obtain ⟨its, rv, tp, _⟩ := inv.tuple sq
  obtain rfl : us = [.ref t] := Vals.ref1 rel
  exact sumT_raw (inv.ok.hd hc) tp rv.ints fun hp tk tok kept => ⟨.int _, Hh, inv.kept kept, ⟨_, rfl⟩, next⟩
theorem callR_or {X : Cx} {f : Value} {r r' : List V → Hp → VK → Prop} (h : CallR X f r) (h' : CallR X f r') : CallR X f (fun vs H Q => r vs H Q ∨ r' vs H Q) := by
  intro pins s σ H vs us Q I rr q
  exact q.elim (fun q => h pins s σ H vs us Q I rr q) fun q => h' pins s σ H vs us Q I rr q
def rSum2 (K : PySem.W.Frag) : List V → Hp → VK → Prop := fun vs H Q => rSum K vs H Q ∨ rSumT K vs H Q
theorem cr_sum2 {X : Cx} (hc : X.calm = true) : CallR X (.builtin "sum") (rSum2 X.K) := callR_or (cr_sum hc) (cr_sumT hc)
noncomputable section
def pySum2 (x : CV) : M CV := fun h => match seqOf x h with
  | some xs => match intsOf xs with
    | some bs => .ok (.int bs.sum) h
    | none => .bad
  | none => .bad
theorem sum2_ok {G : Cfg} : OpL G (rSum2 G.K) (one pySum2) := one_ok fun W σ ρ h H x u Q m rx p => by
  unfold pySum2 at p
  cases e : seqOf x h with
  | none => rw [e] at p; exact p.elim
  | some xs =>
    rw [e] at p
    simp only at p
    cases q : intsOf xs with
    | none => rw [q] at p; exact p.elim
    | some bs =>
      rw [q] at p
      obtain ⟨a, ys, eu, rr, sq⟩ := seqOf_r m rx e
      by_cases ht : isTup x = true
      · rw [if_pos ht] at sq
        exact .inr ⟨a, bs, by rw [eu], by rw [← intsOf_r q rr]; exact sq, p ρ H _ m Ext.refl rfl⟩
      · rw [if_neg ht] at sq
        exact .inl ⟨a, bs, by rw [eu], by rw [← intsOf_r q rr]; exact sq, p ρ H _ m Ext.refl rfl⟩
end
/-- what a walk that counts hands out: the tuple's items, each behind its number in a pair made for it -/
def IteT (K : PySem.W.Frag) (t : Addr) : It where
  go i Hh := ∃ (us : List V) (u : V), us[i]? = some u ∧ SqT K Hh t us
  yld i Hh w Hh' := ∃ T u, Hh T = none ∧ w = .ref T ∧ Hh' = upd Hh T (.tup [.int (i : Nat), u]) ∧ ∀ us, SqT K Hh t us → us[i]? = some u
  stop i Hh := ∃ us : List V, us.length ≤ i ∧ SqT K Hh t us
/-- a pair (number, item) behind all that there is, while only the walk's own two cells were touched -/
theorem pair_new {X : Cx} {pins : List (Addr × Obj)} {σ : L2.St} {Hh : Hp} {sh : Shared} {en ti : Addr} {n : Nat} {k : Tok} {u : V} {v : Value} {hp : Heap} {tk : Nat} (inv : Inv X pins σ Hh sh)
    (own : ∀ b ∈ [en, ti], FpOk X pins Hh b) (same : ∀ b ob, b ≠ en → b ≠ ti → sh.heap.get? b = some ob → hp.get? b = some ob)
    (at_ : hp.get? sh.heap.objs.size = some { cls := .type "tuple", data := .seq #[.int (n : Int) k, v] }) (rel : RelV u v) :
    Inv X pins σ (upd Hh sh.heap.objs.size (.tup [.int (n : Nat), u])) { sh with heap := hp, toks := tk } := by
  refine inv.turnedNew (ch := [en, ti]) (fun b ob nb q => same b ob (fun z => nb (by rw [z]; exact List.mem_cons_self ..)) (fun z => nb (by rw [z]; exact List.mem_cons_of_mem _ (List.mem_singleton.mpr rfl))) q) own (Nat.le_refl _) ?_
  exact ⟨(by decide : (2 : Nat) ≤ sizeLine), [.int (n : Int) k, v], .cons ⟨k, rfl⟩ (.cons rel .nil), _, at_, rfl, 0, rfl⟩
theorem two_of {b x y : Addr} (h : b ∈ [x, y]) : b = x ∨ b = y := by simpa using h
theorem turn_enumT {P : PySem.Program} {w : World} {K : PySem.W.Frag} {elts : List Expr} {kk : Nat} {tpos : Pos} (t en ti : Addr) (ht : ti ≠ t) (he : en ≠ t) :
    Turn P w K (.Tuple elts kk tpos) (IteT K t) [en, ti] en (fun n h => en ≠ ti ∧ h.IsTupleIter ti t n ∧ ∃ was, IsEnum h en ti ((n : Nat) : Int) was) := by
  constructor
  case mem => exact List.mem_cons_self ..
  case obj =>
    rintro n h ⟨_, ⟨oi, gi, _, di⟩, was, ge⟩ b hb
    rcases two_of hb with rfl | rfl
    · exact ⟨_, ge, fun _ z => nomatch z⟩
    · exact ⟨oi, gi, fun _ z => by rw [di] at z; cases z⟩
  case keep =>
    rintro n h hn ⟨ne, hi, was, ge⟩ kp
    exact ⟨ne, hi.at (fun o z => kp ti (by simp) o z), was, kp en (by simp) _ ge⟩
  case self => exact fun A n sh Q E st z => wpAny_pyIter_enum st.2.2.choose_spec z
  case item =>
    intro X e1 e2 e3 calm n pins sh σ Hh E inv own ⟨ne, hi, was, ge⟩ ⟨us, u, hu, sq⟩
    subst e1 e2 e3
    obtain ⟨vs, rel, tp, _⟩ := inv.tuple sq
    obtain ⟨v, hv, rv⟩ := rel.get hu
    have room : n < vs.toArray.size := (List.getElem?_eq_some_iff.mp hv).1
    have dr := Draws.tuple (prog := X.prog) (w := X.w) (A := X.A.in1) (inv.ok.hd calm) ti t (Ne.symm ht) vs.toArray
    refine wpAny_pyNext_enum_itemD (P := fun j x => vs.toArray[j]? = some x) dr ge ⟨hi, tp⟩ room ne (by simp [ne, he]) fun x h1 tk hx out st1 fresh _ only => ?_
    have same : x = v := Option.some.inj (hx.symm.trans (show vs.toArray[n]? = some v by simpa using hv))
    rw [same] at out fresh
    refine ⟨_, rfl, wpAny_letOwnedTupleGo_enum (s := { sh with heap := h1, toks := tk + 1 }) out fun h2 ge2 but => ?_⟩
    have live : ∀ b ∈ [en, ti], b < sh.heap.objs.size := fun b hb => by
      rcases two_of hb with rfl | rfl
      · exact Heap.lt_size ge
      · exact hi.elim fun _ z => Heap.lt_size z.1
    have inv2 := pair_new (tk := tk + 1) (hp := h2) inv own (fun b ob n1 n2 q => (but.2 b n1).trans (only b ob n1 n2 q)) ((but.2 _ (Nat.ne_of_gt (live en (by simp)))).trans fresh) rv
    refine ⟨.ref sh.heap.objs.size, _, inv2, rfl, ⟨_, u, inv.hok.fresh (Nat.le_refl _), rfl, rfl, fun us' z => by rw [inv.tuple_inj z sq, hu]⟩, ⟨ne, st1.1.at (fun o z => (but.2 ti (Ne.symm ne)).trans z), v, ?_⟩, fun b hb => ?_⟩
    · rw [Int.natCast_add]; exact ge2
    · exact (upd_ne (Nat.ne_of_lt (live b hb))).trans (own b hb).1
  case done =>
    intro X e1 e2 e3 calm n pins sh σ Hh E inv own ⟨ne, hi, was, ge⟩ ⟨us, le, sq⟩
    subst e1 e2 e3
    obtain ⟨vs, rel, tp, _⟩ := inv.tuple sq
    have over : vs.toArray[n]? = none := by
      have := rel.length
      simp; omega
    obtain ⟨z0, z1, z2, z3, z4, z5⟩ := own ti (by simp)
    exact wpAny_pyNext_enum_endT (inv.ok.hd calm) ge hi tp over fun h2 but => ⟨rfl, inv.turned (t' := sh.toks) (fun b o nb q => but b o nb q) z0 z1 z3 z4 z5⟩
def iEnumT (K : PySem.W.Frag) (ta : TA) : TI := fun σ Hh R => ta σ Hh fun vs H1 => ∃ t us, SqT K H1 t us ∧ vs = [.ref t] ∧ R (IteT K t) H1
theorem pi_enumT {X : Cx} {e : Expr} {ta : TA} {p pos tpos : Pos} {elts : List Expr} {kk : Nat} (hg : Gl X "enumerate") (free : X.mg "enumerate" = none) (arg : PA X [e] ta) (hs : starEach [e] X.env = [(false, eval e X.env)] := by rfl) :
    PI X (.Tuple elts kk tpos) (.Call (.Name "enumerate" p) [e] [] pos) (iEnumT X.K ta) := by
  constructor
  intro pins sh σ Hh R inv want
  refine Call_ (ld_blt inv hg free boot_enumerate (PyProof.Rows.callWith_type1 (thn (arg.run pos pins sh σ Hh _ inv want) fun us s1 got => ?_) hs rfl))
  obtain ⟨_, H1, inv1, rel, t, vs, sq, rfl, next⟩ := got
  obtain rfl : us = [.ref t] := Vals.ref1 rel
  obtain ⟨its, _, tp, _⟩ := inv1.tuple sq
  have tl : t < s1.heap.objs.size := tp.elim fun _ z => Heap.lt_size z.1
  refine enum1_begins (begins_tuple t its.toArray) tp fun h2 ge hi _ kept => wpAny_pyIter_enum ge ?_
  refine ⟨_, [s1.heap.objs.size + 1, s1.heap.objs.size], _, _, H1, rfl, inv1.kept (t' := s1.toks) kept, turn_enumT t _ s1.heap.objs.size (Nat.ne_of_gt tl) (Nat.ne_of_gt (Nat.lt_succ_of_lt tl)), ⟨Nat.succ_ne_self _, ⟨_, hi, rfl, rfl⟩, .none, ge⟩, fun b hb => ?_, next⟩
  have behind : s1.heap.objs.size ≤ b := by rcases two_of hb with rfl | rfl <;> omega
  exact inv1.fpOk behind (inv1.hok.fresh behind)
section
variable {G : Cfg} {ρ : Wd} {h : Mem} {H : Hp} {a : Addr} {ys : List V} {xs : List CV}
theorem itR_enumT (m : MemR G ρ h H) (s : SqT G.K H a ys) (r : ValsR G ρ H xs ys) : ItR G ρ H (IteT G.K a) (enumL 0 xs) := by
  intro ρ1 h1 H1 m1 e1
  have s1 : SqT G.K H1 a ys := e1.sqT m s
  have r1 := r.extH m e1
  have ln : (enumL 0 xs).length = ys.length := by rw [enumL_len, r1.len]
  refine ⟨fun i hi => ⟨ys, ys[i]'(by omega), by simp, s1⟩, ⟨ys, by omega, s1⟩, fun i x u H' q y => ?_⟩
  obtain ⟨T, w, hT, eu, eH, hw⟩ := y
  subst eu eH
  obtain ⟨z, h1, h2⟩ := enumL_get q
  subst h2
  obtain ⟨w', q3, r3⟩ := r1.get h1
  rw [hw ys s1] at q3
  cases q3
  refine ⟨m1.laid hT, Ext.laid hT, T, _, rfl, SqT.of upd_same, _, _, rfl, (by rw [Nat.zero_add]; exact (rfl : V.int _ = V.int _)), _, _, rfl, r3.ext m1 (Ext.laid hT), rfl⟩
end
noncomputable section
def ftOf (x : CV) : Option (List CV) := match x with
  | .tup ys => some ys
  | x => frzOf x
def enumOf2 (xs : List CV) : M (List CV) := match xs with
  | [x] => match ftOf x with
    | some ys => ret (enumL 0 ys)
    | none => stuck
  | _ => stuck
theorem tM_bindE {α γ δ β : Type} {G : Cfg} {W : WX} {R : Wd → Hp → α → β → Prop} {S : Wd → Hp → γ → δ → Prop} {ρ : Wd} {h : Mem} {H : Hp} {τ : Sl} {σ : L2.St} {ma : Sl → M α} {k : α → M γ} {Q : δ → Hp → Prop} {C : β → Hp → Prop} (m : MemR G ρ h H) (s : SlR G ρ H τ σ) (p : Post G W S σ ρ H (bnd (ma τ) k h) Q)
    (hC : ∀ a h1 ρ1 H1 b, ma τ h = .ok a h1 → MemR G ρ1 h1 H1 → Ext ρ H ρ1 H1 → SlR G ρ1 H1 τ σ → R ρ1 H1 a b → Post G W S σ ρ1 H1 (k a h1) Q → C b H1) : tM G W R ma σ H C := by
  refine ⟨ρ, h, τ, m, s, ?_⟩
  unfold bnd at p
  cases e : ma τ h with
  | ok a h1 =>
    rw [e] at p
    exact fun ρ1 H1 b m1 e1 r => hC a h1 ρ1 H1 b e m1 e1 (s.ext m e1) r (Post.ext (G := G) (W := W) p e1)
  | exc x h1 => rw [e] at p; exact p
  | bad => rw [e] at p; exact p
theorem si_enum2 {G : Cfg} {W : WX} {X : Cx} {e : Expr} {ml : Sl → M (List CV)} {p pos : Pos} {elts : List Expr} {kk : Nat} {tpos : Pos} (hK : G.K = X.K) (hg : Gl X "enumerate") (hm : X.mg "enumerate" = none) (ha : SA G W X [e] ml) (hs : starEach [e] X.env = [(false, eval e X.env)] := by rfl) :
    SI G W X (.Tuple elts kk tpos) (.Call (.Name "enumerate" p) [e] [] pos) (iArgs enumOf2 ml) :=
  ((pi_enum hg hm ha hs).or (pi_enumT hg hm ha hs)).wk fun σ H R ⟨ρ, h, τ, m, s, p⟩ => by
    by_cases c : ∃ ys h1, ml τ h = .ok [.tup ys] h1
    · obtain ⟨ys, hh, c⟩ := c
      refine .inr (tM_bindE m s p fun xs h1 ρ1 H1 us eq m1 e1 s1 r1 p1 => ?_)
      rw [c] at eq
      cases eq
      obtain ⟨y, t, eu, ⟨a, vs, ea, z, r⟩, rt⟩ := r1
      cases (show t = [] from rt)
      subst ea
      rw [← hK]
      exact ⟨a, vs, z, eu, p1 ρ1 H1 _ m1 Ext.refl (itR_enumT m1 z r)⟩
    · refine .inl (tM_bindE m s p fun xs h1 ρ1 H1 us eq m1 e1 s1 r1 p1 => ?_)
      rw [← hK]
      cases xs with
      | nil => exact p1.elim
      | cons x t =>
        cases t with
        | cons _ _ => exact p1.elim
        | nil =>
          simp only [enumOf2] at p1
          cases q : ftOf x with
          | none => rw [q] at p1; exact p1.elim
          | some ys =>
            rw [q] at p1
            have q2 : frzOf x = some ys := by
              cases x with
              | tup zs => exact absurd ⟨zs, h1, eq⟩ c
              | _ => exact q
            obtain ⟨y, t, eu, ry, rt⟩ := r1
            cases (show t = [] from rt)
            obtain ⟨a, vs, ea, z, r⟩ := frzOf_r ry q2
            subst ea
            exact ⟨a, vs, eu, z.l, p1 ρ1 H1 _ m1 Ext.refl (itR_enum m1 z r)⟩
end
end VE

noncomputable section
namespace VE
open PySem PySem.Spec
section
variable {α β : Type} {a : α} {h : Mem} {x : Exn} {k : α → M β} {τ : Sl} {f : Fl}
theorem rd_bnd (m : M α) (k : α → M β) : bnd m k h = match m h with | .ok a h' => k a h' | .exc x h' => .exc x h' | .bad => .bad := by unfold bnd; cases m h <;> rfl
theorem rd_inS (m : M α) (τ : Sl) (k : α → Mem → OS) : inS m τ k h = match m h with | .ok a h' => k a h' | .exc x h' => .mk (.ex x τ) h' | .bad => .bad := by unfold inS; cases m h <;> rfl
theorem rd_eVar (i : Nat) : eVar i τ h = match τ[i]? with | some (some v) => .ok v h | _ => .bad := by
  unfold eVar; rw [sget_eq]; rcases τ[i]? with _ | _ | v <;> rfl
theorem rd_eC (v : CV) : eC v τ h = .ok v h := rfl
theorem rd_ret (v : α) : ret v h = .ok v h := rfl
theorem rd_stuck : (stuck : M α) h = .bad := rfl
theorem rd_eOp (g : CV → CV → M CV) (a b : Sl → M CV) : eOp g a b τ h = match a τ h with | .ok x h' => (match b τ h' with | .ok y h'' => g x y h'' | .exc x h' => .exc x h' | .bad => .bad) | .exc x h' => .exc x h' | .bad => .bad := by
  unfold eOp; rw [rd_bnd]; cases a τ h <;> simp only [rd_bnd]; try cases b τ _ <;> rfl
theorem rd_eUn (g : CV → M CV) (a : Sl → M CV) : eUn g a τ h = match a τ h with | .ok x h' => g x h' | .exc x h' => .exc x h' | .bad => .bad := by
  unfold eUn; rw [rd_bnd]; try cases a τ h <;> rfl
theorem rd_eNilA : eNilA τ h = .ok [] h := rfl
theorem rd_eConsA (a : Sl → M CV) (r : Sl → M (List CV)) : eConsA a r τ h = match a τ h with | .ok x h' => (match r τ h' with | .ok y h'' => .ok (x :: y) h'' | .exc x h' => .exc x h' | .bad => .bad) | .exc x h' => .exc x h' | .bad => .bad := by
  unfold eConsA; rw [rd_bnd]; cases a τ h <;> simp only [rd_bnd]; try cases r τ _ <;> rfl
theorem rd_mSeq (a b : MS) : mSeq a b τ h = match a τ h with | .mk (.nx τ') h' => b τ' h' | .mk (.rt v) h' => .mk (.rt v) h' | .mk (.bk τ') h' => .mk (.bk τ') h' | .mk (.ct τ') h' => .mk (.ct τ') h' | .mk (.ex x τ') h' => .mk (.ex x τ') h' | .bad => .bad := by
  unfold mSeq; rcases a τ h with ⟨f, _⟩ | _ <;> try rfl
  cases f <;> rfl
theorem rd_mAsg (g : CV → Sl → M Sl) (e : Sl → M CV) : mAsg g e τ h = match e τ h with | .ok x h' => (match g x τ h' with | .ok τ' h'' => .mk (.nx τ') h'' | _ => .bad) | .exc x h' => .mk (.ex x τ) h' | .bad => .bad := by
  unfold mAsg; rw [rd_inS]; cases e τ h <;> try rfl
  dsimp only; cases g _ τ _ <;> rfl
theorem rd_gSet (i : Nat) (v : CV) : gSet i v τ h = .ok (τ.set i (some v)) h := by
  unfold gSet; rw [frV_eq, sset_eq]
theorem rd_mIf (c : Sl → M Bool) (a b : MS) : mIf c a b τ h = match c τ h with | .ok true h' => a τ h' | .ok false h' => b τ h' | .exc x h' => .mk (.ex x τ) h' | .bad => .bad := by
  unfold mIf; rw [rd_inS]; rcases c τ h with ⟨k, _⟩ | _ | _ <;> try rfl
  cases k <;> rfl
theorem rd_mRet (e : Sl → M CV) : mRet e τ h = match e τ h with | .ok x h' => .mk (.rt x) h' | .exc x h' => .mk (.ex x τ) h' | .bad => .bad := by
  unfold mRet; rw [rd_inS]; cases e τ h <;> rfl
theorem rd_mRetN : mRetN τ h = .mk (.rt .non) h := rfl
theorem rd_mNil : mNil τ h = .mk (.nx τ) h := rfl
theorem rd_mExpr (e : Sl → M CV) : mExpr e τ h = match e τ h with | .ok x h' => .mk (.nx τ) h' | .exc x h' => .mk (.ex x τ) h' | .bad => .bad := by
  unfold mExpr; rw [rd_inS]; cases e τ h <;> rfl
theorem rd_mAug (i : Nat) (g : CV → CV → M CV) (e : Sl → M CV) : mAug i g e τ h = match τ[i]? with
    | some (some x) => (match e τ h with
      | .ok y h' => (match g x y h' with
        | .ok z h'' => .mk (.nx (τ.set i (some z))) h''
        | _ => .bad)
      | .exc x h' => .mk (.ex x τ) h'
      | .bad => .bad)
    | _ => .bad := by
  unfold mAug; rw [sget_eq]; rcases τ[i]? with _ | _ | x <;> try rfl
  dsimp only; rw [rd_inS]; cases e τ h <;> try rfl
  dsimp only; cases g x _ _ <;> try rfl
  dsimp only; rw [frV_eq, sset_eq]
theorem rd_endB_rt (v : CV) : endB (.mk (.rt v) h) = .ok v h := rfl
theorem rd_endB_nx : endB (.mk (.nx τ) h) = .ok .non h := rfl
theorem rd_endB_bad : endB .bad = .bad := rfl
theorem rd_endB_ex : endB (.mk (.ex x τ) h) = .exc x h := rfl
theorem rd_isB (b : Bool) : isB (.bl b) h = .ok b h := rfl
theorem rd_bOf (e : Sl → M CV) : bOf e τ h = match e τ h with | .ok x h' => isB x h' | .exc x h' => .exc x h' | .bad => .bad := by
  unfold bOf; rw [rd_bnd]; cases e τ h <;> rfl
theorem rd_bNot (e : Sl → M Bool) : bNot e τ h = match e τ h with | .ok x h' => .ok (!x) h' | .exc x h' => .exc x h' | .bad => .bad := by
  unfold bNot; rw [rd_bnd]; cases e τ h <;> rfl
theorem rd_bOr (a b : Sl → M Bool) : bOr a b τ h = match a τ h with | .ok true h' => .ok true h' | .ok false h' => b τ h' | .exc x h' => .exc x h' | .bad => .bad := by
  unfold bOr; rw [rd_bnd]; rcases a τ h with ⟨k, _⟩ | _ | _ <;> try rfl
  cases k <;> rfl
theorem rd_bAnd (a b : Sl → M Bool) : bAnd a b τ h = match a τ h with | .ok true h' => b τ h' | .ok false h' => .ok false h' | .exc x h' => .exc x h' | .bad => .bad := by
  unfold bAnd; rw [rd_bnd]; rcases a τ h with ⟨k, _⟩ | _ | _ <;> try rfl
  cases k <;> rfl
theorem rd_eIf (c : Sl → M Bool) (a b : Sl → M CV) : eIf c a b τ h = match c τ h with | .ok true h' => a τ h' | .ok false h' => b τ h' | .exc x h' => .exc x h' | .bad => .bad := by
  unfold eIf; rw [rd_bnd]; rcases c τ h with ⟨k, _⟩ | _ | _ <;> try rfl
  cases k <;> rfl
theorem rd_eAnd (a b : Sl → M CV) : eAnd a b τ h = match a τ h with | .ok (.bl true) h' => b τ h' | .ok (.bl false) h' => .ok (.bl false) h' | .ok _ _ => .bad | .exc x h' => .exc x h' | .bad => .bad := by
  unfold eAnd; rw [rd_bnd]; rcases a τ h with ⟨k, _⟩ | _ | _ <;> try rfl
  dsimp only; rw [rd_bnd]; cases k <;> try rfl
  rename_i k; cases k <;> rfl
theorem rd_eNot (a : Sl → M CV) : eNot a τ h = match a τ h with | .ok (.bl b) h' => .ok (.bl !b) h' | .ok _ _ => .bad | .exc x h' => .exc x h' | .bad => .bad := by
  unfold eNot; rw [rd_bnd]; rcases a τ h with ⟨k, _⟩ | _ | _ <;> try rfl
  dsimp only; rw [rd_bnd]; cases k <;> try rfl
theorem rd_eCall (np : Nat) (F : List CV → M CV) (ml : Sl → M (List CV)) : eCall np F ml τ h = match ml τ h with | .ok xs h' => (if xs.length = np then F xs h' else .bad) | .exc x h' => .exc x h' | .bad => .bad := by
  unfold eCall; rw [rd_bnd]; rcases ml τ h with ⟨k, _⟩ | _ | _ <;> try rfl
  dsimp only; split <;> rfl
theorem rd_eB (F : List CV → M CV) (ml : Sl → M (List CV)) : eB F ml τ h = match ml τ h with | .ok xs h' => F xs h' | .exc x h' => .exc x h' | .bad => .bad := by
  unfold eB; rw [rd_bnd]; cases ml τ h <;> rfl
theorem rd_iArgs (F : List CV → M (List CV)) (ml : Sl → M (List CV)) : iArgs F ml τ h = match ml τ h with | .ok xs h' => F xs h' | .exc x h' => .exc x h' | .bad => .bad := by
  unfold iArgs; rw [rd_bnd]; cases ml τ h <;> rfl
theorem rd_memAt (l : Nat) : memAt h l = match h[l]? with | some (.lst xs) => some xs | _ => none := by
  unfold memAt; rw [sget_eq]; rcases h[l]? with _ | _ | _ <;> rfl
theorem rd_mFor (it : Sl → M (List CV)) (g : CV → Sl → M Sl) (b : MS) : mFor it g b τ h = match it τ h with | .ok xs h' => mForL g b xs τ h' | .exc x h' => .mk (.ex x τ) h' | .bad => .bad := by
  unfold mFor; rw [rd_inS]; cases it τ h <;> rfl
theorem rd_eNew (ml : Sl → M (List CV)) : eNew ml τ h = match ml τ h with | .ok xs h' => (if xs.length ≤ 1000 then .ok (.ref h'.length) (h' ++ [.lst xs]) else .bad) | .exc x h' => .exc x h' | .bad => .bad := by
  unfold eNew; rw [rd_bnd]; rcases ml τ h with ⟨k, _⟩ | _ | _ <;> try rfl
  dsimp only; split
  · rw [frLs_eq (frV_eq 3), frN_eq, sapp_eq]
  · rfl
theorem rd_pyAtN (xs : List CV) (n : Nat) : pyAt xs (n : Int) = xs[n]? := sget_eq xs n
theorem rd_pyAtL (xs : List CV) (n : Nat) : pyAt xs (@OfNat.ofNat Int n instOfNat) = xs[n]? := sget_eq xs n
theorem rd_pyAt0 (xs : List CV) : pyAt xs 0 = xs[0]? := sget_eq xs 0
theorem rd_pyAt1 (xs : List CV) : pyAt xs 1 = xs[1]? := sget_eq xs 1
theorem rd_pyAt2 (xs : List CV) : pyAt xs 2 = xs[2]? := sget_eq xs 2
theorem rd_pyAt3 (xs : List CV) : pyAt xs 3 = xs[3]? := sget_eq xs 3
theorem rd_pyAt4 (xs : List CV) : pyAt xs 4 = xs[4]? := sget_eq xs 4
theorem rd_pyAtM (xs : List CV) (n : Nat) : pyAt xs (Int.negSucc n) = if n < xs.length then xs[xs.length - (n + 1)]? else none := by
  show (if n < xs.length then sget xs (xs.length - (n + 1)) else none) = _
  rw [sget_eq]
end
theorem mSeq_nx {a b : MS} {τ τ' : Sl} {h h' : Mem} (e : a τ h = .mk (.nx τ') h') : mSeq a b τ h = b τ' h' := by rw [rd_mSeq, e]
theorem mSeq_rt {a b : MS} {τ : Sl} {v : CV} {h h' : Mem} (e : a τ h = .mk (.rt v) h') : mSeq a b τ h = .mk (.rt v) h' := by rw [rd_mSeq, e]
theorem mFor_nx {it : Sl → M (List CV)} {g : CV → Sl → M Sl} {b : MS} {τ : Sl} {h h1 : Mem} {xs : List CV} (e : it τ h = .ok xs h1) : mFor it g b τ h = mForL g b xs τ h1 := by rw [rd_mFor, e]
theorem mRet_ok {e : Sl → M CV} {τ : Sl} {v : CV} {h h' : Mem} (q : e τ h = .ok v h') : mRet e τ h = .mk (.rt v) h' := by rw [rd_mRet, q]
theorem mAsg_ok {e : Sl → M CV} {i : Nat} {τ : Sl} {v : CV} {h h' : Mem} (q : e τ h = .ok v h') : mAsg (gSet i) e τ h = .mk (.nx (τ.set i (some v))) h' := by rw [rd_mAsg, q]; simp only [rd_gSet]
theorem mExpr_ok {e : Sl → M CV} {τ : Sl} {v : CV} {h h' : Mem} (q : e τ h = .ok v h') : mExpr e τ h = .mk (.nx τ) h' := by rw [rd_mExpr, q]
theorem mIf_f {c : Sl → M Bool} {a b : MS} {τ : Sl} {h h' : Mem} (q : c τ h = .ok false h') : mIf c a b τ h = b τ h' := by rw [rd_mIf, q]
theorem mIf_t {c : Sl → M Bool} {a b : MS} {τ : Sl} {h h' : Mem} (q : c τ h = .ok true h') : mIf c a b τ h = a τ h' := by rw [rd_mIf, q]
theorem run_rt {np nl : Nat} {b : MS} {xs : List CV} {v : CV} {h h' : Mem} (hl : xs.length = np) (q : b (startC nl xs) h = .mk (.rt v) h') : runB np nl b xs h = .ok v h' := by rw [runB_eq, if_pos hl, q]; rfl
theorem callF_read {np : Nat} {F : List CV → M CV} {xs : List CV} {h h' : Mem} {v v' : CV} (e : F xs [] = .ok v h') (hn : noRefs xs = true) (hl : xs.length = np) (hf : frzV 9 (lockM h') v = some v') : callF np F xs h = .ok v' h := by
  unfold callF
  rw [if_pos hl, if_pos hn, e]
  simp only [hf]
theorem eOp_ok {g : CV → CV → M CV} {a b : Sl → M CV} {τ : Sl} {x y z : CV} {h h1 h2 h3 : Mem} (e1 : a τ h = .ok x h1) (e2 : b τ h1 = .ok y h2) (e3 : g x y h2 = .ok z h3) : eOp g a b τ h = .ok z h3 := by rw [rd_eOp, e1]; simp only [e2, e3]
theorem eVar_ok {i : Nat} {τ : Sl} {v : CV} {h : Mem} (e : τ[i]? = some (some v)) : eVar i τ h = .ok v h := by rw [rd_eVar, e]
theorem eB_ok {F : List CV → M CV} {ml : Sl → M (List CV)} {τ : Sl} {xs : List CV} {v : CV} {h h1 h2 : Mem} (e1 : ml τ h = .ok xs h1) (e2 : F xs h1 = .ok v h2) : eB F ml τ h = .ok v h2 := by rw [rd_eB, e1]; exact e2
theorem eCall_ok {np : Nat} {F : List CV → M CV} {ml : Sl → M (List CV)} {τ : Sl} {xs : List CV} {v : CV} {h h1 h2 : Mem} (e1 : ml τ h = .ok xs h1) (hl : xs.length = np) (e2 : F xs h1 = .ok v h2) : eCall np F ml τ h = .ok v h2 := by rw [rd_eCall, e1]; simp only [if_pos hl]; exact e2
theorem eNil_ok {τ : Sl} {h : Mem} : eNilA τ h = .ok [] h := rfl
theorem eC_ok {v : CV} {τ : Sl} {h : Mem} : eC v τ h = .ok v h := rfl
theorem eCons_ok {a : Sl → M CV} {r : Sl → M (List CV)} {τ : Sl} {x : CV} {xs : List CV} {h h1 h2 : Mem} (e1 : a τ h = .ok x h1) (e2 : r τ h1 = .ok xs h2) : eConsA a r τ h = .ok (x :: xs) h2 := by rw [rd_eConsA, e1]; simp only [e2]
theorem iArgs_ok {F : List CV → M (List CV)} {ml : Sl → M (List CV)} {τ : Sl} {xs ys : List CV} {h h1 h2 : Mem} (e1 : ml τ h = .ok xs h1) (e2 : F xs h1 = .ok ys h2) : iArgs F ml τ h = .ok ys h2 := by rw [rd_iArgs, e1]; exact e2
theorem bOf_ok {e : Sl → M CV} {τ : Sl} {b : Bool} {h h1 : Mem} (q : e τ h = .ok (.bl b) h1) : bOf e τ h = .ok b h1 := by rw [rd_bOf, q]; rfl
theorem bNot_ok {e : Sl → M Bool} {τ : Sl} {b : Bool} {h h1 : Mem} (q : e τ h = .ok b h1) : bNot e τ h = .ok (!b) h1 := by rw [rd_bNot, q]
theorem bOr_ff {a b : Sl → M Bool} {τ : Sl} {h h1 h2 : Mem} (q : a τ h = .ok false h1) (q2 : b τ h1 = .ok false h2) : bOr a b τ h = .ok false h2 := by rw [rd_bOr, q]; exact q2
theorem mPar_ok {i j : Nat} {ml : Sl → M (List CV)} {τ : Sl} {x y : CV} {h h1 : Mem} (q : ml τ h = .ok [x, y] h1) : mPar i j ml τ h = .mk (.nx ((τ.set i (some x)).set j (some y))) h1 := by
  unfold mPar; rw [rd_inS, q]; simp only [frV_eq, sset_eq]
theorem mPar3_ok {i j l : Nat} {ml : Sl → M (List CV)} {τ : Sl} {x y z : CV} {h h1 : Mem} (q : ml τ h = .ok [x, y, z] h1) : mPar3 i j l ml τ h = .mk (.nx (((τ.set i (some x)).set j (some y)).set l (some z))) h1 := by
  unfold mPar3; rw [rd_inS, q]; simp only [frV_eq, sset_eq]
/-- a for, by what stands before each turn -/
theorem forL_inv {g : CV → Sl → M Sl} {b : MS} (I : Nat → Sl → Mem → Prop) : ∀ (xs : List CV) (k : Nat) (τ : Sl) (h : Mem), I k τ h →
    (∀ i x τ h, xs[i]? = some x → I (k + i) τ h → ∃ τ1 h1 τ2 h2, g x τ h = .ok τ1 h1 ∧ b τ1 h1 = .mk (.nx τ2) h2 ∧ I (k + i + 1) τ2 h2) → ∃ τ' h', mForL g b xs τ h = .mk (.nx τ') h' ∧ I (k + xs.length) τ' h'
  | [], k, τ, h, h0, _ => ⟨τ, h, rfl, h0⟩
  | x :: xs, k, τ, h, h0, st => by
    obtain ⟨τ1, h1, τ2, h2, e1, e2, e3⟩ := st 0 x τ h rfl h0
    obtain ⟨τ', h', q1, q2⟩ := forL_inv I xs (k + 1) τ2 h2 e3 (fun i y τ h hy hi => by
      have := st (i + 1) y τ h (by simpa using hy) (by rw [show k + (i + 1) = k + 1 + i by omega]; exact hi)
      rw [show k + (i + 1) + 1 = k + 1 + i + 1 by omega] at this
      exact this)
    refine ⟨τ', h', ?_, by rw [List.length_cons, show k + (xs.length + 1) = k + 1 + xs.length by omega]; exact q2⟩
    show Out.rec (motive := fun _ => OS) (fun τ1 h1 => turn (mForL g b xs) (b τ1 h1)) (fun _ _ => .bad) .bad (g x τ h) = _
    rw [e1]
    show turn (mForL g b xs) (b τ1 h1) = _
    rw [e2]
    exact q1
/-- a while, by a measure -/
theorem while_inv {c : Sl → M Bool} {b : MS} (I : Nat → Sl → Mem → Prop) (st : ∀ k τ h, I (k + 1) τ h → ∃ h0 τ2 h2, c τ h = .ok true h0 ∧ b τ h0 = .mk (.nx τ2) h2 ∧ ∃ j, j ≤ k ∧ I j τ2 h2) (en : ∀ τ h, I 0 τ h → c τ h = .ok false h) :
    ∀ (n k : Nat) (τ : Sl) (h : Mem), k < n → I k τ h → ∃ τ' h', mWhile c b n τ h = .mk (.nx τ') h' ∧ I 0 τ' h'
  | 0, k, _, _, hk, _ => absurd hk (by omega)
  | n + 1, 0, τ, h, _, hi => by
    refine ⟨τ, h, ?_, hi⟩
    show inS (c τ) τ (fun k h => Bool.rec (.mk (.nx τ) h) (turn (mWhile c b n) (b τ h)) k) h = _
    rw [rd_inS, en τ h hi]
  | n + 1, k + 1, τ, h, hk, hi => by
    obtain ⟨h0, τ2, h2, e1, e2, j, hj, e3⟩ := st k τ h hi
    obtain ⟨τ', h', q1, q2⟩ := while_inv I st en n j τ2 h2 (by omega) e3
    refine ⟨τ', h', ?_, q2⟩
    show inS (c τ) τ (fun k h => Bool.rec (.mk (.nx τ) h) (turn (mWhile c b n) (b τ h)) k) h = _
    rw [rd_inS, e1]
    show turn (mWhile c b n) (b τ h0) = _
    rw [e2]
    exact q1
/-- a list comprehension, item by item -/
theorem lc_ok {g : CV → Sl → M Sl} {te : Sl → M CV} {τ : Sl} {h : Mem} (f : Nat → CV) : ∀ (xs : List CV) (k : Nat), (∀ i x, xs[i]? = some x → ∃ τ1, g x τ h = .ok τ1 h ∧ te τ1 h = .ok (f (k + i)) h) → lcL g bYes te τ xs h = .ok ((List.range xs.length).map fun i => f (k + i)) h
  | [], k, _ => rfl
  | x :: xs, k, st => by
    obtain ⟨τ1, e1, e2⟩ := st 0 x rfl
    have ih := lc_ok (g := g) (te := te) (τ := τ) (h := h) f xs (k + 1) (fun i y hy => by
      have := st (i + 1) y (by simpa using hy)
      rw [show k + (i + 1) = k + 1 + i by omega] at this
      exact this)
    rw [lcL_eq] at ih ⊢
    unfold lcR
    simp only [e1, bYes, rd_ret, e2, ih, List.length_cons, List.range_succ_eq_map, List.map_cons, List.map_map, Nat.add_zero]
    refine congrArg (fun l => Out.ok (f k :: l) h) (List.map_congr_left fun i _ => ?_)
    show f (k + 1 + i) = f (k + (i + 1))
    rw [show k + (i + 1) = k + 1 + i by omega]
end VE

namespace VE
open PySem PySem.Spec PyProof.Rows L2
/-- comb with counts that the library's rule takes -/
def combR : List V → Hp → VK → Prop := fun us H Q => ∃ n k : Int, us = [.int n, .int k] ∧ (0 ≤ n ∧ 0 ≤ k ∧ n ≤ 18000) ∧ Q (.int (PySem.W.mcComb n k)) H
theorem comb_run {X : Cx} : CallR X (.builtin "math.comb") combR := by
  intro pins s σ H vs us Q I r h
  obtain ⟨n, k, rfl, ⟨h0, h1, h2⟩, q⟩ := h
  obtain ⟨t, u, rfl⟩ := Vals.int2 r
  exact PySem.W.mc_comb h0 h1 (by omega) (.inr h2) fun _ => ⟨.int _, H, I.tok _, ⟨_, rfl⟩, q⟩
def pyGcd (xs : List CV) : M CV := match xs with
  | [.int i, .int j] => ret (.int ((Nat.gcd i.natAbs j.natAbs : Nat) : Int))
  | _ => stuck
def pyComb (xs : List CV) : M CV := match xs with
  | [.int i, .int j] => if 0 ≤ i ∧ 0 ≤ j ∧ i ≤ 18000 then ret (.int (PySem.W.mcComb i j)) else stuck
  | _ => stuck
theorem pyGcd_ok {G : Cfg} : OpL G rGcd pyGcd := by
  intro W σ ρ h H xs us Q m r p
  unfold pyGcd at p
  split at p
  · rename_i i j
    obtain ⟨y, t, e, r1, y2, t2, e2, r2, r3⟩ := r
    cases (show t2 = [] from r3)
    cases (show y = V.int i from r1)
    cases (show y2 = V.int j from r2)
    subst e2
    exact ⟨i, j, e, p ρ H _ m Ext.refl rfl⟩
  · exact p.elim
theorem pyComb_ok {G : Cfg} : OpL G combR pyComb := by
  intro W σ ρ h H xs us Q m r p
  unfold pyComb at p
  split at p
  · rename_i i j
    by_cases c : 0 ≤ i ∧ 0 ≤ j ∧ i ≤ 18000
    · rw [if_pos c] at p
      obtain ⟨y, t, e, r1, y2, t2, e2, r2, r3⟩ := r
      cases (show t2 = [] from r3)
      cases (show y = V.int i from r1)
      cases (show y2 = V.int j from r2)
      subst e2
      exact ⟨i, j, e, c, p ρ H _ m Ext.refl rfl⟩
    · rw [if_neg c] at p
      exact p.elim
  · exact p.elim
section
variable {G : Cfg} {W : WX} {X : Cx} {pos p : Pos} {e : Expr} {es : List Expr} {ml : Sl → M (List CV)} {x : Str}
/-- f(e, ..), f a name of a module's built-in function -/
theorem se_callBf {id : String} {r : List V → Hp → VK → Prop} {g : List CV → M CV} (hc : CallR X (.builtin id) r) (hgr : OpL G r g) (hg : Gl X x) (hm : X.mg x = some (.builtin id)) (ha : SA G W X (e :: es) ml)
    (hdb : (x == ("__debug__" : Str)) = false := by decide) (he : starEach (e :: es) X.env = (false, eval e X.env) :: starEach es X.env := by rfl) (hpl : (backTo pos (starEach es X.env)).any (·.1) = false := by rfl) :
    SE G W X (.Call (.Name x p) (e :: es) [] pos) (eB g ml) :=
  (pe_callBfun hc hg hm ha hdb he hpl).wk fun σ H Q ⟨ρ, h, τ, m, s, q⟩ => tM_bind m s q fun xs h1 ρ1 H1 us m1 e1 s1 r1 p1 => hgr W σ ρ1 h1 H1 xs us Q m1 r1 p1
end

mutual
def KV (K : PySem.W.Frag) : CV → Value → Prop
  | .non, v => v = .none
  | .bl b, v => v = .bool b
  | .int i, v => ∃ t, v = .int i t
  | .str x, v => ∃ t, v = .str x t
  | .tup xs, v => ∃ a o its n, v = .ref a ∧ K.lookup a = some o ∧ o.cls = .type "tuple" ∧ o.data = .seq its n ∧ its.size ≤ sizeLine ∧ KVs K xs its.toList
  | .frz xs, v => ∃ a o its n, v = .ref a ∧ K.lookup a = some o ∧ o.cls = .type "list" ∧ o.dict = none ∧ o.data = .seq its n ∧ its.size ≤ sizeLine ∧ KVs K xs its.toList
  | _, _ => False
def KVs (K : PySem.W.Frag) : List CV → List Value → Prop
  | [], vs => vs = []
  | x :: xs, vs => ∃ v r, vs = v :: r ∧ KV K x v ∧ KVs K xs r
end
mutual
theorem KV.at {G : Cfg} : ∀ {c : CV} {v : Value}, KV G.K c v → ∃ u : V, RelV u v ∧ ∀ ρ H, ValR G ρ H c u
  | .non, v, h => ⟨.non, h, fun _ _ => rfl⟩
  | .bl b, v, h => ⟨.bl b, h, fun _ _ => rfl⟩
  | .int i, v, h => ⟨.int i, h, fun _ _ => rfl⟩
  | .str x, v, h => ⟨.str x, h, fun _ _ => rfl⟩
  | .tup xs, v, ⟨a, o, its, n, e, l, hc, hd, hs, r⟩ => by
      obtain ⟨ys, ry, rv⟩ := KVs.at r
      exact ⟨.ref a, e, fun ρ H => ⟨a, ys, rfl, .inr ⟨o, its, n, l, hc, hd, hs, ry⟩, rv ρ H⟩⟩
  | .frz xs, v, ⟨a, o, its, n, e, l, hc, hdi, hd, hs, r⟩ => by
      obtain ⟨ys, ry, rv⟩ := KVs.at r
      exact ⟨.ref a, e, fun ρ H => ⟨a, ys, rfl, .inr (.inr ⟨o, its, n, l, hc, hdi, hd, hs, ry⟩), rv ρ H⟩⟩
  | .lst _, _, h => (h : False).elim
  | .ref _, _, h => (h : False).elim
  | .cls _, _, h => (h : False).elim
  | .fn _, _, h => (h : False).elim
  | .ty _, _, h => (h : False).elim
theorem KVs.at {G : Cfg} : ∀ {cs : List CV} {vs : List Value}, KVs G.K cs vs → ∃ us : List V, Vals us vs ∧ ∀ ρ H, ValsR G ρ H cs us
  | [], vs, h => by cases (show vs = [] from h); exact ⟨[], .nil, fun _ _ => rfl⟩
  | c :: cs, vs, ⟨v, r, e, h1, h2⟩ => by
      obtain ⟨u, ru, rv⟩ := KV.at h1
      obtain ⟨us, rus, rvs⟩ := KVs.at h2
      subst e
      exact ⟨u :: us, .cons ru rus, fun ρ H => ⟨u, us, rfl, rv ρ H, rvs ρ H⟩⟩
end
theorem se_gk {G : Cfg} {W : WX} {X : Cx} {pos : Pos} {x : Str} {c : CV} (hg : Gl X x) (hm : ∃ v, X.mg x = some v ∧ KV G.K c v) (hd : (x == ("__debug__" : Str)) = false := by decide) : SE G W X (.Name x pos) (eC c) := by
  obtain ⟨v, e, k⟩ := hm
  obtain ⟨u, ru, rv⟩ := k.at
  exact se_glo hg e ru rv hd
theorem tup_mk {K : PySem.W.Frag} {a : Addr} {d : Option Addr} {its : Array Value} {n : Nat} {sl : Array (Option Value)} {xs : List CV} (l : K.lookup a = some ⟨.type "tuple", d, .seq its n, sl⟩) (hs : its.size ≤ sizeLine) (r : KVs K xs its.toList) : KV K (.tup xs) (.ref a) :=
  ⟨a, _, its, n, rfl, l, rfl, rfl, hs, r⟩
theorem gk_mk {K : PySem.W.Frag} {h : Heap} {mg : Str → Option Value} (X : K.In h) (G : h.Ns mainGlobals mg) {x : Str} {v : Value} {c : CV} (a : PySem.W.nsIn K mainGlobals x = some (some v)) (k : KV K c v) : ∃ v, mg x = some v ∧ KV K c v := ⟨v, PySem.W.mg_of X G a, k⟩
end VE

noncomputable section
namespace VE
open PySem PySem.Spec PyProof.Rows L2
inductive Src where
  | fix (xs : List CV) | mem (en : Bool) (l : Nat)
def wr (en : Bool) (i : Nat) (x : CV) : CV := Bool.rec x (.tup [.int (Int.ofNat i), x]) en
def rdAt (en : Bool) (l i : Nat) (h : Mem) : Option (Option CV) := match memAt h l with
  | some xs => match sget xs i with
    | some x => some (some (wr en i x))
    | none => some none
  | none => none
def mForR (en : Bool) (l : Nat) (g : CV → Sl → M Sl) (b : MS) (n : Nat) : Nat → MS := Nat.rec (fun _ _ _ => .bad) (fun _ ih i τ h => match rdAt en l i h with
  | none => .bad
  | some none => .mk (.nx τ) h
  | some (some x) => Out.rec (fun τ1 h1 => turn (frN (i + 1) ih) (b τ1 h1)) (fun _ _ => .bad) .bad (g x τ h)) n
def mForA (it : Sl → M Src) (g : CV → Sl → M Sl) (b : MS) : MS := fun τ => inS (it τ) τ fun s h => match s with
  | .fix xs => mForL g b xs τ h
  | .mem en l => mForR en l g b 1000000 0 τ h
def ItM (G : Cfg) (ρ0 : Wd) (H0 : Hp) (J : It) (en : Bool) (l : Nat) : Prop :=
  ∀ ρ h H, MemR G ρ h H → ExtH ρ0 H0 ρ H → ∀ xs, memAt h l = some xs → (∀ i, i < xs.length → J.go i H) ∧ (∀ i, xs.length ≤ i → J.stop i H) ∧ ∀ (i : Nat) (x : CV) (u : V) (H' : Hp), xs[i]? = some x → J.yld i H u H' → MemR G ρ h H' ∧ Ext ρ H ρ H' ∧ ValR G ρ H' (wr en i x) u
def SrcR (G : Cfg) (ρ : Wd) (H : Hp) (s : Src) (J : It) : Prop := match s with
  | .fix xs => ItR G ρ H J xs
  | .mem en l => ItM G ρ H J en l
def tItA (G : Cfg) (W : WX) (it : Sl → M Src) : TI := fun σ H R => tM G W (SrcR G) it σ H R
abbrev SIA (G : Cfg) (W : WX) (X : Cx) (tg e : Expr) (it : Sl → M Src) : Prop := PI X tg e (tItA G W it)
theorem rdAt_cases {en : Bool} {l i : Nat} {h : Mem} : rdAt en l i h = none ∨ (∃ xs, memAt h l = some xs ∧ xs.length ≤ i ∧ rdAt en l i h = some none) ∨ ∃ xs x, memAt h l = some xs ∧ xs[i]? = some x ∧ rdAt en l i h = some (some (wr en i x)) := by
  unfold rdAt
  cases memAt h l with
  | none => exact .inl rfl
  | some xs =>
    simp only [sget_eq]
    cases q : xs[i]? with
    | none => exact .inr (.inl ⟨xs, rfl, List.getElem?_eq_none_iff.mp q, rfl⟩)
    | some x => exact .inr (.inr ⟨xs, x, rfl, q, rfl⟩)
section
variable {G : Cfg} {ρ : Wd} {h : Mem} {H : Hp} {a : Addr} {l : Nat}
theorem mem_at {xs : List CV} (m : MemR G ρ h H) (hl : ρ.r[l]? = some a) (e : memAt h l = some xs) : ∃ ys, H a = some (.lst ys) ∧ ValsR G ρ H xs ys := m.obj l a _ hl (memAt_some e)
theorem itM_list (hl : ρ.r[l]? = some a) : ItM G ρ H (Itl G.K a) false l := by
  intro ρ1 h1 H1 m1 e1 xs e
  obtain ⟨ys, s, r1⟩ := mem_at m1 (e1.pre l a hl) e
  have s1 : SqL G.K H1 a ys := SqL.of s
  refine ⟨fun i hi => ⟨ys, ys[i]'(by rw [← r1.len]; exact hi), s1, by simp [← r1.len, hi]⟩, fun i hi => ⟨ys, s1, by rw [← r1.len]; exact hi⟩, fun i x u H' q y => ?_⟩
  obtain ⟨eh, y⟩ := y
  subst eh
  have q2 := y ys s1
  obtain ⟨w, q3, r3⟩ := r1.get q
  rw [q2] at q3
  cases q3
  exact ⟨m1, Ext.refl, r3⟩
theorem itM_enum (hl : ρ.r[l]? = some a) : ItM G ρ H (Ite G.K a) true l := by
  intro ρ1 h1 H1 m1 e1 xs e
  obtain ⟨ys, s, r1⟩ := mem_at m1 (e1.pre l a hl) e
  have s1 : SqL G.K H1 a ys := SqL.of s
  refine ⟨fun i hi => ⟨ys, ys[i]'(by rw [← r1.len]; exact hi), s1, by simp [← r1.len, hi]⟩, fun i hi => ⟨ys, s1, by rw [← r1.len]; exact hi⟩, fun i x u H' q y => ?_⟩
  obtain ⟨T, w, eu, hT, eH, hw⟩ := y
  subst eu eH
  have q2 := hw ys s1
  obtain ⟨w', q3, r3⟩ := r1.get q
  rw [q2] at q3
  cases q3
  exact ⟨m1.laid hT, Ext.laid hT, T, _, rfl, SqT.of upd_same, _, _, rfl, (rfl : V.int _ = V.int _), _, _, rfl, r3.ext m1 (Ext.laid hT), rfl⟩
end
def memS (en : Bool) (l : Nat) : M Src := fun h => match memAt h l with
  | some _ => .ok (.mem en l) h
  | none => .bad
def seqS (x : CV) : M Src := match x with
  | .ref l => memS false l
  | x => bnd (itOf x) fun xs => ret (.fix xs)
def enumS (xs : List CV) : M Src := match xs with
  | [.ref l] => memS true l
  | xs => bnd (enumOf2 xs) fun xs => ret (.fix xs)
def iSeqA (e : Sl → M CV) : Sl → M Src := fun τ => bnd (e τ) seqS
def iEnumA (ml : Sl → M (List CV)) : Sl → M Src := fun τ => bnd (ml τ) enumS
section
variable {G : Cfg} {W : WX} {X : Cx} {pos p : Pos} {e e2 tg : Expr} {es : List Expr} {me : Sl → M CV} {ml : Sl → M (List CV)}
theorem tItA_fix {it : Sl → M (List CV)} {σ : L2.St} {H : Hp} {R : It → Hp → Prop} (q : tItA G W (fun τ => bnd (it τ) fun xs => ret (.fix xs)) σ H R) : tIt G W it σ H R := by
  obtain ⟨ρ, h, τ, m, s, p⟩ := q
  exact tM_bind m s p fun xs h1 ρ1 H1 J m1 e1 s1 r1 p1 => p1 ρ1 H1 J m1 Ext.refl r1
theorem memS_r {en : Bool} {l : Nat} {σ : L2.St} {ρ : Wd} {h : Mem} {H : Hp} {a : Addr} {R : It → Hp → Prop} {J : It} (m : MemR G ρ h H) (hl : ρ.r[l]? = some a) (r : ItM G ρ H J en l) (p : Post G W (SrcR G) σ ρ H (memS en l h) R) : (∃ ys, SqL G.K H a ys) ∧ R J H := by
  unfold memS at p
  cases q : memAt h l with
  | none => rw [q] at p; exact p.elim
  | some xs =>
    rw [q] at p
    obtain ⟨ys, z, _⟩ := mem_at m hl q
    exact ⟨⟨ys, SqL.of z⟩, p ρ H _ m Ext.refl r⟩
theorem si_seqA (hK : G.K = X.K) (he : SE G W X e me) : SIA G W X tg e (iSeqA me) :=
  ((si_seq hK he).or (pi_list he)).wk fun σ H R ⟨ρ, h, τ, m, s, p⟩ => by
    by_cases c : ∃ l h1, me τ h = .ok (.ref l) h1
    · obtain ⟨l, h1, c⟩ := c
      refine .inr (tM_bindE m s p fun x h2 ρ1 H1 u eq m1 e1 s1 r1 p1 => ?_)
      rw [c] at eq
      cases eq
      obtain ⟨a, hl, eu⟩ := r1
      rw [← hK]
      obtain ⟨q1, q2⟩ := memS_r m1 hl (itM_list hl) p1
      exact ⟨a, eu, q1, q2⟩
    · refine .inl (tItA_fix ⟨ρ, h, τ, m, s, ?_⟩)
      have e : iSeqA me τ h = bnd (iSeq me τ) (fun xs => ret (.fix xs)) h := by
        unfold iSeqA iSeq bnd
        cases q : me τ h with
        | exc x h1 => simp only
        | bad => simp only
        | ok x h1 =>
          cases x with
          | ref l => exact absurd ⟨l, h1, q⟩ c
          | _ => rfl
      rw [e] at p
      exact p
theorem si_enumA {elts : List Expr} {kk : Nat} {tpos : Pos} (hK : G.K = X.K) (hg : Gl X "enumerate") (hm : X.mg "enumerate" = none) (ha : SA G W X [e] ml) (hs : starEach [e] X.env = [(false, eval e X.env)] := by rfl) :
    SIA G W X (.Tuple elts kk tpos) (.Call (.Name "enumerate" p) [e] [] pos) (iEnumA ml) :=
  ((si_enum2 hK hg hm ha hs).or (pi_enum hg hm ha hs)).wk fun σ H R ⟨ρ, h, τ, m, s, p⟩ => by
    by_cases c : ∃ l h1, ml τ h = .ok [.ref l] h1
    · obtain ⟨l, h1, c⟩ := c
      refine .inr (tM_bindE m s p fun x h2 ρ1 H1 u eq m1 e1 s1 r1 p1 => ?_)
      rw [c] at eq
      cases eq
      obtain ⟨y, t, eu, ⟨a, hl, ey⟩, rt⟩ := r1
      cases (show t = [] from rt)
      subst ey
      rw [← hK]
      obtain ⟨⟨ys, q1⟩, q2⟩ := memS_r m1 hl (itM_enum hl) p1
      exact ⟨a, ys, eu, q1, q2⟩
    · refine .inl (tItA_fix ⟨ρ, h, τ, m, s, ?_⟩)
      have e : iEnumA ml τ h = bnd (iArgs enumOf2 ml τ) (fun xs => ret (.fix xs)) h := by
        unfold iEnumA iArgs bnd
        cases q : ml τ h with
        | exc x h1 => simp only
        | bad => simp only
        | ok x h1 =>
          have e2 : enumS x = bnd (enumOf2 x) fun xs => ret (.fix xs) := by
            unfold enumS
            split
            · exact absurd ⟨_, h1, q⟩ c
            · rfl
          exact congrFun e2 h1
      rw [e] at p
      exact p
theorem mForR_s {en : Bool} {l : Nat} {g : CV → Sl → M Sl} {b : MS} {n i : Nat} {τ : Sl} {h : Mem} : mForR en l g b (n + 1) i τ h = match rdAt en l i h with
  | none => .bad
  | some none => .mk (.nx τ) h
  | some (some x) => match g x τ h with
    | .ok τ1 h1 => turn (mForR en l g b n (i + 1)) (b τ1 h1)
    | _ => .bad := by
  show (match rdAt en l i h with
  | none => .bad
  | some none => .mk (.nx τ) h
  | some (some x) => Out.rec (fun τ1 h1 => turn (frN (i + 1) (mForR en l g b n)) (b τ1 h1)) (fun _ _ => .bad) .bad (g x τ h) : OS) = _
  rw [frN_eq]
  cases rdAt en l i h with
  | none => rfl
  | some o => cases o with
    | none => rfl
    | some x => simp only; cases g x τ h <;> rfl
theorem ss_forA {body : List Stmt} {mb : MS} {it : Sl → M Src} {g : CV → Sl → M Sl} (hp : PassesOwn (model X.prog X.w) X.A X.env X.xe) (hc : X.calm = true) (hi : SIA G W X tg e it) (hg : SG G X tg g) (hb : SSs G W X body mb)
    (hs : ∀ x, foldedSetIterable e X.env x = pure x := by intro _; rfl) : SS G W X (.For tg e body [] pos) (mForA it g mb) :=
  (ps_for hp hc hi hg hb hs).wk fun D σ H ⟨ρ, h, τ, m, s, p⟩ => by
    refine tM_inS m s p fun sc h1 ρ1 H1 J m1 e1 s1 r1 p1 => ?_
    cases sc with
    | fix xs =>
      refine ⟨fun i n σ H => i + n = xs.length ∧ ∃ ρ h τ, MemR G ρ h H ∧ Ext ρ1 H1 ρ H ∧ SlR G ρ H τ σ ∧ PostS G W ρ H (mForL g mb (xs.drop i) τ h) D, ⟨xs.length, Nat.zero_add _, ρ1, h1, τ, m1, Ext.refl, s1, p1⟩, ?_⟩
      rintro i n σ H ⟨hi, ρ, h, τ, m, ex, s, p⟩
      obtain ⟨go, stop, yld⟩ := (show ItR G ρ1 H1 J xs from r1) ρ h H m ex.toH
      cases n with
      | zero =>
        have ei : i = xs.length := by omega
        subst ei
        rw [List.drop_length] at p
        exact .inl ⟨stop, p.nx' m s⟩
      | succ n =>
        have hlt : i < xs.length := by omega
        refine .inr ⟨go i hlt, _, fun σ' H' q => ⟨n, Nat.lt_succ_self n, q⟩, fun u H' y => ?_⟩
        obtain ⟨m', e', r'⟩ := yld i xs[i] u H' (by simp [hlt]) y
        rw [List.drop_eq_getElem_cons hlt] at p
        refine ⟨ρ, h, τ, xs[i], m', s.ext m e', r', ?_⟩
        rw [mForL_cons] at p
        cases q : g xs[i] τ h with
        | ok τ1 h2 =>
          simp only [q] at p
          intro ρ2 H2 σ2 m2 e2 s2
          refine ⟨ρ2, h2, τ1, m2, s2, ?_⟩
          have p : PostS G W ρ H (turn (mForL g mb (xs.drop (i + 1))) (mb τ1 h2)) D := p
          cases q2 : mb τ1 h2 with
          | mk f h3 =>
            rw [q2] at p
            cases f with
            | nx τ' => exact fun ρ3 H3 σ3 m3 e3 s3 => ⟨by omega, ρ3, h3, τ', m3, ex.trans (e'.trans (e2.trans e3)), s3, PostS.ext (G := G) (W := W) p (e'.trans (e2.trans e3))⟩
            | ct τ' => exact fun ρ3 H3 σ3 m3 e3 s3 => ⟨by omega, ρ3, h3, τ', m3, ex.trans (e'.trans (e2.trans e3)), s3, PostS.ext (G := G) (W := W) p (e'.trans (e2.trans e3))⟩
            | bk τ' => exact fun ρ3 H3 σ3 m3 e3 s3 => p ρ3 H3 σ3 m3 (e'.trans (e2.trans e3)) s3
            | rt v => exact fun ρ3 H3 σ3 m3 e3 s3 => p ρ3 H3 σ3 m3 (e'.trans (e2.trans e3)) s3
            | ex x τ' => exact fun ρ3 H3 c d σ3 m3 e3 s3 z => p ρ3 H3 c d σ3 m3 (e'.trans (e2.trans e3)) s3 z
          | bad => rw [q2] at p; exact p
        | exc x h2 => simp only [q] at p; exact p
        | bad => simp only [q] at p; exact p
    | mem en l =>
      refine ⟨fun i n σ H => ∃ ρ h τ, MemR G ρ h H ∧ Ext ρ1 H1 ρ H ∧ SlR G ρ H τ σ ∧ PostS G W ρ H (mForR en l g mb n i τ h) D, ⟨1000000, ρ1, h1, τ, m1, Ext.refl, s1, p1⟩, ?_⟩
      rintro i n σ H ⟨ρ, h, τ, m, ex, s, p⟩
      cases n with
      | zero => exact p.elim
      | succ n =>
        rw [mForR_s] at p
        rcases rdAt_cases (en := en) (l := l) (i := i) (h := h) with c | ⟨xs, c1, c2, c⟩ | ⟨xs, x, c1, c2, c⟩
        · rw [c] at p; exact p.elim
        · rw [c] at p
          obtain ⟨go, stop, yld⟩ := (show ItM G ρ1 H1 J en l from r1) ρ h H m ex.toH xs c1
          exact .inl ⟨stop i c2, p.nx' m s⟩
        · rw [c] at p
          simp only at p
          obtain ⟨go, stop, yld⟩ := (show ItM G ρ1 H1 J en l from r1) ρ h H m ex.toH xs c1
          refine .inr ⟨go i (List.getElem?_eq_some_iff.mp c2).1, _, fun σ' H' q => ⟨n, Nat.lt_succ_self n, q⟩, fun u H' y => ?_⟩
          obtain ⟨m', e', r'⟩ := yld i x u H' c2 y
          refine ⟨ρ, h, τ, wr en i x, m', s.ext m e', r', ?_⟩
          cases q : g (wr en i x) τ h with
          | ok τ1 h2 =>
            simp only [q] at p
            intro ρ2 H2 σ2 m2 e2 s2
            refine ⟨ρ2, h2, τ1, m2, s2, ?_⟩
            cases q2 : mb τ1 h2 with
            | mk f h3 =>
              rw [q2] at p
              cases f with
              | nx τ' => exact fun ρ3 H3 σ3 m3 e3 s3 => ⟨ρ3, h3, τ', m3, ex.trans (e'.trans (e2.trans e3)), s3, PostS.ext (G := G) (W := W) p (e'.trans (e2.trans e3))⟩
              | ct τ' => exact fun ρ3 H3 σ3 m3 e3 s3 => ⟨ρ3, h3, τ', m3, ex.trans (e'.trans (e2.trans e3)), s3, PostS.ext (G := G) (W := W) p (e'.trans (e2.trans e3))⟩
              | bk τ' => exact fun ρ3 H3 σ3 m3 e3 s3 => p ρ3 H3 σ3 m3 (e'.trans (e2.trans e3)) s3
              | rt v => exact fun ρ3 H3 σ3 m3 e3 s3 => p ρ3 H3 σ3 m3 (e'.trans (e2.trans e3)) s3
              | ex x τ' => exact fun ρ3 H3 c d σ3 m3 e3 s3 z => p ρ3 H3 c d σ3 m3 (e'.trans (e2.trans e3)) s3 z
            | bad => rw [q2] at p; exact p
          | exc x h2 => simp only [q] at p; exact p.elim
          | bad => simp only [q] at p; exact p.elim
end
def lcM (en : Bool) (l : Nat) (g : CV → Sl → M Sl) (tt : Sl → M Bool) (te : Sl → M CV) (τ : Sl) (n : Nat) : Nat → M (List CV) :=
  Nat.rec (fun _ _ => .bad) (fun _ ih i h => match rdAt en l i h with
    | none => .bad
    | some none => .ok [] h
    | some (some x) => Out.rec (fun τ1 h1 => Out.rec (fun b h2 => Bool.rec (frN (i + 1) ih h2) (Out.rec (fun y h3 => frV 3 y fun y => Out.rec (fun ys h4 => .ok (y :: ys) h4) (fun _ _ => .bad) .bad (frN (i + 1) ih h3)) (fun _ _ => .bad) .bad (te τ1 h2)) b) (fun _ _ => .bad) .bad (tt τ1 h1)) (fun _ _ => .bad) .bad (g x τ h)) n
theorem lcM_s {en : Bool} {l : Nat} {g : CV → Sl → M Sl} {tt : Sl → M Bool} {te : Sl → M CV} {τ : Sl} {n i : Nat} {h : Mem} : lcM en l g tt te τ (n + 1) i h = match rdAt en l i h with
    | none => .bad
    | some none => .ok [] h
    | some (some x) => match g x τ h with
      | .ok τ1 h1 => match tt τ1 h1 with
        | .ok true h2 => match te τ1 h2 with
          | .ok y h3 => match lcM en l g tt te τ n (i + 1) h3 with
            | .ok ys h4 => .ok (y :: ys) h4
            | _ => .bad
          | _ => .bad
        | .ok false h2 => lcM en l g tt te τ n (i + 1) h2
        | _ => .bad
      | _ => .bad := by
  show (match rdAt en l i h with
    | none => .bad
    | some none => .ok [] h
    | some (some x) => Out.rec (fun τ1 h1 => Out.rec (fun b h2 => Bool.rec (frN (i + 1) (lcM en l g tt te τ n) h2) (Out.rec (fun y h3 => frV 3 y fun y => Out.rec (fun ys h4 => .ok (y :: ys) h4) (fun _ _ => .bad) .bad (frN (i + 1) (lcM en l g tt te τ n) h3)) (fun _ _ => .bad) .bad (te τ1 h2)) b) (fun _ _ => .bad) .bad (tt τ1 h1)) (fun _ _ => .bad) .bad (g x τ h) : Out (List CV)) = _
  cases rdAt en l i h with
  | none => rfl
  | some o => cases o with
    | none => rfl
    | some x =>
      simp only [frN_eq, frV_eq]
      cases g x τ h with
      | ok τ1 h1 =>
        simp only
        cases tt τ1 h1 with
        | ok b h2 =>
          cases b with
          | true =>
            simp only
            cases te τ1 h2 with
            | ok y h3 =>
              simp only
              cases lcM en l g tt te τ n (i + 1) h3 <;> rfl
            | exc _ _ => rfl
            | bad => rfl
          | false => rfl
        | exc _ _ => rfl
        | bad => rfl
      | exc _ _ => rfl
      | bad => rfl

theorem lc_coreM {G : Cfg} {g : TG} {gg : CV → Sl → M Sl} {tt : Sl → M Bool} {te : Sl → M CV} {vs : List Nat} {τ : Sl} {σ : L2.St} {ρ1 : Wd} {H1 : Hp} {h1 : Mem} {J : It} {en : Bool} {l : Nat} {D : Addr} {Q : VK}
    (m1 : MemR G ρ1 h1 H1) (s1 : SlR G ρ1 H1 τ σ) (r1 : ItM G ρ1 H1 J en l) (hD : H1 D = none) (hg : LcG G g gg vs) (hfv : vs.all G.fr = true) {ys : List CV} {hf : Mem} (e : lcM en l gg tt te (wipeC τ vs) 1000000 0 h1 = .ok ys hf)
    (fin : ∀ r H us, MemR G ⟨D :: ρ1.d, r⟩ hf H → Ext ρ1 H1 ⟨ρ1.d, r⟩ H → H D = some (.lst us) → ValsR G ⟨D :: ρ1.d, r⟩ H ys us → Q (.ref D) H) :
    ∃ W : Nat → Nat → Hp → Prop, (∃ m, W 0 m (upd H1 D (.lst []))) ∧ ∀ i m H, W i m H →
      (J.stop i H ∧ Q (.ref D) H) ∨ (J.go i H ∧ ∃ Nx : Hp → Prop, (∀ H', Nx H' → ∃ m', m' < m ∧ W (i + 1) m' H') ∧ ∀ x H', J.yld i H x H' → g x (L2.wipe σ vs) H' fun σ2 H2 => L2.wipe σ2 vs = L2.wipe σ vs ∧ tBo G W0 tt σ2 H2 fun b H3 =>
        if b = true then tV G W0 te σ2 H3 fun y H4 => ∃ acc, H4 D = some (.lst acc) ∧ acc.length < sizeLine ∧ Nx (upd H4 D (.lst (acc ++ [y]))) else Nx H3) := by
  refine ⟨fun i n H => i + n = 1000000 ∧ ∃ r h done acc rest, MemR G ⟨D :: ρ1.d, r⟩ h H ∧ Ext ρ1 H1 ⟨ρ1.d, r⟩ H ∧ H D = some (.lst acc) ∧ ValsR G ⟨D :: ρ1.d, r⟩ H done acc ∧ done.length ≤ i ∧ lcM en l gg tt te (wipeC τ vs) n i h = .ok rest hf ∧ ys = done ++ rest, ⟨1000000, Nat.zero_add _, ρ1.r, h1, [], [], ys, m1.hide hD, Ext.laid hD, upd_same, rfl, Nat.le_refl _, e, rfl⟩, ?_⟩
  rintro i n H ⟨hin, r, h, done, acc, rest, m, ex, hacc, rd, hdl, el, ey⟩
  have exH : ExtH ρ1 H1 ⟨D :: ρ1.d, r⟩ H := ⟨fun a ha => by
    rcases List.mem_cons.mp ha with z | z
    · exact .inr (z ▸ hD)
    · exact .inl z, ex.pre, fun a o e n t => ex.keep a o e (fun z => n (.inl z)) t, ex.new⟩
  have hDd : D ∈ (⟨D :: ρ1.d, r⟩ : Wd).d := List.mem_cons_self
  have hDr : D ∉ r := (m.hid D hDd).2
  cases n with
  | zero => cases el
  | succ n =>
    rw [lcM_s] at el
    rcases rdAt_cases (en := en) (l := l) (i := i) (h := h) with c | ⟨xs, c1, c2, c⟩ | ⟨xs, x, c1, c2, c⟩
    · rw [c] at el; cases el
    · rw [c] at el
      obtain ⟨go, stop, yld⟩ := r1 _ h H m exH xs c1
      cases el
      rw [List.append_nil] at ey
      subst ey
      exact .inl ⟨stop i c2, fin r H acc m ex hacc rd⟩
    · rw [c] at el
      simp only at el
      obtain ⟨go, stop, yld⟩ := r1 _ h H m exH xs c1
      have fin' : ∀ (ρ4 : Wd) (h4 : Mem) (H4 : Hp), MemR G ρ4 h4 H4 → Ext ⟨D :: ρ1.d, r⟩ H ρ4 H4 → ρ4.d = D :: ρ1.d ∧ H4 D = some (.lst acc) ∧ Ext ρ1 H1 ⟨ρ1.d, ρ4.r⟩ H4 := fun ρ4 h4 H4 m4 e4 => by
        refine ⟨e4.hid, e4.keep D _ hacc hDr (fun _ z => by cases z), rfl, fun i a q => e4.pre i a (ex.pre i a q), fun a o q n t => ?_, fun a ps q => ?_, fun a q => ?_⟩
        · refine e4.keep a o (ex.keep a o q n t) (fun z => ?_) t
          rcases ex.new a z with z | z
          · exact n z
          · rw [q] at z; cases z
        · obtain ⟨p1, q1⟩ := ex.tbl a ps q
          exact e4.tbl a p1 q1
        · rcases e4.new a q with z | z
          · exact ex.new a z
          · by_cases hx : a ∈ ρ1.r
            · exact .inl hx
            · cases q1 : H1 a with
              | none => exact .inr rfl
              | some o => exact absurd z (ex.there q1 hx)
      refine .inr ⟨go i (List.getElem?_eq_some_iff.mp c2).1, fun H' => i + 1 + n = 1000000 ∧ ∃ r h done acc rest, MemR G ⟨D :: ρ1.d, r⟩ h H' ∧ Ext ρ1 H1 ⟨ρ1.d, r⟩ H' ∧ H' D = some (.lst acc) ∧ ValsR G ⟨D :: ρ1.d, r⟩ H' done acc ∧ done.length ≤ i + 1 ∧ lcM en l gg tt te (wipeC τ vs) n (i + 1) h = .ok rest hf ∧ ys = done ++ rest, fun H' q => ⟨n, Nat.lt_succ_self n, q⟩, fun u H' y => ?_⟩
      obtain ⟨m', e', r'⟩ := yld i x u H' c2 y
      have s' : SlR G ⟨D :: ρ1.d, r⟩ H' (wipeC τ vs) (L2.wipe σ vs) := by
        have q : SlR G ⟨D :: ρ1.d, r⟩ H τ σ := ⟨s1.1, fun i v q => let ⟨u, a, b⟩ := s1.2.1 i v q; ⟨u, a, b.extH m1 exH⟩, s1.2.2⟩
        exact (q.ext m e').wipe vs hfv
      cases q : gg (wr en i x) (wipeC τ vs) h with
      | ok τ1 h2 =>
        rw [q] at el
        refine hg _ h H' _ _ _ u τ1 h2 _ m' s' r' q fun σ2 eh s2 w2 => ?_
        subst eh
        refine ⟨w2.trans wipe_wipe, ⟨_, h2, τ1, m', s2, ?_⟩⟩
        simp only at el
        cases q2 : tt τ1 h2 with
        | ok b h3 =>
          rw [q2] at el
          intro ρ3 H3 b' m3 e3 eb
          subst eb
          have s3 := s2.ext m' e3
          cases b with
          | true =>
            rw [if_pos rfl]
            simp only at el
            refine ⟨ρ3, h3, τ1, m3, s3, ?_⟩
            cases q3 : te τ1 h3 with
            | ok z h4 =>
              rw [q3] at el
              simp only at el
              intro ρ4 H4 w m4 e4 r4
              obtain ⟨f1, f2, f3⟩ := fin' ρ4 h4 H4 m4 (e'.trans (e3.trans e4))
              obtain ⟨d4, r4'⟩ := ρ4
              cases f1
              have hacl : acc.length ≤ i := by rw [← rd.len]; exact hdl
              refine ⟨acc, f2, by rw [sizeLine_eq]; omega, by omega, r4', h4, done ++ [z], acc ++ [w], ?_⟩
              cases q4 : lcM en l gg tt te (wipeC τ vs) n (i + 1) h4 with
              | ok zs h5 =>
                rw [q4] at el
                cases el
                refine ⟨zs, m4.hidwr List.mem_cons_self, ?_, upd_same, ?_, by simp; omega, rfl, by rw [ey, List.append_assoc]; rfl⟩
                · refine ⟨rfl, f3.pre, fun a o z n t => ?_, fun a ps z => ?_, f3.new⟩
                  · rw [upd_ne (ne_of_none z hD)]
                    exact f3.keep a o z n t
                  · rw [upd_ne (ne_of_none z hD)]
                    exact f3.tbl a ps z
                · exact ((rd.ext m (e'.trans (e3.trans e4))).app (show ValsR G _ H4 [z] [w] from ⟨w, [], rfl, r4, rfl⟩)).wr (.inr List.mem_cons_self) ⟨_, f2, .inl ⟨_, rfl⟩⟩
              | exc _ _ => rw [q4] at el; cases el
              | bad => rw [q4] at el; cases el
            | exc _ _ => rw [q3] at el; cases el
            | bad => rw [q3] at el; cases el
          | false =>
            rw [if_neg Bool.false_ne_true]
            simp only at el
            obtain ⟨f1, f2, f3⟩ := fin' ρ3 h3 H3 m3 (e'.trans e3)
            obtain ⟨d3, r3⟩ := ρ3
            cases f1
            exact ⟨by omega, r3, h3, done, acc, rest, m3, f3, f2, rd.ext m (e'.trans e3), by omega, el, ey⟩
        | exc _ _ => rw [q2] at el; cases el
        | bad => rw [q2] at el; cases el
      | exc _ _ => rw [q] at el; cases el
      | bad => rw [q] at el; cases el
def lcA (g : CV → Sl → M Sl) (tt : Sl → M Bool) (te : Sl → M CV) (τ : Sl) (s : Src) : M (List CV) := match s with
  | .fix xs => fun h => if xs.length ≤ 1000000 then lcL g tt te τ xs h else .bad
  | .mem en l => lcM en l g tt te τ 1000000 0
def eLcA (it : Sl → M Src) (g : CV → Sl → M Sl) (tt : Sl → M Bool) (te : Sl → M CV) (vs : List Nat) : Sl → M CV := fun τ => bnd (it τ) fun s h => match lcA g tt te (wipeC τ vs) s h with
  | .ok ys h' => .ok (.lst ys) h'
  | _ => .bad
def eLcNA (it : Sl → M Src) (g : CV → Sl → M Sl) (tt : Sl → M Bool) (te : Sl → M CV) (vs : List Nat) : Sl → M CV := fun τ => bnd (it τ) fun s h => match lcA g tt te (wipeC τ vs) s h with
  | .ok ys h' => frN h'.length fun n => sapp h' [.lst ys] fun h'' => .ok (.ref n) h''
  | _ => .bad
theorem lc_coreA {G : Cfg} {g : TG} {gg : CV → Sl → M Sl} {tt : Sl → M Bool} {te : Sl → M CV} {vs : List Nat} {τ : Sl} {σ : L2.St} {ρ1 : Wd} {H1 : Hp} {h1 : Mem} {J : It} {sc : Src} {D : Addr} {Q : VK}
    (m1 : MemR G ρ1 h1 H1) (s1 : SlR G ρ1 H1 τ σ) (r1 : SrcR G ρ1 H1 sc J) (hD : H1 D = none) (hg : LcG G g gg vs) (hfv : vs.all G.fr = true) {ys : List CV} {hf : Mem} (e : lcA gg tt te (wipeC τ vs) sc h1 = .ok ys hf)
    (fin : ∀ r H us, MemR G ⟨D :: ρ1.d, r⟩ hf H → Ext ρ1 H1 ⟨ρ1.d, r⟩ H → H D = some (.lst us) → ValsR G ⟨D :: ρ1.d, r⟩ H ys us → Q (.ref D) H) :
    ∃ W : Nat → Nat → Hp → Prop, (∃ m, W 0 m (upd H1 D (.lst []))) ∧ ∀ i m H, W i m H →
      (J.stop i H ∧ Q (.ref D) H) ∨ (J.go i H ∧ ∃ Nx : Hp → Prop, (∀ H', Nx H' → ∃ m', m' < m ∧ W (i + 1) m' H') ∧ ∀ x H', J.yld i H x H' → g x (L2.wipe σ vs) H' fun σ2 H2 => L2.wipe σ2 vs = L2.wipe σ vs ∧ tBo G W0 tt σ2 H2 fun b H3 =>
        if b = true then tV G W0 te σ2 H3 fun y H4 => ∃ acc, H4 D = some (.lst acc) ∧ acc.length < sizeLine ∧ Nx (upd H4 D (.lst (acc ++ [y]))) else Nx H3) := by
  cases sc with
  | fix xs =>
    have e' : (if xs.length ≤ 1000000 then lcL gg tt te (wipeC τ vs) xs h1 else .bad) = .ok ys hf := e
    by_cases hl : xs.length ≤ 1000000
    · rw [if_pos hl, lcL_eq] at e'
      exact lc_core' (W' := fun _ _ _ _ => True) m1 s1 r1 hD hg hfv hl e' fin
    · rw [if_neg hl] at e'; cases e'
  | mem en l => exact lc_coreM m1 s1 r1 hD hg hfv e fin
theorem lc_redA {G : Cfg} {W : WX} {it : Sl → M Src} {g : TG} {gg : CV → Sl → M Sl} {tt : Sl → M Bool} {te : Sl → M CV} {vs : List Nat} (hg : LcG G g gg vs) (hfv : vs.all G.fr = true) {σ : L2.St} {H : Hp} {Q : VK} (q : tV G W (eLcA it gg tt te vs) σ H Q) : tLc (tItA G W it) g (tBo G W0 tt) (tV G W0 te) vs σ H Q := by
  obtain ⟨ρ, h, τ, m, s, p⟩ := q
  refine tM_bind m s p fun xs h1 ρ1 H1 J m1 e1 s1 r1 p1 D hD => ?_
  cases e : lcA gg tt te (wipeC τ vs) xs h1 with
  | ok ys hf =>
    rw [e] at p1
    refine lc_coreA m1 s1 r1 hD hg hfv e fun r H2 us m2 e2 hus rus => ?_
    refine p1 ⟨ρ1.d, r⟩ H2 _ m2.unhid e2 ⟨D, us, rfl, fun z => ?_, hus, rus.unhid⟩
    rcases z with z | z
    · exact (m2.hid D List.mem_cons_self).2 z
    · obtain ⟨⟨_, w, _⟩, _⟩ := m1.hid D z
      rw [hD] at w; cases w
  | exc _ _ => rw [e] at p1; exact p1.elim
  | bad => rw [e] at p1; exact p1.elim
theorem lc_redNA {G : Cfg} {W : WX} {it : Sl → M Src} {g : TG} {gg : CV → Sl → M Sl} {tt : Sl → M Bool} {te : Sl → M CV} {vs : List Nat} (hg : LcG G g gg vs) (hfv : vs.all G.fr = true) {σ : L2.St} {H : Hp} {Q : VK} (q : tV G W (eLcNA it gg tt te vs) σ H Q) : tLc (tItA G W it) g (tBo G W0 tt) (tV G W0 te) vs σ H Q := by
  obtain ⟨ρ, h, τ, m, s, p⟩ := q
  refine tM_bind m s p fun xs h1 ρ1 H1 J m1 e1 s1 r1 p1 D hD => ?_
  cases e : lcA gg tt te (wipeC τ vs) xs h1 with
  | ok ys hf =>
    rw [e] at p1
    simp only [frN_eq, sapp_eq] at p1
    refine lc_coreA m1 s1 r1 hD hg hfv e fun r H2 us m2 e2 hus rus => ?_
    have nD : D ∉ r := (m2.hid D List.mem_cons_self).2
    have ndd : D ∉ ρ1.d := fun z => by
      obtain ⟨⟨_, w, _⟩, _⟩ := m1.hid D z
      rw [hD] at w; cases w
    refine p1 ⟨ρ1.d, r ++ [D]⟩ H2 _ (m2.unhidN rus hus ndd) ?_ ⟨D, ?_, rfl⟩
    · refine ⟨rfl, fun i a z => ?_, e2.keep, e2.tbl, fun a z => ?_⟩
      · have z2 := e2.pre i a z
        have hi : i < r.length := (List.getElem?_eq_some_iff.mp z2).1
        show (r ++ [D])[i]? = some a
        rw [List.getElem?_append_left hi]; exact z2
      · rcases List.mem_append.mp z with z | z
        · exact e2.new a z
        · rw [List.mem_singleton.mp z]; exact .inr hD
    · show (r ++ [D])[hf.length]? = some D
      rw [← m2.len]; simp
  | exc _ _ => rw [e] at p1; exact p1.elim
  | bad => rw [e] at p1; exact p1.elim
section
variable {G : Cfg} {W : WX} {X : Cx} {pos : Pos}
theorem se_lcA {elt tg iter : Expr} {ifs : List Expr} {scope : Scope} {own : List (Str × Nat)} {it : Sl → M Src} {g : TG} {gg : CV → Sl → M Sl} {tt : Sl → M Bool} {te : Sl → M CV} (hc : X.calm = true) (hN : X.N.Nodup) (hi : SIA G W X tg iter it) (ok : BlkOk X.N X.env.scope scope own)
    (hgg : LcG G g gg (own.map (·.2))) (hg : Blk X scope fun Y => PG Y tg g) (ht : Blk X scope fun Y => PTs Y ifs (tBo G W0 tt)) (he : Blk X scope fun Y => SE G W0 Y elt te) (hs : ∀ x, foldedSetIterable iter X.env x = pure x := by intro _; rfl) (hfv : (own.map (·.2)).all G.fr = true := by rfl) :
    SE G W X (.ListComp elt [⟨tg, iter, ifs, 0⟩] scope pos) (eLcA it gg tt te (own.map (·.2))) := (pe_lc hc hN hi ok hg ht he hs).wk fun σ H Q q => lc_redA hgg hfv q
theorem se_lcNA {elt tg iter : Expr} {ifs : List Expr} {scope : Scope} {own : List (Str × Nat)} {it : Sl → M Src} {g : TG} {gg : CV → Sl → M Sl} {tt : Sl → M Bool} {te : Sl → M CV} (hc : X.calm = true) (hN : X.N.Nodup) (hi : SIA G W X tg iter it) (ok : BlkOk X.N X.env.scope scope own)
    (hgg : LcG G g gg (own.map (·.2))) (hg : Blk X scope fun Y => PG Y tg g) (ht : Blk X scope fun Y => PTs Y ifs (tBo G W0 tt)) (he : Blk X scope fun Y => SE G W0 Y elt te) (hs : ∀ x, foldedSetIterable iter X.env x = pure x := by intro _; rfl) (hfv : (own.map (·.2)).all G.fr = true := by rfl) :
    SE G W X (.ListComp elt [⟨tg, iter, ifs, 0⟩] scope pos) (eLcNA it gg tt te (own.map (·.2))) := (pe_lc hc hN hi ok hg ht he hs).wk fun σ H Q q => lc_redNA hgg hfv q
theorem ss_setLcA {i : Nat} {y : Str} {py spos : Pos} {elt tg iter : Expr} {ifs : List Expr} {scope : Scope} {own : List (Str × Nat)} {it : Sl → M Src} {g : TG} {gg : CV → Sl → M Sl} {tt : Sl → M Bool} {te : Sl → M CV} (hc : X.calm = true) (hN : X.N.Nodup) (hy : X.N[i]? = some y) (hyl : X.env.scope.names.lookup y = some .local)
    (hsw : swapsWith (.ListComp elt [⟨tg, iter, ifs, 0⟩] scope pos) (some (.Name y py)) spos.line X.env = pure true) (hi : SIA G W X tg iter it) (ok : BlkOk X.N X.env.scope scope own)
    (hgg : LcG G g gg (own.map (·.2))) (hg : Blk X scope fun Y => PG Y tg g) (ht : Blk X scope fun Y => PTs Y ifs (tBo G W0 tt)) (he : Blk X scope fun Y => SE G W0 Y elt te) (hs : ∀ x, foldedSetIterable iter X.env x = pure x := by intro _; rfl) (hfv : (own.map (·.2)).all G.fr = true := by rfl) (hfr : G.fr i = true := by rfl) :
    SS G W X (.Assign [.Name y py] (.ListComp elt [⟨tg, iter, ifs, 0⟩] scope pos) spos) (mAsg (gSet i) (eLcA it gg tt te (own.map (·.2)))) := (ps_setLc hc hN hy hyl hsw hi ok hg ht he hs).wk fun D σ H q => asg_red (fun σ H Q q => lc_redA hgg hfv q) hfr q
theorem ss_setLcNA {i : Nat} {y : Str} {py spos : Pos} {elt tg iter : Expr} {ifs : List Expr} {scope : Scope} {own : List (Str × Nat)} {it : Sl → M Src} {g : TG} {gg : CV → Sl → M Sl} {tt : Sl → M Bool} {te : Sl → M CV} (hc : X.calm = true) (hN : X.N.Nodup) (hy : X.N[i]? = some y) (hyl : X.env.scope.names.lookup y = some .local)
    (hsw : swapsWith (.ListComp elt [⟨tg, iter, ifs, 0⟩] scope pos) (some (.Name y py)) spos.line X.env = pure true) (hi : SIA G W X tg iter it) (ok : BlkOk X.N X.env.scope scope own)
    (hgg : LcG G g gg (own.map (·.2))) (hg : Blk X scope fun Y => PG Y tg g) (ht : Blk X scope fun Y => PTs Y ifs (tBo G W0 tt)) (he : Blk X scope fun Y => SE G W0 Y elt te) (hs : ∀ x, foldedSetIterable iter X.env x = pure x := by intro _; rfl) (hfv : (own.map (·.2)).all G.fr = true := by rfl) (hfr : G.fr i = true := by rfl) :
    SS G W X (.Assign [.Name y py] (.ListComp elt [⟨tg, iter, ifs, 0⟩] scope pos) spos) (mAsg (gSet i) (eLcNA it gg tt te (own.map (·.2)))) := (ps_setLc hc hN hy hyl hsw hi ok hg ht he hs).wk fun D σ H q => asg_red (fun σ H Q q => lc_redNA hgg hfv q) hfr q
end
end VE

namespace SupX
open PySem PySem.W PySem.Calls PyProof.Rows PySem.HandSPX PySem.Builtin PySem.Builtin.ObjectAttr
def iA (f : Str) (p1 p2 : Pos) : Arguments :=
  { posonlyargs := [], args := [⟨"self", none, p1⟩, ⟨f, none, p2⟩], vararg := none, kwonlyargs := [], kw_defaults := [], kwarg := none, defaults := [] }
def iB1 (f : Str) (p0 p1 p2 p3 p4 p5 : Pos) : Stmt := .Expr (.Call (.Attribute (.Call (.Name "super" p0) [] [] p1) "__init__" p2) [.Name f p3] [] p4) p5
def iB2 (f : Str) (p6 p7 p8 p9 : Pos) : Stmt := .Assign [.Attribute (.Name "self" p6) f p7] (.Name f p8) p9
def iS (f : Str) : Scope := { kind := .function, names := [("self", .local), (f, .local), ("__class__", .free), ("super", .globalImplicit)], isGenerator := false, isCoroutine := false, more := [] }
/-- what is asked of a base class's name -/
structure BaseX (B newId initId : String) (bmB : List Value) : Prop where
  F : ExcBaseFacts B newId initId bmB
  KF : KxsFacts B initId
  ob : bmB.contains (.type "object") = true
  pass : ∀ self, refuseLoop self "__setattr__" bmB = pure ()
/-- what the written part says of the class at C, named cn, its __init__ at fI; its one field is f -/
structure SupTxt (P : Program) (K : Frag) (mg : Str → Option Value) (C fI : Addr) (cn f : Str) (B newId initId : String) (bmB : List Value) : Prop where
  bx : BaseX B newId initId bmB
  gC : mg cn = some (.ref C)
  gS : mg "super" = none
  cls : ∃ nm q N bs bm sn sub ab col dd k0 k1 k2 k3 k5, K.lookup C = some (excClassObj nm q C N bs bm true sn sub ab col dd k0 k1 k2 k3 k5 newId) ∧
    (∀ X : String, bm.contains (.type X) = bmB.contains (.type X)) ∧ ∀ self, refuseLoop self "__setattr__" (.ref C :: bm) = pure ()
  sa : findIn K (.ref C) "__setattr__" = some (some (.builtin "object.__setattr__"))
  ga : findIn K (.ref C) "__getattribute__" = some (some (.builtin "BaseException.__getattribute__"))
  gg : findIn K (.ref C) "__getattr__" = some none
  noN : findIn K (.ref C) f = some none
  iC : findIn K (.ref C) "__init__" = some (some (.ref fI))
  tC : typeIn K (.ref fI) = some (.type "function")
  kC : keepIn K (.ref C) = true
  exC : subIn K (.ref C) (.type "BaseException") = some true
  suB : subIn K (.ref C) (.type B) = some true
  suC : subIn K (.ref C) (.ref C) = some true
  tyC : typeIn K (.ref C) = some (.type "type")
  hdC : hasDictIn K C = true
  isC : isClsIn K C = true
  sup : ks_superIn K C C "__init__" = some (some (.builtin initId))
  any : nsIn K cStatics "thirdparty.any" = some none
  nf : (f == ("__debug__" : Str)) = false ∧ f ≠ "self" ∧ f ≠ "super" ∧ f ≠ "__class__"
  fn : ∃ (oc : Value) (od : Option Addr) (doc pm : Value) (an : Option Addr) (cda cc : Addr) (ct : Value) (osl : Array (Option Value)) (p1 p2 q0 q1 q2 q3 q4 q5 q6 q7 q8 q9 : Pos)
      (cl ccl : Value) (cld cdd : Option Addr) (csl ccs : Array (Option Value)) (vs : Array Value) (file : Str) (tf : Tok),
    K.lookup fI = some ⟨oc, od, .func (ksFn "__init__" (cn ++ ".__init__") (iA f p1 p2) [iB1 f q0 q1 q2 q3 q4 q5, iB2 f q6 q7 q8 q9] (iS f) .none .none doc pm an (.ref cda) ct cc), osl⟩ ∧
    codeIn K (.ref cda) (cn ++ ".__init__") = true ∧ K.lookup cc = some ⟨cl, cld, .cell (some (.ref C)), csl⟩ ∧ K.lookup cda = some ⟨ccl, cdd, .fields vs, ccs⟩ ∧ vs[2]? = some (.str file tf) ∧ ((P.main.file : Str) == file) = true ∧
    (∀ (s : Shared) (a b : Value), BindsTo s (ksFn "__init__" (cn ++ ".__init__") (iA f p1 p2) [iB1 f q0 q1 q2 q3 q4 q5, iB2 f q6 q7 q8 q9] (iS f) .none .none doc pm an (.ref cda) ct cc) ⟨[a, b], []⟩ [("self", a), (f, b)]) ∧
    ∃ pl : Sem Bool, ∀ env : Env, eval (.Call (.Attribute (.Call (.Name "super" q0) [] [] q1) "__init__" q2) [.Name f q3] [] q4) env = (do
      let ov ← attributeBase (.Call (.Name "super" q0) [] [] q1) "__init__" env (eval (.Call (.Name "super" q0) [] [] q1) env)
      standAt q2.atName
      let (g, first) ← holding [ov] (getMethod ov "__init__" pl)
      callWith q4 g first (backTo q4 (starEach [.Name f q3] env)) [])
  top : (P.main.scope.names.lookup ("super" : Str)).isSome = false
end SupX
namespace SupX
open PySem PySem.W PySem.Calls PyProof.Rows PySem.HandSPX PySem.Builtin PySem.Builtin.ObjectAttr
section
variable {prog : Program} {w : World} {A : Around} {E : Value → Shared → Prop} {R : Result → Shared → Prop} {K : Frag} {mg : Str → Option Value}
/-- the first field of a made exception, whatever its base -/
theorem first_field {hp : Heap} {g : Array GenState} {d : Drawn} {t : Nat} {os : OsState} {name : Str} {tk : Tok} {v : Value} {x C : Addr} {fv : Array Value} {cd : ClassData} (X : K.In hp) (hx : hp.get? x = some { cls := .ref C, data := .fields fv })
    (hcd : clsIn K C = some cd) (hne : cd.mro.isEmpty = false) (hob : cd.mro.contains (.type "object") = true) (hps : ∀ self, refuseLoop self "__setattr__" cd.mro = pure ()) (hh : cd.hasDict = true) (ha : findIn K (.ref C) name = some none)
    (hq : ∀ h' tk' dx, (∀ b o, b ≠ x → hp.get? b = some o → h'.get? b = some o) → hp.objs.size ≤ dx → dx ≠ x → h'.get? x = some { cls := .ref C, dict := some dx, data := .fields fv } → h'.Ns1 dx (fun y => if y = name then some v else none) → R (.ok (.ret .none)) ⟨h', g, d, tk', os⟩) :
    codeAny (model prog w) A (.call (.builtin "object.__setattr__") ⟨[.ref x, .str name tk, v], []⟩) R ⟨hp, g, d, t, os⟩ := by
  have inst : InstAt hp x { cls := .ref C, data := .fields fv } C none := ⟨hx, rfl, rfl, trivial⟩
  have xn : x ≠ hp.objs.size := Nat.ne_of_lt (Heap.lt_size hx)
  have isOb : Looks (model prog w) hp (isInstance (.ref x) (.type "object")) true := inst.type.andThen (looks_mroIn X (by unfold mroIn; rw [hcd, Option.bind_some, if_neg (by rw [hne]; decide), hob]))
  have lm : Looks (model prog w) hp (mroOf (.ref C)) cd.mro := (looks_clsIn X hcd).andThen .now
  have lc : Looks (model prog w) hp (classData C) cd := looks_clsIn X hcd
  have ls : Looks (model prog w) hp (storeTaker? none) none := .now
  refine codeAny_call_builtin F.store_object.slot.plain F.store_object.entry (@check_slot (model prog w) _ _ ⟨hp, g, d, t, os⟩ "object.__setattr__" "object" "__setattr__" (.ref x) [.str name tk, v] [] _ F.store_object.kind F.store_object.split isOb (F.store_object.args (.ref x) (.str name tk) v) ?_)
  rw [osa_eq, refuse_eq]
  refine wpAny_bind (wpAny_bind (inst.type.at (wpAny_bind (lm.at ?_))))
  rw [hps]
  refine wpAny_pure (wpAny_bind (inst.type.at (wpAny_bind ((looks_findIn X ha).at (wpAny_bind (ls.at ?_))))))
  show wpAny _ _ (storeInOwnDict (.ref x) (.ref C) (.str name tk) name v false) _ _ _
  obtain ⟨nm, bs, mro, ns, qn, hd, sn, sb, ab, col, del⟩ := cd
  have hh : hd = true := hh
  subst hh
  unfold storeInOwnDict ownDictForStores
  repeat (first | with_reducible refine store_in_new ?_ ?_ | with_reducible refine wpAny_loadPart_at hx ?_ | with_reducible refine lc.at ?_ | wp_step)
  · exact ⟨_, #[], _, (Heap.get?_update_ne _ _ _ _ xn.symm).trans (Heap.get?_push_at rfl rfl), rfl, fun e he => absurd he (by simp), fun _ => rfl⟩
  · intro h' tk' hn' hs
    refine hq h' tk' hp.objs.size (fun b o hb ho => ?_) (Nat.le_refl _) xn.symm ((hs.2 x xn).trans (Heap.get?_update_self _ (Heap.get?_push_of_some { cls := .type "dict", data := .dict #[] } hx) rfl)) hn'
    exact (hs.2 b (Nat.ne_of_lt (Heap.lt_size ho))).trans ((Heap.get?_update_ne _ _ _ _ hb).trans (Heap.get?_push_of_some _ ho))
theorem ldLoc {env : Env} {s : Shared} {m : Str → Option Value} {x : Str} {pos : Pos} {v : Value} {Q : Value → Shared → Prop} (hn : s.heap.Ns env.locals m) (hv : m x = some v) (h : Q v s)
    (hk : env.scope.kind = .function) (hl : env.kindOf x = some .local) (hd : (x == ("__debug__" : Str)) = false) : wpAny (model prog w) A (eval (.Name x pos) env) Q E s := wpAny_Name (wpAny_loadName_local hk hl hn hv h) hd
/-- the built-in __init__, bound, called: the args are laid anew -/
theorem call_mw {B newId initId : String} {bmB : List Value} {nm q : Str} {C N u x t0 : Addr} {bs bm : List Value} {hdct : Bool} {sn : List Str} {sub : List Value} {ab : Bool} {col : Option Bool} {dd : Option Addr} {k0 k1 k2 k3 k5 : Option Value} {s : Shared} {rest : List Value} {Q : Value → Shared → Prop}
    (F : ExcBaseFacts B newId initId bmB) (hC : s.heap.get? C = some (excClassObj nm q C N bs bm hdct sn sub ab col dd k0 k1 k2 k3 k5 newId)) (hx : s.heap.get? x = some (excO C t0)) (hu : s.heap.get? u = some (kxs_mw initId x)) (hz : rest.length ≤ sizeLine)
    (hq : ∀ h' t1, (∀ b o, b ≠ x → s.heap.get? b = some o → h'.get? b = some o) → h'.get? x = some (excO C t1) → Q .none { s with heap := h' }) : wpAny (model prog w) A (call (.ref u) rest) Q E s := by
  obtain ⟨hh, g, d, tk, os⟩ := s
  refine wpAny_call (codeAny_of_tree ?_)
  show wpAny (model prog w) A.in1 (callAny (.ref u) ⟨rest, []⟩) _ _ _
  simp only [callAny]
  refine wpAny_bind (wpAny_load hu ?_)
  simp only [kxs_mw, show (Value.type "method-wrapper" == Value.type "method" || Value.type "method-wrapper" == Value.type "builtin_function_or_method" || Value.type "method-wrapper" == Value.type "method-wrapper") = true by decide, if_true]
  refine KFB.if_so (by decide) (wpAny_bind (check_bound_init F.toExcCallFacts hC hx rfl (wpAny_bind (wpAny_pure (wpAny_pure ⟨plainId_quiet F.init.plain _, codeAny_builtin F.initEntry ?_⟩)))))
  exact exc_init_tree (cls := .ref C) (t0 := t0) (dv := none) (c2 := .none) (c3 := .none) (b4 := .bool false) hx hz fun h' k e _ => hq h' _ k e
end
end SupX
namespace SupX
open PySem PySem.W PySem.Calls PyProof.Rows PySem.HandSPX PySem.Builtin PySem.Builtin.ObjectAttr
section
variable {prog : Program} {w : World} {A : Around} {E : Value → Shared → Prop} {R : Result → Shared → Prop} {K : Frag} {mg : Str → Option Value} {C fI : Addr} {cn f : Str} {B newId initId : String} {bmB : List Value}
theorem lk_self (f : Str) : (iS f).names.lookup ("self" : Str) = some .local := rfl
theorem lk_f {f : Str} (n : f ≠ "self") : (iS f).names.lookup f = some .local := by
  show (match f == ("self" : Str) with | true => some NameKind.local | false => _) = _
  rw [beq_eq_false_iff_ne.mpr n]
  show (match f == f with | true => some NameKind.local | false => _) = _
  rw [beq_self_eq_true]
theorem lk_cls {f : Str} (n : f ≠ "__class__") : (iS f).names.lookup ("__class__" : Str) = some .free := by
  show (match ("__class__" : Str) == f with | true => some NameKind.local | false => _) = _
  rw [beq_eq_false_iff_ne.mpr (Ne.symm n)]
  rfl
theorem lk_super {f : Str} (n : f ≠ "super") : (iS f).names.lookup ("super" : Str) = some .globalImplicit := by
  show (match ("super" : Str) == f with | true => some NameKind.local | false => _) = _
  rw [beq_eq_false_iff_ne.mpr (Ne.symm n)]
  rfl
theorem sup_init (T : SupTxt prog K mg C fI cn f B newId initId bmB) {s : Shared} {base : Heap} {x t0 : Addr} {v : Value} (M : L2.Mod K mg base) (kb : ∀ b o, base.get? b = some o → s.heap.get? b = some o) (hx : s.heap.get? x = some (excO C t0)) (hxb : base.get? x = none) (hroom : A.depth < recursionLimit)
    (hq : ∀ h' tk dx t1, (∀ b o, b ≠ x → s.heap.get? b = some o → h'.get? b = some o) → h'.get? x = some { cls := .ref C, dict := some dx, data := .fields #[.ref t1, .none, .none, .none, .bool false, .none] } → s.heap.objs.size ≤ dx → dx ≠ x → h'.Ns1 dx (fun y => if y = f then some v else none) → R (.ok (.ret .none)) { s with heap := h', toks := tk }) :
    codeAny (model prog w) A (.call (.ref fI) ⟨[.ref x, v], []⟩) R s := by
  obtain ⟨oc, od, doc, pm, an, cda, cc, ct, osl, p1, p2, q0, q1, q2, q3, q4, q5, q6, q7, q8, q9, cl, ccl, cld, cdd, csl, ccs, vs, file, tf, ho, hcd, hcc, hcda, hvs, hfile, hbind, pl, hev⟩ := T.fn
  obtain ⟨nm, q, N, bs, bm, sn, sub, ab, col, dd, k0, k1, k2, k3, k5, hC, hbm, hpass⟩ := T.cls
  obtain ⟨nd, nself, nsup, ncls⟩ := T.nf
  have X : K.In s.heap := M.kin.keeps kb
  have hcl : clsIn K C = some { name := nm, bases := bs, mro := .ref C :: bm, ns := N, qualname := q, hasDict := true, slotNames := sn, subclasses := sub, abstract := ab, collection := col, hasDel := false } := by unfold clsIn; rw [hC] <;> rfl
  obtain ⟨mb, hmb, hbb⟩ := M.blt
  refine ks_codeAny_call_defAt (binds := [("self", .ref x), (f, v)]) hroom (X _ _ ho) rfl (M.nolimit.keeps kb) (codeRec_of X hcd) rfl (hbind s (.ref x) v) ?_ ?_ (fun h₁ hns kp => ?_) rfl rfl rfl
  · intro y hy
    have hy : y ∈ [(("self" : Str), NameKind.local), (f, .local), ("__class__", .free), ("super", .globalImplicit)] := hy
    simp only [List.mem_cons, List.not_mem_nil, or_false] at hy
    rcases hy with rfl | rfl | rfl | rfl <;> (intro z; cases z)
  · intro y hy
    simp only [List.mem_cons, List.not_mem_nil, or_false] at hy
    rcases hy with rfl | rfl
    · exact lk_self f
    · exact lk_f nself
  show _root_.PySem.wpAt (model prog w) (A.deeper (ksEnv (cn ++ ".__init__") (iS f) s.heap.objs.size fI (.ref cda) cc)) (.func _ (ksEnv (cn ++ ".__init__") (iS f) s.heap.objs.size fI (.ref cda) cc)) (execs _ (ksEnv (cn ++ ".__init__") (iS f) s.heap.objs.size fI (.ref cda) cc)) _ _ _
  have kb₁ : ∀ b o, base.get? b = some o → h₁.get? b = some o := fun b o e => kp b o (kb b o e)
  have X₁ : K.In h₁ := M.kin.keeps kb₁
  have hx₁ := kp _ _ hx
  have vself : ([("self", Value.ref x), (f, v)] : List (Str × Value)).reverse.lookup ("self" : Str) = some (.ref x) := by
    show (match ("self" : Str) == f with | true => some v | false => _) = _
    rw [beq_eq_false_iff_ne.mpr (Ne.symm nself)]
    rfl
  have vf : ([("self", Value.ref x), (f, v)] : List (Str × Value)).reverse.lookup f = some v := by
    show (match f == f with | true => some v | false => _) = _
    rw [beq_self_eq_true]
  have nxC : x ≠ C := fun z => by
    have e := X _ _ hC
    rw [← z, hx] at e
    cases e
  -- super().__init__(f)
  refine ks_wpAt_execs_cons (ks_wpAt_Expr_any (ks_wpAt_MethodCall (pl := pl) ?_ (hev _)))
  refine ks_wpAt_super_base (of := _) (lk_super nsup) (lk_cls ncls) (by decide) rfl (X₁ _ _ ho) rfl rfl rfl (X₁ _ _ hcda) rfl hvs hfile T.top ?_
  refine ks_loadName_global rfl (lk_super nsup) (loadGlobal_builtin (M.glob.keeps kb₁) T.gS (hmb.keeps kb₁) ((hbb "super" (by decide)).trans (by first | boot_by_name | rfl | kernel_rfl)) ⟨rfl, ?_⟩)
  refine wpAny_loadName_free rfl (lk_cls ncls) rfl ⟨_, X₁ _ _ hcc, rfl⟩ ?_
  refine wpAny_loadName_local rfl (lk_self f) hns vself ?_
  refine ks_wpAny_isType_cls (X₁ _ _ hC) rfl ⟨rfl, ?_⟩
  have hsub : mroIn K C (.ref C) = some true := by
    unfold mroIn
    rw [hcl, Option.bind_some, if_neg (show ¬ (List.isEmpty (Value.ref C :: bm) = true) from Bool.false_ne_true), List.contains_cons, beq_self_eq_true, Bool.true_or]
  refine ks_wpAny_call_super (X₁ _ _ hC) rfl hx₁ rfl (fun c e => by cases e) (looks_mroIn X₁ hsub) (fun h₂ hso k₂ => ?_)
  have kb₂ : ∀ b o, base.get? b = some o → h₂.get? b = some o := fun b o e => k₂ b o (kb₁ b o e)
  have X₂ : K.In h₂ := M.kin.keeps kb₂
  have hx₂ := k₂ _ _ hx₁
  have inst₂ : InstAt h₂ x (excO C t0) C none := ⟨hx₂, rfl, rfl, trivial⟩
  have hal : alongIn K "__init__" (((Value.ref C :: bm).dropWhile (· != .ref C)).drop 1) = some (some (.builtin initId)) := by
    have e := T.sup
    unfold ks_superIn at e
    rw [hcl, Option.bind_some] at e
    exact e
  refine kxs_getMethod T.bx.KF hso (looks_opaque X₂ T.any) (l₀ := .ref C :: bm) (fun A Q E s k q => wpAny_bind ((looks_clsIn X₂ hcl) A _ E s k (wpAny_pure q))) rfl X₂ hal (inst₂.type.andThen (looks_subIn X₂ T.suB)) nxC (by decide) ?_
  have k₃ : ∀ b o, h₁.get? b = some o → (h₂.push (kxs_mw initId x)).get? b = some o := fun b o e => Heap.get?_push_of_some _ (k₂ b o e)
  have hu : (h₂.push (kxs_mw initId x)).get? h₂.objs.size = some (kxs_mw initId x) := Heap.get?_push_size _ rfl
  refine kxs_callWith (i := initId) (x := x) rfl (evalArgs_plain (spliced_cons (ldLoc (hns.keeps k₃) vf (spliced_nil ⟨hu, ?_⟩) rfl (lk_f nself) nd)))
  refine call_mw T.bx.F (k₃ _ _ (X₁ _ _ hC)) (k₃ _ _ hx₁) hu (by rw [sizeLine_eq]; show 1 ≤ _; omega) (fun h₄ t1 k₄ hx₄ => ?_)
  have kb₄ : ∀ b o, base.get? b = some o → h₄.get? b = some o := fun b o e => k₄ b o (fun z => by rw [z, hxb] at e; cases e) (k₃ b o (kb₁ b o e))
  have X₄ : K.In h₄ := M.kin.keeps kb₄
  have hns₄ : h₄.Ns s.heap.objs.size (fun y => ([("self", Value.ref x), (f, v)] : List (Str × Value)).reverse.lookup y) := by
    obtain ⟨oL, es, ep, hL, r⟩ := hns
    exact ⟨oL, es, ep, k₄ _ _ (Nat.ne_of_gt (Heap.lt_size hx)) (k₃ _ _ hL), r⟩
  -- self.f = f
  refine ks_wpAt_execs_cons (_root_.PySem.wpAt_of_wpAny (plainObj_wpAny_Assign_Attribute (ldLoc hns₄ vf (ldLoc hns₄ vself (set_plain X₄ (ox := excO C t1) (od := none) ⟨hx₄, rfl, rfl, trivial⟩ T.sa ?_) rfl (lk_self f) (by decide)) rfl (lk_f nself) nd)))
  refine first_field X₄ hx₄ hcl rfl (by rw [List.contains_cons, hbm, T.bx.ob, Bool.or_true]) hpass rfl T.noN (fun h₅ tk₅ dx k₅ dn dne hx₅ hn₅ => ?_)
  have sz : s.heap.objs.size < h₄.objs.size := hns₄.lt
  refine _root_.PySem.wpAt_of_wpAny (wpAny_execs_nil ?_)
  exact hq h₅ tk₅ dx t1 (fun b o hb e => k₅ b o hb (k₄ b o hb (k₃ b o (kp b o e)))) hx₅ (Nat.le_of_lt (Nat.lt_of_lt_of_le sz dn)) dne hn₅
end
end SupX
namespace SupX
open PySem PySem.W PySem.Calls PyProof.Rows PySem.HandSPX
section
variable {prog : Program} {w : World} {A : Around} {R : Result → Shared → Prop} {K : Frag} {mg : Str → Option Value} {C fI : Addr} {cn f : Str} {B newId initId : String} {bmB : List Value}
/-- a made exception: it stands at e, its dict at d holds its field -/
structure SupMade (h h' : Heap) (e C d : Addr) (f : Str) (v : Value) : Prop where
  keep : ∀ b o, h.get? b = some o → h'.get? b = some o
  new : h.objs.size ≤ e
  obj : ∃ t, h'.get? e = some { cls := .ref C, dict := some d, data := .fields #[.ref t, .none, .none, .none, .bool false, .none] }
  dbig : h.objs.size ≤ d
  dne : d ≠ e
  ns : h'.Ns1 d (fun y => if y = f then some v else none)
theorem sup_made (T : SupTxt prog K mg C fI cn f B newId initId bmB) {s : Shared} {base : Heap} {v : Value} (M : L2.Mod K mg base) (kb : ∀ b o, base.get? b = some o → s.heap.get? b = some o) (hroom : A.depth + 1 < recursionLimit)
    (hq : ∀ h' tk e d, SupMade s.heap h' e C d f v → R (.ok (.ret (.ref e))) { s with heap := h', toks := tk }) : codeAny (model prog w) A (.call (.ref C) ⟨[v], []⟩) R s := by
  obtain ⟨nm, q, N, bs, bm, sn, sub, ab, col, dd, k0, k1, k2, k3, k5, hC, hbm, _⟩ := T.cls
  have X : K.In s.heap := M.kin.keeps kb
  obtain ⟨hp, g, dr, tk, os⟩ := s
  have up : ∀ b o, hp.get? b = some o → ((hp.push (kdv_tup [v])).push (excO C hp.objs.size)).get? b = some o := fun b o e => Heap.get?_push_of_some _ (Heap.get?_push_of_some _ e)
  have new : base.get? (hp.objs.size + 1) = none := by
    cases e : base.get? (hp.objs.size + 1) with
    | none => rfl
    | some o =>
      have := Heap.lt_size (kb _ _ e)
      exact absurd this (show ¬ hp.objs.size + 1 < hp.objs.size by omega)
  refine call_own T.bx.F hbm (X _ _ hC) (looks_findIn X T.iC) (fun self => bind_fn X self T.tC) (by rw [sizeLine_eq]; show 1 ≤ _; omega) ?_
  refine sup_init (s := ⟨(hp.push (kdv_tup [v])).push (excO C hp.objs.size), g, dr, tk, os⟩) T M (fun b o e => up b o (kb b o e)) (by heap_get) new hroom fun h' tk' dx t1 k' hx dn dne hns => ?_
  have sz : ((hp.push (kdv_tup [v])).push (excO C hp.objs.size)).objs.size = hp.objs.size + 2 := by rw [Heap.size_push, Heap.size_push]
  have dn : hp.objs.size + 2 ≤ dx := by rw [← sz]; exact dn
  exact ⟨rfl, hq h' tk' (hp.objs.size + 1) dx ⟨fun b o e => k' b o (Nat.ne_of_lt (Nat.lt_succ_of_lt (Heap.lt_size e))) (up b o e), Nat.le_succ _, ⟨t1, hx⟩, (by show hp.objs.size ≤ dx; omega), dne, hns⟩⟩
end
end SupX
noncomputable section
namespace VE
open PySem PySem.Spec PyProof.Rows L2
section
variable {X : Cx} {C fI : Addr} {cn f : Str} {B newId initId : String} {bmB : List Value}
/-- X(e) -/
def tMkS (C : Addr) (f : Str) (ta : TA) : L2.St → Hp → XK → Prop := fun σ H Q => ta σ H fun vs H1 => ∃ v, vs = [v] ∧ ∀ d, H1 d = none → Q (.ref C) (some d) (upd H1 d (.xd [(f, v)]))
theorem relO_one {v : V} {u : Value} {f : Str} (r : RelV v u) (g : Str) : RelO (List.lookup g [(f, v)]) (if g = f then some u else none) := by
  by_cases hw : g = f
  · subst hw
    rw [if_pos rfl, show List.lookup g [(g, v)] = some v by simp [List.lookup]]
    exact r
  · rw [if_neg hw, show List.lookup g [(f, v)] = none by simp [List.lookup, show (g == f) = false by simpa using hw]]
    trivial
theorem pmk_sup {a : Expr} {ta : TA} {p pos : Pos} {k : Nat} (T : SupX.SupTxt X.prog X.K X.mg C fI cn f B newId initId bmB) (hr : Room k X.A) (ha : PA X [a] ta) (hg : Gl X cn) (hdb : (cn == ("__debug__" : Str)) = false := by decide)
    (he : starEach (a :: []) X.env = (false, eval a X.env) :: starEach [] X.env := by rfl) (hpl : (backTo pos (starEach [] X.env)).any (·.1) = false := by rfl) : PMk X (.Call (.Name cn p) [a] [] pos) (tMkS C f ta) := by
  intro pins s σ H Q I h
  refine wpAny_Call_Name_kw (ld_glob I hg T.gC ?_ hdb)
  refine PySem.W.callWith_K (h₀ := X.base) I.ok.mod.kin T.kC (thn (ha.run pos pins s σ H _ I h) fun us s1 ⟨vs, H1, I1, r1, v, ev, q1⟩ => ⟨I1.kIn, ?_⟩) he hpl
  subst ev
  obtain ⟨v', rfl, rv⟩ : ∃ v', us = [v'] ∧ RelV v v' := by
    cases r1 with
    | cons r rr => cases rr; exact ⟨_, rfl, r⟩
  · show wpAny _ _ (call (.ref C) [v']) _ _ _
    have mod := I1.mod
    have bk := I1.bk
    obtain ⟨hp, g, dr, tk, os⟩ := s1
    refine wpAny_call (SupX.sup_made T mod bk (by have := hr.dp; omega) fun h' tk' e d M => ?_)
    show MkP X pins σ Q (.ref e) ⟨h', g, dr, tk', os⟩
    obtain ⟨t, ho⟩ := M.obj
    obtain ⟨G', g1, g2⟩ := restrict h' fun b => decide (b ≠ e)
    have gk : ∀ b, b ≠ e → G'.get? b = h'.get? b := fun b hb => g1 b (decide_eq_true hb)
    have ge : G'.get? e = none := g2 e (by simp)
    have old : ∀ b o, hp.get? b = some o → G'.get? b = some o := fun b o q => (gk b (Nat.ne_of_lt (Nat.lt_of_lt_of_le (Heap.lt_size q) M.new))).trans (M.keep b o q)
    have J : Inv X pins σ (upd H1 d (.xd [(f, v)])) ⟨G', g, dr, tk', os⟩ := I1.laid (t' := tk') old M.dbig ⟨_, M.ns.at (fun o q => (gk d M.dne).trans q), fun g => relO_one rv g⟩
    refine ⟨e, _, _, ⟨G', g, dr, tk', os⟩, _, .ref C, some d, rfl, J, fun b o q => ?_, ge, ho, ⟨rfl, rfl⟩, rfl, rfl, ?_, rfl, I1.bare, raises_own T.exC T.tyC, q1 d (I1.hok.fresh M.dbig)⟩
    · by_cases hb : b = e
      · have q : G'.get? b = some o := q
        rw [hb, ge] at q; cases q
      · exact (gk b hb).symm.trans q
    · rw [upd_ne (Ne.symm M.dne)]
      exact I1.hok.fresh M.new
/-- an exception that keeps its argument -/
def xArg (k : Nat) (e : Sl → M CV) : Sl → M Exn := fun τ => bnd (e τ) fun x => ret ⟨k, [x]⟩
theorem sx_sup {G : Cfg} {W : WX} {a : Expr} {me : Sl → M CV} {p pos : Pos} {k j : Nat} (T : SupX.SupTxt X.prog X.K X.mg C fI cn f B newId initId bmB) (hr : Room j X.A) (hk : G.cls k = C) (hf : G.fld k = [f]) (ha : SE G W X a me) (hg : Gl X cn) (hdb : (cn == ("__debug__" : Str)) = false := by decide)
    (he : starEach (a :: []) X.env = (false, eval a X.env) :: starEach [] X.env := by rfl) (hpl : (backTo pos (starEach [] X.env)).any (·.1) = false := by rfl) : SX G W X (.Call (.Name cn p) [a] [] pos) (xArg k me) := by
  intro pins s σ H Q I h
  refine pmk_sup T hr (pa_cons ha pa_nil he) hg hdb he hpl pins s σ H Q I ?_
  obtain ⟨ρ, h, τ, m, s, p⟩ := h
  refine ⟨ρ, h, τ, m, s, ?_⟩
  unfold xArg at p
  cases e : me τ h with
  | ok x h1 =>
    simp only [bnd, e] at p
    intro ρ1 H1 u m1 e1 r1
    refine ⟨u, rfl, fun d hd => p ρ1 _ _ _ (m1.laid hd) (e1.trans (Ext.laid hd)) ⟨by rw [hk], .inr ⟨d, _, rfl, upd_same, by rw [hf]; rfl, u, [], rfl, r1.ext m1 (Ext.laid hd), rfl⟩⟩⟩
  | exc x h1 => simp only [bnd, e] at p; exact p
  | bad => simp only [bnd, e] at p
end
end VE

noncomputable section
namespace VE
open PySem PySem.Spec PyProof.Rows L2
abbrev Cl := Value × Option Nat × (Addr → Value → Option Addr → TS)
/-- the ends, with slot i emptied -/
def offAt (i : Nat) (D : Ends) : Ends := ⟨fun σ H => D.nx (σ.set i none) H, D.rt, fun σ H => D.bk (σ.set i none) H, fun σ H => D.ct (σ.set i none) H⟩
def wMix (K : PySem.W.Frag) (Wo : WX) (D : Ends) : List Cl → WX
  | [] => Wo
  | (c, none, ts) :: r => fun cls d σ H => ∃ b, PySem.W.exmOne K cls c = some b ∧ (b = true → ∀ a, H a = none → ts a cls d D σ H) ∧ (b = false → wMix K Wo D r cls d σ H)
  | (c, some i, ts) :: r => fun cls d σ H => ∃ b, PySem.W.exmOne K cls c = some b ∧ (b = true → ∀ a, H a = none → ts a cls d (offAt i D) (σ.set i (some (.ref a))) H) ∧ (b = false → wMix K Wo D r cls d σ H)
/-- the suite of a clause, the exception at a -/
def SuOk (X : Cx) (su : List Stmt) (ts : Addr → Value → Option Addr → TS) : Prop :=
  ∀ (a : Addr) (oe : Obj) (cls : Value) (d : Option Addr) (pn : List (Addr × Obj)), Zc cls d oe → (∃ vs, oe.data = .fields vs) → PSs (X.suite a ((a, oe) :: pn)) su (ts a cls d)
inductive ClsOk (X : Cx) : List ExceptHandler → List Cl → Prop
  | nil : ClsOk X [] []
  | bare {x : Str} {c : Value} {ts : Addr → Value → Option Addr → TS} {b₀ : Stmt} {su : List Stmt} {np ps : Pos} {hs : List ExceptHandler} {l : List Cl} (hc : Names X x c) (hu : SuOk X (b₀ :: su) ts) (r : ClsOk X hs l) :
      ClsOk X (.ExceptHandler (some (.Name x np)) none (b₀ :: su) ps :: hs) ((c, none, ts) :: l)
  | named {x n : Str} {i : Nat} {c : Value} {ts : Addr → Value → Option Addr → TS} {b₀ : Stmt} {su : List Stmt} {np ps : Pos} {hs : List ExceptHandler} {l : List Cl} (hc : Names X x c) (hN : X.N.Nodup) (hi : X.N[i]? = some n) (hn : X.env.kindOf n = some .local)
      (hu : SuOk X (b₀ :: su) ts) (r : ClsOk X hs l) : ClsOk X (.ExceptHandler (some (.Name x np)) (some n) (b₀ :: su) ps :: hs) ((c, some i, ts) :: l)
section
variable {X : Cx} {body : List Stmt} {e₀ : ExceptHandler} {es : List ExceptHandler} {l : List Cl} {pos : Pos} {tb : WX → TS} {Wo : WX}
/-- an exception in the air of X, at a, noted and unset; sI: the state without it -/
structure Air (X : Cx) (pins : List (Addr × Obj)) (B : Heap) (a : Addr) (cls : Value) (d : Option Addr) (σ : L2.St) (H : Hp) (sI sx : Shared) : Prop where
  inv : Inv X pins σ H sI
  nb : ∀ b o, sI.heap.get? b = some o → b ∉ frs X.stack → B.get? b = some o
  up : sI.heap.UpToSlots sx.heap
  fl : HandSPX.FlyingZ B (X.env :: X.outer) a (Zc cls d) sx.heap
  na : H a = none
  os : sx.os = sI.os
  ag : AllBare sx.gens
variable {pins : List (Addr × Obj)} {B : Heap} {a : Addr} {cls : Value} {d : Option Addr} {σ : L2.St} {H : Hp} {sI sx : Shared} {D : Ends}
theorem Air.next (A : Air X pins B a cls d σ H sI sx) {h : Heap} (fl : HandSPX.FlyingZ B (X.env :: X.outer) a (Zc cls d) h) (up : sx.heap.UpToSlots h) : Air X pins B a cls d σ H sI { sx with heap := h } :=
  ⟨A.inv, A.nb, A.up.trans up, fl, A.na, A.os, A.ag⟩
/-- the state within a clause -/
theorem Air.inside (A : Air X pins B a cls d σ H sI sx) (hf : X.env.frame = some X.env.locals) : ∃ oe, Zc cls d oe ∧ (∃ vs, oe.data = .fields vs) ∧ sx.heap.get? a = some oe ∧ Inv (X.suite a ((a, oe) :: (X.pn ++ pins))) [] σ H sx := by
  obtain ⟨oe, vs, at_, z, dt⟩ := A.fl.there
  have out : a ∉ frs (X.env :: X.outer) := fun m => by
    obtain ⟨_, o, e, n⟩ := A.fl.2.2.1.mem m
    rw [at_] at e
    cases e
    exact n _ dt
  refine ⟨oe, z, ⟨vs, dt⟩, at_, (A.inv.landed A.nb A.fl.1 A.up A.os A.ag).suite at_ dt A.na (fun q => out ?_) fun m => out ?_⟩
  · exact List.mem_filterMap.mpr ⟨X.env, List.mem_cons_self, by rw [hf, q]⟩
  · obtain ⟨v, m1, m2⟩ := List.mem_filterMap.mp m
    exact List.mem_filterMap.mpr ⟨v, List.mem_cons_of_mem _ m1, m2⟩
/-- the name in a clause's head, asked within -/
theorem head_name {x : Str} {c : Value} {np : Pos} (hc : Names X x c) {oe : Obj} {Q : Value → Shared → Prop} {E : Value → Shared → Prop} (S : Inv (X.suite a ((a, oe) :: (X.pn ++ pins))) [] σ H sx) (q : Q c sx) :
    wpAny (model X.prog X.w) (X.A.mark (some (.ref a))) (eval (.Name x np) X.env) Q E sx := by
  obtain ⟨hg, hdb, q1 | ⟨q1, q2, q3⟩⟩ := hc
  · exact ld_glob (X := X.suite a ((a, oe) :: (X.pn ++ pins))) S hg q1 q hdb
  · exact ld_blt (X := X.suite a ((a, oe) :: (X.pn ++ pins))) S hg q1 q2 q q3 hdb
theorem Air.clauses (hs : X.stack = X.env :: X.outer) (hf : X.env.frame = some X.env.locals) (tk : Takes X Wo) (ok : X.Ok) : ∀ {hds : List ExceptHandler} {l : List Cl}, ClsOk X hds l → ∀ {sx : Shared}, Air X pins B a cls d σ H sI sx → wMix X.K Wo D l cls d σ H →
    wpAny (model X.prog X.w) X.A (handleBy (.ref a) X.env hds) (SP X pins D) X.xe sx := by
  intro hds l hk
  induction hk with
  | nil =>
    intro sx A w
    refine wpAny_handleBy_nil ?_
    obtain ⟨_, _, _, oe, vs, T, oT, ts, he, _, hd, h1, _⟩ := id A.fl
    unfold PySem.passOn
    refine wpAny_bind (wpAny_field he hd h1 ?_)
    rw [if_neg (show ¬ ((Value.ref T == Value.none) = true) by simp)]
    have out : wpAny (model X.prog X.w) X.A (setFlight (.ref a) X.env.frame) (fun _ s4 => wpAny (model X.prog X.w) X.A (throw (.ref a) : Sem Flow) (SP X pins D) X.xe s4) X.xe sx := by
      rw [hf]
      exact HandSPX.setFlight_upZ A.fl fun h4 hh up => wpAny_throw (tk _ _ ⟨a, B, sI, pins, σ, H, cls, d, rfl, A.inv, A.nb, A.up.trans up, .inr (.inr (hs ▸ hh)), A.na, A.os, A.ag, w⟩)
    first | exact wpAny_bind (wpAny_pure (wpAny_bind out)) | exact wpAny_bind out
  | @bare x c ts b₀ su np ps hds2 l2 hc hu r ih =>
    intro sx A w
    obtain ⟨b, hb, yes, no⟩ := w
    obtain ⟨oe, z, dt, at_, S⟩ := A.inside hf
    refine wpAny_handleBy_cons (codeAny_handlers_test (head_name hc S ?_)) (fun q => nomatch q)
    have ty : PySem.W.Looks (model X.prog X.w) sx.heap (typeOf (.ref a)) cls := fun A Q E s k q => wpAny_typeOf_ref (k _ _ at_) (z.1 ▸ q)
    refine (PySem.W.exm_one (M := model X.prog X.w) S.kIn ty hb).here ?_
    cases b with
    | false => exact ih A (no rfl)
    | true =>
      refine codeAny_handlers_suite (HandSPX.lands_againZ A.fl fun h4 fl4 up4 => ?_)
      have A4 := A.next fl4 up4
      obtain ⟨oe4, z4, dt4, _, S4⟩ := A4.inside hf
      refine wpAny_mono ((hu a oe4 cls d (X.pn ++ pins) z4 dt4).run [] _ _ H _ S4 (yes rfl a A.na)) (fun f s6 q => ?_) (fun _ _ q => False.elim q)
      cases f with
      | ret u => obtain ⟨v, σ6, H6, S6, rv, q6⟩ := q; exact ⟨v, σ6, H6, S6.unsuite ok, rv, q6⟩
      | next => obtain ⟨σ6, H6, S6, q6⟩ := q; exact ⟨σ6, H6, S6.unsuite ok, q6⟩
      | brk => obtain ⟨σ6, H6, S6, q6⟩ := q; exact ⟨σ6, H6, S6.unsuite ok, q6⟩
      | cont => obtain ⟨σ6, H6, S6, q6⟩ := q; exact ⟨σ6, H6, S6.unsuite ok, q6⟩
  | @named x n i c ts b₀ su np ps hds2 l2 hc hN hi hn hu r ih =>
    intro sx A w
    obtain ⟨b, hb, yes, no⟩ := w
    obtain ⟨oe, z, dt, at_, S⟩ := A.inside hf
    refine wpAny_handleBy_cons (codeAny_handlers_test (head_name hc S ?_)) (fun q => nomatch q)
    have ty : PySem.W.Looks (model X.prog X.w) sx.heap (typeOf (.ref a)) cls := fun A Q E s k q => wpAny_typeOf_ref (k _ _ at_) (z.1 ▸ q)
    refine (PySem.W.exm_one (M := model X.prog X.w) S.kIn ty hb).here ?_
    cases b with
    | false => exact ih A (no rfl)
    | true =>
      refine codeAny_handlers_suite_as (HandSPX.lands_againZ A.fl fun h4 fl4 up4 => ?_)
      have A4 := A.next fl4 up4
      obtain ⟨oe4, z4, dt4, _, S4⟩ := A4.inside hf
      refine store_ok (X := X.suite a ((a, oe4) :: (X.pn ++ pins))) (v := .ref a) S4 hN hi (.inl hn) rfl (fun s5 S5 => ?_) (.inr hn)
      refine wpAny_mono ((hu a oe4 cls d (X.pn ++ pins) z4 dt4).run [] s5 _ H _ S5 (yes rfl a A.na)) (fun f s6 q => ?_) (fun _ _ q => False.elim q)
      cases f with
      | ret u => obtain ⟨v, σ6, H6, S6, rv, q6⟩ := q; exact gone_ok (S6.unsuite ok) hN hi hn fun s7 J => ⟨v, _, H6, J, rv, q6⟩
      | next => obtain ⟨σ6, H6, S6, q6⟩ := q; exact gone_ok (S6.unsuite ok) hN hi hn fun s7 J => ⟨_, H6, J, q6⟩
      | brk => obtain ⟨σ6, H6, S6, q6⟩ := q; exact gone_ok (S6.unsuite ok) hN hi hn fun s7 J => ⟨_, H6, J, q6⟩
      | cont => obtain ⟨σ6, H6, S6, q6⟩ := q; exact gone_ok (S6.unsuite ok) hN hi hn fun s7 J => ⟨_, H6, J, q6⟩
theorem ps_tryMix (hs : X.stack = X.env :: X.outer) (hf : X.env.frame = some X.env.locals) (tk : Takes X Wo)
    (hb : ∀ (W : WX) (pn : List (Addr × Obj)) (xe : Value → Shared → Prop), Takes (X.tr pn xe) W → PassesOwn (model X.prog X.w) X.A X.env xe → PSs (X.tr pn xe) body (tb W)) (hh : ClsOk X (e₀ :: es) l) :
    PS X (.Try body (e₀ :: es) [] [] pos) (fun D σ H => tb (wMix X.K Wo D l) D σ H) := by
  refine ⟨fun pins s σ H D I h => wpAny_Try_except ?_⟩
  have ok := I.ok
  have fr : X.A.frames = some (X.env :: X.outer) := hs ▸ ok.frames
  refine wpAny_mono ((hb (wMix X.K Wo D l) (X.pn ++ pins) _ (fun u s' xx => ?_) PassesOwn.looking).run [] s σ H D (I.toTry _) h) (fun f s1 q => ?_) (fun e s1 he => he)
  · obtain ⟨a, B, sI, _, σ', H', cls, d, rfl, J, nb, up, sky, na, os, ag, w⟩ := xx
    show wpAny (model X.prog X.w) X.A (noteFrame (.ref a) X.env) _ _ s'
    exact Sky.land Zc.steady fr hf (show Sky B (X.env :: X.outer) a (Zc cls d) X.env.locals s'.heap from hs ▸ sky) fun h3 fl3 up3 =>
      Air.clauses (D := D) hs hf tk ok hh (sx := { s' with heap := h3 }) ⟨J.ofTry ok, nb, up.trans up3, fl3, na, os, ag⟩ w
  · cases f with
    | next => obtain ⟨σ', H', J, q⟩ := q; exact wpAny_execs_nil ⟨σ', H', J.ofTry ok, q⟩
    | brk => obtain ⟨σ', H', J, q⟩ := q; exact ⟨σ', H', J.ofTry ok, q⟩
    | cont => obtain ⟨σ', H', J, q⟩ := q; exact ⟨σ', H', J.ofTry ok, q⟩
    | ret u => obtain ⟨v, σ', H', J, r, q⟩ := q; exact ⟨v, σ', H', J.ofTry ok, r, q⟩
end
end VE

noncomputable section
namespace VE
open PySem PySem.Spec PyProof.Rows L2
/-- the same, with other things at hand -/
def Cfg.sw (G : Cfg) (e : Option XI) (l : Option LI) : Cfg := { G with exi := e, lam := l }
abbrev Cfg.hold (G : Cfg) (e : Option XI) : Cfg := G.sw e G.lam
section
variable {G : Cfg} {ρ : Wd} {H : Hp} {e : Option XI} {l : Option LI} {h : Mem}
mutual
theorem ValR.sw : ∀ {x : CV} {v : V}, ValR G ρ H x v → ValR (G.sw e l) ρ H x v
  | .non, _, r => r
  | .bl _, _, r => r
  | .int _, _, r => r
  | .str _, _, r => r
  | .cls _, _, r => r
  | .fn _, _, r => r
  | .ty _, _, r => r
  | .ref l, _, r => r
  | .tup xs, _, ⟨x, ys, e, s, r⟩ => ⟨x, ys, e, s, ValsR.sw r⟩
  | .lst xs, _, ⟨x, ys, e, n, s, r⟩ => ⟨x, ys, e, n, s, ValsR.sw r⟩
  | .frz xs, _, ⟨x, ys, e, s, r⟩ => ⟨x, ys, e, s, ValsR.sw r⟩
  | .ins k xs, _, ⟨x, dx, us, e, n, nd, s, f, r⟩ => ⟨x, dx, us, e, n, nd, s, f, ValsR.sw r⟩
  | .dic n ks vs, _, ⟨x, ob, e, nh, p1, p2⟩ => ⟨x, ob, e, nh, fun z => let ⟨es, us, ws, q1, q2, q3, q4, q5, q6⟩ := p1 z; ⟨es, us, ws, q1, q2, q3, q4, ValsR.sw q5, ValsR.sw q6⟩,
      fun z => let ⟨es, ws, q1, q2, q3, q4⟩ := p2 z; ⟨es, ws, q1, q2, q3, ValsR.sw q4⟩⟩
theorem ValsR.sw : ∀ {xs : List CV} {vs : List V}, ValsR G ρ H xs vs → ValsR (G.sw e l) ρ H xs vs
  | [], _, r => r
  | x :: xs, _, ⟨y, r, q, z, s⟩ => ⟨y, r, q, ValR.sw z, ValsR.sw s⟩
end
theorem ObjR.sw {co : CO} {a : Addr} (r : ObjR G ρ H co a) : ObjR (G.sw e l) ρ H co a := by
  cases co with
  | lst xs => obtain ⟨ys, w, z⟩ := r; exact ⟨ys, w, z.sw⟩
  | dic lk n ks vs =>
    obtain ⟨u, q1, q2, d⟩ := r
    exact ⟨u, q1, q2, fun z => let ⟨es, w1, w2, w3, w4⟩ := d.1 z; ⟨es, w1, w2, w3.sw, w4.sw⟩, fun z => let ⟨es, w1, w2, w3⟩ := d.2 z; ⟨es, w1, w2, w3.sw⟩⟩
  | ins k xs => obtain ⟨dx, us, w, nd, f, z⟩ := r; exact ⟨dx, us, w, nd, f, z.1, fun i v q => let ⟨u, a, b⟩ := z.2 i v q; ⟨u, a, b.sw⟩⟩
  | none_ => exact r.elim
theorem ExcR.sw {x : Exn} {c : Value} {d : Option Addr} (r : ExcR G ρ H x c d) : ExcR (G.sw e l) ρ H x c d := ⟨r.1, r.2.elim .inl fun ⟨da, fs, e1, e2, e3, e4⟩ => .inr ⟨da, fs, e1, e2, e3, e4.sw⟩⟩
theorem SlV.sw {τ : Sl} {σ : L2.St} (r : SlV G ρ H τ σ) : SlV (G.sw e l) ρ H τ σ := ⟨r.1, fun i v q => let ⟨u, a, b⟩ := r.2 i v q; ⟨u, a, b.sw⟩⟩
theorem MemR.sw (m : MemR G ρ h H) (hx : ∀ x, e = some x → ExcR G ρ H x.x x.cls x.d) (hl : ∀ L, l = some L → SlV G ρ H L.τ L.σ ∧ H L.c = some (LamX.CodeO L.c L.q)) : MemR (G.sw e l) ρ h H :=
  ⟨m.len, m.nd, fun i a co e1 e2 => (m.obj i a co e1 e2).sw, m.hid, m.tab, fun x he => (hx x he).sw, fun L he => ⟨(hl L he).1.sw, (hl L he).2⟩⟩
theorem MemR.hold (m : MemR G ρ h H) (hx : ∀ x, e = some x → ExcR G ρ H x.x x.cls x.d) : MemR (G.hold e) ρ h H := m.sw hx m.lam
theorem hold_self (h : G.exi = e) : G.hold e = G := by subst h; rfl
end
/-- a clause: which classes it meets; its name's slot; its suite -/
abbrev Hd := (Nat → Option Bool) × Option Nat × (Exn → MS)
/-- behind a suite its name is gone -/
def offS (i : Nat) (o : OS) : OS := OS.rec (fun f h => Fl.rec (fun τ => sset τ i none fun τ => .mk (.nx τ) h) (fun v => .mk (.rt v) h) (fun τ => sset τ i none fun τ => .mk (.bk τ) h) (fun τ => sset τ i none fun τ => .mk (.ct τ) h) (fun _ _ => .bad) f) .bad o
/-- a suite without a name -/
def onS (o : OS) : OS := OS.rec (fun f h => Fl.rec (fun τ => .mk (.nx τ) h) (fun v => .mk (.rt v) h) (fun τ => .mk (.bk τ) h) (fun τ => .mk (.ct τ) h) (fun _ _ => .bad) f) .bad o
def tryL (l : List Hd) (x : Exn) (τ : Sl) (h : Mem) : OS := List.rec (.mk (.ex x τ) h) (fun c _ ih => Option.rec .bad (fun b => Bool.rec ih (Option.rec (onS (c.2.2 x τ h)) (fun i => Option.rec .bad (fun _ => sset τ i none fun τ => offS i (c.2.2 x τ h)) (sget τ i)) c.2.1) b) (c.1 x.cls)) l
def mTry (b : MS) (l : List Hd) : MS := fun τ h => OS.rec (fun f h' => Fl.rec (fun τ' => .mk (.nx τ') h') (fun v => .mk (.rt v) h') (fun τ' => .mk (.bk τ') h') (fun τ' => .mk (.ct τ') h') (fun x τ' => tryL l x τ' h') f) .bad (b τ h)
/-- a clause's text does what the clause does -/
structure HdOk (G : Cfg) (X : Cx) (t : ExceptHandler) (c : Hd) : Prop where
  ex : ∃ (x : Str) (v : Value) (n : Option Str) (b₀ : Stmt) (su : List Stmt) (np ps : Pos), t = .ExceptHandler (some (.Name x np)) n (b₀ :: su) ps ∧ Names X x v ∧ (∀ k b, c.1 k = some b → PySem.W.exmOne X.K (.ref (G.cls k)) v = some b) ∧
    match c.2.1 with
    | none => n = none ∧ ∀ (a : Addr) (oe : Obj) (cls : Value) (d : Option Addr) (pn : List (Addr × Obj)) (x : Exn), SSs G W0 (X.suite a ((a, oe) :: pn)) (b₀ :: su) (c.2.2 x)
    | some i => X.N.Nodup ∧ G.fr i = true ∧ (∃ y, n = some y ∧ X.N[i]? = some y ∧ X.env.kindOf y = some .local) ∧
        ∀ (a : Addr) (oe : Obj) (cls : Value) (d : Option Addr) (pn : List (Addr × Obj)) (x : Exn), Zc cls d oe → (∃ vs, oe.data = .fields vs) → SSs (G.hold (some ⟨i, a, cls, d, x⟩)) W0 (X.suite a ((a, oe) :: pn)) (b₀ :: su) (c.2.2 x)
inductive HdsA (G : Cfg) (X : Cx) : List ExceptHandler → List Hd → Prop
  | nil : HdsA G X [] []
  | cons {t : ExceptHandler} {c : Hd} {ts : List ExceptHandler} {cs : List Hd} : HdOk G X t c → HdsA G X ts cs → HdsA G X (t :: ts) (c :: cs)
theorem pss_ex {X : Cx} {su : List Stmt} {α : Type} {t : α → TS} (h : ∀ x, PSs X su (t x)) : PSs X su (fun D σ H => ∃ x, t x D σ H) := ⟨fun pins s σ H D I ⟨x, q⟩ => (h x).run pins s σ H D I q⟩
section
variable {G : Cfg} {W : WX} {X : Cx}
theorem SlR.holdOff {ρ : Wd} {H : Hp} {τ : Sl} {σ : L2.St} {e : XI} (hx : G.exi = none) (s : SlR (G.hold (some e)) ρ H τ σ) (i : Nat) (hf : G.fr i = true) : SlR G ρ H (τ.set i none) (σ.set i none) := by
  have b : G = (G.hold (some e)).hold none := (hold_self hx).symm
  have s' : SlR G ρ H τ σ := ⟨s.1, fun j v q => let ⟨u, z, r⟩ := s.2.1 j v q; ⟨u, z, b ▸ r.sw⟩, fun e he => by (rw [hx] at he; cases he), s.2.2.2⟩
  exact s'.unset i hf
theorem try_cl (hx : G.exi = none) : ∀ {ts : List ExceptHandler} {cs : List Hd}, HdsA G X ts cs → ∃ l : List Cl, ClsOk X ts l ∧ ∀ (D : Ends) (x : Exn) (τ : Sl) (h : Mem) (ρ : Wd) (H : Hp) (c : Value) (d : Option Addr) (σ : L2.St), MemR G ρ h H → SlR G ρ H τ σ → ExcR G ρ H x c d → PostS G W ρ H (tryL cs x τ h) D → wMix X.K W D l c d σ H := by
  intro ts cs hk
  induction hk with
  | nil => exact ⟨[], .nil, fun D x τ h ρ H c d σ m s r p => p ρ H c d σ m Ext.refl s r⟩
  | @cons t c ts cs hc _ ih =>
    obtain ⟨l, ok, ih⟩ := ih
    obtain ⟨x, v, n, b₀, su, np, ps, rfl, hn, hm, hb⟩ := hc.ex
    obtain ⟨mt, sl, f⟩ := c
    have b0 : ∀ e, G = (G.hold (some e)).hold none := fun e => (hold_self hx).symm
    cases sl with
    | none =>
      obtain ⟨rfl, hb⟩ := hb
      refine ⟨(v, none, fun a cls d D σ H => ∃ x, tS G W0 (f x) D σ H) :: l, .bare hn (fun a oe cls d pn _ _ => pss_ex fun x => hb a oe cls d pn x) ok, fun D x τ h ρ H c d σ m s r p => ?_⟩
      have p : PostS G W ρ H (Option.rec .bad (fun b => Bool.rec (tryL cs x τ h) (onS (f x τ h)) b) (mt x.cls)) D := p
      cases q : mt x.cls with
      | none => rw [q] at p; exact p.elim
      | some b =>
        rw [q] at p
        refine ⟨b, by rw [r.1]; exact hm _ _ q, fun hb' a na => ⟨x, ρ, h, τ, m, s, ?_⟩, fun hb' => ih D x τ h ρ H c d σ m s r (by subst hb'; exact p)⟩
        subst hb'
        have p : PostS G W ρ H (onS (f x τ h)) D := p
        unfold onS at p
        cases q2 : f x τ h with
        | bad => rw [q2] at p; exact p
        | mk fl h2 =>
          rw [q2] at p
          cases fl with
          | ex y τ2 => exact p.elim
          | _ => exact p
    | some i =>
      obtain ⟨nd, hfi, ⟨y, rfl, hi, hl⟩, hb⟩ := hb
      refine ⟨(v, some i, fun a cls d D σ H => ∃ x, tS (G.hold (some ⟨i, a, cls, d, x⟩)) W0 (f x) D σ H) :: l, .named hn nd hi hl (fun a oe cls d pn z1 z2 => pss_ex fun x => hb a oe cls d pn x z1 z2) ok, fun D x τ h ρ H c d σ m s r p => ?_⟩
      have p : PostS G W ρ H (Option.rec .bad (fun b => Bool.rec (tryL cs x τ h) (Option.rec .bad (fun _ => sset τ i none fun τ => offS i (f x τ h)) (sget τ i)) b) (mt x.cls)) D := p
      cases q : mt x.cls with
      | none => rw [q] at p; exact p.elim
      | some b =>
        rw [q] at p
        refine ⟨b, by rw [r.1]; exact hm _ _ q, fun hb' a na => ?_, fun hb' => ih D x τ h ρ H c d σ m s r (by subst hb'; exact p)⟩
        subst hb'
        have p : PostS G W ρ H (Option.rec .bad (fun _ => sset τ i none fun τ => offS i (f x τ h)) (sget τ i)) D := p
        rw [sget_eq] at p
        cases qi : τ[i]? with
        | none => rw [qi] at p; exact p.elim
        | some _ =>
          rw [qi] at p
          have p : PostS G W ρ H (sset τ i none fun τ => offS i (f x τ h)) D := p
          rw [sset_eq] at p
          have il : i < τ.length := (List.getElem?_eq_some_iff.mp qi).1
          refine ⟨x, ρ, h, τ.set i none, m.hold fun z hz => by cases hz; exact r, ⟨by simpa using s.1, fun j w e => ?_, fun z hz => by (cases hz; exact List.getElem?_set_self (by rw [← s.1]; exact il)), fun L hL => by rw [List.getElem?_set_ne (fr_ne0 hfi hL)]; exact s.2.2.2 L hL⟩, ?_⟩
          · by_cases hj : i = j
            · subst hj; rw [List.getElem?_set_self il] at e; cases e
            · rw [List.getElem?_set_ne hj] at e
              obtain ⟨u, z1, z2⟩ := s.2.1 j w e
              exact ⟨u, by rw [List.getElem?_set_ne hj]; exact z1, z2.sw⟩
          · unfold offS at p
            cases q2 : f x (τ.set i none) h with
            | bad => rw [q2] at p; exact p
            | mk fl h2 =>
              rw [q2] at p
              have mb : ∀ {ρ1 H1}, MemR (G.hold (some ⟨i, a, c, d, x⟩)) ρ1 h2 H1 → MemR G ρ1 h2 H1 := fun m1 => by rw [b0 ⟨i, a, c, d, x⟩]; exact m1.hold fun z hz => by cases hz
              cases fl with
              | nx τ2 => simp only [sset_eq] at p; exact fun ρ1 H1 σ1 m1 e1 s1 => p ρ1 H1 _ (mb m1) e1 (s1.holdOff hx i hfi)
              | bk τ2 => simp only [sset_eq] at p; exact fun ρ1 H1 σ1 m1 e1 s1 => p ρ1 H1 _ (mb m1) e1 (s1.holdOff hx i hfi)
              | ct τ2 => simp only [sset_eq] at p; exact fun ρ1 H1 σ1 m1 e1 s1 => p ρ1 H1 _ (mb m1) e1 (s1.holdOff hx i hfi)
              | rt v => exact fun ρ1 H1 u m1 e1 r1 => p ρ1 H1 u (mb m1) e1 (by rw [b0 ⟨i, a, c, d, x⟩]; exact r1.sw)
              | ex x2 τ2 => exact p.elim
theorem ss_try {body : List Stmt} {t : ExceptHandler} {ts : List ExceptHandler} {cs : List Hd} {mb : MS} {pos : Pos} (B : Bx G W X) (hx : G.exi = none) (hs : X.stack = X.env :: X.outer) (hf : X.env.frame = some X.env.locals)
    (hb : ∀ (W' : WX) (pn : List (Addr × Obj)) (xe : Value → Shared → Prop), Bx G W' (X.tr pn xe) → PassesOwn (model X.prog X.w) X.A X.env xe → SSs G W' (X.tr pn xe) body mb) (hh : HdsA G X (t :: ts) cs) : SS G W X (.Try body (t :: ts) [] [] pos) (mTry mb cs) := by
  obtain ⟨l, ok, cl⟩ := try_cl (W := W) hx hh
  refine (ps_tryMix (tb := fun W' => tS G W' mb) hs hf B.tk (fun W' pn xe tk po => hb W' pn xe ⟨B.k, B.p, B.w, tk⟩ po) ok).wk fun D σ H ⟨ρ, h, τ, m, s, p⟩ => ⟨ρ, h, τ, m, s, ?_⟩
  unfold mTry at p
  cases q : mb τ h with
  | bad => rw [q] at p; exact p
  | mk f h' =>
    rw [q] at p
    cases f with
    | ex x τ' => exact fun ρ1 H1 c d σ1 m1 e1 s1 r1 => cl D x τ' h' ρ1 H1 c d σ1 m1 s1 r1 (PostS.ext (G := G) (W := W) p e1)
    | _ => exact p
/-- e.f in the suite that holds e; e's one field is f -/
def eXf (k : Nat) (x : Exn) : Sl → M CV := fun _ h => Bool.rec .bad (match x.args with
  | [v] => .ok v h
  | _ => .bad) (Nat.beq x.cls k)
theorem se_xf {a : Addr} {oe : Obj} {pn : List (Addr × Obj)} {C : Addr} {i k : Nat} {n y : Str} {x : Exn} {cls : Value} {d : Option Addr} {p pos : Pos} (G0 : Cfg) (T : XfC X.K C) (hK : G0.cls k = C) (hno : PySem.W.findIn X.K (.ref C) n = some none) (hz : Zc cls d oe) (hf : ∃ vs, oe.data = .fields vs)
    (hj : G0.fld k = [n]) (hN : X.N[i]? = some y) (hv : Vis X.env.scope y) (hd : (y == ("__debug__" : Str)) = false := by decide) (hcd : (y == ("__classdict__" : Str)) = false := by decide)
    (hb : attributeBase (.Name y p) n X.env (eval (.Name y p) X.env) = eval (.Name y p) X.env := by rfl) :
    SE (G0.hold (some ⟨i, a, cls, d, x⟩)) W (X.suite a ((a, oe) :: pn)) (.Attribute (.Name y p) n pos) (eXf k x) :=
  (pe_xf T hno hz hf (pe_var (X := X.suite a ((a, oe) :: pn)) hN hv hd hcd) hb).wk fun σ H Q ⟨ρ, h, τ, m, s, q⟩ => by
    unfold eXf at q
    cases hk : Nat.beq x.cls k with
    | false => rw [hk] at q; exact q.elim
    | true =>
      have ek : x.cls = k := Nat.eq_of_beq_eq_true hk
      rw [hk] at q
      have q : Post _ W (ValR _) σ ρ H (match x.args with | [v] => .ok v h | _ => .bad) Q := q
      split at q
      · rename_i v ha
        obtain ⟨ec, r⟩ := m.exc _ rfl
        have ec : cls = .ref (G0.cls x.cls) := ec
        refine ⟨_, s.2.2.1 _ rfl, rfl, by rw [ec, ek, hK], ?_⟩
        rcases r with r | ⟨da, fs, e1, e2, e3, e4⟩
        · have r : x.args = [] := r
          rw [ha] at r; cases r
        · have e3 : fs.map (·.1) = G0.fld x.cls := e3
          rw [ek, hj] at e3
          have e4 : ValsR _ ρ H x.args (fs.map (·.2)) := e4
          rw [ha] at e4
          match fs, e3, e4 with
          | [(g, u)], e3, e4 =>
            cases e3
            obtain ⟨w, t, z1, z2, z3⟩ := e4
            cases (show t = [] from z3)
            cases z1
            exact ⟨da, _, u, e1, e2, by simp [List.lookup], q ρ H u m Ext.refl z2⟩
      · exact q.elim
end
end VE

noncomputable section
namespace VE
open PySem PySem.Spec PyProof.Rows L2 LamX
section
variable {X : Cx} {pins : List (Addr × Obj)} {σ : L2.St} {H : Hp} {s : Shared}
/-- what a lambda's making leaves of the heap: its code's record is there already, or is laid and noted in the table -/
def LamH (P : Addr) (q : Str) (c' : Addr) (H H1 : Hp) : Prop := H1 = H ∨ ∃ ps ps', H P = some (.tbl ps) ∧ H c' = none ∧ H1 = upd (upd H P (.tbl ps')) c' (CodeO c' q)
theorem lam_made {T : List (Addr × Str)} {c P : Addr} {params : Arguments} {body : Expr} {scope : Scope} {pos : Pos} {q : Str} {E : Value → Shared → Prop} {Q : Value → Shared → Prop} (I : Inv X pins σ H s) (TB : TabB X.base X.mg c P) (hcode : X.env.code = .ref c) (eq : q = X.env.qual ++ "<lambda>")
    (hm : (P, q) ∈ T) (hu : ∀ p ∈ T, p.1 = P → p.2 = q) (hT : Tabs T H) (hdef : defaultsOf params X.env = ([], [])) (hfree : ∀ y ∈ scope.names, y.2 = .free → ∃ c, X.env.cells.lookup y.1 = some c)
    (h : ∀ (f c' : Addr) (pm ctv : Value) (H1 : Hp) (s' : Shared), Inv X pins σ H1 s' → LamH P q c' H H1 → Tabs T H1 → s'.heap.get? f = some (PySem.W.kla_obj "<lambda>" q params body scope (cloFrom X.env.cells scope.names []) pm c' ctv) → H1 f = none → f ∉ frs X.stack → H1 c' = some (CodeO c' q) → Q (.ref f) s') :
    wpAny (model X.prog X.w) X.A (eval (.Lambda params body scope pos) X.env) Q E s := by
  subst eq
  obtain ⟨ps, hP, ht, ha⟩ := hT _ hm
  have atP : s.heap.get? P = some { cls := .none, data := .fields ps } := I.hok P _ hP
  have nofr : ∀ f, s.heap.objs.size ≤ f → f ∉ frs X.stack := fun f hf z => (List.mem_cons.mp (I.stkSub _ z)).elim (fun e => absurd (e ▸ I.lt : f < s.heap.objs.size) (Nat.not_lt.mpr hf)) (fun e => I.nofs hf e)
  refine PySem.W.kla_eval hdef ?_
  cases hc : codeAmong pos ps.toList with
  | some cv =>
    obtain ⟨c', rfl, hco⟩ := ha pos cv hc
    refine PySem.W.kla_makeFunctionHit (mg := X.mg) (c := c) (P := P) (ps := ps) (closure_ok hfree) I.ok.glob (I.mod.glob.keeps I.bk) hcode (TB.code.keeps I.bk) atP ht hc (TB.bm.keeps I.bk) fun ctv h' tk hx hsz => ?_
    exact h h'.objs.size c' ((X.mg "__name__").getD .none) ctv H _ (I.kept (t' := tk) fun b o e => Heap.get?_push_of_some _ (hx b o e)) (.inl rfl) hT (Heap.get?_push_size _ rfl) (I.hok.fresh hsz) (nofr _ hsz) hco
  | none =>
    refine PySem.W.kla_makeFunction (mg := X.mg) (c := c) (P := P) (ps := ps) (closure_ok hfree) I.ok.glob (I.mod.glob.keeps I.bk) hcode (TB.code.keeps I.bk) atP ht hc TB.gP (TB.bm.keeps I.bk) fun c' ctv h' tk hx hge hlt hrec htb => ?_
    obtain ⟨c2, oc, vs, t, e2, hoc, hd, hv⟩ := hrec
    cases e2
    have sz : s.heap.objs.size ≤ h'.objs.size := Nat.le_trans hge (Nat.le_of_lt hlt)
    have nC : H c' = none := I.hok.fresh hge
    have J := inv_table (t' := tk) (more := #[rawInt pos.line, rawInt pos.col, .ref c']) (h' := h'.push (PySem.W.kla_obj "<lambda>" (X.env.qual ++ "<lambda>") params body scope (cloFrom X.env.cells scope.names []) ((X.mg "__name__").getD .none) c' ctv)) I hP
      (fun b o hb e => Heap.get?_push_of_some _ (hx b o hb e)) (Heap.get?_push_of_some _ htb) hge ⟨oc, vs, t, Heap.get?_push_of_some _ hoc, hd, hv⟩
    have kp : ∀ b c0 q0, H b = some (CodeO c0 q0) → upd (upd H P (.tbl (ps ++ #[rawInt pos.line, rawInt pos.col, .ref c']))) c' (CodeO c' (X.env.qual ++ "<lambda>")) b = some (CodeO c0 q0) := fun b c0 q0 e => by
      rw [upd_ne (ne_of_none e nC), upd_ne (ne_of e hP (codeO_ne ps))]; exact e
    refine h h'.objs.size c' ((X.mg "__name__").getD .none) ctv _ _ J (.inr ⟨ps, _, hP, nC, rfl⟩) (fun p hp => ?_) (Heap.get?_push_size _ rfl) ?_ (nofr _ sz) upd_same
    · by_cases hb : p.1 = P
      · have eL : (ps ++ #[rawInt pos.line, rawInt pos.col, .ref c']).toList = ps.toList ++ [rawInt pos.line, rawInt pos.col, .ref c'] := by simp
        rw [hu p hp hb, hb]
        refine ⟨_, by rw [upd_ne (ne_of_none hP nC), upd_same], eL ▸ PySem.TriplesOk_snoc _ _ _ _ ht, fun p' cv hcv => ?_⟩
        rw [eL] at hcv
        rcases among_app _ ht hcv with z | z
        · obtain ⟨c0, e1, e2⟩ := ha p' cv z
          exact ⟨c0, e1, kp _ _ _ e2⟩
        · exact ⟨c', z, upd_same⟩
      · obtain ⟨ps', a1, a2, a3⟩ := hT p hp
        refine ⟨ps', by rw [upd_ne (ne_of_none a1 nC), upd_ne hb]; exact a1, a2, fun p' cv hcv => ?_⟩
        obtain ⟨c0, e1, e2⟩ := a3 p' cv hcv
        exact ⟨c0, e1, kp _ _ _ e2⟩
    · rw [upd_ne (Nat.ne_of_gt hlt), upd_ne (Nat.ne_of_gt (Nat.lt_of_lt_of_le (Heap.lt_size atP) sz))]
      exact I.hok.fresh sz
end
theorem LamH.ext {G : Cfg} {ρ : Wd} {h : Mem} {P : Addr} {q : Str} {c' : Addr} {H H1 : Hp} (m : MemR G ρ h H) (l : LamH P q c' H H1) : Ext ρ H ρ H1 := by
  rcases l with rfl | ⟨ps, ps', hP, hc, rfl⟩
  · exact Ext.refl
  · exact ⟨rfl, fun _ _ e => e, fun a o e _ n => by rw [upd_ne (ne_of_none e hc), upd_ne (ne_of e hP (n ps))]; exact e,
      fun a ps2 e => by
        by_cases z : a = P
        · exact ⟨ps', by rw [z, upd_ne (ne_of_none hP hc), upd_same]⟩
        · exact ⟨ps2, by rw [upd_ne (ne_of_none e hc), upd_ne z]; exact e⟩, fun _ e => .inl e⟩
theorem LamH.mem {G : Cfg} {ρ : Wd} {h : Mem} {P : Addr} {q : Str} {c' : Addr} {H H1 : Hp} (m : MemR G ρ h H) (l : LamH P q c' H H1) (t : Tabs G.T H1) (hx : G.exi = none) (hy : G.lam = none) : MemR G ρ h H1 := by
  have ex := l.ext m
  have same : ∀ a o, H a = some o → MutO G a o → H1 a = H a := fun a o e mo => by
    rcases l with rfl | ⟨ps, ps', hP, hc, rfl⟩
    · rfl
    · rw [upd_ne (ne_of_none e hc), upd_ne (ne_of e hP (fun z => notMut_tbl (G := G) (a := a) (ps := ps) (z ▸ mo)))]
  refine ⟨m.len, m.nd, fun i a co e1 e2 => ?_, fun a ha => ?_, t, fun e he => by (rw [hx] at he; cases he), fun e he => by rw [hy] at he; cases he⟩
  · have r := m.obj i a co e1 e2
    obtain ⟨o, e, mo⟩ := r.there
    exact objR_ext m ex (same a o e mo) r
  · obtain ⟨⟨o, e, mo⟩, n⟩ := m.hid a ha
    exact ⟨⟨o, (same a o e mo).trans e, mo⟩, n⟩
end VE
noncomputable section
namespace VE
open PySem PySem.Spec PyProof.Rows L2 LamX
/-- the body of a def that got a lambda, at the lambda's behaviour; its slots are empty but for the lambda's -/
def endL (o : OS) : Out CV := OS.rec (fun f h' => Fl.rec (fun _ => .ok .non h') (fun v => .ok v h') (fun _ => .bad) (fun _ => .bad) (fun _ _ => .bad) f) .bad o
def eLam (nl : Nat) (b : M CV → MS) (mb : Sl → M CV) : Sl → M CV := fun τ h => endL (b (mb τ) (List.replicate nl none) h)
section
variable {G : Cfg} {W : WX} {X : Cx}
/-- the context of a def g that was called from X's code -/
abbrev gCx (X : Cx) (Ng : List Str) (qg : Str) (sg : Scope) (g : Addr) (cdg : Value) (s : Shared) (H : Hp) : Cx := cxOf C8.CX0 X.prog X.w X.K X.mg X.base Ng qg sg g cdg X.A X.stack s H C8.E0
theorem act_run {pins : List (Addr × Obj)} {σ : L2.St} {H : Hp} {s : Shared} {Ng : List Str} {qg : Str} {sg : Scope} {g f c' : Addr} {cdg pm ctv : Value} {params : Arguments} {body : Expr} {scope : Scope} {k i : Nat} {a q : Str} {pn : List (Addr × Obj)} {xe : Value → Shared → Prop} {W' : WX} {tb : XK → TE} {p1 p2 : Pos}
    (I : Inv X pins σ H s) (L : LamS X.env.scope scope) (eq : q = X.env.qual ++ "<lambda>") (hf : s.heap.get? f = some (PySem.W.kla_obj "<lambda>" q params body scope (cloFrom X.env.cells scope.names []) pm c' ctv)) (hfn : H f = none) (hfr : f ∉ frs X.stack)
    (hbind : bindArgs (PySem.W.kla_fn "<lambda>" q params body scope (cloFrom X.env.cells scope.names []) pm (.ref c') ctv) ⟨[], []⟩ = pure []) (tk : Takes ((gCx X Ng qg sg g cdg s H).tr pn xe) W') (hr : Room (k + 1) (X.A.deeper (envOfC qg sg s.heap.objs.size g cdg)))
    (hbody : ∀ (E : XK) (A : Around) (outer : List Env) (s : Shared) (H : Hp), A.guards = X.A.guards → Room k (A.deeper (lamEnv X scope s.heap.objs.size f c')) → PE (lamCx X A outer s H E scope f c') body (tb E))
    (hN : Ng[i]? = some a) (hv : Vis sg a) (hd : (a == ("__debug__" : Str)) = false := by decide) (hcd : (a == ("__classdict__" : Str)) = false := by decide) :
    PE ((gCx X Ng qg sg g cdg s H).tr pn xe) (.Call (.Name a p1) [] [] p2) (fun σZ HZ Q => σZ[i]? = some (some (.ref f)) ∧ HZ c' = some (CodeO c' q) ∧ tb (WE W' σZ) σ HZ Q) := by
  subst eq
  refine ⟨fun pinsZ sZ σZ HZ Q IZ ⟨at_, hc, ht⟩ => ?_⟩
  refine wpAny_Call_Name_kw (thn ((pe_var (pos := p1) (i := i) hN hv hd hcd).run pinsZ sZ σZ HZ (fun v H1 => v = .ref f ∧ H1 = HZ) IZ ⟨.ref f, at_, rfl, rfl⟩) fun u s1 ⟨v, H1, I1, r1, ev, eH⟩ => ?_)
  subst ev
  cases eH
  obtain rfl : u = Value.ref f := r1
  have of1 := I1.base.keep f _ hf hfn hfr (fun z => absurd (show f ∈ ([] : List Addr) from z) (by simp))
  refine PySem.W.callWith_F0 ⟨_, _, _, _, of1⟩ ?_
  obtain ⟨⟨oc, vs, t, hoc, hdc, hvc⟩, _, _⟩ := I1.hok c' _ hc
  have rc : codeAny (model X.prog X.w) (X.A.deeper (envOfC qg sg s.heap.objs.size g cdg)) (.call (.ref f) ⟨[], []⟩) (CR (L2.CX X.prog X.w) (envOfC qg sg s.heap.objs.size g cdg :: X.stack) X.prog X.w HZ s1 Q (WE W' σZ)) s1 := by
    refine PySem.W.kla_callFunE hr.depth of1 rfl L.co L.gen rfl ⟨c', oc, vs, t, rfl, hoc, hdc, hvc⟩ ?_
    rw [hbind]
    refine wpAny_pure (wpAny_newFunctionEnv (fun y hy => (L.own y hy).2) (fun y hy => absurd hy (by simp)) (fun h₁ hns hsb => ⟨I1.nolimit.fresh _ hsb, ?_⟩) L.kind)
    show codeAny _ _ (.expr body (lamEnv X scope s1.heap.objs.size f c')) _ _
    have J : Inv (lamCx X (X.A.deeper (envOfC qg sg s.heap.objs.size g cdg)) (envOfC qg sg s.heap.objs.size g cdg :: X.stack) s1 HZ (WE W' σZ) scope f c') [] σ HZ { s1 with heap := h₁, toks := s1.toks + ([] : List (Str × Value)).length } :=
      lam_start2 I L I1.env0 hr.hd I1.base hns (fun b o e => hsb.extBut b o (Nat.ne_of_lt (Heap.lt_size e)) (Heap.get?_push_of_some _ e))
    exact PySem.W.kla_codeExpr (wpAny_mono ((hbody _ (X.A.deeper (envOfC qg sg s.heap.objs.size g cdg)) _ s1 HZ rfl (hr.deeper _)).run [] _ _ HZ Q J ht) (fun v s' ⟨w', H', J', rv, q⟩ => ⟨w', H', J'.os, J'.bare, J'.base, J'.hok, rv, q⟩) fun e s' hq => hq)
  refine wpAny_call (codeAny_mono rc fun r s' hq => ?_)
  cases r with
  | error e => exact passAt tk σZ pinsZ HZ s1 e s' I1 hq
  | ok fl =>
    cases fl with
    | ret u => exact I1.after hq
    | _ => exact False.elim hq
/-- what stands in the place of a() within the def that got the lambda -/
def Acts (G : Cfg) (Z : Cx) (L : LI) (a : Str) (m : M CV) : Prop :=
  ∀ (W' : WX) (pn : List (Addr × Obj)) (xe : Value → Shared → Prop) (p1 p2 : Pos), Takes (Z.tr pn xe) W' → SE (G.sw none (some L)) W' (Z.tr pn xe) (.Call (.Name a p1) [] [] p2) (fun _ => m)
theorem act_se {Z : Cx} {L : LI} {e : Expr} {mb : Sl → M CV} {W' : WX} (hx : G.exi = none) (hy : G.lam = none) (h : PE Z e (fun σZ HZ Q => σZ[0]? = some (some (.ref L.f)) ∧ HZ L.c = some (CodeO L.c L.q) ∧ tV G (fun c d _ H => WE W' σZ c d H) mb L.σ HZ Q)) : SE (G.sw none (some L)) W' Z e (fun _ => mb L.τ) :=
  h.wk fun σZ HZ Q ⟨ρ, h, τ, m, s, p⟩ => by
    have b : G = (G.sw none (some L)).sw none none := by
      obtain ⟨_, _, _, _, _, _, _, _, _⟩ := G
      cases hx
      cases hy
      rfl
    have mb' : ∀ {ρ1 h1 H1}, MemR (G.sw none (some L)) ρ1 h1 H1 → MemR G ρ1 h1 H1 := fun m1 => by rw [b]; exact m1.sw (fun _ z => nomatch z) (fun _ z => nomatch z)
    refine ⟨s.2.2.2 L rfl, (m.lam L rfl).2, ρ, h, L.τ, mb' m, ?_, ?_⟩
    · have sv : SlV G ρ HZ L.τ L.σ := by rw [b]; exact (m.lam L rfl).1.sw
      exact ⟨sv.1, sv.2, fun e he => by (rw [hx] at he; cases he), fun e he => by rw [hy] at he; cases he⟩
    · have up : ∀ {ρ1 h1 H1}, Ext ρ HZ ρ1 H1 → MemR G ρ1 h1 H1 → MemR (G.sw none (some L)) ρ1 h1 H1 := fun e1 m1 => m1.sw (fun _ z => nomatch z) fun L' z => by
        cases z
        have := m.lamE e1 L rfl
        exact ⟨by rw [b]; exact this.1.sw, this.2⟩
      have p : Post (G.sw none (some L)) W' (ValR (G.sw none (some L))) σZ ρ HZ (mb L.τ h) Q := p
      cases q : mb L.τ h with
      | ok x h' => rw [q] at p; exact fun ρ1 H1 v m1 e1 r1 => p ρ1 H1 v (up e1 m1) e1 r1.sw
      | exc x h' => rw [q] at p; exact fun ρ1 H1 c d m1 e1 r1 => p ρ1 H1 c d (up e1 m1) e1 r1.sw
      | bad => rw [q] at p; exact p
theorem se_lam {Ng : List Str} {x a q : Str} {g c P : Addr} {k nl : Nat} {st : Stmt} {fd : FuncData} {params : Arguments} {body : Expr} {scope : Scope} {mb : Sl → M CV} {b : M CV → MS} {p lpos pos : Pos} (hx : G.exi = none) (hy : G.lam = none) (hK : G.K = X.K)
    (hg : Gl X x) (hm : X.mg x = some (.ref g)) (F : Fun X.K x x st g fd) (Sg : FnScope Ng [a] (defScope st)) (hnl : Ng.length = nl) (hNg : Ng[0]? = some a) (hva : Vis (defScope st) a)
    (TB : TabB X.base X.mg c P) (hcode : X.env.code = .ref c) (eq : q = X.env.qual ++ "<lambda>") (hmT : (P, q) ∈ G.T) (hu : ∀ p ∈ G.T, p.1 = P → p.2 = q) (hr : Room (k + 2) X.A) (L : LamS X.env.scope scope) (hdef : defaultsOf params X.env = ([], []))
    (hb : L2.Binds X.K fd [a] []) (hbind : ∀ (q : Str) (cl : List (Str × Addr)) (pm cv ctv : Value), bindArgs (PySem.W.kla_fn "<lambda>" q params body scope cl pm cv ctv) ⟨[], []⟩ = pure [])
    (hbody : ∀ (A : Around) (outer : List Env) (s : Shared) (H : Hp) (E : XK) (f c' : Addr), A.guards = X.A.guards → Room k (A.deeper (lamEnv X scope s.heap.objs.size f c')) → SE G (fun c d _ H => E c d H) (lamCx X A outer s H E scope f c') body mb)
    (hcal : ∀ (cdg : Value) (s : Shared) (H : Hp) (L : LI) (m : M CV), Acts G (gCx X Ng x (defScope st) g cdg s H).nox L a m → SSs (G.sw none (some L)) W0 (gCx X Ng x (defScope st) g cdg s H).nox (defBody st) (b m))
    (hdb : (x == ("__debug__" : Str)) = false := by decide) (hd : (a == ("__debug__" : Str)) = false := by decide) (hcd : (a == ("__classdict__" : Str)) = false := by decide) :
    SE G W X (.Call (.Name x p) [.Lambda params body scope lpos] [] pos) (eLam nl b mb) := by
  refine ⟨fun pins s σ H Q I ⟨ρ, h, τ, m, sl, pp⟩ => ?_⟩
  obtain ⟨oc, od, kV, doc, pm, an, cdv, ct, osl, efd, lk, hcg⟩ := F.ex
  subst efd
  refine wpAny_Call_Name_kw (ld_glob I hg hm ?_ hdb)
  refine PySem.W.callWith_K (h₀ := X.base) I.ok.mod.kin F.kp ?_ (by rfl) (by rfl)
  show wpAny _ _ (spliced ((false, eval (.Lambda params body scope lpos) X.env) :: backTo pos (starEach [] X.env))) _ _ s
  refine Calls.spliced_cons (lam_made I TB hcode eq hmT hu m.tab hdef (L.has I.ok) fun f c' pm' ctv H1 s' I1 lh T1 hf hfn hfr hco => Calls.spliced_nil ⟨I1.kIn, ?_⟩)
  have e1 := lh.ext m
  have m1 := lh.mem m T1 hx hy
  have rc : codeAny (model X.prog X.w) X.A (.call (.ref g) ⟨[.ref f], []⟩) (CR C8.CX0 X.stack X.prog X.w H1 s' Q C8.E0) s' := by
    refine run_ofS (N := Ng) (ps := [a]) (us := [.ref f]) (vs := [.ref f]) lk hcg Sg hr I1.env0 (hb s' [.ref f] I1.kIn rfl) (.cons rfl .nil) rfl fun hr' => ?_
    have acts : Acts G (gCx X Ng x (defScope st) g cdv s' H1).nox ⟨τ, σ, f, c', q⟩ a (mb τ) := fun W' pn xe p1 p2 tk =>
      act_se (L := ⟨τ, σ, f, c', q⟩) (mb := mb) hx hy (act_run (i := 0) (tb := fun E => tV G (fun c d _ H => E c d H) mb) I1 L eq hf hfn hfr (hbind _ _ _ _ _) tk hr' (fun E A outer s H hg2 hr2 => hbody A outer s H E f c' hg2 hr2) hNg hva hd hcd)
    refine ⟨_, (hcal cdv s' H1 ⟨τ, σ, f, c', q⟩ (mb τ) acts).nox, ρ, h, List.replicate nl none, m1.sw (fun _ z => nomatch z) (fun L' z => by cases z; exact ⟨⟨sl.1, fun i v q => let ⟨u, w1, w2⟩ := sl.2.1 i v q; ⟨u, w1, w2.ext m e1⟩⟩, hco⟩), ⟨?_, fun i v e => ?_, (fun e z => nomatch z), fun L' z => by cases z; rfl⟩, ?_⟩
    · have l1 := (List.getElem?_eq_some_iff.mp hNg).1
      unfold L2.start
      rw [List.length_replicate, List.length_append, List.length_map, List.length_replicate, ← hnl]
      show Ng.length = 1 + (Ng.length - 1)
      omega
    · rw [List.getElem?_replicate] at e
      split at e <;> cases e
    · have b0 : G = (G.sw none (some ⟨τ, σ, f, c', q⟩)).sw none none := by
        obtain ⟨_, _, _, _, _, _, _, _, _⟩ := G
        cases hx
        cases hy
        rfl
      have back : ∀ {ρ1 h1 H1}, MemR (G.sw none (some ⟨τ, σ, f, c', q⟩)) ρ1 h1 H1 → MemR G ρ1 h1 H1 := fun m1 => by rw [b0]; exact m1.sw (fun _ z => nomatch z) (fun _ z => nomatch z)
      have pp : Post G W (ValR G) σ ρ H (endL (b (mb τ) (List.replicate nl none) h)) Q := pp
      unfold endL at pp
      cases qb : b (mb τ) (List.replicate nl none) h with
      | bad => rw [qb] at pp; exact pp
      | mk fl h2 =>
        rw [qb] at pp
        cases fl with
        | nx τ2 => exact fun ρ2 H2 σ2 m2 e2 s2 => pp ρ2 H2 .non (back m2) (e1.trans e2) rfl
        | rt v => exact fun ρ2 H2 u m2 e2 r2 => pp ρ2 H2 u (back m2) (e1.trans e2) (by rw [b0]; exact r2.sw)
        | _ => exact pp.elim
  refine wpAny_call (codeAny_mono rc fun r s2 hq => ?_)
  cases r with
  | error e => exact (show False from hq).elim
  | ok fl =>
    cases fl with
    | ret u => exact I1.after hq
    | _ => exact False.elim hq
end
end VE

noncomputable section
namespace VE
open PySem PySem.Spec PyProof.Rows L2 LamX
/-- the room of a call, and nothing is under a repr -/
structure RoomG (k : Nat) (A : Around) : Prop where
  r : Room k A
  g : A.guards = some []
theorem RoomG.mono {j k : Nat} {A : Around} (r : RoomG k A) (h : j ≤ k) : RoomG j A := ⟨r.r.mono h, r.g⟩
theorem RoomG.deeper {k : Nat} {A : Around} (r : RoomG (k + 1) A) (env : Env) : RoomG k (A.deeper env) := ⟨r.r.deeper env, r.g⟩
/-- a def's promise where no repr is under way -/
structure FnG (P : Program) (w : World) (K : PySem.W.Frag) (mg : Str → Option Value) (base : Heap) (k : Nat) (f : Addr) (fd : FuncData) (ps : List Str) (sp : Sp) : Prop where
  len : ∀ xs H Q E, sp xs H Q E → xs.length = ps.length
  run : ∀ (A : Around) (out : List Env) (s : Shared) (H : Hp) (ar : Args) (us : List Value) (xs : List V) (Q : VK) (E : XK), RoomG k A → Env0 P w K mg base A out s H → BindsTo s fd ar (ps.zip us) → Vals xs us → sp xs H Q E →
    codeAny (model P w) A (.call (.ref f) ar) (CR (L2.CX P w) out P w H s Q E) s
section
variable {P : Program} {w : World} {K : PySem.W.Frag} {mg : Str → Option Value} {base : Heap} {k : Nat} {f : Addr} {fd : FuncData} {ps : List Str} {sp : Sp}
theorem FnG.of (F : FnOk P w K mg base (L2.CX P w) k f fd ps sp) : FnG P w K mg base k f fd ps sp := ⟨F.len, fun A o s H a us xs Q E r => F.run A o s H a us xs Q E r.r⟩
theorem FnG.mono {j : Nat} (F : FnG P w K mg base j f fd ps sp) (h : j ≤ k) : FnG P w K mg base k f fd ps sp := ⟨F.len, fun A o s H a us xs Q E r => F.run A o s H a us xs Q E (r.mono h)⟩
theorem FnG.imp {sp' : Sp} (F : FnG P w K mg base k f fd ps sp) (h : ∀ xs H Q E, sp' xs H Q E → sp xs H Q E) : FnG P w K mg base k f fd ps sp' :=
  ⟨fun xs H Q E q => F.len xs H Q E (h _ _ _ _ q), fun A o s H a us xs Q E r e b v q => F.run A o s H a us xs Q E r e b v (h _ _ _ _ q)⟩
/-- a def's own body -/
theorem fun_g0 {x qual : Str} {st : Stmt} {N : List Str} {oc kV doc pm cdv ct : Value} {od an : Option Addr} {osl : Array (Option Value)} (lk : K.lookup f = some ⟨oc, od, .func (PySem.W.fnOf x qual (defArgs st) (defBody st) (defScope st) .none kV doc pm an cdv ct), osl⟩) (hcd : PySem.W.codeIn K cdv qual = true) (S : FnScope N ps (defScope st)) (len : ∀ xs H Q E, sp xs H Q E → xs.length = ps.length)
    (hb : ∀ (A : Around) (out : List Env) (s : Shared) (H : Hp) (xs : List V) (Q : VK) (E : XK), RoomG k (A.deeper (envOfC qual (defScope st) s.heap.objs.size f cdv)) → sp xs H Q E →
      ∃ t, PSs (cxOf (L2.CX P w) P w K mg base N qual (defScope st) f cdv A out s H E) (defBody st) t ∧ t { nx := fun _ H2 => Q .non H2, rt := Q } (L2.start N xs) H) : FnG P w K mg base (k + 1) f (PySem.W.fnOf x qual (defArgs st) (defBody st) (defScope st) .none kV doc pm an cdv ct) ps sp := by
  refine ⟨len, fun A out s H ar us xs Q E room e0 bind rel q => ?_⟩
  have same : ∀ b o, base.get? b = some o → s.heap.get? b = some o := fun b o z => (e0.bs b o z).1
  have inK : K.In s.heap := e0.mod.kin.keeps same
  refine codeAny_call_function room.r.depth (inK _ _ lk) rfl S.co S.gen rfl (PySem.W.codeRec_of inK hcd) (bind _ _ _ _ (wpAny_newFunctionEnv_cells S.kind (fun ⟨n, v⟩ hy => (S.par n (List.of_mem_zip hy).1).imp id fun z => ⟨z, PySem.W.cellsFrom_some _ _ _ (.inl z)⟩) fun env he s1 x => ?_))
  cases he
  obtain ⟨t, ht, go⟩ := hb A out s H xs Q E (room.deeper _) q
  refine ⟨(e0.mod.nolimit.keeps same).keeps x.toInCall.keep, codeAny_func (wpAny_mono (ht.run [] s1 (L2.start N xs) H _ (inv_start S room.r.hd e0 (len _ _ _ _ q) rel x) go) (fun fl s2 z => ?_) fun _ _ z => z)⟩
  cases fl with
  | ret u => exact let ⟨v, _, H2, J, rv, z⟩ := z; ⟨v, H2, J.os, J.bare, J.base, J.hok, rv, z⟩
  | next => exact let ⟨_, H2, J, z⟩ := z; ⟨.non, H2, J.os, J.bare, J.base, J.hok, rfl, z⟩
  | brk => exact (let ⟨_, _, _, z⟩ := z; z : False).elim
  | cont => exact (let ⟨_, _, _, z⟩ := z; z : False).elim
/-- a def whose code's record is known -/
structure FunC (K : PySem.W.Frag) (x qual : Str) (st : Stmt) (f : Addr) (fd : FuncData) (c : Addr) : Prop where
  ex : ∃ (oc : Value) (od : Option Addr) (kV doc pm : Value) (an : Option Addr) (ct : Value) (osl : Array (Option Value)), fd = PySem.W.fnOf x qual (defArgs st) (defBody st) (defScope st) .none kV doc pm an (.ref c) ct ∧
    K.lookup f = some ⟨oc, od, .func (PySem.W.fnOf x qual (defArgs st) (defBody st) (defScope st) .none kV doc pm an (.ref c) ct), osl⟩ ∧ PySem.W.codeIn K (.ref c) qual = true
theorem fun_g {x qual : Str} {st : Stmt} {N : List Str} {c : Addr} (F : FunC K x qual st f fd c) (S : FnScope N ps (defScope st)) (len : ∀ xs H Q E, sp xs H Q E → xs.length = ps.length)
    (hb : ∀ (A : Around) (out : List Env) (s : Shared) (H : Hp) (xs : List V) (Q : VK) (E : XK), RoomG k (A.deeper (envOfC qual (defScope st) s.heap.objs.size f (.ref c))) → sp xs H Q E →
      ∃ t, PSs (cxOf (L2.CX P w) P w K mg base N qual (defScope st) f (.ref c) A out s H E) (defBody st) t ∧ t { nx := fun _ H2 => Q .non H2, rt := Q } (L2.start N xs) H) : FnG P w K mg base (k + 1) f fd ps sp := by
  obtain ⟨oc, od, kV, doc, pm, an, ct, osl, rfl, lk, hcd⟩ := F.ex
  exact fun_g0 lk hcd S len hb
end
section
variable {X : Cx} {k : Nat} {f : Addr} {fd : FuncData} {ps : List Str} {sp : Sp} {E : L2.St → XK} {x : Str} {p pos : Pos} {e : Expr} {es : List Expr} {t : TA}
theorem run_g {pins : List (Addr × Obj)} {σ : L2.St} {H : Hp} {s : Shared} {Q : VK} {us : List Value} {xs : List V} (F : FnG X.prog X.w X.K X.mg X.base k f fd ps sp) (room : RoomG k X.A) (hb : Binds X.K fd ps []) (hx : PassesAt (L2.CX X.prog X.w) X σ (E σ))
    (I : Inv X pins σ H s) (rel : Vals xs us) (q : sp xs H Q (E σ)) : wpAny (model X.prog X.w) X.A (call (.ref f) us) (EP X pins σ Q) X.xe s := by
  have b := hb s us I.kIn (by rw [List.append_nil, ← rel.length]; exact F.len _ _ _ _ q)
  rw [List.append_nil] at b
  refine wpAny_call (codeAny_mono (F.run _ _ s H _ us xs Q _ room I.env0 b rel q) fun r s2 z => ?_)
  match r, z with
  | .error ev, z => exact hx pins H s ev s2 I z
  | .ok (.ret u), z => exact I.after z
theorem pe_callG (F : FnG X.prog X.w X.K X.mg X.base k f fd ps sp) (room : RoomG k X.A) (hg : Gl X x) (hm : X.mg x = some (.ref f)) (hk : PySem.W.keepIn X.K (.ref f) = true) (hb : Binds X.K fd ps []) (hx : ∀ σ, PassesAt (L2.CX X.prog X.w) X σ (E σ))
    (ha : PA X (e :: es) t) (hdb : (x == ("__debug__" : Str)) = false := by decide) (he : starEach (e :: es) X.env = (false, eval e X.env) :: starEach es X.env := by rfl) (hpl : (backTo pos (starEach es X.env)).any (·.1) = false := by rfl) :
    PE X (.Call (.Name x p) (e :: es) [] pos) (tCallS sp E t) :=
  ⟨fun pins s σ H Q I h => wpAny_Call_Name_kw (ld_glob I hg hm (PySem.W.callWith_K (h₀ := X.base) I.ok.mod.kin hk (thn (ha.run pos pins s σ H _ I h) fun us s1 ⟨xs, H1, I1, rel, q⟩ => ⟨I1.kIn, run_g F room hb (hx σ) I1 rel q⟩) he hpl) hdb)⟩
end

section
variable {P : Program} {w : World} {K : PySem.W.Frag} {mg mb : Str → Option Value} {a : Addr} {cs : List (Addr × Addr)} {s1 : Shared} {vs : List Value} {ns : List Int}
def lstO (vs : List Value) : Obj := { cls := .type "list", data := .seq vs.toArray }
def tabO : Obj := { cls := .none, data := .fields #[] }
/-- the script (where it is not of the text's own) and the tables -/
def H0 (K : PySem.W.Frag) (a : Addr) (cs : List (Addr × Addr)) (vs : List Value) (ns : List Int) : Hp := fun b =>
  if b ∈ cs.map (·.2) then some (.tbl #[]) else if b = a ∧ K.lookup a = none then some (.frz (lstO vs) (.lst (ns.map V.int))) else none
structure AtEnd (K : PySem.W.Frag) (mg mb : Str → Option Value) (a : Addr) (cs : List (Addr × Addr)) (s1 : Shared) (vs : List Value) (ns : List Int) : Prop where
  kin : K.In s1.heap
  glo : s1.heap.Ns mainGlobals mg
  blt : s1.heap.Ns builtinsNs mb
  boot : ∀ x : Str, x ≠ "__name__" → mb x = bootBuiltins x
  lim : s1.heap.NoLimit
  gens : s1.gens = #[]
  tab : ∀ p ∈ cs, s1.heap.get? p.2 = some tabO
  out : ∀ p ∈ cs, K.lookup p.2 = none
  hd : ∀ p ∈ cs, PySem.W.CodeHd s1.heap p.1 p.2
  bm : ∃ (m : Addr) (ob : Obj), mg "__builtins__" = some (.ref m) ∧ m ≠ builtinsNs ∧ s1.heap.get? m = some ob ∧ ob.cls = .type "module" ∧ ob.dict = some builtinsNs ∧ ob.data = .plain
  scr : s1.heap.get? a = some (lstO vs)
  whole : IntsAre vs ns
  size : ns.length ≤ sizeLine
variable (Z : AtEnd K mg mb a cs s1 vs ns)
include Z
theorem AtEnd.isTab {b : Addr} (hb : b ∈ cs.map (·.2)) : s1.heap.get? b = some tabO ∧ K.lookup b = none ∧ H0 K a cs vs ns b = some (.tbl #[]) := by
  obtain ⟨p, hp, rfl⟩ := List.mem_map.mp hb
  exact ⟨Z.tab p hp, Z.out p hp, if_pos hb⟩
theorem AtEnd.cases (b : Addr) : H0 K a cs vs ns b = none ∨ b ∈ cs.map (·.2) ∨ (b = a ∧ b ∉ cs.map (·.2) ∧ K.lookup a = none ∧ H0 K a cs vs ns b = some (.frz (lstO vs) (.lst (ns.map V.int)))) := by
  by_cases c : b ∈ cs.map (·.2)
  · exact .inr (.inl c)
  · by_cases c2 : b = a ∧ K.lookup a = none
    · exact .inr (.inr ⟨c2.1, c, c2.2, (if_neg c).trans (if_pos c2)⟩)
    · exact .inl ((if_neg c).trans (if_neg c2))
/-- what is neither a list nor a table is not written -/
theorem AtEnd.free {b : Addr} {o : Obj} (e : s1.heap.get? b = some o) (h1 : o ≠ lstO vs) (h2 : o ≠ tabO) : H0 K a cs vs ns b = none := by
  rcases Z.cases b with c | c | ⟨c, _⟩
  · exact c
  · exact absurd (Option.some.inj (e.symm.trans (Z.isTab c).1)) h2
  · subst c
    exact absurd (Option.some.inj (e.symm.trans Z.scr)) h1
theorem AtEnd.keep {b : Addr} {o : Obj} (e : s1.heap.get? b = some o) (h1 : ∀ xs n, o.data ≠ .seq xs n) (h2 : o.data ≠ .fields #[]) : (hidT s1.heap (H0 K a cs vs ns)).get? b = some o :=
  hidT_get e (Z.free e (fun z => h1 _ _ (congrArg Obj.data z)) fun z => h2 (congrArg Obj.data z))
theorem AtEnd.nsp {b : Addr} {m : Str → Option Value} (h : s1.heap.Ns b m) : (hidT s1.heap (H0 K a cs vs ns)).Ns b m := by
  obtain ⟨o, es, ep, e, d, r⟩ := h
  exact ⟨o, es, ep, Z.keep e (fun xs n z => by rw [d] at z; cases z) (fun z => by rw [d] at z; cases z), d, r⟩
theorem AtEnd.kin' : K.In (hidT s1.heap (H0 K a cs vs ns)) := fun b o e => hidT_get (Z.kin b o e) (by
  rcases Z.cases b with c | c | ⟨c, _, c2, _⟩
  · exact c
  · rw [(Z.isTab c).2.1] at e; cases e
  · rw [c, c2] at e; cases e)
theorem AtEnd.mod : L2.Mod K mg (hidT s1.heap (H0 K a cs vs ns)) := ⟨Z.kin', Z.nsp Z.glo, ⟨mb, Z.nsp Z.blt, Z.boot⟩, let ⟨mc, h1, h2⟩ := Z.lim; ⟨mc, Z.nsp h1, h2⟩⟩
theorem AtEnd.hok : HOk P w (H0 K a cs vs ns) s1.heap := fun b u e => by
  rcases Z.cases b with c | c | ⟨c, _, _, c3⟩
  · rw [c] at e; cases e
  · obtain ⟨q1, _, q3⟩ := Z.isTab c
    rw [q3] at e
    cases e
    exact q1
  · rw [c3] at e
    cases e
    rw [c]
    exact ⟨Z.scr, by rw [List.length_map]; exact Z.size, vs, _, vals_ints Z.whole, Z.scr⟩
theorem AtEnd.env : Env0 P w K mg (hidT s1.heap (H0 K a cs vs ns)) callerA [] s1 (H0 K a cs vs ns) :=
  ⟨rfl, Z.mod, fun b o e => of_hidT e, Nat.le_of_eq (hidT_size _ _), trivial, fun b hb => (nomatch (show b ∈ ([] : List Addr) from hb)), Z.hok, .of_eq Z.gens⟩
theorem AtEnd.sql : SqL K (H0 K a cs vs ns) a (ns.map V.int) := by
  cases q : K.lookup a with
  | some o =>
    have e := (Z.kin a o q).symm.trans Z.scr
    cases e
    exact .inr ⟨_, vs.toArray, _, q, rfl, rfl, rfl, by rw [List.size_toArray, Z.whole.length]; exact Z.size, by simpa using vals_ints Z.whole⟩
  | none =>
    have nt : a ∉ cs.map (·.2) := fun z => by
      have e := Z.scr.symm.trans (Z.isTab z).1
      cases e
    exact .inl (.inr ⟨lstO vs, (if_neg nt).trans (if_pos ⟨rfl, q⟩)⟩)
theorem AtEnd.tabB {p : Addr × Addr} (hp : p ∈ cs) : TabB (hidT s1.heap (H0 K a cs vs ns)) mg p.1 p.2 := by
  have tp := Z.tab p hp
  refine ⟨?_, ?_, fun z => ?_⟩
  · obtain ⟨o, us, file, tf, flags, tg, inF, text, tt, e1, r1, r2, r3, r⟩ := Z.hd p hp
    refine ⟨o, us, file, tf, flags, tg, inF, text, tt, Z.keep e1 (fun xs n z => ?_) (fun z => ?_), r1, r2, r3, r⟩
    · rw [r2] at z; cases z
    · rw [r2] at z; cases z; simp at r3
  · obtain ⟨m, ob, b1, b2, b3, b4, b5, b6⟩ := Z.bm
    refine ⟨m, ob, b1, b2, fun z => ?_, fun z => ?_, Z.keep b3 (fun xs n z => ?_) (fun z => ?_), b4, b5, b6⟩
    · obtain ⟨o, es, ep, e, d, _⟩ := Z.glo
      rw [z, e] at b3; cases b3; rw [d] at b6; cases b6
    · rw [z, tp] at b3; cases b3; cases b6
    · rw [b6] at z; cases z
    · rw [b6] at z; cases z
  · obtain ⟨o, es, ep, e, d, _⟩ := Z.glo
    rw [z, tp] at e; cases e; cases d
/-- behind the call the heap is as it was, but for grown tables -/
theorem AtEnd.old {H2 : Hp} {h2 : Heap} (un : Un [] [] (H0 K a cs vs ns) H2 s1.heap h2) (ok : HOk P w H2 h2) : OldK s1.heap h2 := by
  have kept : ∀ b o, b ∉ cs.map (·.2) → s1.heap.get? b = some o → h2.get? b = some o := fun b o nb e => by
    rcases Z.cases b with c | c | ⟨_, _, _, c3⟩
    · exact un.keep b o e c (List.not_mem_nil) (List.not_mem_nil)
    · exact absurd c nb
    · have q1 := (Z.hok (P := P) (w := w) b _ c3).1
      rw [e] at q1
      cases q1
      exact (ok b _ (un.frzs b _ _ c3)).1
  have more : ∀ b, b ∈ cs.map (·.2) → ∃ m : Array Value, h2.get? b = some { cls := .none, data := .fields m } := fun b hb =>
    let ⟨_, z⟩ := un.tbls b #[] (Z.isTab hb).2.2
    ⟨_, ok b _ z⟩
  refine ⟨fun b o e => ?_, fun b o e => ?_⟩
  · by_cases c : b ∈ cs.map (·.2)
    · obtain ⟨m, hm⟩ := more b c
      have eo := e.symm.trans (Z.isTab c).1
      cases eo
      obtain ⟨p, hp, rfl⟩ := List.mem_map.mp c
      exact .inr (.inl ⟨((Z.hd p hp).tab (Z.tab p hp)).isCodeTable, rfl, #[], m, rfl, by rw [Array.empty_append]; exact hm⟩)
    · exact .inl (kept b o c e)
  · by_cases c : b ∈ cs.map (·.2)
    · exact let ⟨m, hm⟩ := more b c; ⟨_, hm⟩
    · exact ⟨o, kept b o c e⟩
theorem AtEnd.call {k : Nat} {fa : Addr} {fd : FuncData} {x : Str} {sp : Sp} (room : Room k callerA) (F : ∀ base : Heap, K.In base → base.Ns mainGlobals mg → (∀ p ∈ cs, TabB base mg p.1 p.2) → FnG P w K mg base k fa fd [x] sp)
    (hb : ∀ (s : Shared) (u : Value), BindsTo s fd ⟨[u], []⟩ [(x, u)]) (hsp : ∀ H : Hp, (∀ p ∈ cs, H p.2 = some (.tbl #[])) → SqL K H a (ns.map V.int) → sp [.ref a] H (fun v _ => v = .bl true) fun _ _ _ => False) :
    codeAny (model P w) callerA (.call (.ref fa) ⟨[.ref a], []⟩) (fun r s2 => r = .ok (.ret (.bool true)) ∧ OldK s1.heap s2.heap ∧ s2.os = s1.os ∧ AllBare s2.gens) s1 := by
  refine codeAny_mono ((F _ Z.kin' (Z.nsp Z.glo) fun p hp => Z.tabB hp).run callerA [] s1 _ _ [.ref a] [.ref a] _ _ ⟨room, rfl⟩ Z.env (hb s1 (.ref a)) (.cons rfl .nil) (hsp _ (fun p hp => (Z.isTab (List.mem_map.mpr ⟨p, hp, rfl⟩)).2.2) Z.sql)) fun r s2 z => ?_
  match r, z with
  | .error ev, z => exact (cx_no z).elim
  | .ok (.ret u), ⟨v, H2, os, bare, un, ok, rv, q⟩ =>
    cases (show v = .bl true from q)
    cases (show u = .bool true from rv)
    exact ⟨rfl, Z.old un ok, os, bare⟩
end

section
variable {G : Cfg} {W : WX} {X : Cx} {P : Program} {w : World} {K : PySem.W.Frag} {mg : Str → Option Value} {base : Heap}
theorem fnG {x qual : Str} {st : Stmt} {f : Addr} {fd : FuncData} {N ps : List Str} {k : Nat} (np nl : Nat) {mb : MS} {FF : List CV → M CV} (hFF : FF = runB np nl mb) {c : Addr} (F : FunC K x qual st f fd c) (S : FnScope N ps (defScope st)) (hnp : ps.length = np) (hnl : N.length = nl) (hG : G.K = K) (hGP : G.P = P) (hGw : G.w = w) (hGx : G.exi = none) (hGl : G.lam = none)
    (hbody : ∀ (A : Around) (outer : List Env) (s : Shared) (H : Hp) (E : XK), RoomG k (A.deeper (envOfC qual (defScope st) s.heap.objs.size f (.ref c))) →
      Bx G (fun c d _ H => E c d H) (cxOf (L2.CX P w) P w K mg base N qual (defScope st) f (.ref c) A outer s H E) → PassesOwn (model P w) (cxOf (L2.CX P w) P w K mg base N qual (defScope st) f (.ref c) A outer s H E).A (cxOf (L2.CX P w) P w K mg base N qual (defScope st) f (.ref c) A outer s H E).env (cxOf (L2.CX P w) P w K mg base N qual (defScope st) f (.ref c) A outer s H E).xe →
      SSs G (fun c d _ H => E c d H) (cxOf (L2.CX P w) P w K mg base N qual (defScope st) f (.ref c) A outer s H E) (defBody st) mb) : FnG P w K mg base (k + 1) f fd ps (spH G np FF) := by
  subst hnp hnl hFF
  refine fun_g F S (fun vs H Q E h => h.1) fun A outer s H vs Q E hr h => ?_
  obtain ⟨hl, ρ, h, xs, m, r, p⟩ := h
  refine ⟨_, hbody A outer s H E hr ⟨hG, hGP, hGw, takes_of rfl rfl rfl rfl⟩ (passes_of rfl), ρ, h, _, m, SlR.start r hGx hGl, ?_⟩
  rw [runB_eq] at p
  by_cases hx : xs.length = ps.length
  · rw [if_pos hx] at p
    have e0 : startC N.length xs = xs.map some ++ List.replicate (N.length - xs.length) none := rfl
    rw [e0] at p
    cases q : mb (xs.map some ++ List.replicate (N.length - xs.length) none) h with
    | mk f h' =>
      rw [q] at p
      cases f with
      | nx τ => exact fun ρ1 H1 σ1 m1 e1 s1 => p ρ1 H1 .non m1 e1 rfl
      | rt v => exact p
      | ex x τ => exact fun ρ1 H1 c d σ1 m1 e1 s1 z => p ρ1 H1 c d m1 e1 z
      | bk τ => exact p.elim
      | ct τ => exact p.elim
    | bad => rw [q] at p; exact p.elim
  · rw [if_neg hx] at p; exact p.elim
variable {k : Nat} {f : Addr} {fd : FuncData} {ps : List Str} {x : Str} {p pos : Pos} {e : Expr} {es : List Expr} {ml : Sl → M (List CV)} {F : List CV → M CV} {np : Nat}
theorem se_callG (B : Bx G W X) (ok : FnG X.prog X.w X.K X.mg X.base k f fd ps (spH G np F)) (hr : RoomG k X.A) (hg : Gl X x) (hm : X.mg x = some (.ref f)) (hk : PySem.W.keepIn X.K (.ref f) = true) (hb : Binds X.K fd ps [])
    (ha : SA G W X (e :: es) ml) (hdb : (x == ("__debug__" : Str)) = false := by decide) (he : starEach (e :: es) X.env = (false, eval e X.env) :: starEach es X.env := by rfl) (hpl : (backTo pos (starEach es X.env)).any (·.1) = false := by rfl) :
    SE G W X (.Call (.Name x p) (e :: es) [] pos) (eCall np F ml) :=
  (pe_callG ok hr hg hm hk hb (fun σ => passAt B.tk σ) ha hdb he hpl).wk fun σ H Q ⟨ρ, h, τ, m, s, p⟩ => tM_bind m s p fun xs h1 ρ1 H1 us m1 e1 s1 r1 p1 => by
    by_cases hl : xs.length = np
    · rw [if_pos hl] at p1
      exact ⟨r1.len.symm.trans hl, ρ1, h1, xs, m1, r1, Post.wx (σ := σ) p1 fun _ _ _ z => z⟩
    · rw [if_neg hl] at p1; exact p1.elim
theorem se_callFG (B : Bx G W X) (hx : G.exi = none) (hy : G.lam = none) (ok : FnG X.prog X.w X.K X.mg X.base k f fd ps (spH G np F)) (hr : RoomG k X.A) (hg : Gl X x) (hm : X.mg x = some (.ref f)) (hk : PySem.W.keepIn X.K (.ref f) = true) (hb : Binds X.K fd ps [])
    (ha : SA G W X (e :: es) ml) (hdb : (x == ("__debug__" : Str)) = false := by decide) (he : starEach (e :: es) X.env = (false, eval e X.env) :: starEach es X.env := by rfl) (hpl : (backTo pos (starEach es X.env)).any (·.1) = false := by rfl) :
    SE G W X (.Call (.Name x p) (e :: es) [] pos) (eB (callF np F) ml) :=
  (pe_lk (pe_callG ok hr hg hm hk hb (fun σ => passAt B.tk σ) ha hdb he hpl)).wk fun σ H Q ⟨ρ, h, τ, m, s, p⟩ => tM_bind m s p fun xs h1 ρ1 H1 us m1 e1 s1 r1 p1 => callF_ok hx hy m1 r1 p1 fun _ _ _ z => z
end
/-- the law's promise, tables beside the script -/
def spLawT (K : PySem.W.Frag) (T : List (Addr × Str)) : Sp := fun vs H Q _ => ∃ (a : Addr) (ns : List Int), vs = [.ref a] ∧ SqL K H a (ns.map V.int) ∧ ns.length ≤ 63 ∧ (∀ p ∈ T, H p.1 = some (.tbl #[])) ∧ ∀ H', Q (.bl true) H'
theorem spLawT_of {G : Cfg} {F : List CV → M CV} (hx : G.exi = none) (hy : G.lam = none) (hF : ∀ ns : List Int, ns.length ≤ 63 → ∃ h, F [.frz (ns.map CV.int)] [] = .ok (.bl true) h) (vs : List V) (H : Hp) (Q : VK) (E : XK) (h : spLawT G.K G.T vs H Q E) : spH G 1 F vs H Q E := by
  obtain ⟨a, ns, rfl, hS, hl, hT, q⟩ := h
  have nh : ∀ a, ¬ (⟨[], []⟩ : Wd).has a := fun a z => z.elim (fun z => nomatch z) fun z => nomatch z
  have hw : ∀ (ρ : Wd) (H : Hp) (ns : List Int), ValsR G ρ H (ns.map CV.int) (ns.map V.int) := fun ρ H ns => by
    induction ns with
    | nil => rfl
    | cons n ns ih => exact ⟨.int n, _, rfl, rfl, ih⟩
  refine ⟨rfl, ⟨[], []⟩, [], [.frz (ns.map CV.int)], ⟨rfl, List.nodup_nil, fun i a co e1 => (nomatch e1), fun a ha => (nomatch ha), fun p hp => ⟨#[], hT p hp, trivial, fun _ _ z => by cases z⟩, fun e he => (by rw [hx] at he; cases he), fun e he => by rw [hy] at he; cases he⟩, ⟨_, _, rfl, ⟨a, _, rfl, ?_, hw _ _ ns⟩, rfl⟩, ?_⟩
  · exact hS.elim (fun z => .inl ⟨nh a, z⟩) fun z => .inr (.inr z)
  · obtain ⟨h, e⟩ := hF ns hl
    rw [e]
    exact fun ρ' H' u m' e' r => by rw [show u = .bl true from r]; exact q H'
theorem walk_lawG {l : PySem.W.OpenLaw} {q : Program} {loose : List Str} {XP : (Str → Option Value) → Heap → Prop} {YP : World → Heap → Prop} {d : DefRec} {K : Params → PySem.W.Frag} {k : Nat} (hr : Room k callerA) (hn : l.most = some 63) (hdf : d.params.defaults = [])
    (hY : ∀ (w : World) (h : Heap), YP w h → (K w.params).In h)
    (F : ∀ (w : World) (mg : Str → Option Value) (fa : Addr) (h : Heap), YP w h → (K w.params).In h → h.Ns mainGlobals mg → mg d.name = some (.ref fa) →
      ∃ (fd : FuncData) (cs : List (Addr × Addr)) (T : List (Addr × Str)), (∀ p ∈ cs, h.get? p.2 = some tabO) ∧ (∀ p ∈ cs, (K w.params).lookup p.2 = none) ∧ (∀ p ∈ cs, PySem.W.CodeHd h p.1 p.2) ∧ (∀ p ∈ T, p.1 ∈ cs.map (·.2)) ∧ (∀ (s : Shared) (u : Value), BindsTo s fd ⟨[u], []⟩ [("script", u)]) ∧
        ∀ base : Heap, (K w.params).In base → base.Ns mainGlobals mg → (∀ p ∈ cs, TabB base mg p.1 p.2) → FnG l.prog w (K w.params) mg base k fa fd ["script"] (spLawT (K w.params) T)) :
    PySem.W.WalkO q loose XP YP l.row.toRowW d [] (fun f vs => PySem.call f vs) := by
  refine Att.attach_callB hn hdf fun w s0 s1 mg mb fa o pm cd doc a vs ns Gr Y ho hd hcd hm hobj hw hlen hbits hg => ?_
  obtain ⟨fd, cs, T, t1, t2, t3, t4, t5, t6⟩ := F w mg fa _ Y (hY w _ Y) Gr.T.g hm
  have Z : AtEnd (K w.params) mg mb a cs s1 vs ns := ⟨hY w _ Y, Gr.T.g, Gr.T.b, Gr.T.builtins, Gr.T.nolimit, hg, t1, t2, t3, Gr.T.bmain, hobj, hw, Nat.le_trans hlen (by decide)⟩
  exact Z.call hr t6 t5 fun H hH hS => ⟨a, ns, rfl, hS, hlen, fun p hp => (by obtain ⟨c, hc, e⟩ := List.mem_map.mp (t4 p hp); rw [← e]; exact hH c hc), fun _ => rfl⟩
end VE

noncomputable section
namespace VE
open PySem PySem.Spec PyProof.Rows L2 LamX
/-- what a value is to be shown as -/
def shoD (x : CV) (h : Mem) : Option PyData := match x with
  | .dic false [] [] => some (.dict [])
  | .dic _ _ _ => none
  | x => datM x h
def pyRepr (x : CV) : M CV := fun h => match shoD x h with
  | some d => if (d.showable && Nat.ble d.shown.length 1000000 && Nat.ble d.depth 100 ) = true then .ok (.str d.shown) h else .bad
  | none => .bad
def NoKeys (H : Hp) (v : V) : Prop := ∃ a ob, v = .ref a ∧ H a = some (.frz ob (.dK []))
def rRepr (K : PySem.W.Frag) : List V → Hp → VK → Prop := fun us H Q => ∃ v d, us = [v] ∧ ((Dp K H v d ∧ d.hasDict = false) ∨ (NoKeys H v ∧ d = .dict [])) ∧ d.showable = true ∧ d.shown.length ≤ sizeLine ∧ d.depth ≤ 100 ∧ Q (.str d.shown) H
section
variable {X : Cx}
theorem repr_reads (hg : X.A.guards = some []) (hu : X.A.units + 110 < cLine) {pins : List (Addr × Obj)} {σ : L2.St} {H : Hp} {s : Shared} {Q : VK} {d : PyData} {v : V} {u : Value} {as : List Addr} (I : Inv X pins σ H s) (rv : RelV v u) (r : Reads s.heap u d as) (hs : d.showable = true) (hm : d.hasDict = true → sysModules ∉ as) (hz : d.shown.length ≤ sizeLine) (hd : d.depth ≤ 100) (q : Q (.str d.shown) H) :
    wpAny (model X.prog X.w) X.A (call (.builtin "repr") [u]) (EP X pins σ Q) X.xe s := by
  have un : X.A.units + (d.depth + 1) < cLine := by omega
  cases r with
  | none => exact PySem.P.repr_of_none ⟨.str _, H, I.tok _, ⟨s.toks, by simp only [PyData.shown]⟩, q⟩
  | bool b => exact PySem.P.repr_of_bool ⟨.str _, H, I.tok _, ⟨s.toks, by simp only [PyData.shown]⟩, q⟩
  | int i t => exact PySem.P.repr_of_int (by simpa [PyData.showable] using hs) ⟨.str _, H, I.tok _, ⟨s.toks, by simp only [PyData.shown]⟩, q⟩
  | str x t => exact PySem.P.repr_of_str ⟨.str _, H, I.tok _, ⟨s.toks, by simp only [PyData.shown]⟩, q⟩ (by simpa [PyData.shown] using hz)
  | list h1 h2 h3 h4 => exact PySem.repr_of_reads' (.list h1 h2 h3 h4) hs hm hg un (fun _ _ e => e) (fun h' u tk hk => ⟨.str _, H, I.kept (t' := tk) hk, ⟨_, rfl⟩, q⟩) hz
  | tuple h1 h2 h3 h4 => exact PySem.repr_of_reads' (.tuple h1 h2 h3 h4) hs hm hg un (fun _ _ e => e) (fun h' u tk hk => ⟨.str _, H, I.kept (t' := tk) hk, ⟨_, rfl⟩, q⟩) hz
  | dict h1 h2 h3 h4 h5 => exact PySem.repr_of_reads' (.dict h1 h2 h3 h4 h5) hs hm hg un (fun _ _ e => e) (fun h' u tk hk => ⟨.str _, H, I.kept (t' := tk) hk, ⟨_, rfl⟩, q⟩) hz
theorem cr_reprU (hg : X.A.guards = some []) (hu : X.A.units + 110 < cLine) : CallR X (.builtin "repr") (rRepr X.K) := by
  intro pins s σ H xs us Q I r h
  obtain ⟨v, d, rfl, hv, hs, hz, hd, q⟩ := h
  cases r with
  | cons ru rn =>
    rename_i u us'
    cases rn
    rcases hv with ⟨hv, hn⟩ | ⟨⟨a, ob, ev, ha⟩, rfl⟩
    · obtain ⟨as, rd⟩ := hv.reads I d v u ru
      exact repr_reads hg hu I ru rd hs (fun z => by rw [hn] at z; cases z) hz hd q
    · subst ev
      cases (show u = .ref a from ru)
      obtain ⟨_, _, hsys, vs, kv, o, es, ep, e1, e2, e3, e4, e5, _⟩ := I.hok a _ ha
      cases kv
      have e6 : es.toList = [] := by (generalize es.toList = l at e5; cases e5; rfl)
      have rd : Reads s.heap (.ref a) (.dict []) (a :: [] ++ []) := .dict e1 e2.1 e3 (by rw [e6]; exact .nil) (by rw [e6]; exact .nil)
      exact repr_reads hg hu I (show RelV (.ref a) (.ref a) from rfl) rd hs (fun _ z => by
        have z' : sysModules = a := by simpa using z
        rw [← z'] at hsys
        simp at hsys) hz hd q
end
theorem cr_repr {X : Cx} {k : Nat} (room : RoomG k X.A) : CallR X (.builtin "repr") (rRepr X.K) := cr_reprU room.g (by have := room.r.un; omega)
/-- in a suite of a def that is called -/
theorem cr_reprS {X : Cx} {k : Nat} {A : Around} (room : RoomG k A) (h1 : X.A.guards = A.guards := by rfl) (h2 : X.A.units = A.units + 3 := by rfl) : CallR X (.builtin "repr") (rRepr X.K) := cr_reprU (h1.trans room.g) (by rw [h2]; have := room.r.un; omega)
theorem shoD_dic {n : Bool} {ks vs : List CV} {h : Mem} {d : PyData} (e : shoD (.dic n ks vs) h = some d) : n = false ∧ ks = [] ∧ vs = [] ∧ d = .dict [] := by
  unfold shoD at e
  split at e
  · rename_i q
    cases q
    exact ⟨rfl, rfl, rfl, (Option.some.inj e).symm⟩
  · cases e
  · rename_i q
    exact absurd rfl (q _ _ _)
theorem shoD_oth {x : CV} {h : Mem} (hd : ¬ ∃ n ks vs, x = .dic n ks vs) : shoD x h = datM x h := by
  unfold shoD
  split
  · exact absurd ⟨_, _, _, rfl⟩ hd
  · exact absurd ⟨_, _, _, rfl⟩ hd
  · rfl
mutual
theorem dp_noDict {K : PySem.W.Frag} {H : Hp} : ∀ {v : V} {d : PyData}, Dp K H v d → d.hasDict = false
  | _, _, .non => by simp only [PyData.hasDict]
  | _, _, .bl _ => by simp only [PyData.hasDict]
  | _, _, .int _ => by simp only [PyData.hasDict]
  | _, _, .str _ => by simp only [PyData.hasDict]
  | _, _, .lst _ h => by simp only [PyData.hasDict]; exact dps_noDict h
  | _, _, .tup _ h => by simp only [PyData.hasDict]; exact dps_noDict h
theorem dps_noDict {K : PySem.W.Frag} {H : Hp} : ∀ {vs : List V} {ds : List PyData}, DpAll K H vs ds → PyData.hasDictAll ds = false
  | _, _, .nil => by simp only [PyData.hasDictAll]
  | _, _, .cons h t => by simp only [PyData.hasDictAll, dp_noDict h, dps_noDict t, Bool.or_self]
end
theorem repr_ok {G : Cfg} : OpL G (rRepr G.K) (one pyRepr) := one_ok fun W σ ρ h H x u Q m rx p => by
  unfold pyRepr at p
  cases e : shoD x h with
  | none => rw [e] at p; exact p.elim
  | some d =>
    rw [e] at p
    simp only at p
    by_cases c : (d.showable && Nat.ble d.shown.length 1000000 && Nat.ble d.depth 100) = true
    · rw [if_pos c] at p
      simp only [Bool.and_eq_true] at c
      obtain ⟨⟨c1, c2⟩, c3⟩ := c
      have q := p ρ H (.str d.shown) m Ext.refl rfl
      have z : d.shown.length ≤ sizeLine := lineM (Nat.ble_eq.mp c2)
      by_cases hd : ∃ n ks vs, x = .dic n ks vs
      · obtain ⟨n, ks, vs, rfl⟩ := hd
        obtain ⟨rfl, rfl, rfl, rfl⟩ := shoD_dic e
        obtain ⟨a, ob, w, eu, _, hw, dr⟩ := valR_dic.mp rx
        obtain ⟨kvs, ew, ek, _⟩ := dr.2 rfl
        have ez : kvs = [] := List.map_eq_nil_iff.mp ek.symm
        subst ez
        subst ew
        exact ⟨u, _, rfl, .inr ⟨⟨a, ob, eu, hw⟩, rfl⟩, c1, z, Nat.ble_eq.mp c3, q⟩
      · have e2 : datM x h = some d := (shoD_oth hd).symm.trans e
        have dp := datM_r m rx e2
        have hn : d.hasDict = false := dp_noDict dp
        exact ⟨u, d, rfl, .inl ⟨dp, hn⟩, c1, z, Nat.ble_eq.mp c3, q⟩
    · rw [if_neg c] at p; exact p.elim
end VE

noncomputable section
namespace VE
open PySem PySem.Spec PyProof.Rows L2
theorem u65 {k : Nat} {A : Around} (r : Room k A) : A.units + 65 < cLine := by have := r.un; omega
def isNonC : CV → Bool
  | .non => true
  | _ => false
theorem isNonC_r {G : Cfg} {ρ : Wd} {H : Hp} {x : CV} {u : V} (r : ValR G ρ H x u) : decide (u = .non) = isNonC x := by
  cases x with
  | non => cases (show u = .non from r); rfl
  | bl b => cases (show u = .bl b from r); rfl
  | int i => cases (show u = .int i from r); rfl
  | str z => cases (show u = .str z from r); rfl
  | tup xs => obtain ⟨a, ys, e, _⟩ := r; subst e; rfl
  | lst xs => obtain ⟨a, ys, e, _⟩ := r; subst e; rfl
  | frz xs => obtain ⟨a, ys, e, _⟩ := r; subst e; rfl
  | ref l => obtain ⟨a, _, e⟩ := r; subst e; rfl
  | cls k => cases (show u = .ref (G.cls k) from r); rfl
  | fn k => cases (show u = .ref (G.fn k) from r); rfl
  | ty n => cases (show u = .ty n from r); rfl
  | ins k xs => obtain ⟨a, dx, us, e, _⟩ := r; subst e; rfl
  | dic n ks vs => obtain ⟨a, ob, e, _⟩ := r; subst e; rfl
def pyIs (neg : Bool) (x y : CV) : M CV := match y with
  | .non => ret (.bl (neg ^^ isNonC x))
  | _ => stuck
theorem is_ok {G : Cfg} : Op2 G (fun x y H Q => y = .non ∧ Q (.bl (decide (x = .non))) H) (pyIs false) := by
  intro W σ ρ h H x y u v Q m rx ry p
  unfold pyIs at p
  split at p
  · refine ⟨ry, p ρ H _ m Ext.refl ?_⟩
    rw [isNonC_r rx, Bool.false_xor]; rfl
  · exact p.elim
theorem isnot_ok {G : Cfg} : Op2 G (fun x y H Q => y = .non ∧ Q (.bl (!decide (x = .non))) H) (pyIs true) := by
  intro W σ ρ h H x y u v Q m rx ry p
  unfold pyIs at p
  split at p
  · refine ⟨ry, p ρ H _ m Ext.refl ?_⟩
    rw [isNonC_r rx, Bool.true_xor]; rfl
  · exact p.elim
def pyInS (neg : Bool) (i j : Str) : M CV := match i.cps.toList with
  | [c] => ret (.bl (neg ^^ j.cps.toList.contains c))
  | _ => stuck
def pyInL (neg : Bool) (x y : CV) : M CV := fun h => match datM x h, datM y h with
  | some d, some (.list ds) => if (SeqAt.shaped d && SeqAt.shaped (.list ds)) = true then .ok (.bl (neg ^^ ds.any fun z => PyData.eqv z d)) h else .bad
  | some d, some (.tuple ds) => if (SeqAt.shaped d && SeqAt.shaped (.tuple ds)) = true then .ok (.bl (neg ^^ ds.any fun z => PyData.eqv z d)) h else .bad
  | _, _ => .bad
def txtOf : CV → Option Str
  | .str i => some i
  | _ => none
theorem txtOf_s {x : CV} {i : Str} (e : txtOf x = some i) : x = .str i := by
  cases x <;> first | (cases e; rfl) | cases e
def pyIn (neg : Bool) (x y : CV) : M CV := match txtOf x, txtOf y with
  | some i, some j => pyInS neg i j
  | _, _ => pyInL neg x y
def rInA (K : PySem.W.Frag) (neg : Bool) : R2 := fun x y H Q => (∃ (c : Nat) (z : Str), x = .str ⟨#[c]⟩ ∧ y = .str z ∧ Q (.bl (neg ^^ decide (c ∈ z.cps.toList))) H) ∨
  ∃ d D ds, Dp K H x d ∧ Dp K H y D ∧ (D = .list ds ∨ D = .tuple ds) ∧ SeqAt.shaped d = true ∧ SeqAt.shaped D = true ∧ Q (.bl (neg ^^ ds.any fun z => PyData.eqv z d)) H
theorem op_inA {X : Cx} {k : Nat} (hr : Room k X.A) : OpR X (compareOp .In) (rInA X.K false) := fun pins s σ H x y v u Q I rx ry h => by
  rcases h with ⟨c, z, e1, e2, q⟩ | ⟨d, D, ds, h1, h2, hD, h3, h4, q⟩
  · exact op_in_sign pins s σ H x y v u Q I rx ry ⟨c, z, e1, e2, by rw [Bool.false_xor] at q; exact q⟩
  · rcases hD with rfl | rfl
    · exact op_inD (u65 hr) pins s σ H x y v u Q I rx ry ⟨d, ds, h1, h2, h3, h4, by rw [Bool.false_xor] at q; exact q⟩
    · obtain ⟨as, r1⟩ := Dp.reads I d x v h1 rx
      obtain ⟨bs, r2⟩ := Dp.reads I (.tuple ds) y u h2 ry
      exact SeqAt.in_tuple_reads r2 r1 (SeqAt.canLay_of_shaped h4) (SeqAt.canLay_of_shaped h3) (room_in_shaped h3 (u65 hr)) ⟨.bl _, H, I, rfl, by rw [Bool.false_xor] at q; exact q⟩
theorem op_ninA {X : Cx} {k : Nat} (hr : Room k X.A) : OpR X (compareOp .NotIn) (rInA X.K true) := fun pins s σ H x y v u Q I rx ry h => by
  rcases h with ⟨c, z, e1, e2, q⟩ | ⟨d, D, ds, h1, h2, hD, h3, h4, q⟩
  · exact op_notIn_sign pins s σ H x y v u Q I rx ry ⟨c, z, e1, e2, by rw [Bool.true_xor] at q; exact q⟩
  · rcases hD with rfl | rfl
    · exact op_notInD (u65 hr) pins s σ H x y v u Q I rx ry ⟨d, ds, h1, h2, h3, h4, by rw [Bool.true_xor] at q; exact q⟩
    · obtain ⟨as, r1⟩ := Dp.reads I d x v h1 rx
      obtain ⟨bs, r2⟩ := Dp.reads I (.tuple ds) y u h2 ry
      exact SeqAt.notIn_tuple_reads r2 r1 (SeqAt.canLay_of_shaped h4) (SeqAt.canLay_of_shaped h3) (room_in_shaped h3 (u65 hr)) ⟨.bl _, H, I, rfl, by rw [Bool.true_xor] at q; exact q⟩
theorem inL_ok {G : Cfg} {neg : Bool} : Op2 G (rInA G.K neg) (pyInL neg) := by
  intro W σ ρ h H x y u v Q m rx ry p
  unfold pyInL at p
  cases e1 : datM x h with
  | none => rw [e1] at p; exact p.elim
  | some d =>
    cases e2 : datM y h with
    | none => rw [e1, e2] at p; exact p.elim
    | some dy =>
      rw [e1, e2] at p
      cases dy with
      | list ds =>
        simp only at p
        by_cases c : (SeqAt.shaped d && SeqAt.shaped (.list ds)) = true
        · rw [if_pos c] at p
          rw [Bool.and_eq_true] at c
          exact .inr ⟨d, _, ds, datM_r m rx e1, datM_r m ry e2, .inl rfl, c.1, c.2, p ρ H _ m Ext.refl rfl⟩
        · rw [if_neg c] at p; exact p.elim
      | tuple ds =>
        simp only at p
        by_cases c : (SeqAt.shaped d && SeqAt.shaped (.tuple ds)) = true
        · rw [if_pos c] at p
          rw [Bool.and_eq_true] at c
          exact .inr ⟨d, _, ds, datM_r m rx e1, datM_r m ry e2, .inr rfl, c.1, c.2, p ρ H _ m Ext.refl rfl⟩
        · rw [if_neg c] at p; exact p.elim
      | _ => exact p.elim
theorem in_ok {G : Cfg} {neg : Bool} : Op2 G (rInA G.K neg) (pyIn neg) := by
  intro W σ ρ h H x y u v Q m rx ry p
  unfold pyIn at p
  cases ex : txtOf x with
  | none => rw [ex] at p; exact inL_ok W σ ρ h H x y u v Q m rx ry p
  | some i =>
    cases ey : txtOf y with
    | none => rw [ex, ey] at p; exact inL_ok W σ ρ h H x y u v Q m rx ry p
    | some j =>
      rw [ex, ey] at p
      simp only at p
      cases txtOf_s ex
      cases txtOf_s ey
      unfold pyInS at p
      cases el : i.cps.toList with
      | nil => rw [el] at p; exact p.elim
      | cons c t =>
        cases t with
        | cons _ _ => rw [el] at p; exact p.elim
        | nil =>
          rw [el] at p
          cases (show u = .str i from rx)
          cases (show v = .str j from ry)
          have ei : i = ⟨#[c]⟩ := by
            cases i with
            | mk cps => exact congrArg Str.mk (by rw [← Array.toArray_toList (xs := cps), el])
          refine .inl ⟨c, j, by rw [ei], rfl, ?_⟩
          have q := p ρ H (.bl (neg ^^ j.cps.toList.contains c)) m Ext.refl rfl
          rw [List.contains_eq_mem] at q
          exact q
def cutC (xs : List CV) (lo hi : Option Int) : List CV := (xs.drop (HT.sIx xs.length 0 lo)).take (HT.sIx xs.length xs.length hi - HT.sIx xs.length 0 lo)
theorem ValsR.drop {G : Cfg} {ρ : Wd} {H : Hp} : ∀ {xs : List CV} {us : List V} (n : Nat), ValsR G ρ H xs us → ValsR G ρ H (xs.drop n) (us.drop n)
  | xs, us, 0, r => r
  | [], us, n + 1, r => by cases (show us = [] from r); exact rfl
  | x :: xs, us, n + 1, ⟨y, t, e, _, r⟩ => by subst e; exact ValsR.drop (xs := xs) n r
theorem ValsR.take {G : Cfg} {ρ : Wd} {H : Hp} : ∀ {xs : List CV} {us : List V} (n : Nat), ValsR G ρ H xs us → ValsR G ρ H (xs.take n) (us.take n)
  | xs, us, 0, r => rfl
  | [], us, n + 1, r => by cases (show us = [] from r); exact rfl
  | x :: xs, us, n + 1, ⟨y, t, e, r1, r⟩ => by subst e; exact ⟨y, _, rfl, r1, ValsR.take (xs := xs) n r⟩
theorem cut_r {G : Cfg} {ρ : Wd} {H : Hp} {xs : List CV} {us : List V} {lo hi : Option Int} (r : ValsR G ρ H xs us) : ValsR G ρ H (cutC xs lo hi) (cutV us lo hi) := by
  unfold cutC cutV
  rw [r.len]
  exact (r.drop _).take _
def pySlice (lo hi : Option Int) (x : CV) : M CV := fun h => match txtOf x with
  | some z => if z.length ≤ 1000000 then .ok (.str (cutS z lo hi)) h else .bad
  | none => match lisOf x h with
    | some xs => .ok (.lst (cutC xs lo hi)) h
    | none => match x with
      | .tup xs => .ok (.tup (cutC xs lo hi)) h
      | _ => .bad
/-- the bounds: constants -/
def oPart (e : Option (Sl → M CV)) (τ : Sl) : M (Option Int) := match e with
  | none => ret none
  | some e => bnd (e τ) fun x => match x with
    | .int i => ret (some i)
    | _ => stuck
def eSlice (o : Sl → M CV) (lo hi : Option (Sl → M CV)) : Sl → M CV := fun τ => bnd (o τ) fun x => bnd (oPart lo τ) fun l => bnd (oPart hi τ) fun u => pySlice l u x
def rSlX (K : PySem.W.Frag) : V → Option Int → Option Int → Hp → VK → Prop := fun x lo hi H Q => rSlS x lo hi H Q ∨ rSlL K x lo hi H Q ∨ rSlA K x lo hi H Q
theorem sl_any {X : Cx} : L2.SlR X (rSlX X.K) := fun pins s σ H x v vl vu lo hi sl Q I rx hs pl pu h => by
  rcases h with h | h | h
  · exact sl_str pins s σ H x v vl vu lo hi sl Q I rx hs pl pu h
  · exact sl_list pins s σ H x v vl vu lo hi sl Q I rx hs pl pu h
  · exact sl_tupA pins s σ H x v vl vu lo hi sl Q I rx hs pl pu h
theorem _root_.L2.PO.wk {X : Cx} {e : Option Expr} {t t' : TO} (h : PO X e t) (w : ∀ σ H Q, t' σ H Q → t σ H Q) : PO X e t' := ⟨fun pins s σ H Q I q => h.run pins s σ H Q I (w σ H Q q)⟩
def tO (G : Cfg) (W : WX) (m : Sl → M (Option Int)) : TO := fun σ H Q => tM G W (fun _ _ (a : Option Int) (b : Option Int) => b = a) m σ H Q
theorem slice_ok {G : Cfg} {W : WX} {σ : L2.St} {ρ : Wd} {h : Mem} {H : Hp} {x : CV} {u : V} {lo hi : Option Int} {Q : VK} (m : MemR G ρ h H) (r : ValR G ρ H x u) (p : Post G W (ValR G) σ ρ H (pySlice lo hi x h) Q) : rSlX G.K u lo hi H Q := by
  unfold pySlice at p
  cases e : txtOf x with
  | some z =>
    rw [e] at p
    simp only at p
    cases txtOf_s e
    by_cases c : z.length ≤ 1000000
    · rw [if_pos c] at p
      exact .inl ⟨z, r, lineM c, p ρ H _ m Ext.refl rfl⟩
    · rw [if_neg c] at p; exact p.elim
  | none =>
    rw [e] at p
    simp only at p
    cases e2 : lisOf x h with
    | some xs =>
      rw [e2] at p
      obtain ⟨a, ys, eu, rr, sq⟩ := lisOf_r m r e2
      exact .inr (.inl ⟨a, ys, eu, sq, fun q hq => Post.newLst m (cut_r rr) p hq⟩)
    | none =>
      rw [e2] at p
      cases x with
      | tup xs =>
        obtain ⟨a, ys, eu, sq, rr⟩ := r
        refine .inr (.inr ⟨a, ys, eu, sq, fun c => ?_, fun _ q hq => Post.newTup m (cut_r rr) p hq⟩)
        have ec : cutV ys lo hi = ys := by
          unfold cutV
          rw [c.1, c.2]; simp
        have rc := cut_r (lo := lo) (hi := hi) rr
        rw [ec] at rc
        exact p ρ H _ m Ext.refl ⟨a, ys, rfl, sq, rc⟩
      | _ => exact p.elim
section
variable {G : Cfg} {W : WX} {X : Cx} {e lo hi : Expr} {me : Sl → M CV} {ml mu : Sl → M (Option Int)} {pos p2 : Pos} {ol oh : Option Expr}
theorem so_none : PO X none (tO G W (oPart none)) := po_none.wk fun σ H Q ⟨ρ, h, τ, m, s, p⟩ => p ρ H none m Ext.refl rfl
theorem so_some {m : Sl → M CV} (he : SE G W X e m) : PO X (some e) (tO G W (oPart (some m))) := (po_some he).wk fun σ H Q ⟨ρ, h, τ, m, s, p⟩ => tM_bind m s p fun x h1 ρ1 H1 u m1 e1 s1 r1 p1 => by
  cases x with
  | int i => exact ⟨i, r1, p1 ρ1 H1 _ m1 Ext.refl rfl⟩
  | _ => exact p1.elim
theorem se_slice {a b : Option (Sl → M CV)} (hK : G.K = X.K) (he : SE G W X e me) (hl : PO X ol (tO G W (oPart a))) (hu : PO X oh (tO G W (oPart b))) : SE G W X (.Subscript e (.Slice ol oh none p2) pos) (eSlice me a b) :=
  (pe_slice sl_any he hl hu).wk fun σ H Q ⟨ρ, h, τ, m, s, p⟩ => tM_bind m s p fun x h1 ρ1 H1 u m1 e1 s1 r1 p1 => tM_bind m1 s1 p1 fun l h2 ρ2 H2 l' m2 e2 s2 r2 p2 => tM_bind m2 s2 p2 fun k h3 ρ3 H3 k' m3 e3 s3 r3 p3 => by
    cases r2
    cases r3
    rw [← hK]
    exact slice_ok (σ := σ) m3 ((r1.ext m1 e2).ext m2 e3) p3
end
def fmtS (x : CV) : Option Str := match x with
  | .str y => if y.length ≤ 1000000 then some y else none
  | .int i => if i.natAbs.log2 < 1920 then some (Str.ofString (toString i)) else none
  | _ => none
def eFmt (e : Sl → M CV) : Sl → M CV := fun τ => bnd (e τ) fun x h => match fmtS x with
  | some y => .ok (.str y) h
  | none => .bad
section
variable {G : Cfg} {W : WX} {X : Cx} {e : Expr} {me : Sl → M CV} {pos : Pos}
theorem se_fmt (he : SE G W X e me) : SE G W X (.FormattedValue e (-1) none pos) (eFmt me) :=
  (pe_fmt he).wk fun σ H Q ⟨ρ, h, τ, m, s, p⟩ => tM_bind m s p fun x h1 ρ1 H1 u m1 e1 s1 r1 p1 => by
    cases x with
    | str y =>
      by_cases c : y.length ≤ 1000000
      · have q : Post G W (ValR G) σ ρ1 H1 (.ok (.str y) h1) Q := by simpa [fmtS, c] using p1
        exact .inl ⟨y, r1, lineM c, q ρ1 H1 _ m1 Ext.refl rfl⟩
      · have q : Post G W (ValR G) σ ρ1 H1 .bad Q := by simpa [fmtS, c] using p1
        exact q.elim
    | int i =>
      by_cases c : i.natAbs.log2 < 1920
      · have q : Post G W (ValR G) σ ρ1 H1 (.ok (.str (Str.ofString (toString i))) h1) Q := by simpa [fmtS, c] using p1
        exact .inr ⟨i, r1, c, q ρ1 H1 _ m1 Ext.refl rfl⟩
      · have q : Post G W (ValR G) σ ρ1 H1 .bad Q := by simpa [fmtS, c] using p1
        exact q.elim
    | _ => exact p1.elim
theorem se_join1 (he : SE G W X e me) : SE G W X (.JoinedStr [e] pos) me := pe_joined1 he
inductive SJ (G : Cfg) (W : WX) (X : Cx) : List Expr → List (Sl → M CV) → Prop where
  | nil : SJ G W X [] []
  | cons {e : Expr} {m : Sl → M CV} {es : List Expr} {ms : List (Sl → M CV)} (h : SE G W X e m) (r : SJ G W X es ms) : SJ G W X (e :: es) (m :: ms)
def eJs : List (Sl → M CV) → Str → Sl → M CV
  | [], acc, _ => ret (.str acc)
  | m :: ms, acc, τ => bnd (m τ) fun x => match x with
    | .str y => if (acc ++ y).length ≤ 1000000 then eJs ms (acc ++ y) τ else stuck
    | _ => stuck
theorem sj_pj : ∀ {es : List Expr} {ms : List (Sl → M CV)}, SJ G W X es ms → PJ X es (ms.map fun m => tV G W m)
  | _, _, .nil => .nil
  | _, _, .cons h r => .cons h (sj_pj r)
theorem js_run {σ : L2.St} {Q : VK} : ∀ (ms : List (Sl → M CV)) (acc : Str) (H : Hp), tV G W (eJs ms acc) σ H Q → tJs (ms.map fun m => tV G W m) acc σ H fun out H1 => Q (.str out) H1
  | [], acc, H, ⟨ρ, h, τ, m, s, p⟩ => p ρ H _ m Ext.refl rfl
  | t :: ts, acc, H, ⟨ρ, h, τ, m, s, p⟩ => tM_bind m s p fun x h1 ρ1 H1 u m1 e1 s1 r1 p1 => by
    cases x with
    | str y =>
      have p1 : Post G W (ValR G) σ ρ1 H1 ((if (acc ++ y).length ≤ 1000000 then eJs ts (acc ++ y) τ else stuck) h1) Q := p1
      by_cases c : (acc ++ y).length ≤ 1000000
      · rw [if_pos c] at p1
        exact ⟨y, r1, lineM c, js_run ts (acc ++ y) H1 ⟨ρ1, h1, τ, m1, s1, p1⟩⟩
      · rw [if_neg c] at p1; exact p1.elim
    | _ => exact p1.elim
theorem se_join {v1 v2 : Expr} {rest : List Expr} {ms : List (Sl → M CV)} (h : SJ G W X (v1 :: v2 :: rest) ms) : SE G W X (.JoinedStr (v1 :: v2 :: rest) pos) (eJs ms Str.empty) :=
  (pe_joined (sj_pj h)).wk fun σ H Q q => js_run ms Str.empty H q
end
end VE

noncomputable section
namespace VE
open PySem PySem.Spec PyProof.Rows L2
def repS (a : Str) (n : Nat) : Str := ⟨(List.replicate n a.cps).foldl (· ++ ·) #[]⟩
theorem rep_size : ∀ (n : Nat) (acc c : Array Nat), ((List.replicate n c).foldl (· ++ ·) acc).size = acc.size + n * c.size
  | 0, acc, c => by simp
  | n + 1, acc, c => by
    rw [List.replicate_succ, List.foldl_cons, rep_size n (acc ++ c) c, Array.size_append, Nat.succ_mul]
    omega
def rMulS : R2 := fun x y H Q => ∃ (a : Str) (n : Nat), x = .str a ∧ y = .int n ∧ 2 ≤ n ∧ n ≤ 1000000 ∧ a.length ≠ 0 ∧ a.length * n ≤ 1000000 ∧ Q (.str (repS a n)) H
theorem op_mulS {X : Cx} : OpR X (binaryOp .Mult) rMulS := fun pins s σ H x y v u Q I rx ry h => by
  obtain ⟨a, n, rfl, rfl, n2, nb, ha, hz, q⟩ := h
  obtain ⟨t, rfl⟩ := rx
  obtain ⟨t', rfl⟩ := ry
  have hl : a.length ≤ 1000000 := Nat.le_trans (Nat.le_mul_of_pos_right a.length (by omega)) hz
  refine PySem.P.mul_str (by rw [decide_eq_false (by omega), decide_eq_false (by omega)]; rfl) (fun _ _ z => ?_) (fun _ _ => ?_) ?_
  · have h1 : ((a.length : Nat) : Int) * (n : Int) ≤ 2 ^ 63 - 1 := by
      have h2 : ((a.length : Nat) : Int) * (n : Int) = ((a.length * n : Nat) : Int) := (Int.natCast_mul _ _).symm
      rw [h2]
      omega
    have h3 : ((a.length : Nat) : Int) ≤ (2 ^ 63 - 1) / (n : Int) := Int.le_ediv_of_mul_le (by omega) h1
    omega
  · unfold Builtin.Str.tooLong
    rw [Int.toNat_natCast]
    exact decide_eq_false (by have := lineM hz; omega)
  · rw [if_neg (by omega), if_neg]
    · rw [Int.toNat_natCast]
      exact ⟨lineM (by show (repS a n).cps.size ≤ 1000000; rw [show (repS a n).cps.size = _ from rep_size n #[] a.cps]; rw [show (#[] : Array Nat).size = 0 from rfl, Nat.zero_add, Nat.mul_comm]; exact hz), .str (repS a n), H, I.tok _, ⟨_, rfl⟩, q⟩
    · intro z
      rw [Bool.or_eq_true, beq_iff_eq, beq_iff_eq] at z
      omega
def pyTimes (x y : CV) : M CV := match txtOf x with
  | some a => match y with
    | .int i => if (2 : Int) ≤ i ∧ i ≤ 1000000 ∧ a.length ≠ 0 ∧ a.length * i.toNat ≤ 1000000 then ret (.str (repS a i.toNat)) else stuck
    | _ => stuck
  | none => pyMul x y
def rTimesS (K : PySem.W.Frag) : R2 := fun x y H Q => rTimes K x y H Q ∨ rMulS x y H Q
theorem op_timesS {X : Cx} : OpR X (binaryOp .Mult) (rTimesS X.K) := op_times.or op_mulS
theorem timesS_ok {G : Cfg} : Op2 G (rTimesS G.K) pyTimes := by
  intro W σ ρ h H x y u v Q m rx ry p
  unfold pyTimes at p
  cases e : txtOf x with
  | none => rw [e] at p; exact .inl (times_ok W σ ρ h H x y u v Q m rx ry p)
  | some a =>
    rw [e] at p
    cases txtOf_s e
    cases y with
    | int i =>
      simp only at p
      by_cases c : (2 : Int) ≤ i ∧ i ≤ 1000000 ∧ a.length ≠ 0 ∧ a.length * i.toNat ≤ 1000000
      · rw [if_pos c] at p
        have ei : ((i.toNat : Nat) : Int) = i := Int.toNat_of_nonneg (by omega)
        exact .inr ⟨a, i.toNat, rx, by rw [ei]; exact ry, by omega, by omega, c.2.2.1, c.2.2.2, p ρ H _ m Ext.refl rfl⟩
      · rw [if_neg c] at p; exact p.elim
    | _ => exact p.elim
def pySplit (x : CV) (xs : List CV) : M CV := match txtOf x, xs with
  | some a, [y] => match txtOf y with
    | some b => if b.length ≠ 0 ∧ a.length + 2 ≤ 1000000 then ret (.lst ((Txt.split a b).map CV.str)) else stuck
    | none => stuck
  | _, _ => stuck
theorem strs_r {G : Cfg} {ρ : Wd} {H : Hp} : ∀ l : List Str, ValsR G ρ H (l.map CV.str) (l.map V.str)
  | [] => rfl
  | x :: l => ⟨.str x, _, rfl, rfl, strs_r l⟩
theorem split_ok {G : Cfg} : Mt G (fun x xs H Q => ∃ a b, x = .str a ∧ xs = [.str b] ∧ (b.length == 0) = false ∧ a.length + 2 ≤ sizeLine ∧ rNewStrs (Txt.split a b) H Q) pySplit := by
  intro W σ ρ h H x u xs us Q m rx rs p
  unfold pySplit at p
  cases e : txtOf x with
  | none => rw [e] at p; exact p.elim
  | some a =>
    rw [e] at p
    cases txtOf_s e
    match xs, rs, p with
    | [], _, p => exact p.elim
    | _ :: _ :: _, _, p => exact p.elim
    | [y], rs, p =>
      simp only at p
      cases e2 : txtOf y with
      | none => rw [e2] at p; exact p.elim
      | some b =>
        rw [e2] at p
        cases txtOf_s e2
        simp only at p
        by_cases c : b.length ≠ 0 ∧ a.length + 2 ≤ 1000000
        · rw [if_pos c] at p
          obtain ⟨v, t, ev, r1, r2⟩ := rs
          cases (show t = [] from r2)
          cases (show v = .str b from r1)
          exact ⟨a, b, rx, ev, beq_eq_false_iff_ne.mpr c.1, lineM c.2, fun q hq => Post.newLst m (strs_r _) p hq⟩
        · rw [if_neg c] at p; exact p.elim
theorem se_dict0 {G : Cfg} {W : WX} {X : Cx} {pos : Pos} : SE G W X (.Dict [] [] pos) (eC (.dic false [] [])) :=
  (pe_lk pe_dnewK).wk fun σ H Q ⟨ρ, h, τ, m, s, p⟩ q hq => by
    refine .lock upd_same trivial fun od => .done ?_
    have e : upd (upd H q (.dK [])) q (.frz od (.dK [])) = upd H q (.frz od (.dK [])) := by
      funext b
      by_cases c : b = q
      · subst c; rw [upd_same, upd_same]
      · rw [upd_ne c, upd_ne c, upd_ne c]
    rw [e]
    refine p ρ _ _ (m.laid hq) (Ext.laid hq) (valR_dic.mpr ⟨q, od, _, rfl, m.free hq, upd_same, fun z => (nomatch z), fun _ => ⟨[], rfl, rfl, rfl⟩⟩)
end VE

noncomputable section
namespace VE
open PySem PySem.Spec PyProof.Rows L2
/-- the defs that a name may hold: number, parameters, meaning -/
abbrev Disp := List (Nat × Nat × (List CV → M CV))
def dispAt (D : Disp) (k : Nat) : Option (Nat × (List CV → M CV)) := List.rec none (fun d _ ih => Bool.rec ih (some d.2) (Nat.beq d.1 k)) D
def eDyn (i : Nat) (D : Disp) (ml : Sl → M (List CV)) : Sl → M CV := fun τ => match sget τ i with
  | some (some (.fn k)) => match dispAt D k with
    | some d => bnd (ml τ) (callF d.1 d.2)
    | none => stuck
  | _ => stuck
inductive Holds (G : Cfg) (X : Cx) : Disp → Prop
  | nil : Holds G X []
  | cons {k np j : Nat} {F : List CV → M CV} {fd : FuncData} {ps : List Str} {D : Disp} (ok : FnOk X.prog X.w X.K X.mg X.base (L2.CX X.prog X.w) j (G.fn k) fd ps (spH G np F)) (hr : Room j X.A) (hk : PySem.W.keepIn X.K (.ref (G.fn k)) = true) (hb : Binds X.K fd ps []) (r : Holds G X D) : Holds G X ((k, np, F) :: D)
theorem Holds.at_ {G : Cfg} {X : Cx} {k : Nat} : ∀ {D : Disp} {d : Nat × (List CV → M CV)}, Holds G X D → dispAt D k = some d →
    ∃ (j : Nat) (fd : FuncData) (ps : List Str), FnOk X.prog X.w X.K X.mg X.base (L2.CX X.prog X.w) j (G.fn k) fd ps (spH G d.1 d.2) ∧ Room j X.A ∧ PySem.W.keepIn X.K (.ref (G.fn k)) = true ∧ Binds X.K fd ps []
  | _, _, .nil, e => by cases e
  | _, d, .cons (k := k0) (np := np) (F := F) (D := D) ok hr hk hb r, e => by
    have e' : (Bool.rec (dispAt D k) (some (np, F)) (Nat.beq k0 k) : Option (Nat × (List CV → M CV))) = some d := e
    cases q : Nat.beq k0 k with
    | true =>
      rw [q] at e'
      cases e'
      cases Nat.eq_of_beq_eq_true q
      exact ⟨_, _, _, ok, hr, hk, hb⟩
    | false =>
      rw [q] at e'
      exact r.at_ e'
section
variable {X : Cx} {i : Nat} {x : Str} {p pos : Pos} {e : Expr} {es : List Expr} {t : TA} {E : L2.St → XK}
theorem pe_callV {S : Addr → Sp → Prop} (A : ∀ f sp, S f sp → ∃ (j : Nat) (fd : FuncData) (ps : List Str), FnOk X.prog X.w X.K X.mg X.base (L2.CX X.prog X.w) j f fd ps sp ∧ Room j X.A ∧ PySem.W.keepIn X.K (.ref f) = true ∧ Binds X.K fd ps [])
    (hx : ∀ σ, PassesAt (L2.CX X.prog X.w) X σ (E σ)) (hN : X.N[i]? = some x) (hv : Vis X.env.scope x) (ha : PA X (e :: es) t) (hdb : (x == ("__debug__" : Str)) = false := by decide) (hcd : (x == ("__classdict__" : Str)) = false := by decide)
    (he : starEach (e :: es) X.env = (false, eval e X.env) :: starEach es X.env := by rfl) (hpl : (backTo pos (starEach es X.env)).any (·.1) = false := by rfl) :
    PE X (.Call (.Name x p) (e :: es) [] pos) (fun σ H Q => ∃ f sp, σ[i]? = some (some (.ref f)) ∧ S f sp ∧ t σ H fun vs H1 => sp vs H1 Q (E σ)) := by
  refine ⟨fun pins s σ H Q I ⟨f, sp, hs, hS, ht⟩ => ?_⟩
  obtain ⟨j, fd, ps, ok, hr, hk, hb⟩ := A f sp hS
  refine wpAny_Call_Name_kw (thn ((pe_var (pos := p) hN hv hdb hcd).run pins s σ H (fun v H1 => v = .ref f ∧ H1 = H) I ⟨.ref f, hs, rfl, rfl⟩) fun u s1 ⟨v, H1, I1, r1, e1, e2⟩ => ?_)
  subst e1 e2
  cases (show u = .ref f from r1)
  exact PySem.W.callWith_K (h₀ := X.base) I.ok.mod.kin hk (thn (ha.run pos pins s1 σ _ _ I1 ht) fun us s2 ⟨vs, H2, I2, r, q⟩ => ⟨I2.kIn, run_fnS ok hr hb (hx σ) I2 r q⟩) he hpl
variable {G : Cfg} {W : WX} {ml : Sl → M (List CV)} {D : Disp}
theorem se_callV (B : Bx G W X) (hx : G.exi = none) (hy : G.lam = none) (hd : Holds G X D) (hN : X.N[i]? = some x) (hv : Vis X.env.scope x) (ha : SA G W X (e :: es) ml) (hdb : (x == ("__debug__" : Str)) = false := by decide) (hcd : (x == ("__classdict__" : Str)) = false := by decide)
    (he : starEach (e :: es) X.env = (false, eval e X.env) :: starEach es X.env := by rfl) (hpl : (backTo pos (starEach es X.env)).any (·.1) = false := by rfl) : SE G W X (.Call (.Name x p) (e :: es) [] pos) (eDyn i D ml) :=
  (pe_lk (pe_callV (S := fun f sp => ∃ k d, f = G.fn k ∧ dispAt D k = some d ∧ sp = spH G d.1 d.2) (E := fun σ => WE W σ) (fun f sp ⟨k, d, e1, e2, e3⟩ => by subst e1 e3; exact hd.at_ e2) (fun σ => passAt B.tk σ) hN hv ha hdb hcd he hpl)).wk fun σ H Q ⟨ρ, h, τ, m, s, p⟩ => by
    unfold eDyn at p
    rw [sget_eq] at p
    cases q : τ[i]? with
    | none => rw [q] at p; exact p.elim
    | some o =>
      cases o with
      | none => rw [q] at p; exact p.elim
      | some v =>
        rw [q] at p
        cases v with
        | fn k =>
          simp only at p
          cases q2 : dispAt D k with
          | none => rw [q2] at p; exact p.elim
          | some d =>
            rw [q2] at p
            obtain ⟨u, hu, ru⟩ := s.2.1 i _ q
            cases (show u = .ref (G.fn k) from ru)
            exact ⟨_, _, hu, ⟨k, d, rfl, q2, rfl⟩, tM_bind m s p fun xs h1 ρ1 H1 us m1 e1 s1 r1 p1 => callF_ok hx hy m1 r1 p1 fun _ _ _ z => z⟩
        | _ => exact p.elim
end
end VE

noncomputable section
namespace VE
open PySem PySem.Spec PyProof.Rows L2
theorem bx_IndexError : SupX.BaseX "IndexError" "IndexError.__new__" "IndexError.__init__" [.type "IndexError", .type "LookupError", .type "Exception", .type "BaseException", .type "object"] :=
  ⟨PySem.F.excBase_IndexError, PySem.W.kxs_IndexError, by decide +kernel, fun _ => by kernel_rfl⟩
theorem sup_mk {P : Program} {K : PySem.W.Frag} {h : Heap} {mg : Str → Option Value} (X : K.In h) (G : h.Ns mainGlobals mg) {cn f : Str} {B newId initId : String} {bmB : List Value} {C fI N cda cc : Addr} {nm q : Str} {bs bm : List Value} {sn : List Str} {sub : List Value} {ab : Bool} {col : Option Bool} {dd : Option Addr} {k0 k1 k2 k3 k5 : Option Value}
    {oc : Value} {od : Option Addr} {doc pm : Value} {an : Option Addr} {ct : Value} {osl : Array (Option Value)} {p1 p2 q0 q1 q2 q3 q4 q5 q6 q7 q8 q9 : Pos} {cl ccl : Value} {cld cdd : Option Addr} {csl ccs : Array (Option Value)} {vs : Array Value} {file : Str} {tf : Tok}
    (bx : SupX.BaseX B newId initId bmB) (a : PySem.W.nsIn K mainGlobals cn = some (some (.ref C))) (s : PySem.W.nsIn K mainGlobals "super" = some none)
    (l : K.lookup C = some (excClassObj nm q C N bs bm true sn sub ab col dd k0 k1 k2 k3 k5 newId)) (ht : PySem.W.excTail bmB bm = true)
    (sa : PySem.W.findIn K (.ref C) "__setattr__" = some (some (.builtin "object.__setattr__"))) (ga : PySem.W.findIn K (.ref C) "__getattribute__" = some (some (.builtin "BaseException.__getattribute__"))) (gg : PySem.W.findIn K (.ref C) "__getattr__" = some none)
    (noN : PySem.W.findIn K (.ref C) f = some none) (iC : PySem.W.findIn K (.ref C) "__init__" = some (some (.ref fI))) (tC : PySem.W.typeIn K (.ref fI) = some (.type "function")) (kC : PySem.W.keepIn K (.ref C) = true) (exC : PySem.W.subIn K (.ref C) (.type "BaseException") = some true)
    (suB : PySem.W.subIn K (.ref C) (.type B) = some true) (suC : PySem.W.subIn K (.ref C) (.ref C) = some true) (tyC : PySem.W.typeIn K (.ref C) = some (.type "type")) (hdC : PySem.W.hasDictIn K C = true) (isC : PySem.W.isClsIn K C = true) (sup : PySem.W.ks_superIn K C C "__init__" = some (some (.builtin initId)))
    (any : PySem.W.nsIn K cStatics "thirdparty.any" = some none) (nf : (f == ("__debug__" : Str)) = false ∧ f ≠ "self" ∧ f ≠ "super" ∧ f ≠ "__class__")
    (lf : K.lookup fI = some ⟨oc, od, .func (PySem.W.ksFn "__init__" (cn ++ ".__init__") (SupX.iA f p1 p2) [SupX.iB1 f q0 q1 q2 q3 q4 q5, SupX.iB2 f q6 q7 q8 q9] (SupX.iS f) .none .none doc pm an (.ref cda) ct cc), osl⟩)
    (cod : PySem.W.codeIn K (.ref cda) (cn ++ ".__init__") = true) (lc : K.lookup cc = some ⟨cl, cld, .cell (some (.ref C)), csl⟩) (lcd : K.lookup cda = some ⟨ccl, cdd, .fields vs, ccs⟩) (fv : vs[2]? = some (.str file tf)) (fl : ((P.main.file : Str) == file) = true)
    (bnd : ∀ (s : Shared) (a b : Value), BindsTo s (PySem.W.ksFn "__init__" (cn ++ ".__init__") (SupX.iA f p1 p2) [SupX.iB1 f q0 q1 q2 q3 q4 q5, SupX.iB2 f q6 q7 q8 q9] (SupX.iS f) .none .none doc pm an (.ref cda) ct cc) ⟨[a, b], []⟩ [("self", a), (f, b)])
    (ev : ∃ pl : Sem Bool, ∀ env : Env, eval (.Call (.Attribute (.Call (.Name "super" q0) [] [] q1) "__init__" q2) [.Name f q3] [] q4) env = (do
      let ov ← attributeBase (.Call (.Name "super" q0) [] [] q1) "__init__" env (eval (.Call (.Name "super" q0) [] [] q1) env)
      standAt q2.atName
      let (g, first) ← holding [ov] (getMethod ov "__init__" pl)
      callWith q4 g first (backTo q4 (starEach [.Name f q3] env)) []))
    (top : (P.main.scope.names.lookup ("super" : Str)).isSome = false) : ∃ C fI, SupX.SupTxt P K mg C fI cn f B newId initId bmB :=
  ⟨C, fI, ⟨bx, PySem.W.mg_of X G a, PySem.W.mg_none_of X G s, ⟨nm, q, N, bs, bm, sn, sub, ab, col, dd, k0, k1, k2, k3, k5, l, fun Y => PySem.W.excTail_contains Y bm ht, fun self => by rw [refuseLoop_ref]; exact PySem.W.excTail_pass self (bx.pass self) bm ht⟩, sa, ga, gg, noN, iC, tC, kC, exC, suB, suC, tyC, hdC, isC, sup, any, nf,
    ⟨oc, od, doc, pm, an, cda, cc, ct, osl, p1, p2, q0, q1, q2, q3, q4, q5, q6, q7, q8, q9, cl, ccl, cld, cdd, csl, ccs, vs, file, tf, lf, cod, lc, lcd, fv, fl, bnd, ev⟩, top⟩⟩
/-- a def with the table of its lambdas -/
theorem defC_mk {K : PySem.W.Frag} {h : Heap} {mg : Str → Option Value} (X : K.In h) (G : h.Ns mainGlobals mg) {x : Str} {st : Stmt} {f c P : Addr} {od an : Option Addr} {osl : Array (Option Value)} {oc kV doc pm ct : Value} (a : PySem.W.nsIn K mainGlobals x = some (some (.ref f)))
    (l : K.lookup f = some ⟨oc, od, .func (PySem.W.fnOf x x (defArgs st) (defBody st) (defScope st) .none kV doc pm an (.ref c) ct), osl⟩) (cd : PySem.W.codeIn K (.ref c) x = true) (k : PySem.W.keepIn K (.ref f) = true) (hd : PySem.W.codeHdIn K c P = true) (o : K.lookup P = none) :
    ∃ (f : Addr) (fd : FuncData) (c P : Addr), mg x = some (.ref f) ∧ Fun K x x st f fd ∧ FunC K x x st f fd c ∧ PySem.W.codeHdIn K c P = true ∧ K.lookup P = none :=
  ⟨f, _, c, P, PySem.W.mg_of X G a, fun_mk l cd k, ⟨⟨oc, od, kV, doc, pm, an, ct, osl, rfl, l, cd⟩⟩, hd, o⟩
def pyStr (x : CV) : M CV := match x with
  | .int i => if i.natAbs.log2 < 1920 then ret (.str (Str.ofString (toString i))) else stuck
  | _ => stuck
theorem str_ok {G : Cfg} : OpL G (fun xs H Q => ∃ i, xs = [.int i] ∧ i.natAbs.log2 < 1920 ∧ Q (.str (toString i)) H) (one pyStr) := one_ok fun W σ ρ h H x u Q m rx p => by
  cases x with
  | int i =>
    have p : Post G W (ValR G) σ ρ H ((if i.natAbs.log2 < 1920 then ret (.str (Str.ofString (toString i))) else stuck) h) Q := p
    by_cases c : i.natAbs.log2 < 1920
    · rw [if_pos c] at p
      exact ⟨i, by rw [show u = V.int i from rx], c, p ρ H _ m Ext.refl rfl⟩
    · rw [if_neg c] at p; exact p.elim
  | _ => exact p.elim
/-- int(x): an int, a bool, a text -/
def pyIntT (x : CV) : M CV := match x with
  | .int i => ret (.int i)
  | .bl b => ret (.int (if b then 1 else 0))
  | .str a => match PySem.intText? a with
    | some n => if a.length ≤ 640 then ret (.int n) else stuck
    | none => stuck
  | _ => stuck
def rIntT : List V → Hp → VK → Prop := fun xs H Q => ((∃ i, xs = [V.int i] ∧ Q (V.int i) H) ∨ ∃ k, xs = [V.bl k] ∧ Q (V.int (if k then 1 else 0)) H) ∨ ∃ a n, xs = [V.str a] ∧ PySem.intText? a = some n ∧ a.length ≤ 640 ∧ Q (V.int n) H
theorem call_intT {X : Cx} : CallR X (.type "int") rIntT := callR_or call_int1 call_int_str
theorem intT_ok {G : Cfg} : OpL G rIntT (one pyIntT) := one_ok fun W σ ρ h H x u Q m rx p => by
  cases x with
  | int i => exact .inl (.inl ⟨i, by rw [show u = V.int i from rx], p ρ H _ m Ext.refl rfl⟩)
  | bl b => exact .inl (.inr ⟨b, by rw [show u = V.bl b from rx], p ρ H _ m Ext.refl rfl⟩)
  | str a =>
    have p : Post G W (ValR G) σ ρ H ((match PySem.intText? a with | some n => (if a.length ≤ 640 then ret (CV.int n) else stuck : M CV) | none => stuck) h) Q := p
    cases q : PySem.intText? a with
    | none => rw [q] at p; exact p.elim
    | some n =>
      rw [q] at p
      by_cases c : a.length ≤ 640
      · have p : Post G W (ValR G) σ ρ H ((if a.length ≤ 640 then ret (CV.int n) else stuck : M CV) h) Q := p
        rw [if_pos c] at p
        exact .inr ⟨a, n, by rw [show u = V.str a from rx], q, c, p ρ H _ m Ext.refl rfl⟩
      · have p : Post G W (ValR G) σ ρ H ((if a.length ≤ 640 then ret (CV.int n) else stuck : M CV) h) Q := p
        rw [if_neg c] at p; exact p.elim
  | _ => exact p.elim
section
variable {G : Cfg} {W : WX} {X : Cx} {k : Nat} {f : Addr} {fd : FuncData} {x : Str} {p pos : Pos} {F : List CV → M CV}
theorem pe_callS0 {sp : Sp} {E : L2.St → XK} (ok : FnOk X.prog X.w X.K X.mg X.base (L2.CX X.prog X.w) k f fd [] sp) (hr : Room k X.A) (hg : Gl X x) (hm : X.mg x = some (.ref f)) (hk : PySem.W.keepIn X.K (.ref f) = true) (hb : Binds X.K fd [] []) (hx : ∀ σ, PassesAt (L2.CX X.prog X.w) X σ (E σ)) (hdb : (x == ("__debug__" : Str)) = false := by decide) :
    PE X (.Call (.Name x p) [] [] pos) (fun σ H Q => sp [] H Q (E σ)) :=
  ⟨fun pins s σ H Q I h => wpAny_Call_Name_kw (ld_glob I hg hm (PySem.W.callWith_K0 I.kIn hk (run_fnS (us := []) ok hr hb (hx σ) I .nil h)) hdb)⟩
theorem se_callF0 (B : Bx G W X) (hx : G.exi = none) (hy : G.lam = none) (ok : FnOk X.prog X.w X.K X.mg X.base (L2.CX X.prog X.w) k f fd [] (spH G 0 F)) (hr : Room k X.A) (hg : Gl X x) (hm : X.mg x = some (.ref f)) (hk : PySem.W.keepIn X.K (.ref f) = true) (hb : Binds X.K fd [] [])
    (hdb : (x == ("__debug__" : Str)) = false := by decide) : SE G W X (.Call (.Name x p) [] [] pos) (eB (callF 0 F) eNilA) :=
  (pe_lk (pe_callS0 (E := fun σ => WE W σ) ok hr hg hm hk hb (fun σ => passAt B.tk σ) hdb)).wk fun σ H Q ⟨ρ, h, τ, m, s, p⟩ => callF_ok hx hy m (show ValsR G ρ H [] [] from rfl) p fun _ _ _ z => z
end
end VE

noncomputable section
namespace VE
open PySem PySem.Spec PyProof.Rows L2 LamX
theorem bx_ValueError : SupX.BaseX "ValueError" "ValueError.__new__" "ValueError.__init__" [.type "ValueError", .type "Exception", .type "BaseException", .type "object"] := ⟨PySem.F.excBase_ValueError, PySem.W.kxs_ValueError, by decide +kernel, fun _ => by kernel_rfl⟩
theorem bx_ArithmeticError : SupX.BaseX "ArithmeticError" "ArithmeticError.__new__" "ArithmeticError.__init__" [.type "ArithmeticError", .type "Exception", .type "BaseException", .type "object"] := ⟨PySem.F.excBase_ArithmeticError, PySem.W.kxs_ArithmeticError, by decide +kernel, fun _ => by kernel_rfl⟩
theorem bx_RuntimeError : SupX.BaseX "RuntimeError" "RuntimeError.__new__" "RuntimeError.__init__" [.type "RuntimeError", .type "Exception", .type "BaseException", .type "object"] := ⟨PySem.F.excBase_RuntimeError, PySem.W.kxs_RuntimeError, by decide +kernel, fun _ => by kernel_rfl⟩
theorem bx_LookupError : SupX.BaseX "LookupError" "LookupError.__new__" "LookupError.__init__" [.type "LookupError", .type "Exception", .type "BaseException", .type "object"] := ⟨PySem.F.excBase_LookupError, PySem.W.kxs_LookupError, by decide +kernel, fun _ => by kernel_rfl⟩
theorem bx_OverflowError : SupX.BaseX "OverflowError" "OverflowError.__new__" "OverflowError.__init__" [.type "OverflowError", .type "ArithmeticError", .type "Exception", .type "BaseException", .type "object"] := ⟨PySem.F.excBase_OverflowError, PySem.W.kxs_OverflowError, by decide +kernel, fun _ => by kernel_rfl⟩
theorem bx_TypeError : SupX.BaseX "TypeError" "TypeError.__new__" "TypeError.__init__" [.type "TypeError", .type "Exception", .type "BaseException", .type "object"] := ⟨PySem.F.excBase_TypeError, PySem.W.kxs_TypeError, by decide +kernel, fun _ => by kernel_rfl⟩
theorem bx_Exception : SupX.BaseX "Exception" "Exception.__new__" "Exception.__init__" [.type "Exception", .type "BaseException", .type "object"] := ⟨PySem.F.excBase_Exception, PySem.W.kxs_Exception, by decide +kernel, fun _ => by kernel_rfl⟩
/-- a class that keeps its argument -/
structure KeepX (P : Program) (K : PySem.W.Frag) (mg : Str → Option Value) (C : Addr) (cn f : Str) : Prop where
  ex : ∃ fI B newId initId bmB, SupX.SupTxt P K mg C fI cn f B newId initId bmB
/-- a class without an __init__ of its own -/
structure PlainX (K : PySem.W.Frag) (mg : Str → Option Value) (C : Addr) (cn : Str) : Prop where
  ex : ∃ (B newId initId : String) (bmB : List Value), ExcBaseFacts B newId initId bmB ∧ PySem.W.excIn K C bmB newId = true
  gC : mg cn = some (.ref C)
  kC : PySem.W.keepIn K (.ref C) = true
  exC : PySem.W.subIn K (.ref C) (.type "BaseException") = some true
  tyC : PySem.W.typeIn K (.ref C) = some (.type "type")
theorem KeepX.gC {P : Program} {K : PySem.W.Frag} {mg : Str → Option Value} {C : Addr} {cn f : Str} (T : KeepX P K mg C cn f) : mg cn = some (.ref C) := let ⟨_, _, _, _, _, t⟩ := T.ex; t.gC
section
variable {G : Cfg} {W : WX} {X : Cx} {C : Addr} {cn f : Str} {a : Expr} {me : Sl → M CV} {p pos : Pos} {k j : Nat}
theorem sx_keep (T : KeepX X.prog X.K X.mg C cn f) (hr : Room j X.A) (hk : G.cls k = C) (hf : G.fld k = [f]) (ha : SE G W X a me) (hg : Gl X cn) (hdb : (cn == ("__debug__" : Str)) = false := by decide)
    (he : starEach (a :: []) X.env = (false, eval a X.env) :: starEach [] X.env := by rfl) (hpl : (backTo pos (starEach [] X.env)).any (·.1) = false := by rfl) : SX G W X (.Call (.Name cn p) [a] [] pos) (xArg k me) := by
  obtain ⟨_, _, _, _, _, t⟩ := T.ex
  exact sx_sup t hr hk hf ha hg hdb he hpl
theorem sx_plain {m : Str} {j2 : Nat} {p2 : Pos} (T : PlainX X.K X.mg C cn) (hg : Gl X cn) (hk : G.cls k = C) (hdb : (cn == ("__debug__" : Str)) = false := by decide) : SX G W X (.Call (.Name cn p) [.Constant (.str m) j2 p2] [] pos) (xMsg k) := by
  obtain ⟨_, _, _, _, F, q⟩ := T.ex
  exact sx_own F q T.gC T.kC (raises_own T.exC T.tyC) hg hk hdb
/-- e.f in a clause's suite -/
theorem se_keepF {ad : Addr} {oe : Obj} {pn : List (Addr × Obj)} {i : Nat} {y : Str} {x : Exn} {cls : Value} {d : Option Addr} (T : KeepX X.prog X.K X.mg C cn f) (hK : G.cls k = C) (hj : G.fld k = [f]) (hz : Zc cls d oe) (hf : ∃ vs, oe.data = .fields vs)
    (hN : X.N[i]? = some y) (hv : Vis X.env.scope y) (hd : (y == ("__debug__" : Str)) = false := by decide) (hcd : (y == ("__classdict__" : Str)) = false := by decide)
    (hb : attributeBase (.Name y p) f X.env (eval (.Name y p) X.env) = eval (.Name y p) X.env := by rfl) :
    SE (G.hold (some ⟨i, ad, cls, d, x⟩)) W (X.suite ad ((ad, oe) :: pn)) (.Attribute (.Name y p) f pos) (eXf k x) := by
  obtain ⟨_, _, _, _, _, t⟩ := T.ex
  exact se_xf G ⟨t.ga, t.gg, t.exC, t.hdC⟩ hK t.noN hz hf hj hN hv hd hcd hb
end
theorem keep_mk {P : Program} {K : PySem.W.Frag} {mg : Str → Option Value} {cn f : Str} {B newId initId : String} {bmB : List Value} (h : ∃ C fI, SupX.SupTxt P K mg C fI cn f B newId initId bmB) : ∃ C, KeepX P K mg C cn f := let ⟨C, fI, t⟩ := h; ⟨C, ⟨⟨fI, B, newId, initId, bmB, t⟩⟩⟩
theorem plain_mk {K : PySem.W.Frag} {h : Heap} {mg : Str → Option Value} (X : K.In h) (G : h.Ns mainGlobals mg) {cn : Str} {C : Addr} {B newId initId : String} {bmB : List Value} (F : ExcBaseFacts B newId initId bmB) (a : PySem.W.nsIn K mainGlobals cn = some (some (.ref C))) (q : PySem.W.excIn K C bmB newId = true)
    (kC : PySem.W.keepIn K (.ref C) = true) (exC : PySem.W.subIn K (.ref C) (.type "BaseException") = some true) (tyC : PySem.W.typeIn K (.ref C) = some (.type "type")) : ∃ C, PlainX K mg C cn := ⟨C, ⟨⟨B, newId, initId, bmB, F, q⟩, PySem.W.mg_of X G a, kC, exC, tyC⟩⟩
end VE

noncomputable section
namespace VE
open PySem PySem.Spec PyProof.Rows L2 LamX
theorem exm_mk {K : PySem.W.Frag} {h : Heap} {mg : Str → Option Value} (X : K.In h) (G : h.Ns mainGlobals mg) {c d : Str} {C D C1 D1 : Addr} {b : Bool} (gc : mg c = some (.ref C)) (gd : mg d = some (.ref D)) (a : PySem.W.nsIn K mainGlobals c = some (some (.ref C1))) (e : PySem.W.nsIn K mainGlobals d = some (some (.ref D1))) (r : PySem.W.exmOne K (.ref C1) (.ref D1) = some b) : PySem.W.exmOne K (.ref C) (.ref D) = some b := by
  have q1 := gc.symm.trans (PySem.W.mg_of X G a)
  have q2 := gd.symm.trans (PySem.W.mg_of X G e)
  cases q1
  cases q2
  exact r
theorem defP_mk {K : PySem.W.Frag} {h : Heap} {mg : Str → Option Value} (X : K.In h) (G : h.Ns mainGlobals mg) {x : Str} {st : Stmt} {f c P : Addr} {od an od2 : Option Addr} {osl osl2 : Array (Option Value)} {oc kV doc pm ct oc2 : Value} {vs : Array Value} (a : PySem.W.nsIn K mainGlobals x = some (some (.ref f)))
    (l : K.lookup f = some ⟨oc, od, .func (PySem.W.fnOf x x (defArgs st) (defBody st) (defScope st) .none kV doc pm an (.ref c) ct), osl⟩) (cd : PySem.W.codeIn K (.ref c) x = true) (k : PySem.W.keepIn K (.ref f) = true) (lc : K.lookup c = some ⟨oc2, od2, .fields vs, osl2⟩) (h11 : vs[11]? = some (.ref P)) (hd : PySem.W.codeHdIn K c P = true) (o : K.lookup P = none) :
    ∃ (f : Addr) (fd : FuncData) (c : Addr), mg x = some (.ref f) ∧ L2.Fun K x x st f fd ∧ FunC K x x st f fd c ∧ PySem.W.codeHdIn K c P = true ∧ K.lookup P = none :=
  ⟨f, _, c, PySem.W.mg_of X G a, L2.fun_mk l cd k, ⟨⟨oc, od, kV, doc, pm, an, ct, osl, rfl, l, cd⟩⟩, hd, o⟩
theorem defG_mk {K : PySem.W.Frag} {h : Heap} {mg : Str → Option Value} (X : K.In h) (G : h.Ns mainGlobals mg) {x : Str} {st : Stmt} {f c : Addr} {od an : Option Addr} {osl : Array (Option Value)} {oc kV doc pm ct : Value} (a : PySem.W.nsIn K mainGlobals x = some (some (.ref f)))
    (l : K.lookup f = some ⟨oc, od, .func (PySem.W.fnOf x x (defArgs st) (defBody st) (defScope st) .none kV doc pm an (.ref c) ct), osl⟩) (cd : PySem.W.codeIn K (.ref c) x = true) (k : PySem.W.keepIn K (.ref f) = true) :
    ∃ (f : Addr) (fd : FuncData) (c : Addr), mg x = some (.ref f) ∧ L2.Fun K x x st f fd ∧ FunC K x x st f fd c :=
  ⟨f, _, c, PySem.W.mg_of X G a, L2.fun_mk l cd k, ⟨⟨oc, od, kV, doc, pm, an, ct, osl, rfl, l, cd⟩⟩⟩
end VE

noncomputable section
namespace VE
open PySem PySem.Spec PyProof.Rows L2 LamX
/-- the items of a starred value -/
def starOf (x : CV) : M (List CV) := fun h => match seqOf x h with
  | some xs => .ok xs h
  | none => .bad
def eStarA (a : Sl → M CV) (r : Sl → M (List CV)) : Sl → M (List CV) := fun τ => bnd (a τ) fun x => bnd (starOf x) fun xs => bnd (r τ) fun ys h => sapp xs ys fun zs => .ok zs h
section
variable {G : Cfg} {W : WX} {X : Cx} {a : Expr} {es : List Expr} {ma : Sl → M CV} {ml : Sl → M (List CV)} {p : Pos}
theorem sa_star (hK : G.K = X.K) (ha : SE G W X a ma) (hr : SA G W X es ml) (hs : starEach (.Starred a p :: es) X.env = (true, eval a X.env) :: starEach es X.env := by rfl) : SA G W X (.Starred a p :: es) (eStarA ma ml) :=
  (StX.pa_star ha hr hs).wk fun σ H Q ⟨ρ, h, τ, m, s, q⟩ => tM_bind m s q fun x h1 ρ1 H1 u m1 e1 s1 r1 q1 => by
    have q1 : Post G W (ValsR G) σ ρ1 H1 (bnd (starOf x) (fun xs => bnd (ml τ) fun ys h => sapp xs ys fun zs => .ok zs h) h1) Q := q1
    unfold starOf at q1
    rw [rd_bnd] at q1
    cases e : seqOf x h1 with
    | none => rw [e] at q1; exact q1.elim
    | some xs =>
      rw [e] at q1
      obtain ⟨b, ys, eu, rr, sq⟩ := seqOf_r m1 r1 e
      refine ⟨b, ys, eu, ?_, ?_⟩
      · rw [← hK]
        by_cases ht : isTup x = true
        · rw [if_pos ht] at sq; exact .inl sq
        · rw [if_neg ht] at sq; exact .inr sq
      · exact tM_bind m1 s1 q1 fun zs h2 ρ2 H2 v m2 e2 s2 r2 q2 => by
          have q2 : Post G W (ValsR G) σ ρ2 H2 (sapp xs zs fun zs => Out.ok zs h2) Q := q2
          rw [sapp_eq] at q2
          exact q2 ρ2 H2 (ys ++ v) m2 Ext.refl ((rr.ext m1 e2).app r2)
end
theorem ValsR.snoc {G : Cfg} {ρ : Wd} {H : Hp} {x : CV} {v : V} (r : ValR G ρ H x v) : ∀ {xs : List CV} {vs : List V}, ValsR G ρ H xs vs → ValsR G ρ H (xs ++ [x]) (vs ++ [v]) := fun rs => rs.app ⟨v, [], rfl, r, rfl⟩
theorem ValsR.rev {G : Cfg} {ρ : Wd} {H : Hp} : ∀ {xs : List CV} {vs : List V}, ValsR G ρ H xs vs → ValsR G ρ H xs.reverse vs.reverse
  | [], vs, r => by rw [show vs = [] from r]; exact rfl
  | x :: xs, vs, ⟨y, r, e, h1, h2⟩ => by
    rw [e, List.reverse_cons, List.reverse_cons]
    exact ValsR.snoc h1 (ValsR.rev h2)
def tRev (K : PySem.W.Frag) (te ts : TE) : TE := fun σ H Q => te σ H fun x H1 => ts σ H1 fun k H2 => ∃ a xs, x = .ref a ∧ k = .int (-1) ∧ SqL K H2 a xs ∧ ∀ p, H2 p = none → Q (.ref p) (upd H2 p (.lst xs.reverse))
theorem rev_vals : ∀ {xs : List V} {us : List Value}, Vals xs us → Vals xs.reverse us.reverse
  | _, _, .nil => .nil
  | _, _, .cons a r => by
    rw [List.reverse_cons, List.reverse_cons]
    exact (rev_vals r).append (.cons a .nil)
section
variable {X : Cx} {e st : Expr} {te ts : TE} {pos p2 : Pos}
theorem pe_revL (he : PE X e te) (hs : PE X st ts) : PE X (.Subscript e (.Slice none none (some st) p2) pos) (tRev X.K te ts) := by
  refine ⟨fun pins s σ H Q I h => ?_⟩
  refine Subscript_ (thn (he.run pins s σ H _ I h) fun v s1 ⟨x, H1, I1, r1, q1⟩ => ?_)
  refine wpAny_Slice ?_
  rw [evalPart_none]
  refine wpAny_pure ?_
  refine wpAny_pure ?_
  rw [evalPart_some]
  refine thn (hs.run pins s1 σ H1 _ I1 q1) fun u s2 ⟨k, H2, I2, r2, a, xs, ex, ek, sq, q⟩ => ?_
  subst ex ek
  obtain ⟨t, rfl⟩ := r2
  cases r1
  have I4 : Inv X pins σ H2 { s2 with heap := s2.heap.push { cls := .type "slice", data := .fields #[.none, .none, .int (-1) t] } } := I2.kept (t' := s2.toks) fun b ob q => Heap.get?_push_of_some _ q
  obtain ⟨its, r, ht, hz⟩ := I4.list sq
  have hlen := r.length
  have hg : wpAny (model X.prog X.w) X.A (getItem (.ref a) (.ref s2.heap.objs.size)) (EP X pins σ Q) X.xe { s2 with heap := s2.heap.push { cls := .type "slice", data := .fields #[.none, .none, .int (-1) t] } } := by
    refine wpAny_getItem_list_slice ht.isList (Heap.IsSliceOf.new ..) .none .none (.int (-1) t) (by decide) ?_ (by rw [List.size_toArray] <;> omega)
    rw [PySem.W.krv_pick]
    refine ⟨.ref _, _, I4.laid (t' := s2.toks) (o := .lst xs.reverse) (fun b ob q => Heap.get?_push_of_some _ q) (Nat.le_refl _) ?_, rfl, q _ (I4.hok.fresh (Nat.le_refl _))⟩
    exact ⟨by rw [List.length_reverse]; exact hz, _, 0, rev_vals r, Heap.get?_push_size _ rfl⟩
  show wpAny (model X.prog X.w) X.A (subscriptTail e (.Slice none none (some st) p2) (.ref a) (.ref s2.heap.objs.size)) (EP X pins σ Q) X.xe { s2 with heap := s2.heap.push { cls := .type "slice", data := .fields #[.none, .none, .int (-1) t] } }
  exact tail_any (ops := [.ref a, .ref s2.heap.objs.size]) ht.isList.typeIs slot_list_getitem.lookup hg (by with_unfolding_all rfl)
end
def eRev (e k : Sl → M CV) : Sl → M CV := fun τ => bnd (e τ) fun x => bnd (k τ) fun i h => match i with
  | .int (-1) => match lisOf x h with
    | some xs => .ok (.lst xs.reverse) h
    | none => .bad
  | _ => .bad
theorem se_rev {G : Cfg} {W : WX} {X : Cx} {e st : Expr} {me mk : Sl → M CV} {pos p2 : Pos} (hK : G.K = X.K) (he : SE G W X e me) (hs : SE G W X st mk) : SE G W X (.Subscript e (.Slice none none (some st) p2) pos) (eRev me mk) :=
  (pe_revL he hs).wk fun σ H Q ⟨ρ, h, τ, m, s, p⟩ => tM_bind m s p fun x h1 ρ1 H1 u m1 e1 s1 r1 p1 => tM_bind m1 s1 p1 fun i h2 ρ2 H2 v m2 e2 s2 r2 p2 => by
    split at p2
    · cases q : lisOf x h2 with
      | none => rw [q] at p2; exact p2.elim
      | some xs =>
        rw [q] at p2
        obtain ⟨a, ys, eu, rr, sq⟩ := lisOf_r m2 (r1.ext m1 e2) q
        refine ⟨a, ys, eu, r2, ?_, fun b hb => Post.newLst m2 rr.rev p2 hb⟩
        rw [← hK]
        exact sq
    · exact p2.elim
end VE

noncomputable section
namespace VE
open PySem PySem.Spec PyProof.Rows L2 LamX
section
variable {G : Cfg} {ρ : Wd} {H : Hp}
theorem ValsR.at_ : ∀ {xs : List CV} {us : List V} {i : Nat} {x : CV}, ValsR G ρ H xs us → xs[i]? = some x → ∃ u, us[i]? = some u ∧ ValR G ρ H x u
  | [], _, i, x, r, e => by cases i <;> cases e
  | y :: ys, _, 0, x, ⟨v, t, e, r1, r2⟩, q => by subst e; cases q; exact ⟨v, rfl, r1⟩
  | y :: ys, _, i + 1, x, ⟨v, t, e, r1, r2⟩, q => by
    subst e
    obtain ⟨u, q1, q2⟩ := ValsR.at_ r2 (i := i) (x := x) q
    exact ⟨u, q1, q2⟩
theorem ValsR.dropLast : ∀ {xs : List CV} {us : List V}, ValsR G ρ H xs us → ValsR G ρ H xs.dropLast us.dropLast
  | [], us, r => by rw [show us = [] from r]; exact rfl
  | [x], us, ⟨v, t, e, r1, r2⟩ => by subst e; rw [show t = [] from r2]; exact rfl
  | x :: y :: xs, us, ⟨v, t, e, r1, r2⟩ => by
    subst e
    obtain ⟨w, t2, e2, r3, r4⟩ := r2
    subst e2
    exact ⟨v, _, rfl, r1, ValsR.dropLast (xs := y :: xs) (us := w :: t2) ⟨w, t2, rfl, r3, r4⟩⟩
theorem ValsR.erase : ∀ {xs : List CV} {us : List V} (i : Nat), ValsR G ρ H xs us → ValsR G ρ H (xs.eraseIdx i) (us.eraseIdx i)
  | [], us, i, r => by rw [show us = [] from r]; exact rfl
  | x :: xs, us, 0, ⟨v, t, e, r1, r2⟩ => by subst e; exact r2
  | x :: xs, us, i + 1, ⟨v, t, e, r1, r2⟩ => by subst e; exact ⟨v, _, rfl, r1, r2.erase i⟩
end
def pyPop (x : CV) (ys : List CV) : M CV := fun h => match x, ys with
  | .ref l, [] => match memAt h l with
    | some xs => match xs[xs.length - 1]? with
      | some y => frLs (frV 3) xs.dropLast fun zs => sset h l (.lst zs) fun h => .ok y h
      | none => .bad
    | none => .bad
  | _, _ => .bad
theorem pop_ok {G : Cfg} : Mt G rPop pyPop := by
  intro W σ ρ h H x u ys us Q m rx rys p
  unfold pyPop at p
  split at p
  · rename_i l
    obtain ⟨a, q, eu⟩ := rx
    split at p
    · rename_i xs hc
      obtain ⟨zs, e, rr⟩ := m.obj l a _ q (memAt_some hc)
      split at p
      · rename_i y hy
        rw [frLs_eq (frV_eq 3), sset_eq] at p
        obtain ⟨w, hw, rw_⟩ := rr.at_ hy
        have lw : zs.length = xs.length := rr.len.symm
        exact ⟨a, zs, w, eu, rys, e, by rw [lw]; exact hw, p ρ _ w (m.write q rr.dropLast) (Ext.writeAt m q) (rw_.ext m (Ext.writeAt m q))⟩
      · exact p.elim
    · exact p.elim
  · exact p.elim
def pyPopAt (x : CV) (ys : List CV) : M CV := fun h => match x, ys with
  | .ref l, [.int i] => match memAt h l with
    | some xs => if -(2 ^ 63) ≤ i ∧ i < 2 ^ 63 then match seqIndex? i xs.length with
      | some k => match xs[k]? with
        | some y => frLs (frV 3) (xs.eraseIdx k) fun zs => sset h l (.lst zs) fun h => .ok y h
        | none => .bad
      | none => .bad
      else .bad
    | none => .bad
  | _, _ => .bad
theorem popAt_ok {G : Cfg} : Mt G rPopAt pyPopAt := by
  intro W σ ρ h H x u ys us Q m rx rys p
  unfold pyPopAt at p
  split at p
  · rename_i l i
    obtain ⟨a, q, eu⟩ := rx
    obtain ⟨w, t, ew, r1, r2⟩ := rys
    cases (show t = [] from r2)
    split at p
    · rename_i xs hc
      obtain ⟨zs, e, rr⟩ := m.obj l a _ q (memAt_some hc)
      split at p
      · rename_i hb
        split at p
        · rename_i k hk
          split at p
          · rename_i y hy
            rw [frLs_eq (frV_eq 3), sset_eq] at p
            obtain ⟨v, hv, rv⟩ := rr.at_ hy
            have lw : zs.length = xs.length := rr.len.symm
            exact ⟨a, zs, i, k, v, eu, by rw [ew, show w = V.int i from r1], e, hb.1, hb.2, by rw [lw]; exact hk, hv, p ρ _ v (m.write q (rr.erase k)) (Ext.writeAt m q) (rv.ext m (Ext.writeAt m q))⟩
          · exact p.elim
        · exact p.elim
      · exact p.elim
    · exact p.elim
  · exact p.elim
def insI (x : Int) : List Int → List Int := fun l => List.rec [x] (fun y t ih => Bool.rec (y :: ih) (x :: y :: t) (decide (x ≤ y))) l
def srtI (l : List Int) : List Int := List.rec [] (fun x _ ih => insI x ih) l
theorem insI_perm (x : Int) : ∀ l : List Int, (insI x l).Perm (x :: l)
  | [] => List.Perm.refl _
  | y :: t => by
    show (Bool.rec (y :: insI x t) (x :: y :: t) (decide (x ≤ y)) : List Int).Perm _
    cases decide (x ≤ y) with
    | true => exact List.Perm.refl _
    | false => exact ((insI_perm x t).cons y).trans (List.Perm.swap x y t)
theorem srtI_perm : ∀ l : List Int, (srtI l).Perm l
  | [] => List.Perm.refl _
  | x :: t => (insI_perm x (srtI t)).trans ((srtI_perm t).cons x)
theorem insI_mem {x z : Int} {l : List Int} (h : z ∈ insI x l) : z = x ∨ z ∈ l := List.mem_cons.mp ((insI_perm x l).mem_iff.mp h)
theorem insI_sorted (x : Int) : ∀ l : List Int, l.Pairwise (· ≤ ·) → (insI x l).Pairwise (· ≤ ·)
  | [], _ => List.pairwise_singleton _ _
  | y :: t, h => by
    obtain ⟨h1, h2⟩ := List.pairwise_cons.mp h
    show (Bool.rec (y :: insI x t) (x :: y :: t) (decide (x ≤ y)) : List Int).Pairwise _
    cases c : decide (x ≤ y) with
    | true =>
      have c := of_decide_eq_true c
      refine List.pairwise_cons.mpr ⟨fun z hz => ?_, h⟩
      rcases List.mem_cons.mp hz with rfl | hz
      · exact c
      · exact Int.le_trans c (h1 z hz)
    | false =>
      have c := of_decide_eq_false c
      refine List.pairwise_cons.mpr ⟨fun z hz => ?_, insI_sorted x t h2⟩
      rcases insI_mem hz with rfl | hz
      · omega
      · exact h1 z hz
theorem srtI_sorted : ∀ l : List Int, (srtI l).Pairwise (· ≤ ·)
  | [] => List.Pairwise.nil
  | x :: t => insI_sorted x _ (srtI_sorted t)
theorem sorted_one : ∀ {l m : List Int}, l.Pairwise (· ≤ ·) → m.Pairwise (· ≤ ·) → l.Perm m → l = m
  | [], m, _, _, h => (List.Perm.eq_nil h.symm).symm
  | x :: l, [], _, _, h => absurd h.length_eq (by simp)
  | x :: l, y :: m, hl, hm, h => by
    obtain ⟨a1, a2⟩ := List.pairwise_cons.mp hl
    obtain ⟨b1, b2⟩ := List.pairwise_cons.mp hm
    have e : x = y := by
      have p1 : y ≤ x := by
        rcases List.mem_cons.mp (h.mem_iff.mp (List.mem_cons_self (a := x) (l := l))) with e | z
        · exact Int.le_of_eq e.symm
        · exact b1 x z
      have p2 : x ≤ y := by
        rcases List.mem_cons.mp (h.mem_iff.mpr (List.mem_cons_self (a := y) (l := m))) with e | z
        · exact Int.le_of_eq e.symm
        · exact a1 y z
      omega
    subst e
    rw [sorted_one a2 b2 h.cons_inv]
def pySrtI (x : CV) : M CV := fun h => match lisOf x h with
  | some xs => match intsOf xs with
    | some ns => .ok (.lst ((srtI ns).map CV.int)) h
    | none => .bad
  | none => .bad
theorem ints_r {G : Cfg} {ρ : Wd} {H : Hp} : ∀ ns : List Int, ValsR G ρ H (ns.map CV.int) (ns.map V.int)
  | [] => rfl
  | n :: ns => ⟨.int n, _, rfl, rfl, ints_r ns⟩
theorem srtI_ok {G : Cfg} : OpL G (rSortedI G.K) (one pySrtI) := one_ok fun W σ ρ h H x u Q m rx p => by
  unfold pySrtI at p
  cases e : lisOf x h with
  | none => rw [e] at p; exact p.elim
  | some xs =>
    rw [e] at p
    simp only at p
    cases e2 : intsOf xs with
    | none => rw [e2] at p; exact p.elim
    | some ns =>
      rw [e2] at p
      obtain ⟨a, ys, eu, rr, sq⟩ := lisOf_r m rx e
      have ey := intsOf_r e2 rr
      subst ey
      refine ⟨a, ns, by rw [eu], sq, fun ns' b hp hs hb => ?_⟩
      have en : ns' = srtI ns := sorted_one hs (srtI_sorted ns) (hp.trans (srtI_perm ns).symm)
      subst en
      exact Post.newLst m (ints_r _) p hb
end VE

noncomputable section
namespace VE
open PySem PySem.Spec PyProof.Rows L2 LamX
/-- in which classes the name f stands for a slot, and for which one -/
abbrev FTab := Nat → Option Nat
structure FldK (G : Cfg) (f : Str) (tab : FTab) : Prop where
  ok : ∀ k i, tab k = some i → SlX.SCls G.K (G.cls k) ∧ ∃ p, SlX.Slot1 G.K (G.cls k) f p i
/-- e.f -/
def fldOf (tab : FTab) (x : CV) : M CV := fun h => match x with
  | .ins k xs => match tab k with
    | some i => match sget xs i with
      | some v => .ok v h
      | none => .bad
    | none => .bad
  | .ref l => match sget h l with
    | some (.ins k vs) => match tab k with
      | some i => match sget vs i with
        | some (some v) => .ok v h
        | _ => .bad
      | none => .bad
    | _ => .bad
  | _ => .bad
def eFld (tab : FTab) (e : Sl → M CV) : Sl → M CV := fun τ => bnd (e τ) (fldOf tab)
section
variable {G : Cfg} {W : WX} {X : Cx} {e : Expr} {me : Sl → M CV} {f : Str} {pos : Pos} {tab : FTab}
theorem se_fld (hK : G.K = X.K) (F : FldK G f tab) (he : SE G W X e me) (hb : attributeBase e f X.env (eval e X.env) = eval e X.env := by rfl) : SE G W X (.Attribute e f pos) (eFld tab me) :=
  (SlX.pe_sl he hb).wk fun σ H Q ⟨ρ, h, τ, m, s, p⟩ => tM_bind m s p fun x h1 ρ1 H1 u m1 e1 s1 r1 p1 => by
    unfold fldOf at p1
    split at p1
    · rename_i k xs
      obtain ⟨a, dx, us, eu, n, nd, w, wd, rr⟩ := r1
      split at p1
      · rename_i i hi
        split at p1
        · rename_i v hv
          obtain ⟨c, q, t⟩ := F.ok k i hi
          rw [sget_eq] at hv
          obtain ⟨y, hy, ry⟩ := rr.at_ hv
          rw [hK] at c t
          exact ⟨a, G.cls k, dx, q, us.map some, i, y, eu, .inr ⟨w, wd⟩, c, t, by rw [List.getElem?_map, hy]; rfl, p1 ρ1 H1 y m1 Ext.refl ry⟩
        · exact p1.elim
      · exact p1.elim
    · rename_i l
      obtain ⟨a, q0, eu⟩ := r1
      split at p1
      · rename_i k vs hc
        rw [sget_eq] at hc
        obtain ⟨dx, us, w, nd, wd, rr⟩ := m1.obj l a _ q0 hc
        split at p1
        · rename_i i hi
          split at p1
          · rename_i v hv
            obtain ⟨c, q, t⟩ := F.ok k i hi
            rw [sget_eq] at hv
            obtain ⟨y, hy, ry⟩ := rr.2 i v hv
            rw [hK] at c t
            exact ⟨a, G.cls k, dx, q, us, i, y, eu, .inr ⟨w, wd⟩, c, t, hy, p1 ρ1 H1 y m1 Ext.refl ry⟩
          · exact p1.elim
        · exact p1.elim
      · exact p1.elim
    · exact p1.elim
end
def gFld (tab : FTab) (o : Sl → M CV) : CV → Sl → M Sl := fun v τ => bnd (o τ) fun x h => match x with
  | .ref l => match sget h l with
    | some (.ins k vs) => match tab k with
      | some i => if i < vs.length then frV 3 v fun v => sset vs i (some v) fun vs => sset h l (.ins k vs) fun h => .ok τ h else .bad
      | none => .bad
    | _ => .bad
  | _ => .bad
def mFld (tab : FTab) (o e : Sl → M CV) : MS := fun τ => inS (e τ) τ fun v h => match gFld tab o v τ h with
  | .ok τ h => .mk (.nx τ) h
  | _ => .bad
theorem putS_lt {i : Nat} {v : V} {vs : List (Option V)} (h : i < vs.length) : SlX.putS i v vs = vs.set i (some v) := by
  unfold SlX.putS
  rw [show i + 1 - vs.length = 0 by omega]
  simp
theorem SlV.set {G : Cfg} {ρ : Wd} {H : Hp} {τ : Sl} {σ : List (Option V)} {i : Nat} {v : CV} {u : V} (r : SlV G ρ H τ σ) (q : ValR G ρ H v u) : SlV G ρ H (τ.set i (some v)) (σ.set i (some u)) := by
  refine ⟨by rw [List.length_set, List.length_set]; exact r.1, fun j x hx => ?_⟩
  by_cases c : j = i
  · subst c
    by_cases l : j < τ.length
    · rw [List.getElem?_set_self l] at hx
      cases hx
      exact ⟨u, List.getElem?_set_self (by rw [← r.1]; exact l), q⟩
    · rw [List.getElem?_eq_none (by rw [List.length_set]; omega)] at hx; cases hx
  · rw [List.getElem?_set_ne (Ne.symm c)] at hx
    obtain ⟨y, hy, ry⟩ := r.2 j x hx
    exact ⟨y, by rw [List.getElem?_set_ne (Ne.symm c)]; exact hy, ry⟩
/-- an instance of the memory is stored into -/
theorem MemR.writeI {G : Cfg} {ρ : Wd} {h : Mem} {H : Hp} {l k : Nat} {a dx : Addr} {vs : List (Option CV)} {us : List (Option V)} (m : MemR G ρ h H) (q0 : ρ.r[l]? = some a) (nd : ¬ ρ.has dx) (wd : H dx = some (.xd [])) (r : SlV G ρ H vs us) :
    MemR G ρ (h.set l (.ins k vs)) (upd H a (SlX.SlO a (G.cls k) dx us)) := by
  have hp : a ∈ ρ.r := List.mem_of_getElem? q0
  have ne : dx ≠ a := fun z => nd (z ▸ .inl hp)
  have e := m.at_ (.inl hp)
  exact m.writeO q0 ⟨dx, us, upd_same, nd, by rw [upd_ne ne]; exact wd, r.1, fun i v w => let ⟨u, b, c⟩ := r.2 i v w; ⟨u, b, c.wr (.inl hp) e⟩⟩
theorem slH_of {H : Hp} {a C dx : Addr} {vs : List (Option V)} (wd : H dx = some (.xd [])) (ne : dx ≠ a) : SlX.slH H a C dx vs = upd H a (SlX.SlO a C dx vs) := by
  funext b
  unfold SlX.slH
  by_cases h1 : b = a
  · rw [h1, upd_same, upd_same]
  · rw [upd_ne h1, upd_ne h1]
    by_cases h2 : b = dx
    · rw [h2, upd_same, wd]
    · rw [upd_ne h2]
section
variable {G : Cfg} {W : WX} {X : Cx} {o value : Expr} {mo mv : Sl → M CV} {f : Str} {pos pos' : Pos} {tab : FTab}
theorem ss_fld (hK : G.K = X.K) (F : FldK G f tab) (ho : SE G W X o mo) (hv : SE G W X value mv) (hs : swapsWith value (some (.Attribute o f pos')) pos.line X.env = pure false := by rfl) : SS G W X (.Assign [.Attribute o f pos'] value pos) (mFld tab mo mv) := by
  refine (SlX.ps_sl ho hv hs).wk fun D σ H ⟨ρ, h, τ, m, s, p⟩ => tM_inS m s p fun v h1 ρ1 H1 u m1 e1 s1 r1 p1 => ?_
  refine ⟨ρ1, h1, τ, m1, s1, ?_⟩
  unfold gFld bnd at p1
  cases e : mo τ h1 with
  | exc x h2 => rw [e] at p1; exact p1.elim
  | bad => rw [e] at p1; exact p1.elim
  | ok x h2 =>
    rw [e] at p1
    intro ρ2 H2 y m2 e2 r2
    cases x with
    | ref l =>
      obtain ⟨a, q0, eu⟩ := r2
      dsimp only at p1
      cases hc : sget h2 l with
      | none => rw [hc] at p1; exact p1.elim
      | some co =>
        rw [hc] at p1
        cases co with
        | ins k vs =>
          rw [sget_eq] at hc
          obtain ⟨dx, us, w, nd, wd, rr⟩ := m2.obj l a _ q0 hc
          dsimp only at p1
          cases hi : tab k with
          | none => rw [hi] at p1; exact p1.elim
          | some i =>
            rw [hi] at p1
            dsimp only at p1
            by_cases lt : i < vs.length
            · rw [if_pos lt] at p1
              simp only [frV_eq, sset_eq] at p1
              obtain ⟨c, q, t⟩ := F.ok k i hi
              rw [hK] at c t
              refine ⟨a, G.cls k, dx, q, us, i, eu, .inr ⟨w, wd⟩, c, t, ?_⟩
              have ne : dx ≠ a := fun z => nd (z ▸ .inl (List.mem_of_getElem? q0))
              rw [slH_of wd ne, putS_lt (by rw [← rr.1]; exact lt)]
              have r1' := r1.ext m1 e2
              have m3 := m2.writeI (k := k) q0 nd wd (rr.set (i := i) r1')
              have e3 : Ext ρ2 H2 ρ2 (upd H2 a (SlX.SlO a (G.cls k) dx (us.set i (some u)))) := Ext.writeAt m2 q0
              exact p1 ρ2 _ σ m3 (e2.trans e3) ((s1.ext m1 e2).ext m2 e3)
            · rw [if_neg lt] at p1; exact p1.elim
        | _ => exact p1.elim
    | _ => exact p1.elim
end
end VE

noncomputable section
namespace VE
open PySem PySem.Spec PyProof.Rows L2 LamX
/-- the object, then nothing that is told -/
def eM (e : Sl → M CV) : Sl → M CV := fun τ => bnd (e τ) fun _ => stuck
def eBad : Sl → M CV := fun _ => stuck
section
variable {G : Cfg} {W : WX} {X : Cx} {e o : Expr} {me mo : Sl → M CV} {f m : Str} {pos apos : Pos} {es : List Expr} {kws : List Keyword} {pl : Sem Bool}
theorem se_bad : SE G W X e eBad := ⟨fun pins s σ H Q I ⟨ρ, h, τ, m, s, p⟩ => p.elim⟩
theorem eM_out {σ : L2.St} {H : Hp} {Q : VK} (h : tV G W (eM me) σ H Q) : tV G W me σ H fun _ _ => False := by
  obtain ⟨ρ, h, τ, m, s, p⟩ := h
  exact tM_bind (R := ValR G) m s p fun x h1 ρ1 H1 u m1 e1 s1 r1 p1 => p1.elim
theorem se_abad (he : SE G W X e me) (hb : attributeBase e f X.env (eval e X.env) = eval e X.env := by rfl) : SE G W X (.Attribute e f pos) (eM me) :=
  ⟨fun pins s σ H Q I h => attr_of hb (thn (he.run pins s σ H _ I (eM_out h)) fun u s1 ⟨v, H1, I1, r, q⟩ => q.elim)⟩
theorem se_mbad (he : SE G W X o mo)
    (ht : eval (.Call (.Attribute o m apos) es kws pos) X.env = (do
      let ov ← eval o X.env
      standAt apos.atName
      let (f, first) ← holding [ov] (getMethod ov m pl)
      callWith pos f first (backTo pos (starEach es X.env)) (backToKw pos (keywordEach kws X.env))) := by rfl) : SE G W X (.Call (.Attribute o m apos) es kws pos) (eM mo) :=
  ⟨fun pins s σ H Q I h => PySem.W.methodCall_KW (pl := pl) (thn (he.run pins s σ H _ I (eM_out h)) fun u s1 ⟨v, H1, I1, r, q⟩ => q.elim) ht⟩
end
theorem fn_bad {P : Program} {w : World} {K : PySem.W.Frag} {mg : Str → Option Value} {base : Heap} {k : Nat} {f : Addr} {fd : FuncData} {ps : List Str} {G : Cfg} {np : Nat} : FnOk P w K mg base (L2.CX P w) k f fd ps (spH G np fun _ => stuck) :=
  ⟨fun xs H Q E h => (let ⟨_, ρ, h, xs, m, r, p⟩ := h; p.elim : False).elim, fun A out s H ar us xs Q E _ _ _ _ h => (let ⟨_, ρ, h, xs, m, r, p⟩ := h; p.elim : False).elim⟩
/-- a def under another name -/
theorem defA_mk {K : PySem.W.Frag} {h : Heap} {mg : Str → Option Value} (X : K.In h) (G : h.Ns mainGlobals mg) {y x : Str} {st : Stmt} {f : Addr} {od an : Option Addr} {osl : Array (Option Value)} {oc kV doc pm cdv ct : Value} (a : PySem.W.nsIn K mainGlobals y = some (some (.ref f)))
    (l : K.lookup f = some ⟨oc, od, .func (PySem.W.fnOf x x (defArgs st) (defBody st) (defScope st) .none kV doc pm an cdv ct), osl⟩) (c : PySem.W.codeIn K cdv x = true) (k : PySem.W.keepIn K (.ref f) = true) :
    ∃ (f : Addr) (fd : FuncData), mg y = some (.ref f) ∧ Fun K x x st f fd := ⟨f, _, PySem.W.mg_of X G a, fun_mk l c k⟩
end VE

noncomputable section
namespace VE
open PySem PySem.Spec PyProof.Rows L2 LamX
def sameK (x y : CV) : Bool := match x, y with
  | .int i, .int j => decide (i = j)
  | .str a, .str b => decide (a = b)
  | _, _ => false
def isKey : CV → Bool
  | .int _ => true
  | .str _ => true
  | _ => false
def dget (ks : List CV) (k : CV) : List CV → Option CV := List.rec (fun _ => none) (fun x _ ih vs => List.rec none (fun v t _ => Bool.rec (ih t) (some v) (sameK x k)) vs) ks
def dhas (ks : List CV) (k : CV) : Bool := List.rec false (fun x _ ih => Bool.rec ih true (sameK x k)) ks
def drep {α : Type} (ks : List CV) (k v : CV) : List CV → (List CV → α) → α := List.rec (fun _ c => c []) (fun x _ ih vs c => List.rec (c []) (fun y t _ => Bool.rec (ih t fun r => c (y :: r)) (ih t fun r => c (v :: r)) (sameK x k)) vs) ks
def dput {α : Type} (ks vs : List CV) (k v : CV) (c : List CV → List CV → α) : α := Bool.rec (sapp ks [k] fun ks' => sapp vs [v] fun vs' => c ks' vs') (drep ks k v vs fun vs' => c ks vs') (dhas ks k)
theorem keyC_kV {G : Cfg} {ρ : Wd} {H : Hp} {k : Key} {u : V} (r : ValR G ρ H (keyC k) u) : u = kV k := by cases k <;> exact r
theorem kV_keyC {G : Cfg} {ρ : Wd} {H : Hp} (k : Key) : ValR G ρ H (keyC k) (kV k) := by cases k <;> rfl
theorem isKey_of {x : CV} (h : isKey x = true) : ∃ k : Key, x = keyC k := by
  cases x with
  | int i => exact ⟨.inl i, rfl⟩
  | str a => exact ⟨.inr a, rfl⟩
  | _ => cases h
theorem sameK_eq (a b : Key) : sameK (keyC a) (keyC b) = decide (a = b) := by
  cases a with
  | inl i => cases b with
    | inl j => show decide (i = j) = _; by_cases c : i = j <;> simp [c]
    | inr y => show false = _; simp
  | inr x => cases b with
    | inl j => show false = _; simp
    | inr y => show decide (x = y) = _; by_cases c : x = y <;> simp [c]
section
variable {G : Cfg} {ρ : Wd} {H : Hp}
theorem dget_r (k : Key) : ∀ (kvs : List (Key × V)) (vs : List CV), ValsR G ρ H vs (kvs.map (·.2)) → (dget (kvs.map fun e => keyC e.1) (keyC k) vs = none → valV kvs k = none) ∧ ∀ v, dget (kvs.map fun e => keyC e.1) (keyC k) vs = some v → ∃ u, valV kvs k = some u ∧ ValR G ρ H v u
  | [], vs, _ => ⟨fun _ => rfl, fun v e => nomatch (show (none : Option CV) = some v from e)⟩
  | p :: r, [], q => nomatch (show p.2 :: r.map (·.2) = [] from q)
  | p :: r, v :: vs, q => by
    obtain ⟨u, t, e, r1, r2⟩ := q
    cases e
    obtain ⟨i1, i2⟩ := dget_r k r vs r2
    have st : dget ((p :: r).map fun e => keyC e.1) (keyC k) (v :: vs) = (Bool.rec (dget (r.map fun e => keyC e.1) (keyC k) vs) (some v) (sameK (keyC p.1) (keyC k)) : Option CV) := rfl
    rw [st, sameK_eq]
    by_cases c : p.1 = k
    · rw [decide_eq_true c, valV_pos c]
      exact ⟨fun z => (nomatch (show some v = none from z)), fun w z => by cases (show some v = some w from z); exact ⟨_, rfl, r1⟩⟩
    · rw [decide_eq_false c, valV_neg c]
      exact ⟨i1, i2⟩
theorem dhas_eq (k : Key) : ∀ kvs : List (Key × V), dhas (kvs.map fun e => keyC e.1) (keyC k) = kvs.any fun e => decide (e.1 = k)
  | [] => rfl
  | p :: r => by
    have st : dhas ((p :: r).map fun e => keyC e.1) (keyC k) = (Bool.rec (dhas (r.map fun e => keyC e.1) (keyC k)) true (sameK (keyC p.1) (keyC k)) : Bool) := rfl
    rw [st, sameK_eq, List.any_cons, dhas_eq k r]
    by_cases c : p.1 = k
    · rw [decide_eq_true c]; rfl
    · rw [decide_eq_false c]; rfl
theorem drep_r {α : Type} {v : CV} {u : V} (rv : ValR G ρ H v u) (k : Key) : ∀ (kvs : List (Key × V)) (vs : List CV) (c : List CV → α), ValsR G ρ H vs (kvs.map (·.2)) → ∃ vs', drep (kvs.map fun e => keyC e.1) (keyC k) v vs c = c vs' ∧ ValsR G ρ H vs' ((kvs.map fun kv => if kv.1 = k then (kv.1, u) else kv).map (·.2))
  | [], vs, c, q => ⟨[], rfl, rfl⟩
  | p :: r, [], c, q => nomatch (show p.2 :: r.map (·.2) = [] from q)
  | p :: r, y :: vs, c, q => by
    obtain ⟨w, t, e, r1, r2⟩ := q
    cases e
    have st : drep ((p :: r).map fun e => keyC e.1) (keyC k) v (y :: vs) c = (Bool.rec (drep (r.map fun e => keyC e.1) (keyC k) v vs fun r => c (y :: r)) (drep (r.map fun e => keyC e.1) (keyC k) v vs fun r => c (v :: r)) (sameK (keyC p.1) (keyC k)) : α) := rfl
    rw [st, sameK_eq]
    by_cases z : p.1 = k
    · obtain ⟨vs', e1, e2⟩ := drep_r rv k r vs (fun r => c (v :: r)) r2
      rw [decide_eq_true z]
      refine ⟨v :: vs', e1, u, _, ?_, rv, e2⟩
      rw [List.map_cons, List.map_cons, if_pos z]
    · obtain ⟨vs', e1, e2⟩ := drep_r rv k r vs (fun r => c (y :: r)) r2
      rw [decide_eq_false z]
      refine ⟨y :: vs', e1, p.2, _, ?_, r1, e2⟩
      rw [List.map_cons, List.map_cons, if_neg z]
theorem ValsR.app1 {xs : List CV} {ys : List V} {x : CV} {y : V} (r : ValsR G ρ H xs ys) (q : ValR G ρ H x y) : ValsR G ρ H (xs ++ [x]) (ys ++ [y]) := r.app (show ValsR G ρ H [x] [y] from ⟨y, [], rfl, q, rfl⟩)
theorem dput_r {α : Type} {v : CV} {u : V} (rv : ValR G ρ H v u) (k : Key) (kvs : List (Key × V)) (vs : List CV) (c : List CV → List CV → α) (r : ValsR G ρ H vs (kvs.map (·.2))) :
    ∃ vs', dput (kvs.map fun e => keyC e.1) vs (keyC k) v c = c ((putK kvs k u).map fun e => keyC e.1) vs' ∧ ValsR G ρ H vs' ((putK kvs k u).map (·.2)) := by
  unfold dput putK
  rw [dhas_eq]
  by_cases z : (kvs.any fun kv => decide (kv.1 = k)) = true
  · rw [z, if_pos rfl]
    obtain ⟨vs', e1, e2⟩ := drep_r rv k kvs vs (fun vs' => c (kvs.map fun e => keyC e.1) vs') r
    refine ⟨vs', ?_, e2⟩
    show drep _ _ _ _ _ = _
    rw [e1]
    have : (kvs.map fun kv => if kv.1 = k then (kv.1, u) else kv).map (fun e => keyC e.1) = kvs.map fun e => keyC e.1 := by
      rw [List.map_map]
      refine List.map_congr_left fun p _ => ?_
      show keyC (if p.1 = k then (p.1, u) else p).1 = keyC p.1
      split <;> rfl
    rw [this]
  · rw [Bool.not_eq_true] at z
    rw [z, if_neg Bool.false_ne_true]
    refine ⟨vs ++ [v], ?_, ?_⟩
    · show sapp _ _ _ = _
      rw [sapp_eq, sapp_eq, List.map_append]
      rfl
    · rw [List.map_append]
      exact r.app1 rv
end
/-- the pairs of a dict -/
def dicOf (x : CV) (h : Mem) : Option (Bool × List CV × List CV) := match x with
  | .dic n ks vs => some (n, ks, vs)
  | .ref l => match sget h l with
    | some (.dic _ n ks vs) => some (n, ks, vs)
    | _ => none
  | _ => none
theorem DicR.k {G : Cfg} {ρ : Wd} {H : Hp} {ks vs : List CV} {a : Addr} {u : HO} (d : DicR G ρ H false ks vs a u) : ∃ kvs, u = .dK kvs ∧ ks = kvs.map (fun e => keyC e.1) ∧ ValsR G ρ H vs (kvs.map (·.2)) := d.2 rfl
theorem dicOf_r {G : Cfg} {ρ : Wd} {h : Mem} {H : Hp} {x : CV} {u : V} {ks vs : List CV} (m : MemR G ρ h H) (r : ValR G ρ H x u) (e : dicOf x h = some (false, ks, vs)) : ∃ a kvs, u = .ref a ∧ Rd H a (.dK kvs) ∧ ks = kvs.map (fun e => keyC e.1) ∧ ValsR G ρ H vs (kvs.map (·.2)) := by
  cases x with
  | dic n ks' vs' =>
    cases e
    obtain ⟨a, ob, w, eu, nh, hw, d⟩ := valR_dic.mp r
    obtain ⟨kvs, rfl, e1, e2⟩ := d.k
    exact ⟨a, kvs, eu, .inr ⟨ob, hw⟩, e1, e2⟩
  | ref l =>
    obtain ⟨a, q, eu⟩ := r
    unfold dicOf at e
    simp only [sget_eq] at e
    cases hc : h[l]? with
    | none => rw [hc] at e; cases e
    | some co =>
      rw [hc] at e
      cases co with
      | dic lk n ks' vs' =>
        cases e
        obtain ⟨w, h1, h2, d⟩ := m.obj l a _ q hc
        obtain ⟨kvs, rfl, e1, e2⟩ := d.k
        cases lk with
        | true => obtain ⟨ob, z⟩ := h1 rfl; exact ⟨a, kvs, eu, .inr ⟨ob, z⟩, e1, e2⟩
        | false => exact ⟨a, kvs, eu, .inl (h2 rfl), e1, e2⟩
      | _ => cases e
  | _ => cases e
theorem u1 {k : Nat} {A : Around} (hr : Room k A) : A.units + 1 < cLine := by have := u65 hr; omega
def rDIn (neg : Bool) : R2 := fun y x H Q => ∃ a o, x = .ref a ∧ DGet H a y o ∧ Q (.bl (neg ^^ o.isSome)) H
theorem op_inK {X : Cx} {k : Nat} (hr : Room k X.A) : OpR X (compareOp .In) (rDIn false) := fun pins s σ H x y v u Q I rx ry ⟨a, o, e, g, q⟩ => by
  subst e
  cases (show u = Value.ref a from ry)
  exact d_in (u1 hr) I g rx fun s' I' => ⟨.bl _, H, I', rfl, by rw [Bool.false_xor] at q; exact q⟩
theorem op_ninK {X : Cx} {k : Nat} (hr : Room k X.A) : OpR X (compareOp .NotIn) (rDIn true) := fun pins s σ H x y v u Q I rx ry ⟨a, o, e, g, q⟩ => by
  subst e
  cases (show u = Value.ref a from ry)
  exact d_notIn (u1 hr) I g rx fun s' I' => ⟨.bl _, H, I', rfl, by rw [Bool.true_xor] at q; exact q⟩
def pyInK (neg : Bool) (x y : CV) : M CV := fun h => if isKey x = true then match dicOf y h with
  | some (false, ks, vs) => .ok (.bl (neg ^^ dhas ks x)) h
  | _ => .bad else .bad
theorem inK_ok {G : Cfg} {neg : Bool} : Op2 G (rDIn neg) (pyInK neg) := by
  intro W σ ρ h H x y u v Q m rx ry p
  unfold pyInK at p
  by_cases c : isKey x = true
  · rw [if_pos c] at p
    obtain ⟨k, rfl⟩ := isKey_of c
    split at p
    · rename_i ks vs e
      obtain ⟨a, kvs, ev, hd, e1, e2⟩ := dicOf_r m ry e
      subst e1
      refine ⟨a, valV kvs k, ev, .inl ⟨kvs, k, hd, keyC_kV rx, rfl⟩, ?_⟩
      rw [dhas_eq, valV_any] at p
      exact p ρ H _ m Ext.refl rfl
    · exact p.elim
  · rw [if_neg c] at p; exact p.elim
def pyDGet (x y : CV) : M CV := fun h => if isKey y = true then match dicOf x h with
  | some (false, ks, vs) => match dget ks y vs with
    | some v => .ok v h
    | none => .bad
  | _ => .bad else .bad
section
variable {G : Cfg} {W : WX} {X : Cx} {k : Nat} {o i e value : Expr} {mo mi mv : Sl → M CV} {pos pos' : Pos}
theorem se_dget (hr : Room k X.A) (ho : SE G W X o mo) (hi : SE G W X i mi) (hs : NoSl i := by exact fun _ _ => rfl) : SE G W X (.Subscript o i pos) (eOp pyDGet mo mi) :=
  (pe_dget (u1 hr) ho hi hs).wk fun σ H Q ⟨ρ, h, τ, m, s, p⟩ => tM_bind m s p fun x h1 ρ1 H1 u m1 e1 s1 r1 p1 => tM_bind m1 s1 p1 fun y h2 ρ2 H2 v m2 e2 s2 r2 p2 => by
    unfold pyDGet at p2
    by_cases c : isKey y = true
    · rw [if_pos c] at p2
      obtain ⟨k, rfl⟩ := isKey_of c
      split at p2
      · rename_i ks vs e
        obtain ⟨a, kvs, ev, hd, e1', e2'⟩ := dicOf_r m2 (r1.ext m1 e2) e
        subst e1'
        split at p2
        · rename_i w q
          obtain ⟨z, hz, rz⟩ := (dget_r k kvs vs e2').2 w q
          exact ⟨a, z, ev, .inl ⟨kvs, k, hd, keyC_kV r2, hz.symm⟩, p2 ρ2 H2 z m2 Ext.refl rz⟩
        · exact p2.elim
      · exact p2.elim
    · rw [if_neg c] at p2; exact p2.elim
def pyDPut (v : CV) (x y : CV) : M CV := fun h => match x with
  | .ref l => match sget h l with
    | some (.dic false false ks vs) => if (isKey y && Nat.ble ks.length 1000000) = true then frV 3 v fun v => dput ks vs y v fun ks vs => sset h l (.dic false false ks vs) fun h => .ok .non h else .bad
    | _ => .bad
  | _ => .bad
def mDPut (o i v : Sl → M CV) : MS := fun τ => inS (v τ) τ fun v h => match bnd (o τ) (fun x => bnd (i τ) fun y => pyDPut v x y) h with
  | .ok _ h => .mk (.nx τ) h
  | _ => .bad
theorem ss_dput (hr : Room k X.A) (ho : SE G W X o mo) (hi : SE G W X i mi) (hv : SE G W X value mv) (hs : swapsWith value (some (.Subscript o i pos')) pos.line X.env = pure false := by rfl) : SS G W X (.Assign [.Subscript o i pos'] value pos) (mDPut mo mi mv) := by
  refine (ps_dput (u1 hr) ho hi hv hs).wk fun D σ H ⟨ρ, h, τ, m, s, p⟩ => tM_inS m s p fun v h1 ρ1 H1 u m1 e1 s1 r1 p1 => ?_
  refine ⟨ρ1, h1, τ, m1, s1, ?_⟩
  cases q1 : mo τ h1 with
  | exc x h2 => rw [rd_bnd, q1] at p1; exact p1.elim
  | bad => rw [rd_bnd, q1] at p1; exact p1.elim
  | ok x h2 =>
    rw [rd_bnd, q1] at p1
    simp only at p1
    intro ρ2 H2 xv m2 e2 r2
    refine ⟨ρ2, h2, τ, m2, s1.ext m1 e2, ?_⟩
    cases q2 : mi τ h2 with
    | exc x h3 => rw [rd_bnd, q2] at p1; exact p1.elim
    | bad => rw [rd_bnd, q2] at p1; exact p1.elim
    | ok y h3 =>
      rw [rd_bnd, q2] at p1
      simp only at p1
      intro ρ3 H3 yv m3 e3 r3
      have r2 := r2.ext m2 e3
      have r1' := (r1.ext m1 e2).ext m2 e3
      have s3 := (s1.ext m1 e2).ext m2 e3
      cases x with
      | ref l =>
        obtain ⟨a, q0, eu⟩ := r2
        unfold pyDPut at p1
        simp only [sget_eq] at p1
        cases hc : h3[l]? with
        | none => rw [hc] at p1; exact p1.elim
        | some co =>
          rw [hc] at p1
          cases co with
          | dic lk n ks vs =>
            cases lk with
            | true => exact p1.elim
            | false =>
              cases n with
              | true => exact p1.elim
              | false =>
                simp only at p1
                by_cases c : (isKey y && Nat.ble ks.length 1000000) = true
                · rw [if_pos c] at p1
                  rw [Bool.and_eq_true] at c
                  obtain ⟨kk, rfl⟩ := isKey_of c.1
                  obtain ⟨w, _, hw, d⟩ := m3.obj l a _ q0 hc
                  obtain ⟨kvs, rfl, e4, e5⟩ := d.k
                  subst e4
                  have hw := hw rfl
                  rw [frV_eq] at p1
                  obtain ⟨vs', e6, e7⟩ := dput_r r1' kk kvs vs (fun ks vs => sset h3 l (.dic false false ks vs) fun h => Out.ok CV.non h) e5
                  rw [e6, sset_eq] at p1
                  have hl : kvs.length < sizeLine := by
                    have := Nat.ble_eq.mp c.2
                    rw [List.length_map] at this
                    rw [sizeLine_eq]; omega
                  refine ⟨a, _, eu, .inl ⟨kvs, kk, hw, keyC_kV r3, hl, rfl⟩, ?_⟩
                  have hp : a ∈ ρ3.r := List.mem_of_getElem? q0
                  have m4 := m3.writeO q0 (co := .dic false false ((putK kvs kk u).map fun e => keyC e.1) vs') (o := .dK (putK kvs kk u)) ⟨_, (fun z => nomatch z), fun _ => upd_same, fun z => (nomatch z), fun _ => ⟨_, rfl, rfl, e7.wr (.inl hp) (m3.at_ (.inl hp))⟩⟩
                  have e8 : Ext ρ3 H3 ρ3 (upd H3 a (.dK (putK kvs kk u))) := Ext.writeAt m3 q0
                  exact p1 ρ3 _ σ m4 ((e2.trans e3).trans e8) (s3.ext m3 e8)
                · rw [if_neg c] at p1; exact p1.elim
          | _ => exact p1.elim
      | _ => exact p1.elim
end
end VE

noncomputable section
namespace VE
open PySem PySem.Spec PyProof.Rows L2 LamX
section
variable {G : Cfg} {W : WX} {X : Cx} {pos : Pos}
/-- {} in the memory -/
def eDNew : Sl → M CV := fun _ h => frN h.length fun n => sapp h [.dic false false [] []] fun h => .ok (.ref n) h
theorem dic0 {ρ : Wd} {H : Hp} {p : Addr} : ObjR G ρ (upd H p (.dK [])) (.dic false false [] []) p := ⟨_, fun z => (nomatch z), fun _ => upd_same, fun z => (nomatch z), fun _ => ⟨[], rfl, rfl, rfl⟩⟩
theorem se_dnew : SE G W X (.Dict [] [] pos) eDNew :=
  pe_dnewK.wk fun σ H Q ⟨ρ, h, τ, m, s, p⟩ q hq => by
    have p : Post G W (ValR G) σ ρ H (frN h.length fun n => sapp h [.dic false false [] []] fun h => Out.ok (CV.ref n) h) Q := p
    rw [frN_eq, sapp_eq] at p
    refine p _ _ _ (m.pushO hq dic0) (Ext.push hq) ⟨q, ?_, rfl⟩
    show (ρ.r ++ [q])[h.length]? = some q
    rw [← m.len]; simp
/-- {k: v} of constants, in the memory -/
def eDOne (k v : CV) : Sl → M CV := fun _ h => frN h.length fun n => sapp h [.dic false false [k] [v]] fun h => .ok (.ref n) h
theorem se_dOne {k v : Expr} {kk : Key} {x : CV} {u : V} (hk : PE X k (tC (kV kk))) (hv : PE X v (tC u)) (r : ∀ ρ H, ValR G ρ H x u) : SE G W X (.Dict [some k] [v] pos) (eDOne (keyC kk) x) :=
  (pe_disp (pps_cons hk hv pps_nil) rfl rfl (by simp) (Nat.le_of_ble_eq_true rfl)).wk fun σ H Q ⟨ρ, h, τ, m, s, p⟩ q hq => by
    have p : Post G W (ValR G) σ ρ H (frN h.length fun n => sapp h [.dic false false [keyC kk] [x]] fun h => Out.ok (CV.ref n) h) Q := p
    rw [frN_eq, sapp_eq] at p
    refine ⟨upd_same, [(kk, u)], rfl, Nat.le_of_ble_eq_true rfl, ?_⟩
    have e : upd (upd H q (.dK [])) q (.dK (mergeK [] [(kk, u)])) = upd H q (.dK [(kk, u)]) := by
      funext b
      by_cases c : b = q
      · subst c; rw [upd_same, upd_same]; rfl
      · rw [upd_ne c, upd_ne c, upd_ne c]
    rw [e]
    refine p _ _ _ (m.pushO hq (co := .dic false false [keyC kk] [x]) ⟨_, fun z => (nomatch z), fun _ => upd_same, fun z => (nomatch z), fun _ => ⟨[(kk, u)], rfl, rfl, u, [], rfl, r _ _, rfl⟩⟩) (Ext.push hq) ⟨q, ?_, rfl⟩
    show (ρ.r ++ [q])[h.length]? = some q
    rw [← m.len]; simp
end
def rLenD : List V → Hp → VK → Prop := fun xs H Q => ∃ a kvs, xs = [.ref a] ∧ Rd H a (.dK kvs) ∧ Q (.int kvs.length) H
theorem call_lenD {X : Cx} : CallR X (.builtin "len") rLenD := fun pins s σ H xs us Q I r ⟨a, kvs, e, hd, q⟩ => by
  subst e
  cases r with
  | cons r1 r2 =>
    cases r2
    cases r1
    exact d_len I hd fun t s' I' => ⟨.int kvs.length, H, I', ⟨t, rfl⟩, q⟩
def pyLenD (x : CV) : M CV := fun h => match dicOf x h with
  | some (false, ks, _) => .ok (.int ks.length) h
  | _ => .bad
theorem lenD_ok {G : Cfg} : OpL G rLenD (one pyLenD) := one_ok fun W σ ρ h H x u Q m rx p => by
  unfold pyLenD at p
  split at p
  · rename_i ks vs e
    obtain ⟨a, kvs, ev, hd, e1, e2⟩ := dicOf_r m rx e
    subst e1
    refine ⟨a, kvs, by rw [ev], hd, p ρ H _ m Ext.refl ?_⟩
    rw [List.length_map]; rfl
  · exact p.elim
def isDicM (x : CV) (h : Mem) : Bool := match x with
  | .ref l => match sget h l with
    | some (.dic false false _ _) => true
    | _ => false
  | _ => false
theorem isDicM_ty {G : Cfg} {ρ : Wd} {h : Mem} {H : Hp} {x : CV} {u : V} (m : MemR G ρ h H) (r : ValR G ρ H x u) (e : isDicM x h = true) : tyV G.K "dict" u H := by
  cases x with
  | ref l =>
    obtain ⟨a, q, eu⟩ := r
    rw [eu]
    unfold isDicM at e
    simp only [sget_eq] at e
    cases hc : h[l]? with
    | none => rw [hc] at e; cases e
    | some co =>
      rw [hc] at e
      cases co with
      | dic lk n ks vs =>
        cases lk with
        | true => cases e
        | false =>
          cases n with
          | true => cases e
          | false =>
            obtain ⟨w, _, h2, d⟩ := m.obj l a _ q hc
            obtain ⟨kvs, rfl, _, _⟩ := d.k
            exact .inr (.inr (.inl ⟨rfl, .inl ⟨kvs, h2 rfl⟩⟩))
      | _ => cases e
  | _ => cases e
def rUpdK : V → List V → Hp → VK → Prop := fun x xs H Q => ∃ a b kvs more, x = .ref a ∧ xs = [.ref b] ∧ a ≠ b ∧ H a = some (.dK kvs) ∧ Rd H b (.dK more) ∧ kvs.length + more.length ≤ sizeLine ∧ Q .non (upd H a (.dK (mergeK kvs more)))
theorem mt_updK {X : Cx} : MtR X "dict.update" rUpdK := by
  intro pins s σ H x xs v us Q I rx rxs ⟨a, b, kvs, more, e1, e2, ne, ha, hb, hl, q⟩
  subst e1 e2
  cases (show v = Value.ref a from rx)
  cases rxs with
  | cons r1 r2 =>
    cases r2
    cases r1
    obtain ⟨z1, hd1, vs1, rel1, dd1⟩ := dk_of I.hok ha
    obtain ⟨z2, hd2, vs2, rel2, dd2⟩ := dk_rd I.hok hb
    refine call_meetsIn PySem.F.slot_dict_update dd1.typeIs PySem.F.entry_dict_update (PySem.F.args_dict_update_2 _ _) (meets_dict_update (mixKind X.prog X.w) a b ne hd2)
      ⟨vs1, vs2, dd1, dd2, by rw [← rel1.length, ← rel2.length]; exact hl, fun h' dd' _ hs => ⟨.non, _, ?_, rfl, q⟩⟩
    have he : ∃ q, h'.get? a = some q := let ⟨q, _, _, hq, _⟩ := dd'; ⟨q, hq⟩
    have hz : (mergeK kvs more).length ≤ sizeLine := Nat.le_trans (length_mergeK more kvs) hl
    exact d_write I (by rw [ha]; exact True.intro) hs he (dk_new hz hd1 (rel2.merge rel1) dd')
def dmerge {α : Type} (ks2 : List CV) : List CV → List CV → List CV → (List CV → List CV → α) → α := List.rec (fun _ ks vs c => c ks vs) (fun k _ ih vs2 ks vs c => List.rec (c ks vs) (fun v t _ => dput ks vs k v fun ks vs => ih t ks vs c) vs2) ks2
theorem dmerge_r {G : Cfg} {ρ : Wd} {H : Hp} {α : Type} : ∀ (more : List (Key × V)) (vs2 : List CV) (kvs : List (Key × V)) (vs : List CV) (c : List CV → List CV → α), ValsR G ρ H vs2 (more.map (·.2)) → ValsR G ρ H vs (kvs.map (·.2)) →
    ∃ vs', dmerge (more.map fun e => keyC e.1) vs2 (kvs.map fun e => keyC e.1) vs c = c ((mergeK kvs more).map fun e => keyC e.1) vs' ∧ ValsR G ρ H vs' ((mergeK kvs more).map (·.2))
  | [], vs2, kvs, vs, c, _, r => ⟨vs, rfl, r⟩
  | p :: t, [], kvs, vs, c, q, r => (nomatch (show p.2 :: t.map (·.2) = [] from q))
  | p :: t, v :: vs2, kvs, vs, c, q, r => by
    obtain ⟨u, w, e, r1, r2⟩ := q
    cases e
    obtain ⟨vs1, e1, q1⟩ := dput_r r1 p.1 kvs vs (fun ks vs => dmerge (t.map fun e => keyC e.1) vs2 ks vs c) r
    obtain ⟨vs', e2, q2⟩ := dmerge_r t vs2 (putK kvs p.1 p.2) vs1 c r2 q1
    exact ⟨vs', e1.trans e2, q2⟩
def notRef (l : Nat) : CV → Bool
  | .ref k => !Nat.beq k l
  | _ => true
def pyDUpd (x : CV) (ys : List CV) : M CV := fun h => match x, ys with
  | .ref l, [y] => match sget h l, dicOf y h with
    | some (.dic false false ks vs), some (false, ks2, vs2) => if (Nat.ble (ks.length + ks2.length) 1000000 && notRef l y) = true then dmerge ks2 vs2 ks vs fun ks vs => sset h l (.dic false false ks vs) fun h => .ok .non h else .bad
    | _, _ => .bad
  | _, _ => .bad
theorem updK_ok {G : Cfg} : Mt G rUpdK pyDUpd := by
  intro W σ ρ h H x u ys us Q m rx rys p
  unfold pyDUpd at p
  split at p
  · rename_i l y
    obtain ⟨a, q0, eu⟩ := rx
    obtain ⟨w, t, ew, r1, r2⟩ := rys
    cases (show t = [] from r2)
    split at p
    · rename_i ks vs ks2 vs2 hc hd
      by_cases c : (Nat.ble (ks.length + ks2.length) 1000000 && notRef l y) = true
      · rw [if_pos c] at p
        rw [Bool.and_eq_true] at c
        rw [sget_eq] at hc
        obtain ⟨o, _, h2, d⟩ := m.obj l a _ q0 hc
        obtain ⟨kvs, rfl, e4, e5⟩ := d.k
        obtain ⟨b, more, ev, hb, e1, e2⟩ := dicOf_r m r1 hd
        subst e4 e1
        have hl : kvs.length + more.length ≤ sizeLine := by
          have := Nat.ble_eq.mp c.1
          rw [List.length_map, List.length_map] at this
          rw [sizeLine_eq]; omega
        have ne : a ≠ b := fun z => by
          subst z
          cases y with
          | ref k =>
            obtain ⟨a', q1, e3⟩ := r1
            rw [ev] at e3
            cases e3
            have : k = l := (List.getElem?_inj (List.getElem?_eq_some_iff.mp q1).1 m.nd).mp (q1.trans q0.symm)
            subst this
            have := c.2
            simp [notRef] at this
          | dic n k v =>
            obtain ⟨a', ob, w', eu', nh, _, _⟩ := valR_dic.mp r1
            rw [ev] at eu'
            cases eu'
            exact nh (.inl (List.mem_of_getElem? q0))
          | _ => cases hd
        obtain ⟨vs', e6, e7⟩ := dmerge_r more vs2 kvs vs (fun ks vs => sset h l (.dic false false ks vs) fun h => Out.ok CV.non h) e2 e5
        rw [e6, sset_eq] at p
        have hp : a ∈ ρ.r := List.mem_of_getElem? q0
        have m4 := m.writeO q0 (co := .dic false false ((mergeK kvs more).map fun e => keyC e.1) vs') (o := .dK (mergeK kvs more)) ⟨_, (fun z => nomatch z), fun _ => upd_same, fun z => (nomatch z), fun _ => ⟨_, rfl, rfl, e7.wr (.inl hp) (m.at_ (.inl hp))⟩⟩
        exact ⟨a, b, kvs, more, eu, by rw [ew, ev], ne, h2 rfl, hb, hl, p ρ _ _ m4 (Ext.writeAt m q0) rfl⟩
      · rw [if_neg c] at p; exact p.elim
    · exact p.elim
  · exact p.elim
def dcL (g : CV → Sl → M Sl) (tt : Sl → M Bool) (tk te : Sl → M CV) (τ : Sl) (xs : List CV) : List CV → List CV → Mem → Out (List CV × List CV) := List.rec (fun ks vs h => .ok (ks, vs) h) (fun x _ ih ks vs h => match g x τ h with
  | .ok τ1 h1 => match tt τ1 h1 with
    | .ok true h2 => match tk τ1 h2 with
      | .ok k h3 => match te τ1 h3 with
        | .ok v h4 => Bool.rec .bad (frV 3 v fun v => dput ks vs k v fun ks vs => ih ks vs h4) (isKey k)
        | _ => .bad
      | _ => .bad
    | .ok false h2 => ih ks vs h2
    | _ => .bad
  | _ => .bad) xs
def eDc (it : Sl → M (List CV)) (g : CV → Sl → M Sl) (tt : Sl → M Bool) (tk te : Sl → M CV) (vs : List Nat) : Sl → M CV := fun τ => bnd (it τ) fun xs h =>
  if xs.length ≤ 1000000 then match dcL g tt tk te (wipeC τ vs) xs [] [] h with
    | .ok p h' => frN h'.length fun n => sapp h' [.dic false false p.1 p.2] fun h'' => .ok (.ref n) h''
    | _ => .bad
  else .bad
theorem dc_core' {G : Cfg} {g : TG} {gg : CV → Sl → M Sl} {tt : Sl → M Bool} {tk te : Sl → M CV} {vs : List Nat} {τ : Sl} {σ : L2.St} {ρ1 : Wd} {H1 : Hp} {h1 : Mem} {J : It} {xs : List CV} {D : Addr} {Q : VK}
    (m1 : MemR G ρ1 h1 H1) (s1 : SlR G ρ1 H1 τ σ) (r1 : ItR G ρ1 H1 J xs) (hD : H1 D = none) (hg : LcG G g gg vs) (hfv : vs.all G.fr = true) (hl : xs.length ≤ 1000000) {ks ys : List CV} {hf : Mem} (e : dcL gg tt tk te (wipeC τ vs) xs [] [] h1 = .ok (ks, ys) hf)
    (fin : ∀ r H kvs, MemR G ⟨D :: ρ1.d, r⟩ hf H → Ext ρ1 H1 ⟨ρ1.d, r⟩ H → H D = some (.dK kvs) → ks = kvs.map (fun e => keyC e.1) → ValsR G ⟨D :: ρ1.d, r⟩ H ys (kvs.map (·.2)) → Q (.ref D) H) :
    ∃ W : Nat → Nat → Hp → Prop, (∃ m, W 0 m (upd H1 D (.dK []))) ∧ ∀ i m H, W i m H →
      (J.stop i H ∧ Q (.ref D) H) ∨ (J.go i H ∧ ∃ Nx : Hp → Prop, (∀ H', Nx H' → ∃ m', m' < m ∧ W (i + 1) m' H') ∧ ∀ x H', J.yld i H x H' → g x (L2.wipe σ vs) H' fun σ2 H2 => L2.wipe σ2 vs = L2.wipe σ vs ∧ tBo G W0 tt σ2 H2 fun b H3 =>
        if b = true then tV G W0 tk σ2 H3 fun y H4 => tV G W0 te σ2 H4 fun z H5 => ∃ kvs k, y = kV k ∧ H5 D = some (.dK kvs) ∧ kvs.length < sizeLine ∧ Nx (upd H5 D (.dK (putK kvs k z))) else Nx H3) := by
  refine ⟨fun i n H => i + n = xs.length ∧ ∃ r h kvs vd, MemR G ⟨D :: ρ1.d, r⟩ h H ∧ Ext ρ1 H1 ⟨ρ1.d, r⟩ H ∧ H D = some (.dK kvs) ∧ ValsR G ⟨D :: ρ1.d, r⟩ H vd (kvs.map (·.2)) ∧ kvs.length ≤ i ∧ dcL gg tt tk te (wipeC τ vs) (xs.drop i) (kvs.map fun e => keyC e.1) vd h = .ok (ks, ys) hf,
    ⟨xs.length, Nat.zero_add _, ρ1.r, h1, [], [], m1.hideO hD (.inr (.inl ⟨[], rfl⟩)), Ext.laid hD, upd_same, rfl, Nat.le_refl _, e⟩, ?_⟩
  rintro i n H ⟨hin, r, h, kvs, vd, m, ex, hacc, rd, hdl, el⟩
  have exH : ExtH ρ1 H1 ⟨D :: ρ1.d, r⟩ H := ⟨fun a ha => by
    rcases List.mem_cons.mp ha with z | z
    · exact .inr (z ▸ hD)
    · exact .inl z, ex.pre, fun a o e n t => ex.keep a o e (fun z => n (.inl z)) t, ex.new⟩
  obtain ⟨go, stop, yld⟩ := r1 _ h H m exH
  have hDd : D ∈ (⟨D :: ρ1.d, r⟩ : Wd).d := List.mem_cons_self
  have hDr : D ∉ r := (m.hid D hDd).2
  cases n with
  | zero =>
    have ei : i = xs.length := by omega
    subst ei
    rw [List.drop_length] at el
    cases el
    exact .inl ⟨stop, fin r H kvs m ex hacc rfl rd⟩
  | succ n =>
    have hlt : i < xs.length := by omega
    rw [List.drop_eq_getElem_cons hlt] at el
    have st : dcL gg tt tk te (wipeC τ vs) (xs[i] :: xs.drop (i + 1)) (kvs.map fun e => keyC e.1) vd h = (match gg xs[i] (wipeC τ vs) h with
      | .ok τ1 h1 => match tt τ1 h1 with
        | .ok true h2 => match tk τ1 h2 with
          | .ok k h3 => match te τ1 h3 with
            | .ok v h4 => Bool.rec .bad (frV 3 v fun v => dput (kvs.map fun e => keyC e.1) vd k v fun ks vs' => dcL gg tt tk te (wipeC τ vs) (xs.drop (i + 1)) ks vs' h4) (isKey k)
            | _ => .bad
          | _ => .bad
        | .ok false h2 => dcL gg tt tk te (wipeC τ vs) (xs.drop (i + 1)) (kvs.map fun e => keyC e.1) vd h2
        | _ => .bad
      | _ => .bad) := rfl
    rw [st] at el
    have fin' : ∀ (ρ4 : Wd) (h4 : Mem) (H4 : Hp), MemR G ρ4 h4 H4 → Ext ⟨D :: ρ1.d, r⟩ H ρ4 H4 → ρ4.d = D :: ρ1.d ∧ H4 D = some (.dK kvs) ∧ Ext ρ1 H1 ⟨ρ1.d, ρ4.r⟩ H4 := fun ρ4 h4 H4 m4 e4 => by
      refine ⟨e4.hid, e4.keep D _ hacc hDr (fun _ z => by cases z), rfl, fun i a q => e4.pre i a (ex.pre i a q), fun a o q n t => ?_, fun a ps q => ?_, fun a q => ?_⟩
      · refine e4.keep a o (ex.keep a o q n t) (fun z => ?_) t
        rcases ex.new a z with z | z
        · exact n z
        · rw [q] at z; cases z
      · obtain ⟨p1, q1⟩ := ex.tbl a ps q
        exact e4.tbl a p1 q1
      · rcases e4.new a q with z | z
        · exact ex.new a z
        · by_cases hx : a ∈ ρ1.r
          · exact .inl hx
          · cases q1 : H1 a with
            | none => exact .inr rfl
            | some o => exact absurd z (ex.there q1 hx)
    refine .inr ⟨go i hlt, fun H' => i + 1 + n = xs.length ∧ ∃ r h kvs vd, MemR G ⟨D :: ρ1.d, r⟩ h H' ∧ Ext ρ1 H1 ⟨ρ1.d, r⟩ H' ∧ H' D = some (.dK kvs) ∧ ValsR G ⟨D :: ρ1.d, r⟩ H' vd (kvs.map (·.2)) ∧ kvs.length ≤ i + 1 ∧ dcL gg tt tk te (wipeC τ vs) (xs.drop (i + 1)) (kvs.map fun e => keyC e.1) vd h = .ok (ks, ys) hf,
      fun H' q => ⟨n, Nat.lt_succ_self n, q⟩, fun u H' y => ?_⟩
    obtain ⟨m', e', r'⟩ := yld i xs[i] u H' (by simp [hlt]) y
    have s' : SlR G ⟨D :: ρ1.d, r⟩ H' (wipeC τ vs) (L2.wipe σ vs) := by
      have q : SlR G ⟨D :: ρ1.d, r⟩ H τ σ := ⟨s1.1, fun i v q => let ⟨u, a, b⟩ := s1.2.1 i v q; ⟨u, a, b.extH m1 exH⟩, s1.2.2⟩
      exact (q.ext m e').wipe vs hfv
    cases q : gg xs[i] (wipeC τ vs) h with
    | ok τ1 h2 =>
      rw [q] at el
      refine hg _ h H' _ _ _ u τ1 h2 _ m' s' r' q fun σ2 eh s2 w2 => ?_
      subst eh
      refine ⟨w2.trans wipe_wipe, ⟨_, h2, τ1, m', s2, ?_⟩⟩
      simp only at el
      cases q2 : tt τ1 h2 with
      | ok b h3 =>
        rw [q2] at el
        intro ρ3 H3 b' m3 e3 eb
        subst eb
        have s3 := s2.ext m' e3
        cases b with
        | true =>
          rw [if_pos rfl]
          simp only at el
          refine ⟨ρ3, h3, τ1, m3, s3, ?_⟩
          cases q3 : tk τ1 h3 with
          | ok kk h4 =>
            rw [q3] at el
            simp only at el
            intro ρ4 H4 kv m4 e4 r4
            have s4 := s3.ext m3 e4
            refine ⟨ρ4, h4, τ1, m4, s4, ?_⟩
            cases q4 : te τ1 h4 with
            | ok z h5 =>
              rw [q4] at el
              simp only at el
              intro ρ5 H5 w m5 e5 r5
              have r4 := r4.ext m4 e5
              by_cases hk : isKey kk = true
              · rw [hk] at el
                obtain ⟨k0, rfl⟩ := isKey_of hk
                obtain ⟨f1, f2, f3⟩ := fin' ρ5 h5 H5 m5 (e'.trans (e3.trans (e4.trans e5)))
                obtain ⟨d5, r5'⟩ := ρ5
                cases f1
                have rd5 := rd.ext m (e'.trans (e3.trans (e4.trans e5)))
                have el : frV 3 z (fun v => dput (kvs.map fun e => keyC e.1) vd (keyC k0) v fun ks vs' => dcL gg tt tk te (wipeC τ vs) (xs.drop (i + 1)) ks vs' h5) = .ok (ks, ys) hf := el
                rw [frV_eq] at el
                obtain ⟨vd', e6, e7⟩ := dput_r r5 k0 kvs vd (fun ks vs' => dcL gg tt tk te (wipeC τ vs) (xs.drop (i + 1)) ks vs' h5) rd5
                rw [e6] at el
                refine ⟨kvs, k0, keyC_kV r4, f2, by rw [sizeLine_eq]; omega, by omega, r5', h5, putK kvs k0 w, vd', m5.hidwrO List.mem_cons_self (.inr (.inl ⟨_, rfl⟩)), ?_, upd_same, ?_, ?_, el⟩
                · refine ⟨rfl, f3.pre, fun a o z n t => ?_, fun a ps z => ?_, f3.new⟩
                  · rw [upd_ne (ne_of_none z hD)]
                    exact f3.keep a o z n t
                  · rw [upd_ne (ne_of_none z hD)]
                    exact f3.tbl a ps z
                · exact e7.wr (.inr List.mem_cons_self) ⟨_, f2, .inr (.inl ⟨_, rfl⟩)⟩
                · have := length_putK kvs k0 w; omega
              · rw [Bool.not_eq_true] at hk; rw [hk] at el; cases el
            | exc _ _ => rw [q4] at el; cases el
            | bad => rw [q4] at el; cases el
          | exc _ _ => rw [q3] at el; cases el
          | bad => rw [q3] at el; cases el
        | false =>
          rw [if_neg Bool.false_ne_true]
          simp only at el
          obtain ⟨f1, f2, f3⟩ := fin' ρ3 h3 H3 m3 (e'.trans e3)
          obtain ⟨d3, r3⟩ := ρ3
          cases f1
          exact ⟨by omega, r3, h3, kvs, vd, m3, f3, f2, rd.ext m (e'.trans e3), by omega, el⟩
      | exc _ _ => rw [q2] at el; cases el
      | bad => rw [q2] at el; cases el
    | exc _ _ => rw [q] at el; cases el
    | bad => rw [q] at el; cases el
section
variable {G : Cfg} {W : WX} {X : Cx} {pos : Pos}
theorem dc_red {it : Sl → M (List CV)} {g : TG} {gg : CV → Sl → M Sl} {tt : Sl → M Bool} {tk te : Sl → M CV} {vs : List Nat} (hg : LcG G g gg vs) (hfv : vs.all G.fr = true) {σ : L2.St} {H : Hp} {Q : VK} (q : tV G W (eDc it gg tt tk te vs) σ H Q) : tDc (tIt G W it) g (tBo G W0 tt) (tV G W0 tk) (tV G W0 te) vs σ H Q := by
  obtain ⟨ρ, h, τ, m, s, p⟩ := q
  refine tM_bind m s p fun xs h1 ρ1 H1 J m1 e1 s1 r1 p1 D hD => ?_
  by_cases hl : xs.length ≤ 1000000
  · rw [if_pos hl] at p1
    cases e : dcL gg tt tk te (wipeC τ vs) xs [] [] h1 with
    | ok ps hf =>
      obtain ⟨ks, ys⟩ := ps
      rw [e] at p1
      simp only [frN_eq, sapp_eq] at p1
      refine dc_core' m1 s1 r1 hD hg hfv hl e fun r H2 kvs m2 e2 hus ek rus => ?_
      have nD : D ∉ r := (m2.hid D List.mem_cons_self).2
      have ndd : D ∉ ρ1.d := fun z => by
        obtain ⟨⟨_, w, _⟩, _⟩ := m1.hid D z
        rw [hD] at w; cases w
      refine p1 ⟨ρ1.d, r ++ [D]⟩ H2 _ (m2.unhidO (co := .dic false false ks ys) ⟨_, (fun z => nomatch z), fun _ => hus, fun z => (nomatch z), fun _ => ⟨kvs, rfl, ek, rus⟩⟩ ndd) ?_ ⟨D, ?_, rfl⟩
      · refine ⟨rfl, fun i a z => ?_, e2.keep, e2.tbl, fun a z => ?_⟩
        · have z2 := e2.pre i a z
          have hi : i < r.length := (List.getElem?_eq_some_iff.mp z2).1
          show (r ++ [D])[i]? = some a
          rw [List.getElem?_append_left hi]; exact z2
        · rcases List.mem_append.mp z with z | z
          · exact e2.new a z
          · rw [List.mem_singleton.mp z]; exact .inr hD
      · show (r ++ [D])[hf.length]? = some D
        rw [← m2.len]; simp
    | exc _ _ => rw [e] at p1; exact p1.elim
    | bad => rw [e] at p1; exact p1.elim
  · rw [if_neg hl] at p1; exact p1.elim
theorem se_dc {kx vx tg iter : Expr} {ifs : List Expr} {scope : Scope} {own : List (Str × Nat)} {it : Sl → M (List CV)} {g : TG} {gg : CV → Sl → M Sl} {tt : Sl → M Bool} {tk te : Sl → M CV} (hc : X.calm = true) (hN : X.N.Nodup) (hi : SI G W X tg iter it) (ok : BlkOk X.N X.env.scope scope own)
    (hgg : LcG G g gg (own.map (·.2))) (hg : Blk X scope fun Y => PG Y tg g) (ht : Blk X scope fun Y => PTs Y ifs (tBo G W0 tt)) (hk : Blk X scope fun Y => SE G W0 Y kx tk) (he : Blk X scope fun Y => SE G W0 Y vx te) (hs : ∀ x, foldedSetIterable iter X.env x = pure x := by intro _; rfl) (hfv : (own.map (·.2)).all G.fr = true := by rfl) :
    SE G W X (.DictComp kx vx [⟨tg, iter, ifs, 0⟩] scope pos) (eDc it gg tt tk te (own.map (·.2))) := (pe_dc hc hN hi ok hg ht hk he hs).wk fun σ H Q q => dc_red hgg hfv q
end
end VE

noncomputable section
namespace VE
open PySem PySem.Spec PyProof.Rows L2 LamX
/-- a def's promise by position -/
def FnQ (P : Program) (w : World) (K : PySem.W.Frag) (mg : Str → Option Value) (base : Heap) (k : Nat) (g : Addr) (sp : Sp) : Prop := ∀ (A : Around) (out : List Env) (s : Shared) (H : Hp) (us : List Value) (xs : List V) (Q : VK) (E : XK), RoomG k A → Env0 P w K mg base A out s H → Vals xs us → sp xs H Q E →
  codeAny (model P w) A (.call (.ref g) ⟨us, []⟩) (CR (L2.CX P w) out P w H s Q E) s
theorem FnG.q {P : Program} {w : World} {K : PySem.W.Frag} {mg : Str → Option Value} {base : Heap} {k : Nat} {f : Addr} {fd : FuncData} {ps : List Str} {sp : Sp} (F : FnG P w K mg base k f fd ps sp) (hb : Binds K fd ps []) : FnQ P w K mg base k f sp := fun A out s H us xs Q E hr e0 r q => by
  have b := hb s us (e0.mod.kin.keeps fun b o e => (e0.bs b o e).1) (by rw [List.append_nil, ← r.length]; exact F.len _ _ _ _ q)
  rw [List.append_nil] at b
  exact F.run A out s H _ us xs Q E hr e0 b r q
theorem RoomG.in1 {k : Nat} {A : Around} (r : RoomG (k + 1) A) : RoomG k A.in1 := ⟨r.r.in1, r.g⟩
theorem RoomG.make {k : Nat} {A : Around} (r : RoomG (k + 1) A) (C : Addr) (us : List Value) (kw : List (Str × Value)) : RoomG k (A.under (.builtin "type.__call__" ⟨.ref C :: us, kw⟩)) := ⟨r.r.make C us kw, r.g⟩
section
variable {X : Cx} {pins : List (Addr × Obj)} {σ : L2.St} {H : Hp} {s : Shared} {n : Nat} {g : Addr} {sp : Sp} {E : L2.St → XK} {Q : VK}
theorem run_q {A : Around} {us : List Value} {xs : List V} (F : FnQ X.prog X.w X.K X.mg X.base n g sp) (hr : RoomG n A) (e0 : Env0 X.prog X.w X.K X.mg X.base A X.stack s H) (hx : PassesAt (L2.CX X.prog X.w) X σ (E σ)) (I : Inv X pins σ H s) (r : Vals xs us) (q : sp xs H Q (E σ)) :
    codeAny (model X.prog X.w) A (.call (.ref g) ⟨us, []⟩) (fun r s' => match r with | .ok (.ret v) => EP X pins σ Q v s' | .ok _ => False | .error e => X.xe e s') s := by
  refine codeAny_mono (F A X.stack s H us xs Q (E σ) hr e0 r q) fun r s' hq => ?_
  match r, hq with
  | .error ev, hq => exact hx pins H s ev s' I hq
  | .ok (.ret u), hq => exact I.after hq
theorem call_q {us : List Value} {xs : List V} (F : FnQ X.prog X.w X.K X.mg X.base n g sp) (hr : RoomG n X.A) (hx : PassesAt (L2.CX X.prog X.w) X σ (E σ)) (I : Inv X pins σ H s) (r : Vals xs us) (q : sp xs H Q (E σ)) : wpAny (model X.prog X.w) X.A (call (.ref g) us) (EP X pins σ Q) X.xe s := by
  refine wpAny_call (codeAny_mono (run_q F hr I.env0 hx I r q) fun r s2 z => ?_)
  match r, z with
  | .error ev, z => exact z
  | .ok (.ret u), z => exact z
end
section
variable {X : Cx} {o e : Expr} {es : List Expr} {m : Str} {pos apos : Pos} {ta : TE} {t : TA} {pl : Sem Bool} {E : L2.St → XK} {S : Addr → Sp → Prop}
def tMethQ (S : Addr → Sp → Prop) (E : L2.St → XK) (ta : TE) (t : TA) : TE := fun σ H Q => ta σ H fun x H1 => ∃ a C dx vs sp, x = .ref a ∧ SlX.Slt H1 a C dx vs ∧ S C sp ∧ t σ H1 fun ws H2 => sp (x :: ws) H2 Q (E σ)
theorem pe_methQ (he : PE X o ta) (A : ∀ C sp, S C sp → ∃ k g, FnQ X.prog X.w X.K X.mg X.base k g sp ∧ RoomG k X.A ∧ SlX.SCls X.K C ∧ Meth X.K C m g) (hx : ∀ σ, PassesAt (L2.CX X.prog X.w) X σ (E σ)) (ha : PA X (e :: es) t)
    (hst : starEach (e :: es) X.env = (false, eval e X.env) :: starEach es X.env := by rfl) (hpl : (backTo pos (starEach es X.env)).any (·.1) = false := by rfl)
    (ht : eval (.Call (.Attribute o m apos) (e :: es) [] pos) X.env = (do
      let ov ← eval o X.env
      standAt apos.atName
      let (f, first) ← holding [ov] (getMethod ov m pl)
      callWith pos f first (backTo pos (starEach (e :: es) X.env)) (backToKw pos (keywordEach [] X.env))) := by rfl) :
    PE X (.Call (.Attribute o m apos) (e :: es) [] pos) (tMethQ S E ta t) := by
  refine ⟨fun pins s σ H Q I h => ?_⟩
  refine PySem.W.methodCall_KW (pl := pl) (thn (he.run pins s σ H _ I h) fun u s1 ⟨x, H1, I1, rx, a, C, dx, vs, sp, ex, hsl, hS, q⟩ => ?_) ht
  subst ex
  cases (show u = Value.ref a from rx)
  obtain ⟨k, g, F, hr, c, hm⟩ := A C sp hS
  refine SlX.getmethsl_ok I1 hsl c hm ?_
  exact PySem.W.callWith_K (first := [.ref a]) (h₀ := X.base) I.ok.mod.kin hm.kp (thn (ha.run pos pins s1 σ H1 _ I1 q) fun us s2 ⟨ws, H2, I2, r, q2⟩ => ⟨I2.kIn, call_q (us := .ref a :: us) (xs := .ref a :: ws) F hr (hx σ) I2 (.cons rfl r) q2⟩) hst hpl
theorem pe_methQ0 (he : PE X o ta) (A : ∀ C sp, S C sp → ∃ k g, FnQ X.prog X.w X.K X.mg X.base k g sp ∧ RoomG k X.A ∧ SlX.SCls X.K C ∧ Meth X.K C m g) (hx : ∀ σ, PassesAt (L2.CX X.prog X.w) X σ (E σ))
    (ht : eval (.Call (.Attribute o m apos) [] [] pos) X.env = (do
      let ov ← eval o X.env
      standAt apos.atName
      let (f, first) ← holding [ov] (getMethod ov m pl)
      callWith pos f first (backTo pos (starEach [] X.env)) (backToKw pos (keywordEach [] X.env))) := by rfl) :
    PE X (.Call (.Attribute o m apos) [] [] pos) (tMethQ S E ta tNil) := by
  refine ⟨fun pins s σ H Q I h => ?_⟩
  refine PySem.W.methodCall_KW (pl := pl) (thn (he.run pins s σ H _ I h) fun u s1 ⟨x, H1, I1, rx, a, C, dx, vs, sp, ex, hsl, hS, q⟩ => ?_) ht
  subst ex
  cases (show u = Value.ref a from rx)
  obtain ⟨k, g, F, hr, c, hm⟩ := A C sp hS
  refine SlX.getmethsl_ok I1 hsl c hm ?_
  exact PySem.W.callWith_K0 (first := [.ref a]) I1.kIn hm.kp (call_q (us := [.ref a]) (xs := [.ref a]) F hr (hx σ) I1 (.cons rfl .nil) q)
end
/-- the class of an instance -/
def clsAt (x : CV) (h : Mem) : Option Nat := match x with
  | .ins k _ => some k
  | .ref l => match sget h l with
    | some (.ins k _) => some k
    | _ => none
  | _ => none
theorem clsAt_r {G : Cfg} {ρ : Wd} {h : Mem} {H : Hp} {x : CV} {u : V} {k : Nat} (m : MemR G ρ h H) (r : ValR G ρ H x u) (e : clsAt x h = some k) : ∃ a dx vs, u = .ref a ∧ SlX.Slt H a (G.cls k) dx vs := by
  cases x with
  | ins k' xs =>
    cases e
    obtain ⟨a, dx, us, eu, n, nd, w, wd, rr⟩ := r
    exact ⟨a, dx, _, eu, .inr ⟨w, wd⟩⟩
  | ref l =>
    obtain ⟨a, q, eu⟩ := r
    unfold clsAt at e
    simp only [sget_eq] at e
    cases hc : h[l]? with
    | none => rw [hc] at e; cases e
    | some co =>
      rw [hc] at e
      cases co with
      | ins k' vs =>
        cases e
        obtain ⟨dx, us, w, nd, wd, rr⟩ := m.obj l a _ q hc
        exact ⟨a, dx, us, eu, .inr ⟨w, wd⟩⟩
      | _ => cases e
  | _ => cases e
/-- defs by the class of the first -/
inductive HoldM (G : Cfg) (X : Cx) (R : Addr → Addr → Prop) : Disp → Prop
  | nil : HoldM G X R []
  | cons {D : Disp} {i np k : Nat} {g : Addr} {F : List CV → M CV} (f : FnQ X.prog X.w X.K X.mg X.base k g (spH G np F)) (hr : RoomG k X.A) (r : R (G.cls i) g) (t : HoldM G X R D) : HoldM G X R ((i, np, F) :: D)
theorem HoldM.at_ {G : Cfg} {X : Cx} {R : Addr → Addr → Prop} {i : Nat} : ∀ {D : Disp} {d : Nat × (List CV → M CV)}, HoldM G X R D → dispAt D i = some d → ∃ k g, FnQ X.prog X.w X.K X.mg X.base k g (spH G d.1 d.2) ∧ RoomG k X.A ∧ R (G.cls i) g
  | [], d, _, e => nomatch (show (none : Option (Nat × (List CV → M CV))) = some d from e)
  | (j, np, F) :: D, d, .cons f hr r t, e => by
    have st : dispAt ((j, np, F) :: D) i = (Bool.rec (dispAt D i) (some (np, F)) (Nat.beq j i) : Option (Nat × (List CV → M CV))) := rfl
    rw [st] at e
    cases c : Nat.beq j i with
    | true =>
      rw [c] at e
      cases e
      have := Nat.eq_of_beq_eq_true c
      subst this
      exact ⟨_, _, f, hr, r⟩
    | false =>
      rw [c] at e
      exact t.at_ e
/-- o.m(..): the callee has a memory of its own -/
def eMth (D : Disp) (o : Sl → M CV) (ml : Sl → M (List CV)) : Sl → M CV := fun τ => bnd (o τ) fun x h => match clsAt x h with
  | some i => match dispAt D i with
    | some d => bnd (ml τ) (fun xs => callF d.1 d.2 (x :: xs)) h
    | none => .bad
  | none => .bad
/-- .. the caller's memory -/
def eMthS (D : Disp) (o : Sl → M CV) (ml : Sl → M (List CV)) : Sl → M CV := fun τ => bnd (o τ) fun x h => match clsAt x h with
  | some i => match dispAt D i with
    | some d => bnd (ml τ) (fun xs => if xs.length + 1 = d.1 then d.2 (x :: xs) else stuck) h
    | none => .bad
  | none => .bad
section
variable {G : Cfg} {W : WX} {X : Cx} {o e : Expr} {es : List Expr} {m : Str} {pos apos : Pos} {mo : Sl → M CV} {ml : Sl → M (List CV)} {pl : Sem Bool} {D : Disp}
abbrev MtOk (X : Cx) (m : Str) (C g : Addr) : Prop := SlX.SCls X.K C ∧ Meth X.K C m g
abbrev ArgT (X : Cx) (o : Expr) (m : Str) (apos pos : Pos) (es : List Expr) (pl : Sem Bool) : Prop := eval (.Call (.Attribute o m apos) es [] pos) X.env = (do
      let ov ← eval o X.env
      standAt apos.atName
      let (f, first) ← holding [ov] (getMethod ov m pl)
      callWith pos f first (backTo pos (starEach es X.env)) (backToKw pos (keywordEach [] X.env)))
theorem mth_red {t : TA} (ht : ∀ σ H Q, tM G W (ValsR G) ml σ H Q → t σ H Q) (B : Bx G W X) (hx : G.exi = none) (hy : G.lam = none) {σ : L2.St} {H : Hp} {Q : VK} (q : tV G W (eMth D mo ml) σ H Q) : tMethQ (fun C sp => ∃ i d, C = G.cls i ∧ dispAt D i = some d ∧ sp = spH G d.1 d.2) (fun σ => WE W σ) (tV G W mo) t σ H fun v H1 => LockL (Q v) H1 := by
  obtain ⟨ρ, h, τ, mm, s, p⟩ := q
  refine tM_bind mm s p fun x h1 ρ1 H1 u m1 e1 s1 r1 p1 => ?_
  cases c : clsAt x h1 with
  | none => rw [c] at p1; exact p1.elim
  | some i =>
    rw [c] at p1
    simp only at p1
    cases c2 : dispAt D i with
    | none => rw [c2] at p1; exact p1.elim
    | some d =>
      rw [c2] at p1
      obtain ⟨a, dx, vs, eu, hs⟩ := clsAt_r m1 r1 c
      refine ⟨a, G.cls i, dx, vs, _, eu, hs, ⟨i, d, rfl, c2, rfl⟩, ht _ _ _ (tM_bind m1 s1 p1 fun xs h2 ρ2 H2 us m2 e2 s2 r2 p2 => ?_)⟩
      exact callF_ok hx hy m2 (show ValsR G ρ2 H2 (x :: xs) (u :: us) from ⟨u, us, rfl, r1.ext m1 e2, r2⟩) p2 fun _ _ _ z => z
theorem mth_redS {t : TA} (ht : ∀ σ H Q, tM G W (ValsR G) ml σ H Q → t σ H Q) {σ : L2.St} {H : Hp} {Q : VK} (q : tV G W (eMthS D mo ml) σ H Q) : tMethQ (fun C sp => ∃ i d, C = G.cls i ∧ dispAt D i = some d ∧ sp = spH G d.1 d.2) (fun σ => WE W σ) (tV G W mo) t σ H Q := by
  obtain ⟨ρ, h, τ, mm, s, p⟩ := q
  refine tM_bind mm s p fun x h1 ρ1 H1 u m1 e1 s1 r1 p1 => ?_
  cases c : clsAt x h1 with
  | none => rw [c] at p1; exact p1.elim
  | some i =>
    rw [c] at p1
    simp only at p1
    cases c2 : dispAt D i with
    | none => rw [c2] at p1; exact p1.elim
    | some d =>
      rw [c2] at p1
      obtain ⟨a, dx, vs, eu, hs⟩ := clsAt_r m1 r1 c
      refine ⟨a, G.cls i, dx, vs, _, eu, hs, ⟨i, d, rfl, c2, rfl⟩, ht _ _ _ (tM_bind m1 s1 p1 fun xs h2 ρ2 H2 us m2 e2 s2 r2 p2 => ?_)⟩
      by_cases hl : xs.length + 1 = d.1
      · rw [if_pos hl] at p2
        refine ⟨?_, ρ2, h2, x :: xs, m2, ⟨u, us, rfl, r1.ext m1 e2, r2⟩, Post.wx (σ := σ) p2 fun _ _ _ z => z⟩
        rw [List.length_cons, ← r2.len]; exact hl
      · rw [if_neg hl] at p2; exact p2.elim
theorem holdM_fn {R : Addr → Addr → Prop} (hd : HoldM G X R D) : ∀ C sp, (∃ i d, C = G.cls i ∧ dispAt D i = some d ∧ sp = spH G d.1 d.2) → ∃ k g, FnQ X.prog X.w X.K X.mg X.base k g sp ∧ RoomG k X.A ∧ R C g := fun C sp ⟨i, d, e1, e2, e3⟩ => by
  subst e1 e3; exact hd.at_ e2
theorem se_mth (B : Bx G W X) (hx : G.exi = none) (hy : G.lam = none) (hd : HoldM G X (MtOk X m) D) (ho : SE G W X o mo) (ha : SA G W X (e :: es) ml)
    (hst : starEach (e :: es) X.env = (false, eval e X.env) :: starEach es X.env := by rfl) (hpl : (backTo pos (starEach es X.env)).any (·.1) = false := by rfl) (ht : ArgT X o m apos pos (e :: es) pl := by rfl) : SE G W X (.Call (.Attribute o m apos) (e :: es) [] pos) (eMth D mo ml) :=
  (pe_lk (pe_methQ ho (holdM_fn hd) (fun σ => passAt B.tk σ) ha hst hpl ht)).wk fun σ H Q q => mth_red (fun _ _ _ z => z) B hx hy q
theorem se_mthS (B : Bx G W X) (hd : HoldM G X (MtOk X m) D) (ho : SE G W X o mo) (ha : SA G W X (e :: es) ml)
    (hst : starEach (e :: es) X.env = (false, eval e X.env) :: starEach es X.env := by rfl) (hpl : (backTo pos (starEach es X.env)).any (·.1) = false := by rfl) (ht : ArgT X o m apos pos (e :: es) pl := by rfl) : SE G W X (.Call (.Attribute o m apos) (e :: es) [] pos) (eMthS D mo ml) :=
  (pe_methQ ho (holdM_fn hd) (fun σ => passAt B.tk σ) ha hst hpl ht).wk fun σ H Q q => mth_redS (fun _ _ _ z => z) q
theorem nil_red {σ : L2.St} {H : Hp} {Q : List V → Hp → Prop} (q : tM G W (ValsR G) eNilA σ H Q) : tNil σ H Q := by
  obtain ⟨ρ, h, τ, mm, s, p⟩ := q
  exact p ρ H [] mm Ext.refl rfl
theorem se_mth0 (B : Bx G W X) (hx : G.exi = none) (hy : G.lam = none) (hd : HoldM G X (MtOk X m) D) (ho : SE G W X o mo) (ht : ArgT X o m apos pos [] pl := by rfl) : SE G W X (.Call (.Attribute o m apos) [] [] pos) (eMth D mo eNilA) :=
  (pe_lk (pe_methQ0 ho (holdM_fn hd) (fun σ => passAt B.tk σ) ht)).wk fun σ H Q q => mth_red (fun _ _ _ z => nil_red z) B hx hy q
theorem se_mth0S (B : Bx G W X) (hd : HoldM G X (MtOk X m) D) (ho : SE G W X o mo) (ht : ArgT X o m apos pos [] pl := by rfl) : SE G W X (.Call (.Attribute o m apos) [] [] pos) (eMthS D mo eNilA) :=
  (pe_methQ0 ho (holdM_fn hd) (fun σ => passAt B.tk σ) ht).wk fun σ H Q q => mth_redS (fun _ _ _ z => nil_red z) q
end
end VE

noncomputable section
namespace VE
open PySem PySem.Spec PyProof.Rows L2 LamX
section
variable {X : Cx} {pins : List (Addr × Obj)} {σ : L2.St} {H : Hp} {s : Shared} {k n : Nat} {f C : Addr} {sp : Sp} {E : L2.St → XK} {Q : VK}
theorem slH_made {a dx : Addr} {vs : List (Option V)} (ne : dx ≠ a) : SlX.slH (upd (upd H dx (.own a)) a (.ins C dx [])) a C dx vs = SlX.slH H a C dx vs := by
  funext b
  unfold SlX.slH
  by_cases h1 : b = a
  · rw [h1, upd_same, upd_same]
  · rw [upd_ne h1, upd_ne h1]
    by_cases h2 : b = dx
    · rw [h2, upd_same, upd_same]
    · rw [upd_ne h2, upd_ne h1, upd_ne h2, upd_ne h2]
theorem run_makeQ (n : Nat) {us : List Value} {xs : List V} (M : Mk X.K C f) (F : FnQ X.prog X.w X.K X.mg X.base k f sp) (hr : RoomG (k + 1) X.A) (hx : PassesAt (L2.CX X.prog X.w) X σ (E σ)) (I : Inv X pins σ H s) (r : Vals xs us)
    (h : ∀ x dx, H x = none → H dx = none → dx ≠ x → sp (V.ref x :: xs) (SlX.slH H x C dx (List.replicate n none)) (fun v H2 => v = .non ∧ Q (.ref x) H2) (E σ)) :
    wpAny (model X.prog X.w) X.A (call (.ref C) us) (EP X pins σ Q) X.xe s := by
  have nx := I.hok.fresh (Nat.le_succ s.heap.objs.size)
  have nd := I.hok.fresh (Nat.le_refl s.heap.objs.size)
  have ne : s.heap.objs.size ≠ s.heap.objs.size + 1 := Nat.ne_of_lt (Nat.lt_succ_self _)
  have hq := h (s.heap.objs.size + 1) s.heap.objs.size nx nd ne
  have I2 := Inv.made (C := C) I
  have hs : SlX.Slt (upd (upd H s.heap.objs.size (.own (s.heap.objs.size + 1))) (s.heap.objs.size + 1) (.ins C s.heap.objs.size [])) (s.heap.objs.size + 1) C s.heap.objs.size [] := .inl ⟨upd_same, rfl⟩
  have e0 : ((s.heap.push PySem.W.emptyDict).push (PySem.W.instObj C s.heap.objs.size)).get? (s.heap.objs.size + 1) = some { PySem.W.instObj C s.heap.objs.size with slots := #[] } := by
    have z := Heap.get?_push_size (s.heap.push PySem.W.emptyDict) (o := PySem.W.instObj C s.heap.objs.size) rfl
    rw [show (s.heap.push PySem.W.emptyDict).objs.size = s.heap.objs.size + 1 from by simp [Heap.push]] at z
    exact z
  have I3 := SlX.inv_slot (vs' := List.replicate n none) (t' := s.toks) I2 hs (fun _ _ _ _ e => e) (fun _ e => e) e0 (fun i v q => by
    rw [List.getElem?_replicate] at q
    split at q <;> cases q)
  rw [slH_made ne] at I3
  have r2 : Vals (V.ref (s.heap.objs.size + 1) :: xs) (Value.ref (s.heap.objs.size + 1) :: us) := .cons rfl r
  refine wpAny_call (make_map (f := f) I.kIn M.makes M.init (beq_iff_eq.mp M.fn) (codeAny_mono (F _ X.stack _ _ (Value.ref (s.heap.objs.size + 1) :: us) _ _ (E σ) (hr.make C us []) (I3.env0.make C us []) r2 hq) fun r s' hq' => ?_))
  match r, hq' with
  | .error ev, hq' => exact hx pins _ _ ev s' I3 hq'
  | .ok (.ret u), hq' =>
    obtain ⟨v, H', I4, rv, ev, q3⟩ := I3.after hq'
    subst ev
    exact ⟨rv, ⟨V.ref (s.heap.objs.size + 1), H', I4, rfl, q3⟩⟩
variable {x : Str} {p pos : Pos} {e : Expr} {es : List Expr} {tn : TE} {t : TA} {S : Addr → Nat → Sp → Prop}
def tMakeQ (S : Addr → Nat → Sp → Prop) (E : L2.St → XK) (tn : TE) (t : TA) : TE := fun σ H Q => tn σ H fun g H1 => ∃ C n sp, g = .ref C ∧ S C n sp ∧ t σ H1 fun xs H2 => ∀ x dx, H2 x = none → H2 dx = none → dx ≠ x →
  sp (V.ref x :: xs) (SlX.slH H2 x C dx (List.replicate n none)) (fun v H3 => v = .non ∧ Q (.ref x) H3) (E σ)
theorem pe_makeQ (hn : PE X (.Name x p) tn) (A : ∀ C n sp, S C n sp → ∃ k f, Mk X.K C f ∧ FnQ X.prog X.w X.K X.mg X.base k f sp ∧ RoomG (k + 1) X.A) (hx : ∀ σ, PassesAt (L2.CX X.prog X.w) X σ (E σ)) (ha : PA X (e :: es) t)
    (he : starEach (e :: es) X.env = (false, eval e X.env) :: starEach es X.env := by rfl) (hpl : (backTo pos (starEach es X.env)).any (·.1) = false := by rfl) : PE X (.Call (.Name x p) (e :: es) [] pos) (tMakeQ S E tn t) := by
  refine ⟨fun pins s σ H Q I h => ?_⟩
  refine wpAny_Call_Name_kw (thn (hn.run pins s σ H _ I h) fun u s1 ⟨g, H1, I1, rg, C, n, sp, eg, hS, q⟩ => ?_)
  subst eg
  cases (show u = Value.ref C from rg)
  obtain ⟨k, f, M, F, hr⟩ := A C n sp hS
  exact PySem.W.callWith_K (h₀ := X.base) I1.ok.mod.kin M.kp (thn (ha.run pos pins s1 σ H1 _ I1 q) fun us s2 ⟨xs, H2, I2, r, q2⟩ => ⟨I2.kIn, run_makeQ n M F hr (hx σ) I2 r q2⟩) he hpl
theorem pe_makeQ0 (hn : PE X (.Name x p) tn) (A : ∀ C n sp, S C n sp → ∃ k f, Mk X.K C f ∧ FnQ X.prog X.w X.K X.mg X.base k f sp ∧ RoomG (k + 1) X.A) (hx : ∀ σ, PassesAt (L2.CX X.prog X.w) X σ (E σ)) : PE X (.Call (.Name x p) [] [] pos) (tMakeQ S E tn tNil) := by
  refine ⟨fun pins s σ H Q I h => ?_⟩
  refine wpAny_Call_Name_kw (thn (hn.run pins s σ H _ I h) fun u s1 ⟨g, H1, I1, rg, C, n, sp, eg, hS, q⟩ => ?_)
  subst eg
  cases (show u = Value.ref C from rg)
  obtain ⟨k, f, M, F, hr⟩ := A C n sp hS
  exact PySem.W.callWith_K0 I1.kIn M.kp (run_makeQ (us := []) n M F hr (hx σ) I1 .nil q)
end
/-- the making as a def of the values: an instance of n slots in the memory, then its __init__ -/
def mkI (k n : Nat) (F : List CV → M CV) (xs : List CV) : M CV := fun h => frN h.length fun l => sapp h [.ins k (List.replicate n none)] fun h1 => match F (.ref l :: xs) h1 with
  | .ok .non h' => .ok (.ref l) h'
  | .ok _ _ => .bad
  | .exc x h' => .exc x h'
  | .bad => .bad
theorem make_red {G : Cfg} {k n np : Nat} {F : List CV → M CV} {us : List V} {H : Hp} {Q : VK} {E : XK} (q : spH G np (mkI k n F) us H Q E) {x dx : Addr} (nx : H x = none) (nd : H dx = none) (ne : dx ≠ x) :
    spH G (np + 1) F (V.ref x :: us) (SlX.slH H x (G.cls k) dx (List.replicate n none)) (fun v H3 => v = .non ∧ Q (.ref x) H3) E := by
  obtain ⟨hl, ρ, h, xs, m, r, p⟩ := q
  have e : SlX.slH H x (G.cls k) dx (List.replicate n none) = upd (upd H dx (.xd [])) x (SlX.SlO x (G.cls k) dx (List.replicate n none)) := rfl
  have m1 : MemR G ρ h (upd H dx (.xd [])) := m.laid nd
  have e1 : Ext ρ H ρ (upd H dx (.xd [])) := Ext.laid nd
  have nx1 : upd H dx (.xd []) x = none := by rw [upd_ne (Ne.symm ne)]; exact nx
  have hd : ¬ (⟨ρ.d, ρ.r ++ [x]⟩ : Wd).has dx := fun z => by
    rcases has_push.mp z with z | z
    · exact m.free nd z
    · exact ne z
  have m2 : MemR G ⟨ρ.d, ρ.r ++ [x]⟩ (h ++ [.ins k (List.replicate n none)]) (upd (upd H dx (.xd [])) x (SlX.SlO x (G.cls k) dx (List.replicate n none))) := m1.pushO nx1 ⟨dx, _, upd_same, hd, by rw [upd_ne ne, upd_same], by rw [List.length_replicate, List.length_replicate], fun i v q => by
    rw [List.getElem?_replicate] at q
    split at q <;> cases q⟩
  have e2 : Ext ρ (upd H dx (.xd [])) ⟨ρ.d, ρ.r ++ [x]⟩ (upd (upd H dx (.xd [])) x (SlX.SlO x (G.cls k) dx (List.replicate n none))) := Ext.push nx1
  have at_ : ρ.r ++ [x] = ρ.r ++ [x] ∧ (ρ.r ++ [x])[h.length]? = some x := ⟨rfl, by rw [← m.len]; simp⟩
  rw [e]
  refine ⟨by rw [List.length_cons, hl], ⟨ρ.d, ρ.r ++ [x]⟩, h ++ [.ins k (List.replicate n none)], .ref h.length :: xs, m2, ⟨_, _, rfl, ⟨x, at_.2, rfl⟩, (r.ext m e1).ext m1 e2⟩, ?_⟩
  unfold mkI at p
  rw [frN_eq, sapp_eq] at p
  cases c : F (.ref h.length :: xs) (h ++ [.ins k (List.replicate n none)]) with
  | bad => rw [c] at p; exact p.elim
  | exc y h' => rw [c] at p; exact fun ρ' H' a b m' e' => p ρ' H' a b m' ((e1.trans e2).trans e')
  | ok v h' =>
    rw [c] at p
    cases v with
    | non => exact fun ρ' H' u m' e' ru => ⟨ru, p ρ' H' (.ref x) m' ((e1.trans e2).trans e') ⟨x, e'.pre _ _ at_.2, rfl⟩⟩
    | _ => exact p.elim
/-- classes: their slots, the arity of the making, their __init__ -/
abbrev MDisp := List (Nat × Nat × Nat × (List CV → M CV))
def mdispAt (D : MDisp) (k : Nat) : Option (Nat × Nat × (List CV → M CV)) := List.rec none (fun d _ ih => Bool.rec ih (some d.2) (Nat.beq d.1 k)) D
inductive HoldMk (G : Cfg) (X : Cx) : MDisp → Prop
  | nil : HoldMk G X []
  | cons {D : MDisp} {i n np k : Nat} {f : Addr} {F : List CV → M CV} (q : FnQ X.prog X.w X.K X.mg X.base k f (spH G (np + 1) F)) (hr : RoomG (k + 1) X.A) (mk : Mk X.K (G.cls i) f) (t : HoldMk G X D) : HoldMk G X ((i, n, np, F) :: D)
theorem HoldMk.at_ {G : Cfg} {X : Cx} {i : Nat} : ∀ {D : MDisp} {d : Nat × Nat × (List CV → M CV)}, HoldMk G X D → mdispAt D i = some d → ∃ k f, Mk X.K (G.cls i) f ∧ FnQ X.prog X.w X.K X.mg X.base k f (spH G (d.2.1 + 1) d.2.2) ∧ RoomG (k + 1) X.A
  | [], d, _, e => nomatch (show (none : Option (Nat × Nat × (List CV → M CV))) = some d from e)
  | (j, n, np, F) :: D, d, .cons q hr mk t, e => by
    have st : mdispAt ((j, n, np, F) :: D) i = (Bool.rec (mdispAt D i) (some (n, np, F)) (Nat.beq j i) : Option (Nat × Nat × (List CV → M CV))) := rfl
    rw [st] at e
    cases c : Nat.beq j i with
    | true =>
      rw [c] at e
      cases e
      have := Nat.eq_of_beq_eq_true c
      subst this
      exact ⟨_, _, mk, q, hr⟩
    | false =>
      rw [c] at e
      exact t.at_ e
/-- C(..), the instance is read from now on -/
def eMkF (D : MDisp) (c : Sl → M CV) (ml : Sl → M (List CV)) : Sl → M CV := fun τ => bnd (c τ) fun x => match x with
  | .cls k => match mdispAt D k with
    | some d => bnd (ml τ) (callF d.2.1 (mkI k d.1 d.2.2))
    | none => stuck
  | _ => stuck
/-- C(..), the instance stays in the memory -/
def eMkS (D : MDisp) (c : Sl → M CV) (ml : Sl → M (List CV)) : Sl → M CV := fun τ => bnd (c τ) fun x => match x with
  | .cls k => match mdispAt D k with
    | some d => bnd (ml τ) fun xs => if xs.length = d.2.1 then mkI k d.1 d.2.2 xs else stuck
    | none => stuck
  | _ => stuck
section
variable {G : Cfg} {W : WX} {X : Cx} {x : Str} {p pos : Pos} {e : Expr} {es : List Expr} {mc : Sl → M CV} {ml : Sl → M (List CV)} {D : MDisp}
abbrev SMk (G : Cfg) (D : MDisp) : Addr → Nat → Sp → Prop := fun C n sp => ∃ i d, C = G.cls i ∧ mdispAt D i = some d ∧ n = d.1 ∧ sp = spH G (d.2.1 + 1) d.2.2
theorem holdMk_fn (hd : HoldMk G X D) : ∀ C n sp, SMk G D C n sp → ∃ k f, Mk X.K C f ∧ FnQ X.prog X.w X.K X.mg X.base k f sp ∧ RoomG (k + 1) X.A := fun C n sp ⟨i, d, e1, e2, e3, e4⟩ => by
  subst e1 e3 e4; exact hd.at_ e2
theorem mkF_red {t : TA} (ht : ∀ σ H Q, tM G W (ValsR G) ml σ H Q → t σ H Q) (hx : G.exi = none) (hy : G.lam = none) {σ : L2.St} {H : Hp} {Q : VK} (q : tV G W (eMkF D mc ml) σ H Q) : tMakeQ (SMk G D) (fun σ => WE W σ) (tV G W mc) t σ H fun v H1 => LockL (Q v) H1 := by
  obtain ⟨ρ, h, τ, mm, s, p⟩ := q
  refine tM_bind mm s p fun x h1 ρ1 H1 u m1 e1 s1 r1 p1 => ?_
  cases x with
  | cls k =>
    simp only at p1
    cases c2 : mdispAt D k with
    | none => rw [c2] at p1; exact p1.elim
    | some d =>
      rw [c2] at p1
      refine ⟨G.cls k, d.1, _, r1, ⟨k, d, rfl, c2, rfl, rfl⟩, ht _ _ _ (tM_bind m1 s1 p1 fun xs h2 ρ2 H2 us m2 e2 s2 r2 p2 => fun a dx n1 n2 ne => ?_)⟩
      exact make_red (callF_ok hx hy m2 r2 p2 fun _ _ _ z => z) n1 n2 ne
  | _ => exact p1.elim
theorem mkS_red {t : TA} (ht : ∀ σ H Q, tM G W (ValsR G) ml σ H Q → t σ H Q) {σ : L2.St} {H : Hp} {Q : VK} (q : tV G W (eMkS D mc ml) σ H Q) : tMakeQ (SMk G D) (fun σ => WE W σ) (tV G W mc) t σ H Q := by
  obtain ⟨ρ, h, τ, mm, s, p⟩ := q
  refine tM_bind mm s p fun x h1 ρ1 H1 u m1 e1 s1 r1 p1 => ?_
  cases x with
  | cls k =>
    simp only at p1
    cases c2 : mdispAt D k with
    | none => rw [c2] at p1; exact p1.elim
    | some d =>
      rw [c2] at p1
      refine ⟨G.cls k, d.1, _, r1, ⟨k, d, rfl, c2, rfl, rfl⟩, ht _ _ _ (tM_bind m1 s1 p1 fun xs h2 ρ2 H2 us m2 e2 s2 r2 p2 => fun a dx n1 n2 ne => ?_)⟩
      by_cases hl : xs.length = d.2.1
      · rw [if_pos hl] at p2
        exact make_red (k := k) ⟨r2.len.symm.trans hl, ρ2, h2, xs, m2, r2, Post.wx (σ := σ) p2 fun _ _ _ z => z⟩ n1 n2 ne
      · rw [if_neg hl] at p2; exact p2.elim
  | _ => exact p1.elim
theorem se_mkF (B : Bx G W X) (hx : G.exi = none) (hy : G.lam = none) (hd : HoldMk G X D) (hn : SE G W X (.Name x p) mc) (ha : SA G W X (e :: es) ml)
    (he : starEach (e :: es) X.env = (false, eval e X.env) :: starEach es X.env := by rfl) (hpl : (backTo pos (starEach es X.env)).any (·.1) = false := by rfl) : SE G W X (.Call (.Name x p) (e :: es) [] pos) (eMkF D mc ml) :=
  (pe_lk (pe_makeQ hn (holdMk_fn hd) (fun σ => passAt B.tk σ) ha he hpl)).wk fun σ H Q q => mkF_red (fun _ _ _ z => z) hx hy q
theorem se_mkF0 (B : Bx G W X) (hx : G.exi = none) (hy : G.lam = none) (hd : HoldMk G X D) (hn : SE G W X (.Name x p) mc) : SE G W X (.Call (.Name x p) [] [] pos) (eMkF D mc eNilA) :=
  (pe_lk (pe_makeQ0 hn (holdMk_fn hd) (fun σ => passAt B.tk σ))).wk fun σ H Q q => mkF_red (fun _ _ _ z => nil_red z) hx hy q
theorem se_mkS (B : Bx G W X) (hd : HoldMk G X D) (hn : SE G W X (.Name x p) mc) (ha : SA G W X (e :: es) ml)
    (he : starEach (e :: es) X.env = (false, eval e X.env) :: starEach es X.env := by rfl) (hpl : (backTo pos (starEach es X.env)).any (·.1) = false := by rfl) : SE G W X (.Call (.Name x p) (e :: es) [] pos) (eMkS D mc ml) :=
  (pe_makeQ hn (holdMk_fn hd) (fun σ => passAt B.tk σ) ha he hpl).wk fun σ H Q q => mkS_red (fun _ _ _ z => z) q
theorem se_mkS0 (B : Bx G W X) (hd : HoldMk G X D) (hn : SE G W X (.Name x p) mc) : SE G W X (.Call (.Name x p) [] [] pos) (eMkS D mc eNilA) :=
  (pe_makeQ0 hn (holdMk_fn hd) (fun σ => passAt B.tk σ)).wk fun σ H Q q => mkS_red (fun _ _ _ z => nil_red z) q
end
end VE

noncomputable section
namespace VE
open PySem PySem.Spec PyProof.Rows L2 LamX
structure PropK (K : PySem.W.Frag) (f : Str) (C g : Addr) : Prop where
  c : SlX.SCls K C
  ex : ∃ p, PropOf K C f p g
theorem cx_noE {P : Program} {w : World} {out : List Env} {H : Hp} {s s' : Shared} {e : Value} (z : L2.CX P w out H s (fun _ _ _ => False) e s') : False := by
  obtain ⟨_, _, _, _, _, _, _, _, _, _, _, _, z⟩ := z
  exact z
section
variable {X : Cx} {pins : List (Addr × Obj)} {σ : L2.St} {H : Hp} {s : Shared} {k : Nat} {g a C dx : Addr} {sp : Sp} {Q : VK} {vs : List (Option V)} {f : Str}
theorem getprop_q {b : Bool} (I : Inv X pins σ H s) (h : SlX.Slt H a C dx vs) (P : PropK X.K f C g) (F : FnQ X.prog X.w X.K X.mg X.base k g sp) (hr : RoomG (k + 1) X.A) (q : sp [.ref a] H Q (fun _ _ _ => False)) : wpAny (model X.prog X.w) X.A (getAttr (.ref a) f b) (EP X pins σ Q) X.xe s := by
  obtain ⟨sl, od, _, J, _⟩ := SlX.slt_inst I h
  obtain ⟨c, p, hp⟩ := P
  obtain ⟨rest, hrec⟩ := hp.rec_
  have I1 : Inv X pins σ H { s with toks := s.toks + 1 } := I.tok (s.toks + 1)
  refine PySem.W.get_bind I.kIn J (PySem.W.plainGet_of (c.get f)).1 (PySem.W.findObj_data c.ic hp.at_ hp.get hp.tak) (PySem.W.plainGet_of (c.get f)).2 (wpAny_call (PySem.W.prop_get (s := { s with toks := s.toks + 1 }) I.kIn hrec ?_))
  refine codeAny_mono (F X.A.in1 X.stack { s with toks := s.toks + 1 } H [.ref a] [.ref a] Q (fun _ _ _ => False) hr.in1 I1.env0.in1 (.cons rfl .nil) q) fun r s' hq => ?_
  match r, hq with
  | .error e, hq => exact (cx_noE hq).elim
  | .ok (.ret u), hq =>
    obtain ⟨v, H', I2, rv, q⟩ := I1.after hq
    exact wpAny_of_eq (PySem.W.handedOut_of (handed_of rv)) ⟨v, H', I2, rv, q⟩
variable {e : Expr} {ta : TE} {pos : Pos} {S : Addr → Sp → Prop}
def tPropQ (S : Addr → Sp → Prop) (ta : TE) : TE := fun σ H Q => ta σ H fun x H1 => ∃ a C dx vs sp, x = .ref a ∧ SlX.Slt H1 a C dx vs ∧ S C sp ∧ sp [.ref a] H1 Q (fun _ _ _ => False)
theorem pe_propQ (he : PE X e ta) (A : ∀ C sp, S C sp → ∃ k g, FnQ X.prog X.w X.K X.mg X.base k g sp ∧ RoomG (k + 1) X.A ∧ PropK X.K f C g) (hb : attributeBase e f X.env (eval e X.env) = eval e X.env := by rfl) : PE X (.Attribute e f pos) (tPropQ S ta) := by
  refine ⟨fun pins s σ H Q I h => ?_⟩
  refine attr_of hb (thn (he.run pins s σ H _ I h) fun w s1 ⟨x, H1, I1, rx, a, C, dx, vs, sp, ex, hs, hS, q⟩ => ?_)
  subst ex
  cases (show w = Value.ref a from rx)
  obtain ⟨k, g, F, hr, P⟩ := A C sp hS
  exact getprop_q I1 hs P F hr q
end
/-- what it raises is left out -/
def noX (F : List CV → M CV) (xs : List CV) : M CV := fun h => match F xs h with
  | .ok v h' => .ok v h'
  | _ => .bad
theorem noX_red {G : Cfg} {np : Nat} {F : List CV → M CV} {us : List V} {H : Hp} {Q : VK} {E : XK} (q : spH G np (noX F) us H Q E) : spH G np F us H Q (fun _ _ _ => False) := by
  obtain ⟨hl, ρ, h, xs, m, r, p⟩ := q
  refine ⟨hl, ρ, h, xs, m, r, ?_⟩
  unfold noX at p
  cases e : F xs h with
  | ok v h' => rw [e] at p; exact p
  | _ => rw [e] at p; exact p.elim
def eProp (D : Disp) (o : Sl → M CV) : Sl → M CV := fun τ => bnd (o τ) fun x h => match clsAt x h with
  | some i => match dispAt D i with
    | some d => callF d.1 (noX d.2) [x] h
    | none => .bad
  | none => .bad
inductive HoldP (G : Cfg) (X : Cx) (f : Str) : Disp → Prop
  | nil : HoldP G X f []
  | cons {D : Disp} {i np k : Nat} {g : Addr} {F : List CV → M CV} (q : FnQ X.prog X.w X.K X.mg X.base k g (spH G np F)) (hr : RoomG (k + 1) X.A) (r : PropK X.K f (G.cls i) g) (t : HoldP G X f D) : HoldP G X f ((i, np, F) :: D)
theorem HoldP.at_ {G : Cfg} {X : Cx} {f : Str} {i : Nat} : ∀ {D : Disp} {d : Nat × (List CV → M CV)}, HoldP G X f D → dispAt D i = some d → ∃ k g, FnQ X.prog X.w X.K X.mg X.base k g (spH G d.1 d.2) ∧ RoomG (k + 1) X.A ∧ PropK X.K f (G.cls i) g
  | [], d, _, e => nomatch (show (none : Option (Nat × (List CV → M CV))) = some d from e)
  | (j, np, F) :: D, d, .cons q hr r t, e => by
    have st : dispAt ((j, np, F) :: D) i = (Bool.rec (dispAt D i) (some (np, F)) (Nat.beq j i) : Option (Nat × (List CV → M CV))) := rfl
    rw [st] at e
    cases c : Nat.beq j i with
    | true =>
      rw [c] at e
      cases e
      have := Nat.eq_of_beq_eq_true c
      subst this
      exact ⟨_, _, q, hr, r⟩
    | false =>
      rw [c] at e
      exact t.at_ e
theorem FnQ.imp {P : Program} {w : World} {K : PySem.W.Frag} {mg : Str → Option Value} {base : Heap} {k : Nat} {g : Addr} {sp sp' : Sp} (F : FnQ P w K mg base k g sp) (h : ∀ xs H Q E, sp' xs H Q E → sp xs H Q E) : FnQ P w K mg base k g sp' :=
  fun A out s H us xs Q E hr e0 r q => F A out s H us xs Q E hr e0 r (h _ _ _ _ q)
theorem FnQ.mono {P : Program} {w : World} {K : PySem.W.Frag} {mg : Str → Option Value} {base : Heap} {j k : Nat} {g : Addr} {sp : Sp} (F : FnQ P w K mg base j g sp) (h : j ≤ k) : FnQ P w K mg base k g sp := fun A out s H us xs Q E hr => F A out s H us xs Q E (hr.mono h)
section
variable {G : Cfg} {W : WX} {X : Cx} {o : Expr} {f : Str} {pos : Pos} {mo : Sl → M CV} {D : Disp}
theorem se_prop (hx : G.exi = none) (hy : G.lam = none) (hd : HoldP G X f D) (ho : SE G W X o mo) (hb : attributeBase o f X.env (eval o X.env) = eval o X.env := by rfl) : SE G W X (.Attribute o f pos) (eProp D mo) :=
  (pe_lk (pe_propQ (S := fun C sp => ∃ i d, C = G.cls i ∧ dispAt D i = some d ∧ sp = spH G d.1 d.2) ho (fun C sp ⟨i, d, e1, e2, e3⟩ => by subst e1 e3; exact hd.at_ e2) hb)).wk fun σ H Q ⟨ρ, h, τ, mm, s, p⟩ => tM_bind mm s p fun x h1 ρ1 H1 u m1 e1 s1 r1 p1 => by
    cases c : clsAt x h1 with
    | none => rw [c] at p1; exact p1.elim
    | some i =>
      rw [c] at p1
      simp only at p1
      cases c2 : dispAt D i with
      | none => rw [c2] at p1; exact p1.elim
      | some d =>
        rw [c2] at p1
        obtain ⟨a, dx, vs, eu, hs⟩ := clsAt_r m1 r1 c
        subst eu
        exact ⟨a, G.cls i, dx, vs, _, rfl, hs, ⟨i, d, rfl, c2, rfl⟩, noX_red (callF_ok (xs := [x]) (us := [.ref a]) (E := fun c d H' => W c d σ H') hx hy m1 ⟨_, _, rfl, r1, rfl⟩ p1 fun _ _ _ z => z)⟩
end
section
variable {X : Cx} {k : Nat} {C p g : Addr} {mc : Value} {sp : Sp} {E : L2.St → XK} {o e : Expr} {es : List Expr} {m : Str} {pos apos : Pos} {ta : TE} {t : TA} {pl : Sem Bool}
theorem pe_cmethQ (he : PE X o ta) (r : ClX.CRead X.K C mc) (c : ClX.CMet X.K C mc m p g) (F : FnQ X.prog X.w X.K X.mg X.base k g sp) (hr : RoomG k X.A) (hx : ∀ σ, PassesAt (L2.CX X.prog X.w) X σ (E σ)) (ha : PA X (e :: es) t)
    (hst : starEach (e :: es) X.env = (false, eval e X.env) :: starEach es X.env := by rfl) (hpl : (backTo pos (starEach es X.env)).any (·.1) = false := by rfl) (ht : ArgT X o m apos pos (e :: es) pl := by rfl) :
    PE X (.Call (.Attribute o m apos) (e :: es) [] pos) (fun σ H Q => ta σ H fun x H1 => x = .ref C ∧ t σ H1 fun vs H2 => sp (.ref C :: vs) H2 Q (E σ)) := by
  refine ⟨fun pins s σ H Q I h => ?_⟩
  refine PySem.W.methodCall_KW (pl := pl) (thn (he.run pins s σ H _ I h) fun u s1 ⟨x, H1, I1, rx, ex, q⟩ => ?_) ht
  subst ex
  cases (show u = Value.ref C from rx)
  refine ClX.getmethcm_ok I1 r c fun s2 I2 => ?_
  refine ClX.callwith_cm I2 (ClX.base_none I1 (Nat.le_refl _)) c.fi (thn (ha.run pos _ s2 σ H1 _ I2 q) fun us s3 ⟨vs, H2, I3, rv, q2⟩ => ⟨⟨ClX.pin_at I3, I3.kIn⟩, ?_⟩) hst hpl
  have z : wpAny (model X.prog X.w) X.A (call (.ref s1.heap.objs.size) us) (EP X _ σ Q) X.xe s3 :=
    wpAny_call (PySem.W.method_call (ClX.pin_at I3) (codeAny_mono (run_q (us := .ref C :: us) (xs := .ref C :: vs) F hr I3.env0 (hx σ) I3 (.cons rfl rv) q2) fun r s2 z => by
      match r, z with
      | .error ev, z => exact z
      | .ok (.ret u), z => exact z))
  exact thn z fun _ _ y => ClX.unpinE y
end
/-- C.m(..), the callee has a memory of its own -/
def eCm (k np : Nat) (F : List CV → M CV) (c : Sl → M CV) (ml : Sl → M (List CV)) : Sl → M CV := fun τ => bnd (c τ) fun x => match x with
  | .cls j => if (Nat.beq j k) = true then bnd (ml τ) (fun xs => callF np F (x :: xs)) else stuck
  | _ => stuck
section
variable {G : Cfg} {W : WX} {X : Cx} {o e : Expr} {es : List Expr} {m : Str} {pos apos : Pos} {mo : Sl → M CV} {ml : Sl → M (List CV)} {pl : Sem Bool} {i np k : Nat} {F : List CV → M CV} {mc : Value} {p g : Addr}
theorem se_cm (B : Bx G W X) (hx : G.exi = none) (hy : G.lam = none) (r : ClX.CRead X.K (G.cls i) mc) (c : ClX.CMet X.K (G.cls i) mc m p g) (q : FnQ X.prog X.w X.K X.mg X.base k g (spH G np F)) (hr : RoomG k X.A) (ho : SE G W X o mo) (ha : SA G W X (e :: es) ml)
    (hst : starEach (e :: es) X.env = (false, eval e X.env) :: starEach es X.env := by rfl) (hpl : (backTo pos (starEach es X.env)).any (·.1) = false := by rfl) (ht : ArgT X o m apos pos (e :: es) pl := by rfl) : SE G W X (.Call (.Attribute o m apos) (e :: es) [] pos) (eCm i np F mo ml) :=
  (pe_lk (pe_cmethQ ho r c q hr (fun σ => passAt B.tk σ) ha hst hpl ht)).wk fun σ H Q ⟨ρ, h, τ, mm, s, p⟩ => tM_bind mm s p fun x h1 ρ1 H1 u m1 e1 s1 r1 p1 => by
    cases x with
    | cls j =>
      simp only at p1
      by_cases c : (Nat.beq j i) = true
      · rw [if_pos c] at p1
        have := Nat.eq_of_beq_eq_true c
        subst this
        cases (show u = .ref (G.cls j) from r1)
        refine ⟨rfl, tM_bind m1 s1 p1 fun xs h2 ρ2 H2 us m2 e2 s2 r2 p2 => ?_⟩
        exact callF_ok hx hy m2 (show ValsR G ρ2 H2 (.cls j :: xs) (.ref (G.cls j) :: us) from ⟨_, us, rfl, rfl, r2⟩) p2 fun _ _ _ z => z
      · rw [if_neg c] at p1; exact p1.elim
    | _ => exact p1.elim
end
/-- C is an own class; what isinstance says of the built-in kinds -/
structure IsiC (K : PySem.W.Frag) (C : Addr) : Prop where
  kp : PySem.W.keepIn K (.ref C) = true
  kd : ∀ k : Knd, PySem.W.kitOne K (.type k.name) (.ref C) = some false
/-- of an instance of the class at C' -/
structure IsiI (K : PySem.W.Frag) (C' C : Addr) (b : Bool) : Prop where
  c : SlX.SCls K C'
  i : SlX.SIsi K C'
  k : PySem.W.kitOne K (.ref C') (.ref C) = some b
def isOwn (T : Nat → Option Bool) (x : CV) : M CV := fun h => match clsAt x h with
  | some k => match T k with
    | some b => .ok (.bl b) h
    | none => .bad
  | none => match kindOf h x with
    | some _ => .ok (.bl false) h
    | none => .bad
end VE

noncomputable section
namespace VE
open PySem PySem.Spec PyProof.Rows L2 LamX
/-- a value's type: also dicts of any keys, instances -/
inductive TyY (G : Cfg) (H : Hp) : V → Value → Prop
  | x {v : V} {t : Value} (h : TyX G.K H v t) : TyY G H v t
  | dn {a : Addr} {es : Ents} (h : Rd H a (dN G.P G.w a es)) : TyY G H (.ref a) (.type "dict")
  | ins {a C dx : Addr} {vs : List (Option V)} (h : SlX.Slt H a C dx vs) (c : SlX.SCls G.K C) (i : SlX.SIsi G.K C) : TyY G H (.ref a) (.ref C)
def rIsY (G : Cfg) : List V → Hp → VK → Prop := fun xs H Q => ∃ (x c : V) (t u : Value) (b : Bool), xs = [x, c] ∧ ClsV c u ∧ TyY G H x t ∧ PySem.W.kitOne G.K t u = some b ∧ Q (.bl b) H
theorem dn_rd {G : Cfg} {P : Program} {w : World} {H : Hp} {h : Heap} {a : Addr} {es : Ents} (ok : HOk P w H h) (r : Rd H a (dN G.P G.w a es)) : es.length ≤ sizeLine ∧ (a == sysModules) = false ∧ ∃ (xs : List (NestedKey × Addr × Value)) (o : Obj) (ds : Array DictEntry) (ep : Nat),
    Paired EntR es xs ∧ h.get? a = some o ∧ o.ExactDict ∧ o.data = .dict ds ep ∧ ds.toList = xs.map (entryOfKey (nestedKind G.P G.w)) ∧ (xs.map (·.1)).Nodup := by
  have q := r.ok ok
  unfold dN at q
  exact ⟨q.1.1, q.1.2.1, q.1.2.2.2⟩
theorem call_isY {X : Cx} {G : Cfg} (hK : G.K = X.K) : CallR X (.builtin "isinstance") (rIsY G) := by
  intro pins s σ H xs us Q I r h
  obtain ⟨x, c, t, u, b, rfl, k, ty, e, q⟩ := h
  obtain ⟨u1, u2, rfl, r1, r2⟩ := vals2 r
  have e2 := k.eq r2
  subst e2
  rw [hK] at e
  cases ty with
  | x ty =>
    rw [hK] at ty
    obtain ⟨P, Z, p, hx⟩ := kit_of I r1 ty
    exact PySem.W.kia_one Z I.kIn p e hx fun tk => ⟨.bl b, H, I.tok tk, rfl, q⟩
  | @dn a es hd =>
    cases (show u1 = Value.ref a from r1)
    obtain ⟨_, _, _, o, _, _, _, h1, h2, _⟩ := dn_rd I.hok hd
    exact PySem.W.kia_one PySem.W.kitx_dict I.kIn ⟨o, h1, h2.1⟩ e (fun z => nomatch z) fun tk => ⟨.bl b, H, I.tok tk, rfl, q⟩
  | @ins a C dx vs hsl hc hi =>
    cases (show u1 = Value.ref a from r1)
    rw [hK] at hc hi
    obtain ⟨sl, od, _, J, _⟩ := SlX.slt_inst I hsl
    exact PySem.W.kia_one (OwX.kitx_slt hc.ic (hc.get _) hi.ca hi.cn hi.ct hi.cm) I.kIn J e (fun z => nomatch z) fun tk => ⟨.bl b, H, I.tok tk, rfl, q⟩
/-- .. of dicts in the memory, and of those with tuples as keys, too -/
def kindY (h : Mem) (x : CV) : Option Knd := match x with
  | .dic _ _ _ => some .dic
  | .ref l => match sget h l with
    | some (.lst _) => some .lst
    | some (.dic _ _ _ _) => some .dic
    | _ => none
  | x => kindOf h x
theorem kindY_r {G : Cfg} {ρ : Wd} {h : Mem} {H : Hp} {x : CV} {u : V} {k : Knd} (m : MemR G ρ h H) (r : ValR G ρ H x u) (e : kindY h x = some k) : TyY G H u (.type k.name) := by
  cases x with
  | dic n ks vs =>
    cases e
    obtain ⟨a, ob, w, eu, nh, hw, d⟩ := valR_dic.mp r
    subst eu
    cases n with
    | true =>
      obtain ⟨es, rfl, _⟩ := d.1 rfl
      exact .dn (.inr ⟨ob, hw⟩)
    | false =>
      obtain ⟨kvs, rfl, _⟩ := d.2 rfl
      exact .x (.fDict hw)
  | ref l =>
    have r' := r
    obtain ⟨a, q, eu⟩ := r
    subst eu
    unfold kindY at e
    simp only [sget_eq] at e
    cases hc : h[l]? with
    | none => rw [hc] at e; cases e
    | some co =>
      rw [hc] at e
      cases co with
      | lst xs =>
        cases e
        exact .x (kindOf_r m r' (by unfold kindOf; simp only [sget_eq, hc]))
      | dic lk n ks vs =>
        cases e
        obtain ⟨w, h1, h2, d⟩ := m.obj l a _ q hc
        have hr : Rd H a w := by
          cases lk with
          | true => obtain ⟨ob, z⟩ := h1 rfl; exact .inr ⟨ob, z⟩
          | false => exact .inl (h2 rfl)
        cases n with
        | true =>
          obtain ⟨es, rfl, _⟩ := d.1 rfl
          exact .dn hr
        | false =>
          obtain ⟨kvs, rfl, _⟩ := d.2 rfl
          rcases hr with z | ⟨ob, z⟩
          · exact .x (.base (.dK z))
          · exact .x (.fDict z)
      | _ => cases e
  | _ => exact .x (kindOf_r m r e)
/-- the class c (its value u): f says whether the built-in kinds are of it, T the own classes -/
structure IsiT (G : Cfg) (c : V) (u : Value) (f : Knd → Bool) (T : Nat → Option Bool) : Prop where
  cv : ClsV c u
  kd : ∀ k : Knd, PySem.W.kitOne G.K (.type k.name) u = some (f k)
  ins : ∀ k b, T k = some b → SlX.SCls G.K (G.cls k) ∧ SlX.SIsi G.K (G.cls k) ∧ PySem.W.kitOne G.K (.ref (G.cls k)) u = some b
def isTy (f : Knd → Bool) (T : Nat → Option Bool) (x : CV) : M CV := fun h => match clsAt x h with
  | some k => match T k with
    | some b => .ok (.bl b) h
    | none => .bad
  | none => match kindY h x with
    | some k => .ok (.bl (f k)) h
    | none => .bad
section
variable {G : Cfg} {W : WX} {X : Cx} {pos p p2 : Pos} {a : Expr} {ma : Sl → M CV} {T : Str} {c : V} {u : Value} {f : Knd → Bool} {tab : Nat → Option Bool}
theorem se_isY (hK : G.K = X.K) (hg : Gl X "isinstance") (hm : X.mg "isinstance" = none) (I : IsiT G c u f tab) (hT : PE X (.Name T p2) (tC c)) (ha : SE G W X a ma)
    (he : starEach [a, .Name T p2] X.env = (false, eval a X.env) :: starEach [.Name T p2] X.env := by rfl) (he2 : starEach [.Name T p2] X.env = (false, eval (.Name T p2) X.env) :: starEach [] X.env := by rfl) (hpl : (backTo pos (starEach [.Name T p2] X.env)).any (·.1) = false := by rfl) :
    SE G W X (.Call (.Name "isinstance" p) [a, .Name T p2] [] pos) (eUn (isTy f tab) ma) :=
  (pe_callB (call_isY hK) hg hm (by decide +kernel) (pa_cons ha (pa_cons hT pa_nil he2) he) (by decide) (by decide) he hpl).wk fun σ H Q ⟨ρ, h, τ, m, s, p⟩ => tM_bind m s p fun x h1 ρ1 H1 v m1 e1 s1 r1 p1 => by
    show rIsY G [v, c] H1 Q
    unfold isTy at p1
    cases q : clsAt x h1 with
    | some k =>
      rw [q] at p1
      simp only at p1
      cases q2 : tab k with
      | none => rw [q2] at p1; exact p1.elim
      | some b =>
        rw [q2] at p1
        obtain ⟨a, dx, vs, eu, hs⟩ := clsAt_r m1 r1 q
        obtain ⟨i1, i2, i3⟩ := I.ins k b q2
        subst eu
        exact ⟨_, c, _, u, b, rfl, I.cv, .ins hs i1 i2, i3, p1 ρ1 H1 _ m1 Ext.refl rfl⟩
    | none =>
      rw [q] at p1
      simp only at p1
      cases q2 : kindY h1 x with
      | none => rw [q2] at p1; exact p1.elim
      | some k =>
        rw [q2] at p1
        exact ⟨v, c, _, u, f k, rfl, I.cv, kindY_r m1 r1 q2, I.kd k, p1 ρ1 H1 _ m1 Ext.refl rfl⟩
end
theorem op_lk {X : Cx} {f : Value → Value → Sem Value} {r : R2} (h : OpR X f r) : OpR X f (fun x y H Q => r x y H fun v H1 => LockL (Q v) H1) := fun pins s σ H x y v u Q I rx ry q =>
  thn (h pins s σ H x y v u _ I rx ry q) fun u s1 ⟨v, H1, I1, r, l⟩ => by
    have go : ∀ {H1 : Hp}, LockL (Q v) H1 → Inv X pins σ H1 s1 → ∃ H2, Inv X pins σ H2 s1 ∧ Q v H2 := by
      intro H1 l
      induction l with
      | done k => exact fun I => ⟨_, I, k⟩
      | lock e mu _ ih =>
        intro I
        obtain ⟨od, I2⟩ := I.lock e mu
        exact ih od I2
    obtain ⟨H2, I2, q⟩ := go l I1
    exact ⟨v, H2, I2, r, q⟩
/-- the own == of the class at C -/
structure EqK (K : PySem.W.Frag) (C g : Addr) : Prop where
  hs : PySem.W.findIn K (.ref C) "__eq__" = some (some (.ref g))
  hf : PySem.W.isFn K (.ref g) = true
  nf : PySem.W.notFirst K C (.ref C) = true
section
variable {X : Cx} {C g : Addr} {k : Nat} {sp : Sp}
def rEqQ (S : Addr → Sp → Prop) : R2 := fun x y H Q => ∃ a dx vs b dy ws C sp, x = .ref a ∧ y = .ref b ∧ SlX.Slt H a C dx vs ∧ SlX.Slt H b C dy ws ∧ S C sp ∧ sp [x, y] H Q (fun _ _ _ => False)
theorem op_eqQ {S : Addr → Sp → Prop} (A : ∀ C sp, S C sp → ∃ k g, FnQ X.prog X.w X.K X.mg X.base k g sp ∧ RoomG k X.A ∧ EqK X.K C g) : OpR X (compareOp .Eq) (rEqQ S) := by
  intro pins s σ H x y v u Q I rx ry h
  obtain ⟨a, dx, vs, b, dy, ws, C, sp, rfl, rfl, ha, hb, hS, q⟩ := h
  obtain ⟨k, g, F, hr, K⟩ := A C sp hS
  cases (show v = Value.ref a from rx)
  cases (show u = Value.ref b from ry)
  obtain ⟨sl, od, _, J, _⟩ := SlX.slt_inst I ha
  obtain ⟨sl', od', _, J', _⟩ := SlX.slt_inst I hb
  obtain ⟨m, hF⟩ := I.fr
  rw [show ∀ a b, compareOp .Eq a b = richCompare .Eq a b from fun _ _ => rfl]
  refine PySem.W.cmp_K (op := .Eq) (tb := .ref C) hr.r.units0 hF I.ok.mod.kin J J'.type K.nf K.hs K.hf ?_
  refine wpAny_mono (Q := EP X pins σ Q) (wpAny_call (codeAny_mono (F X.A X.stack s H [.ref a, .ref b] [.ref a, .ref b] Q (fun _ _ _ => False) hr I.env0 (.cons rfl (.cons rfl .nil)) q) fun r s' hq => ?_)) (fun w s' z => ?_) fun _ _ x => x
  · match r, hq with
    | .error e, hq => exact (cx_noE hq).elim
    | .ok (.ret u), hq => exact I.after hq
  · obtain ⟨z', H', I', rz, qz⟩ := z
    exact SlX.cmpback rz ⟨z', H', I', rz, qz⟩
end
/-- x == y: instances by the own defs, else as data -/
def pyEqO (D : Disp) (x y : CV) : M CV := fun h => match clsAt x h, clsAt y h with
  | some i, some j => if (Nat.beq i j) = true then match dispAt D i with
    | some d => callF d.1 (noX d.2) [x, y] h
    | none => .bad else .bad
  | none, none => pyEq false x y h
  | _, _ => .bad
inductive HoldE (G : Cfg) (X : Cx) : Disp → Prop
  | nil : HoldE G X []
  | cons {D : Disp} {i np k : Nat} {g : Addr} {F : List CV → M CV} (q : FnQ X.prog X.w X.K X.mg X.base k g (spH G np F)) (hr : RoomG k X.A) (r : EqK X.K (G.cls i) g) (t : HoldE G X D) : HoldE G X ((i, np, F) :: D)
theorem HoldE.at_ {G : Cfg} {X : Cx} {i : Nat} : ∀ {D : Disp} {d : Nat × (List CV → M CV)}, HoldE G X D → dispAt D i = some d → ∃ k g, FnQ X.prog X.w X.K X.mg X.base k g (spH G d.1 d.2) ∧ RoomG k X.A ∧ EqK X.K (G.cls i) g
  | [], d, _, e => nomatch (show (none : Option (Nat × (List CV → M CV))) = some d from e)
  | (j, np, F) :: D, d, .cons q hr r t, e => by
    have st : dispAt ((j, np, F) :: D) i = (Bool.rec (dispAt D i) (some (np, F)) (Nat.beq j i) : Option (Nat × (List CV → M CV))) := rfl
    rw [st] at e
    cases c : Nat.beq j i with
    | true =>
      rw [c] at e
      cases e
      have := Nat.eq_of_beq_eq_true c
      subst this
      exact ⟨_, _, q, hr, r⟩
    | false =>
      rw [c] at e
      exact t.at_ e
def rEqO (G : Cfg) (D : Disp) : R2 := fun x y H Q => (rEqQ (fun C sp => ∃ i d, C = G.cls i ∧ dispAt D i = some d ∧ sp = spH G d.1 d.2) x y H fun v H1 => LockL (Q v) H1) ∨ rEqD G.K x y H Q
theorem op_eqO {G : Cfg} {X : Cx} {D : Disp} (hK : G.K = X.K) (hd : HoldE G X D) (hu : X.A.units + 64 < cLine) : OpR X (compareOp .Eq) (rEqO G D) :=
  (op_lk (op_eqQ (S := fun C sp => ∃ i d, C = G.cls i ∧ dispAt D i = some d ∧ sp = spH G d.1 d.2) fun C sp ⟨i, d, e1, e2, e3⟩ => by subst e1 e3; exact hd.at_ e2)).or (hK ▸ op_eqD hu)
theorem eqO_ok {G : Cfg} {D : Disp} (hx : G.exi = none) (hy : G.lam = none) : Op2 G (rEqO G D) (pyEqO D) := by
  intro W σ ρ h H x y u v Q m rx ry p
  unfold pyEqO at p
  cases c1 : clsAt x h with
  | none =>
    cases c2 : clsAt y h with
    | none => rw [c1, c2] at p; exact .inr (eq_ok W σ ρ h H x y u v Q m rx ry p)
    | some j => rw [c1, c2] at p; exact p.elim
  | some i =>
    cases c2 : clsAt y h with
    | none => rw [c1, c2] at p; exact p.elim
    | some j =>
      rw [c1, c2] at p
      simp only at p
      by_cases c : (Nat.beq i j) = true
      · rw [if_pos c] at p
        have := Nat.eq_of_beq_eq_true c
        subst this
        cases c3 : dispAt D i with
        | none => rw [c3] at p; exact p.elim
        | some d =>
          rw [c3] at p
          obtain ⟨a, dx, vs, eu, hs⟩ := clsAt_r m rx c1
          obtain ⟨b, dy, ws, ev, hs'⟩ := clsAt_r m ry c2
          subst eu ev
          exact .inl ⟨a, dx, vs, b, dy, ws, _, _, rfl, rfl, hs, hs', ⟨i, d, rfl, c3, rfl⟩, noX_red (callF_ok (xs := [x, y]) (us := [.ref a, .ref b]) (E := fun c d H' => W c d σ H') hx hy m ⟨_, _, rfl, rx, _, _, rfl, ry, rfl⟩ p fun _ _ _ z => z)⟩
      · rw [if_neg c] at p; exact p.elim
end VE

noncomputable section
namespace VE
open PySem PySem.Spec PyProof.Rows L2 LamX
def isTab (o : Obj) : Bool := match o with
  | ⟨.none, none, .fields vs, _⟩ => Nat.beq vs.size 0
  | _ => false
def nextV (g : Addr → Option Obj) (as : List Addr) : List Addr := as.flatMap fun a => match g a with
  | some o => He.refsD o
  | none => []
def frL {α : Type} (l : List Nat) : (List Nat → α) → α := List.rec (fun k => k []) (fun x _ ih k => frN x fun x => ih fun xs => k (x :: xs)) l
theorem frL_eq {α : Type} : ∀ (l : List Nat) (k : List Nat → α), frL l k = k l
  | [], _ => rfl
  | x :: t, k => by
    show frN x (fun x => frL t fun xs => k (x :: xs)) = _
    rw [frN_eq, frL_eq t]
def growV (g : Addr → Option Obj) : Nat → List Addr → List Addr := fun n => Nat.rec (fun l => l) (fun _ ih l => frL (nextV g l) fun m => l ++ ih m) n
def asV (g : Addr → Option Obj) (n : Nat) : List Addr := (mainGlobals :: cStatics :: growV g n (nextV g [mainGlobals])).filter fun a => match g a with
  | some o => !isTab o
  | none => false
def frO {α : Type} (o : Obj) (k : Obj → α) : α := match o with
  | ⟨a, b, c, d⟩ => k ⟨a, b, c, d⟩
def frK {α : Type} (K : PySem.W.Frag) : (PySem.W.Frag → α) → α := List.rec (fun k => k []) (fun p _ ih k => frN p.1 fun a => frO p.2 fun o => ih fun r => k ((a, o) :: r)) K
theorem frK_eq {α : Type} : ∀ (K : PySem.W.Frag) (k : PySem.W.Frag → α), frK K k = k K
  | [], _ => rfl
  | p :: t, k => by
    show frN p.1 (fun a => frO p.2 fun o => frK t fun r => k ((a, o) :: r)) = _
    rw [frN_eq]
    obtain ⟨a, o⟩ := p
    obtain ⟨x, y, z, u⟩ := o
    show frK t (fun r => k ((a, ⟨x, y, z, u⟩) :: r)) = _
    rw [frK_eq t]
abbrev FnV : Type := Option (Str × Str × Arguments × FuncBody × Scope)
def fnAt (K : PySem.W.Frag) (f : Addr) : FnV := match K.lookup f with
  | some ⟨_, _, .func fd, _⟩ => some (fd.name, fd.qualname, fd.params, fd.body, fd.scope)
  | _ => none
/-- one def: where it stands, its names, its statement -/
structure DefV where
  at_ : PySem.W.Frag → Addr
  name : Str
  qual : Str
  st : Stmt
  plain : Bool := true
def DefV.val (d : DefV) : FnV := some (d.name, d.qual, defArgs d.st, .stmts (defBody d.st), defScope d.st)
def cdAt (K : PySem.W.Frag) (f : Addr) : Addr := match K.lookup f with
  | some ⟨_, _, .func fd, _⟩ => (match fd.code with
    | .ref c => c
    | _ => 0)
  | _ => 0
def tbAt (K : PySem.W.Frag) (c : Addr) : Addr := match K.lookup c with
  | some ⟨_, _, .fields vs, _⟩ => (match (vs[11]? : Option Value) with
    | some (.ref P) => P
    | _ => 0)
  | _ => 0
def isNoneV : Value → Bool
  | .none => true
  | _ => false
def isRefV : Value → Bool
  | .ref _ => true
  | _ => false
def DefV.ok (K : PySem.W.Frag) (d : DefV) : Bool := PySem.W.keepIn K (.ref (d.at_ K)) && match K.lookup (d.at_ K) with
  | some ⟨_, _, .func fd, _⟩ => PySem.W.codeIn K (.ref (cdAt K (d.at_ K))) d.qual && (Nat.beq fd.globals mainGlobals && (fd.closure.isEmpty && (isNoneV fd.defaults && (Nat.beq fd.builtins builtinsNs && isRefV fd.code))))
  | _ => false
theorem band {a b : Bool} (h : (a && b) = true) : a = true ∧ b = true := Bool.and_eq_true_iff.mp h
theorem DefV.mk_ {K : PySem.W.Frag} {d : DefV} (e : fnAt K (d.at_ K) = d.val) (c : d.ok K = true) : ∃ fd, Fun K d.name d.qual d.st (d.at_ K) fd ∧ FunC K d.name d.qual d.st (d.at_ K) fd (cdAt K (d.at_ K)) := by
  obtain ⟨kp, c2⟩ := band c
  unfold fnAt at e
  cases q : K.lookup (d.at_ K) with
  | none => rw [q] at c2; cases c2
  | some o =>
    obtain ⟨oc, od, dt, osl⟩ := o
    rw [q] at c2 e
    cases dt with
    | func fd =>
      obtain ⟨n1, n2, n3, n4, n5, n6, n7, n8, n9, n10, n11, n12, n13, n14, n15⟩ := fd
      have e2 : (some (n1, n2, n3, n4, n5) : FnV) = some (d.name, d.qual, defArgs d.st, .stmts (defBody d.st), defScope d.st) := e
      simp only [Option.some.injEq, Prod.mk.injEq] at e2
      obtain ⟨h1, h2, h3, h4, h5⟩ := e2
      subst h1 h2 h3 h4 h5
      obtain ⟨k1, k2⟩ := band (show (PySem.W.codeIn K (.ref (cdAt K (d.at_ K))) d.qual && (Nat.beq n6 mainGlobals && (n7.isEmpty && (isNoneV n8 && (Nat.beq n15 builtinsNs && isRefV n13))))) = true from c2)
      obtain ⟨k3, k4⟩ := band k2
      obtain ⟨k5, k6⟩ := band k4
      obtain ⟨k7, k8⟩ := band k6
      obtain ⟨k9, k10⟩ := band k8
      have z3 := Nat.eq_of_beq_eq_true k3
      have z5 := List.isEmpty_iff.mp k5
      have z9 := Nat.eq_of_beq_eq_true k9
      subst z3 z5 z9
      cases n8 with
      | none =>
        cases n13 with
        | ref a =>
          have ec : cdAt K (d.at_ K) = a := by unfold cdAt; rw [q]
          rw [ec] at k1 ⊢
          exact ⟨_, ⟨⟨oc, od, n9, n10, n11, n12, _, n14, osl, rfl, q, k1⟩, kp⟩, ⟨⟨oc, od, n9, n10, n11, n12, n14, osl, rfl, q, k1⟩⟩⟩
        | _ => cases k10
      | _ => cases k7
    | _ => cases c2
abbrev AlV : Type := Bool × List FnV × List (Option Obj)
def obsV (fa : List (PySem.W.Frag → Bool)) (fn : List DefV) (K : PySem.W.Frag) : Bool × List FnV := ((fa.all fun f => f K) && fn.all fun d => !d.plain || d.ok K, fn.map fun d => fnAt K (d.at_ K))
def valV (fn : List DefV) : Bool × List FnV := (true, fn.map DefV.val)
def obsG (n : Nat) (fa : List (PySem.W.Frag → Bool)) (fn : List DefV) (tb : List (PySem.W.Frag → Addr)) (g : Addr → Option Obj) : AlV := frK (He.frG g (asV g n)) fun K => ((obsV fa fn K).1, (obsV fa fn K).2, tb.map fun f => g (tbAt K (cdAt K (f K))))
def valG (fn : List DefV) (tb : List (PySem.W.Frag → Addr)) : AlV := (true, fn.map DefV.val, tb.map fun _ => some tabO)
structure SaysV (fa : List (PySem.W.Frag → Bool)) (fn : List DefV) (K : PySem.W.Frag) : Prop where
  fact : ∀ f ∈ fa, f K = true
  val : ∀ d ∈ fn, fnAt K (d.at_ K) = d.val
  ok : ∀ d ∈ fn, d.plain = true → d.ok K = true
theorem SaysV.def_ {fa : List (PySem.W.Frag → Bool)} {fn : List DefV} {K : PySem.W.Frag} (S : SaysV fa fn K) {d : DefV} (hd : d ∈ fn) (hp : d.plain = true) : ∃ fd, Fun K d.name d.qual d.st (d.at_ K) fd ∧ FunC K d.name d.qual d.st (d.at_ K) fd (cdAt K (d.at_ K)) := DefV.mk_ (S.val d hd) (S.ok d hd hp)
def TabsV (tb : List (PySem.W.Frag → Addr)) (K : PySem.W.Frag) (h : Heap) : Prop := ∀ f ∈ tb, h.get? (tbAt K (cdAt K (f K))) = some tabO
theorem says_of {n : Nat} {fa : List (PySem.W.Frag → Bool)} {fn : List DefV} {tb : List (PySem.W.Frag → Addr)} {h : Heap} (e : obsG n fa fn tb h.get? = valG fn tb) : ∃ K : PySem.W.Frag, K.In h ∧ SaysV fa fn K ∧ TabsV tb K h := by
  refine ⟨He.frG h.get? (asV h.get? n), He.frG_in, ?_, ?_⟩
  · unfold obsG at e
    rw [frK_eq] at e
    have e1 := congrArg (fun z : AlV => z.1) e
    have e2 := congrArg (fun z : AlV => z.2.1) e
    obtain ⟨b1, b2⟩ := band (show ((fa.all fun f => f _) && fn.all fun d => !d.plain || d.ok _) = true from e1)
    have e3 : fn.map (fun d => fnAt (He.frG h.get? (asV h.get? n)) (d.at_ (He.frG h.get? (asV h.get? n)))) = fn.map DefV.val := e2
    refine ⟨fun f hf => List.all_eq_true.mp b1 f hf, fun d hd => List.map_inj_left.mp e3 d hd, fun d hd hp => ?_⟩
    have z := List.all_eq_true.mp b2 d hd
    rw [hp] at z
    exact z
  · unfold obsG at e
    rw [frK_eq] at e
    have e3 := congrArg (fun z : AlV => z.2.2) e
    intro f hf
    exact List.map_inj_left.mp (show tb.map (fun f => h.get? (tbAt (He.frG h.get? (asV h.get? n)) (cdAt (He.frG h.get? (asV h.get? n)) (f (He.frG h.get? (asV h.get? n)))))) = tb.map (fun _ => some tabO) from e3) f hf
def hookV (n : Nat) (fa : List (PySem.W.Frag → Bool)) (fn : List DefV) (tb : List (PySem.W.Frag → Addr)) : PySem.W.Hook where
  α := AlV
  obs := fun s => obsG n fa fn tb s.heap.get?
  val := fun _ => valG fn tb
  says := fun _ h => ∃ K : PySem.W.Frag, K.In h ∧ SaysV fa fn K ∧ TabsV tb K h
  of := fun _ _ e => says_of e
  keeps := fun _ _ _ ⟨K, hK, c, t⟩ k => ⟨K, PySem.W.Frag.In.keeps hK k, c, fun f hf => k _ _ (t f hf)⟩
theorem obsG_eq {n : Nat} {fa : List (PySem.W.Frag → Bool)} {fn : List DefV} {tb : List (PySem.W.Frag → Addr)} {g : Addr → Option Obj} {s : Shared} (h : ∀ a, g a = s.heap.get? a) : obsG n fa fn tb g = (hookV n fa fn tb).obs s := by
  have e : g = s.heap.get? := funext h
  rw [e] <;> rfl
theorem walk_lawV {l : PySem.W.OpenLaw} {q : Program} {loose : List Str} {XP : (Str → Option Value) → Heap → Prop} {YP : World → Heap → Prop} {d : DefRec} {k : Nat} (hr : Room k callerA) (hn : l.most = some 63) (hdf : d.params.defaults = [])
    (F : ∀ (w : World) (mg : Str → Option Value) (fa : Addr) (h : Heap), YP w h → h.Ns mainGlobals mg → mg d.name = some (.ref fa) →
      ∃ (K : PySem.W.Frag) (fd : FuncData) (cs : List (Addr × Addr)) (T : List (Addr × Str)), K.In h ∧ (∀ p ∈ cs, h.get? p.2 = some tabO) ∧ (∀ p ∈ cs, K.lookup p.2 = none) ∧ (∀ p ∈ cs, PySem.W.CodeHd h p.1 p.2) ∧ (∀ p ∈ T, p.1 ∈ cs.map (·.2)) ∧ (∀ (s : Shared) (u : Value), BindsTo s fd ⟨[u], []⟩ [("script", u)]) ∧
        ∀ base : Heap, K.In base → base.Ns mainGlobals mg → (∀ p ∈ cs, TabB base mg p.1 p.2) → FnG l.prog w K mg base k fa fd ["script"] (spLawT K T)) :
    PySem.W.WalkO q loose XP YP l.row.toRowW d [] (fun f vs => PySem.call f vs) := by
  refine Att.attach_callB hn hdf fun w s0 s1 mg mb fa o pm cd doc a vs ns Gr Y ho hd hcd hm hobj hw hlen hbits hg => ?_
  obtain ⟨K, fd, cs, T, t0, t1, t2, t3, t4, t5, t6⟩ := F w mg fa _ Y Gr.T.g hm
  have Z : AtEnd K mg mb a cs s1 vs ns := ⟨t0, Gr.T.g, Gr.T.b, Gr.T.builtins, Gr.T.nolimit, hg, t1, t2, t3, Gr.T.bmain, hobj, hw, Nat.le_trans hlen (by decide)⟩
  exact Z.call hr t6 t5 fun H hH hS => ⟨a, ns, rfl, hS, hlen, fun p hp => (by obtain ⟨c, hc, e⟩ := List.mem_map.mp (t4 p hp); rw [← e]; exact hH c hc), fun _ => rfl⟩
end VE

noncomputable section
namespace VE
open PySem PySem.Spec PyProof.Rows L2 LamX
abbrev gaV := He.ga
abbrev maV := He.ma
section
variable {K : PySem.W.Frag} {h : Heap} {mg : Str → Option Value}
def gloB (x : Str) (K : PySem.W.Frag) : Bool := decide (PySem.W.nsIn K mainGlobals x = some (some (.ref (He.ga K x))))
theorem gloB_ok (X : K.In h) (G : h.Ns mainGlobals mg) {x : Str} (c : gloB x K = true) : mg x = some (.ref (He.ga K x)) := PySem.W.mg_of X G (of_decide_eq_true c)
def freeB (x : Str) (K : PySem.W.Frag) : Bool := decide (PySem.W.nsIn K mainGlobals x = some none)
theorem freeB_ok (X : K.In h) (G : h.Ns mainGlobals mg) {x : Str} (c : freeB x K = true) : mg x = none := PySem.W.mg_none_of X G (of_decide_eq_true c)
def bltB (x : Str) (id : String) (K : PySem.W.Frag) : Bool := decide (PySem.W.nsIn K mainGlobals x = some (some (.builtin id)))
theorem bltB_ok (X : K.In h) (G : h.Ns mainGlobals mg) {x : Str} {id : String} (c : bltB x id K = true) : mg x = some (.builtin id) := PySem.W.mg_of X G (of_decide_eq_true c)
theorem intB_ok (X : K.In h) (G : h.Ns mainGlobals mg) {x : Str} {i : Int} (c : (He.Fa.int x i).ok K = true) : ∃ t, mg x = some (.int i t) := He.int_ok X G c
theorem strB_ok (X : K.In h) (G : h.Ns mainGlobals mg) {x z : Str} (c : (He.Fa.str x z).ok K = true) : ∃ t, mg x = some (.str z t) := He.str_ok X G c
mutual
def cvB (K : PySem.W.Frag) : CV → Value → Bool
  | .non, v => isNoneV v
  | .bl b, .bool c => b == c
  | .int i, .int j _ => decide (i = j)
  | .str x, .str y _ => decide (x = y)
  | .tup xs, .ref a => (match K.lookup a with
    | some ⟨.type c, _, .seq its _, _⟩ => decide (c = "tuple") && (Nat.ble its.size sizeLine && cvsB K xs its.toList)
    | _ => false)
  | _, _ => false
def cvsB (K : PySem.W.Frag) : List CV → List Value → Bool
  | [], [] => true
  | x :: xs, v :: vs => cvB K x v && cvsB K xs vs
  | _, _ => false
end
mutual
theorem cvB_ok : ∀ (c : CV) (v : Value), cvB K c v = true → KV K c v
  | .non, v, e => by
    cases v with
    | none => rfl
    | _ => cases e
  | .bl b, v, e => by
    cases v with
    | bool c => exact congrArg Value.bool (eq_of_beq (show (b == c) = true from e)).symm
    | _ => cases e
  | .int i, v, e => by
    cases v with
    | int j t => exact ⟨t, by rw [of_decide_eq_true (show decide (i = j) = true from e)]⟩
    | _ => cases e
  | .str i, v, e => by
    cases v with
    | str j t => exact ⟨t, by rw [of_decide_eq_true (show decide (i = j) = true from e)]⟩
    | _ => cases e
  | .tup xs, v, e => by
    cases v with
    | ref a =>
      unfold cvB at e
      cases q : K.lookup a with
      | none => rw [q] at e; cases e
      | some o =>
        obtain ⟨oc, od, dt, osl⟩ := o
        rw [q] at e
        cases oc with
        | type c =>
          cases dt with
          | seq its n =>
            obtain ⟨e1, e2⟩ := band e
            obtain ⟨e3, e4⟩ := band e2
            have e1 := of_decide_eq_true e1
            subst e1
            exact tup_mk q (Nat.le_of_ble_eq_true e3) (cvsB_ok xs _ e4)
          | _ => cases e
        | _ => cases dt <;> cases e
    | _ => cases e
  | .lst _, v, e => by cases v <;> cases e
  | .frz _, v, e => by cases v <;> cases e
  | .ref _, v, e => by cases v <;> cases e
  | .cls _, v, e => by cases v <;> cases e
  | .fn _, v, e => by cases v <;> cases e
  | .ty _, v, e => by cases v <;> cases e
  | .ins _ _, v, e => by cases v <;> cases e
  | .dic _ _ _, v, e => by cases v <;> cases e
theorem cvsB_ok : ∀ (c : List CV) (v : List Value), cvsB K c v = true → KVs K c v
  | [], v, e => by
    cases v with
    | nil => rfl
    | _ => cases e
  | x :: xs, v, e => by
    cases v with
    | nil => cases e
    | cons u us =>
      obtain ⟨e1, e2⟩ := band (show (cvB K x u && cvsB K xs us) = true from e)
      exact ⟨u, us, rfl, cvB_ok x u e1, cvsB_ok xs us e2⟩
end
def gkB (x : Str) (c : CV) (K : PySem.W.Frag) : Bool := match PySem.W.nsIn K mainGlobals x with
  | some (some v) => cvB K c v
  | _ => false
theorem gkB_ok (X : K.In h) (G : h.Ns mainGlobals mg) {x : Str} {c : CV} (e : gkB x c K = true) : ∃ v, mg x = some v ∧ KV K c v := by
  unfold gkB at e
  split at e
  · rename_i v q
    exact ⟨v, PySem.W.mg_of X G q, cvB_ok c v e⟩
  · cases e
def plainB (x : Str) (bm : List Value) (newId : String) (K : PySem.W.Frag) : Bool := gloB x K && (PySem.W.excIn K (He.ga K x) bm newId && (PySem.W.keepIn K (.ref (He.ga K x)) && (decide (PySem.W.subIn K (.ref (He.ga K x)) (.type "BaseException") = some true) && decide (PySem.W.typeIn K (.ref (He.ga K x)) = some (.type "type")))))
theorem plainB_ok (X : K.In h) (G : h.Ns mainGlobals mg) {x : Str} {B newId initId : String} {bm : List Value} (F : ExcBaseFacts B newId initId bm) (c : plainB x bm newId K = true) : PlainX K mg (He.ga K x) x := by
  obtain ⟨c1, c⟩ := band c
  obtain ⟨c2, c⟩ := band c
  obtain ⟨c3, c⟩ := band c
  obtain ⟨c4, c5⟩ := band c
  exact ⟨⟨_, _, _, _, F, c2⟩, gloB_ok X G c1, c3, of_decide_eq_true c4, of_decide_eq_true c5⟩
def exmB (x y : Str) (b : Bool) (K : PySem.W.Frag) : Bool := decide (PySem.W.exmOne K (.ref (He.ga K x)) (.ref (He.ga K y)) = some b)
theorem exmB_ok {x y : Str} {b : Bool} (c : exmB x y b K = true) : PySem.W.exmOne K (.ref (He.ga K x)) (.ref (He.ga K y)) = some b := of_decide_eq_true c
/-- the class with an __init__ that keeps f -/
def initB (C fI : Addr) (cn : Str) (file : Str) (K : PySem.W.Frag) : Bool := match K.lookup fI with
  | some ⟨_, _, .func fd, _⟩ => Nat.beq fd.globals mainGlobals && (isNoneV fd.defaults && (isNoneV fd.kwdefaults && (Nat.beq fd.builtins builtinsNs && ((match fd.closure with
    | [(x, cc)] => decide (x = "__class__") && (match K.lookup cc with
      | some ⟨_, _, .cell (some (.ref D)), _⟩ => Nat.beq C D
      | _ => false)
    | _ => false) && (match fd.code with
    | .ref cda => PySem.W.codeIn K (.ref cda) (cn ++ ".__init__") && (match K.lookup cda with
      | some ⟨_, _, .fields vs, _⟩ => (match (vs[2]? : Option Value) with
        | some (.str z _) => decide (z = file)
        | _ => false)
      | _ => false)
    | _ => false)))))
  | _ => false
def keepB (cn f : Str) (B newId initId : String) (bm : List Value) (file : Str) (K : PySem.W.Frag) : Bool :=
  gloB cn K && (freeB "super" K && (PySem.W.excInitIn K (He.ga K cn) bm newId && (PySem.W.excOver K (He.ga K cn) bm &&
  (decide (PySem.W.findIn K (.ref (He.ga K cn)) "__setattr__" = some (some (.builtin "object.__setattr__"))) && (decide (PySem.W.findIn K (.ref (He.ga K cn)) "__getattribute__" = some (some (.builtin "BaseException.__getattribute__"))) &&
  (decide (PySem.W.findIn K (.ref (He.ga K cn)) "__getattr__" = some none) && (decide (PySem.W.findIn K (.ref (He.ga K cn)) f = some none) && (decide (PySem.W.findIn K (.ref (He.ga K cn)) "__init__" = some (some (.ref (He.ma K (He.ga K cn) "__init__")))) &&
  (decide (PySem.W.typeIn K (.ref (He.ma K (He.ga K cn) "__init__")) = some (.type "function")) && (PySem.W.keepIn K (.ref (He.ga K cn)) && (decide (PySem.W.subIn K (.ref (He.ga K cn)) (.type "BaseException") = some true) &&
  (decide (PySem.W.subIn K (.ref (He.ga K cn)) (.type B) = some true) && (decide (PySem.W.subIn K (.ref (He.ga K cn)) (.ref (He.ga K cn)) = some true) && (decide (PySem.W.typeIn K (.ref (He.ga K cn)) = some (.type "type")) &&
  (PySem.W.hasDictIn K (He.ga K cn) && (PySem.W.isClsIn K (He.ga K cn) && (decide (PySem.W.ks_superIn K (He.ga K cn) (He.ga K cn) "__init__" = some (some (.builtin initId))) && (decide (PySem.W.nsIn K cStatics "thirdparty.any" = some none) && initB (He.ga K cn) (He.ma K (He.ga K cn) "__init__") cn file K))))))))))))))))))
theorem keepB_ok {P : Program} (X : K.In h) (G : h.Ns mainGlobals mg) {cn f : Str} {B newId initId : String} {bmB : List Value} {file : Str} {st : Stmt} {p1 p2 q0 q1 q2 q3 q4 q5 q6 q7 q8 q9 : Pos} (bx : SupX.BaseX B newId initId bmB) (c : keepB cn f B newId initId bmB file K = true)
    (e : fnAt K (He.ma K (He.ga K cn) "__init__") = some (("__init__" : Str), cn ++ ".__init__", defArgs st, FuncBody.stmts (defBody st), defScope st)) (hA : defArgs st = SupX.iA f p1 p2) (hB : defBody st = [SupX.iB1 f q0 q1 q2 q3 q4 q5, SupX.iB2 f q6 q7 q8 q9]) (hS : defScope st = SupX.iS f)
    (fl : ((P.main.file : Str) == file) = true) (nf : (f == ("__debug__" : Str)) = false ∧ f ≠ "self" ∧ f ≠ "super" ∧ f ≠ "__class__")
    (bnd : ∀ (doc pm : Value) (an : Option Addr) (cda : Value) (ct : Value) (cc : Addr) (s : Shared) (a b : Value), BindsTo s (PySem.W.ksFn "__init__" (cn ++ ".__init__") (SupX.iA f p1 p2) [SupX.iB1 f q0 q1 q2 q3 q4 q5, SupX.iB2 f q6 q7 q8 q9] (SupX.iS f) .none .none doc pm an cda ct cc) ⟨[a, b], []⟩ [("self", a), (f, b)])
    (ev : ∃ pl : Sem Bool, ∀ env : Env, eval (.Call (.Attribute (.Call (.Name "super" q0) [] [] q1) "__init__" q2) [.Name f q3] [] q4) env = (do
      let ov ← attributeBase (.Call (.Name "super" q0) [] [] q1) "__init__" env (eval (.Call (.Name "super" q0) [] [] q1) env)
      standAt q2.atName
      let (g, first) ← holding [ov] (getMethod ov "__init__" pl)
      callWith q4 g first (backTo q4 (starEach [.Name f q3] env)) []))
    (top : (P.main.scope.names.lookup ("super" : Str)).isSome = false) : KeepX P K mg (He.ga K cn) cn f := by
  obtain ⟨c1, c⟩ := band c
  obtain ⟨c2, c⟩ := band c
  obtain ⟨c3, c⟩ := band c
  obtain ⟨c4, c⟩ := band c
  obtain ⟨c5, c⟩ := band c
  obtain ⟨c6, c⟩ := band c
  obtain ⟨c7, c⟩ := band c
  obtain ⟨c8, c⟩ := band c
  obtain ⟨c9, c⟩ := band c
  obtain ⟨c10, c⟩ := band c
  obtain ⟨c11, c⟩ := band c
  obtain ⟨c12, c⟩ := band c
  obtain ⟨c13, c⟩ := band c
  obtain ⟨c14, c⟩ := band c
  obtain ⟨c15, c⟩ := band c
  obtain ⟨c16, c⟩ := band c
  obtain ⟨c17, c⟩ := band c
  obtain ⟨c18, c⟩ := band c
  obtain ⟨c19, c20⟩ := band c
  have cls : ∃ nm q N bs bm sn sub ab col dd k0 k1 k2 k3 k5, K.lookup (He.ga K cn) = some (excClassObj nm q (He.ga K cn) N bs bm true sn sub ab col dd k0 k1 k2 k3 k5 newId) ∧ (∀ X : String, bm.contains (.type X) = bmB.contains (.type X)) ∧ ∀ self, refuseLoop self "__setattr__" (.ref (He.ga K cn) :: bm) = pure () := by
    unfold PySem.W.excInitIn at c3
    split at c3
    · rename_i dd cd sl ho
      split at c3
      · rename_i C' bm k0 k1 k2 k3 n k5 hm hs
        simp only [Bool.and_eq_true, beq_iff_eq, Bool.not_eq_true'] at c3
        obtain ⟨⟨⟨e1, e2⟩, hdel⟩, ht⟩ := c3
        obtain ⟨nm, bs, mro, ns, qn, hd, sn, sub, ab, col, del⟩ := cd
        dsimp only at hm hdel
        subst hm hdel e1 e2
        have hsl : sl = #[k0, k1, k2, k3, some (.builtin n), k5] := by
          obtain ⟨l⟩ := sl
          simp only at hs
          rw [hs]
        subst hsl
        have hh : hd = true := by
          have z := c16
          unfold PySem.W.hasDictIn PySem.W.clsIn at z
          rw [ho] at z
          simpa using z
        subst hh
        exact ⟨nm, qn, ns, bs, bm, sn, sub, ab, col, dd, k0, k1, k2, k3, k5, ho, fun T => PySem.W.excTail_contains T _ ht, fun self => by rw [refuseLoop_ref]; exact PySem.W.excTail_pass self (bx.pass self) bm ht⟩
      · cases c3
    · cases c3
  refine ⟨⟨He.ma K (He.ga K cn) "__init__", B, newId, initId, bmB, bx, gloB_ok X G c1, freeB_ok X G c2, cls, of_decide_eq_true c5, of_decide_eq_true c6, of_decide_eq_true c7, of_decide_eq_true c8, of_decide_eq_true c9, of_decide_eq_true c10, c11, of_decide_eq_true c12, of_decide_eq_true c13, of_decide_eq_true c14, of_decide_eq_true c15, c16, c17, of_decide_eq_true c18, of_decide_eq_true c19, nf, ?_, top⟩⟩
  unfold initB at c20
  unfold fnAt at e
  cases q : K.lookup (He.ma K (He.ga K cn) "__init__") with
  | none => rw [q] at c20; cases c20
  | some o =>
    obtain ⟨oc, od, dt, osl⟩ := o
    rw [q] at c20 e
    cases dt with
    | func fd =>
      obtain ⟨n1, n2, n3, n4, n5, n6, n7, n8, n9, n10, n11, n12, n13, n14, n15⟩ := fd
      have e2 : (some (n1, n2, n3, n4, n5) : FnV) = some (("__init__" : Str), cn ++ ".__init__", defArgs st, FuncBody.stmts (defBody st), defScope st) := e
      simp only [Option.some.injEq, Prod.mk.injEq] at e2
      obtain ⟨h1, h2, h3, h4, h5⟩ := e2
      rw [hA] at h3
      rw [hB] at h4
      rw [hS] at h5
      subst h1 h2 h3 h4 h5
      obtain ⟨d1, c20⟩ := band c20
      obtain ⟨d2, c20⟩ := band c20
      obtain ⟨d3, c20⟩ := band c20
      obtain ⟨d4, c20⟩ := band c20
      obtain ⟨d5, d6⟩ := band c20
      simp only at d1 d2 d3 d4 d5 d6
      have z1 := Nat.eq_of_beq_eq_true d1
      have z4 := Nat.eq_of_beq_eq_true d4
      subst z1 z4
      cases n8 with
      | none =>
        cases n9 with
        | none =>
          cases n7 with
          | nil => cases d5
          | cons y ys =>
            cases ys with
            | cons _ _ => cases d5
            | nil =>
              obtain ⟨x, cc⟩ := y
              obtain ⟨d7, d8⟩ := band d5
              have z7 := of_decide_eq_true d7
              subst z7
              cases n13 with
              | ref cda =>
                obtain ⟨d9, d10⟩ := band d6
                cases qc : K.lookup cc with
                | none => rw [qc] at d8; cases d8
                | some o2 =>
                  obtain ⟨a1, a2, a3, a4⟩ := o2
                  rw [qc] at d8
                  cases a3 with
                  | cell v =>
                    cases v with
                    | none => cases d8
                    | some v =>
                      cases v with
                      | ref D =>
                        have zD := Nat.eq_of_beq_eq_true (show Nat.beq (He.ga K cn) D = true from d8)
                        subst zD
                        cases qd : K.lookup cda with
                        | none => rw [qd] at d10; cases d10
                        | some o3 =>
                          obtain ⟨b1, b2, b3, b4⟩ := o3
                          rw [qd] at d10
                          cases b3 with
                          | fields vs =>
                            simp only at d10
                            cases qv : (vs[2]? : Option Value) with
                            | none => rw [qv] at d10; cases d10
                            | some v =>
                              rw [qv] at d10
                              cases v with
                              | str z t =>
                                have zz := of_decide_eq_true (show decide (z = file) = true from d10)
                                subst zz
                                exact ⟨oc, od, n10, n11, n12, cda, cc, n14, osl, p1, p2, q0, q1, q2, q3, q4, q5, q6, q7, q8, q9, a1, b1, a2, b2, a4, b4, vs, z, t, rfl, d9, qc, qd, qv, fl, bnd _ _ _ _ _ _, ev⟩
                              | _ => cases d10
                          | _ => cases d10
                      | _ => cases d8
                  | _ => cases d8
              | _ => cases d6
        | _ => cases d3
      | _ => cases d2
    | _ => cases c20
end
end VE

noncomputable section
namespace VE
open PySem PySem.Spec PyProof.Rows L2 LamX
section
variable {K : PySem.W.Frag} {h : Heap} {mg : Str → Option Value}
/-- the def in the record at p -/
def rcAt (K : PySem.W.Frag) (p : Addr) (T : String) : Addr := match PySem.W.recIn K p T with
  | some (.ref g :: _) => g
  | _ => 0
def clsB (C : Str) (K : PySem.W.Frag) : Bool := gloB C K && (PySem.W.plainGet K (He.ga K C) Str.empty && (PySem.W.isClsIn K (He.ga K C) && (PySem.W.plainOver K (He.ga K C) && (decide (PySem.W.findIn K (.ref (He.ga K C)) "__setattr__" = some (some (.builtin "object.__setattr__"))) &&
  (decide (PySem.W.findIn K (.ref (He.ga K C)) "__class__" = some (some (.builtin "object.__class__"))) && (decide (PySem.W.specialIn K (.builtin "object.__class__") "__get__" = some (some (.builtin "getset_descriptor.__get__"))) && (decide (PySem.W.takesIn K (.builtin "object.__class__") = some true) && decide (PySem.W.mroIn K (He.ga K C) (.type "object") = some true))))))))
theorem clsB_ok (X : K.In h) (G : h.Ns mainGlobals mg) {C : Str} (c : clsB C K = true) : mg C = some (.ref (He.ga K C)) ∧ SlX.SCls K (He.ga K C) ∧ SlX.SIsi K (He.ga K C) := by
  obtain ⟨c1, c⟩ := band c
  obtain ⟨c2, c⟩ := band c
  obtain ⟨c3, c⟩ := band c
  obtain ⟨c4, c⟩ := band c
  obtain ⟨c5, c⟩ := band c
  obtain ⟨c6, c⟩ := band c
  obtain ⟨c7, c⟩ := band c
  obtain ⟨c8, c9⟩ := band c
  exact ⟨gloB_ok X G c1, ⟨c2, c3, c4, of_decide_eq_true c5⟩, ⟨of_decide_eq_true c6, of_decide_eq_true c7, of_decide_eq_true c8, of_decide_eq_true c9⟩⟩
def mkB (C : Str) (K : PySem.W.Frag) : Bool := PySem.W.makesIn K (He.ga K C) && (decide (PySem.W.findIn K (.ref (He.ga K C)) "__init__" = some (some (.ref (He.ma K (He.ga K C) "__init__")))) && (PySem.W.isFn K (.ref (He.ma K (He.ga K C) "__init__")) && PySem.W.keepIn K (.ref (He.ga K C))))
theorem mkB_ok {C : Str} (c : mkB C K = true) : Mk K (He.ga K C) (He.ma K (He.ga K C) "__init__") := by
  obtain ⟨c1, c⟩ := band c
  obtain ⟨c2, c⟩ := band c
  obtain ⟨c3, c4⟩ := band c
  exact ⟨c1, of_decide_eq_true c2, c3, c4⟩
def slotB (C f : Str) (i : Nat) (K : PySem.W.Frag) : Bool := decide (PySem.W.findIn K (.ref (He.ga K C)) f = some (some (.ref (He.ma K (He.ga K C) f)))) && (decide (PySem.W.specialIn K (.ref (He.ma K (He.ga K C) f)) "__get__" = some (some (.builtin "member_descriptor.__get__"))) &&
  (decide (PySem.W.takesIn K (.ref (He.ma K (He.ga K C) f)) = some true) && (decide (PySem.W.typeIn K (.ref (He.ma K (He.ga K C) f)) = some (.type "member_descriptor")) && (decide (PySem.W.slotIn K (He.ma K (He.ga K C) f) (He.ga K C) = some i) && Nat.blt i 1000))))
theorem slotB_ok {C f : Str} {i : Nat} (c : slotB C f i K = true) : ∃ p, SlX.Slot1 K (He.ga K C) f p i := by
  obtain ⟨c1, c⟩ := band c
  obtain ⟨c2, c⟩ := band c
  obtain ⟨c3, c⟩ := band c
  obtain ⟨c4, c⟩ := band c
  obtain ⟨c5, c6⟩ := band c
  exact ⟨_, of_decide_eq_true c1, of_decide_eq_true c2, of_decide_eq_true c3, of_decide_eq_true c4, of_decide_eq_true c5, Nat.le_of_ble_eq_true c6⟩
def methB (C m : Str) (K : PySem.W.Frag) : Bool := decide (PySem.W.findIn K (.ref (He.ga K C)) m = some (some (.ref (He.ma K (He.ga K C) m)))) && (PySem.W.isFn K (.ref (He.ma K (He.ga K C) m)) && PySem.W.keepIn K (.ref (He.ma K (He.ga K C) m)))
theorem methB_ok {C m : Str} (c : methB C m K = true) : Meth K (He.ga K C) m (He.ma K (He.ga K C) m) := by
  obtain ⟨c1, c⟩ := band c
  obtain ⟨c2, c3⟩ := band c
  exact ⟨of_decide_eq_true c1, c2, c3⟩
def recB (p : Addr) (T : String) (K : PySem.W.Frag) : Bool := match PySem.W.recIn K p T with
  | some (.ref _ :: _) => true
  | _ => false
theorem recB_ok {p : Addr} {T : String} (c : recB p T K = true) : ∃ rest, PySem.W.recIn K p T = some (.ref (rcAt K p T) :: rest) := by
  unfold recB at c
  unfold rcAt
  split at c
  · rename_i g r q
    rw [q]
    exact ⟨r, rfl⟩
  · cases c
def propB (C f : Str) (K : PySem.W.Frag) : Bool := decide (PySem.W.findIn K (.ref (He.ga K C)) f = some (some (.ref (He.ma K (He.ga K C) f)))) && (decide (PySem.W.specialIn K (.ref (He.ma K (He.ga K C) f)) "__get__" = some (some (.builtin "property.__get__"))) &&
  (decide (PySem.W.takesIn K (.ref (He.ma K (He.ga K C) f)) = some true) && recB (He.ma K (He.ga K C) f) "property" K))
theorem propB_ok {C f : Str} (c : propB C f K = true) : ∃ p, PropOf K (He.ga K C) f p (rcAt K (He.ma K (He.ga K C) f) "property") := by
  obtain ⟨c1, c⟩ := band c
  obtain ⟨c2, c⟩ := band c
  obtain ⟨c3, c4⟩ := band c
  exact ⟨_, of_decide_eq_true c1, of_decide_eq_true c2, of_decide_eq_true c3, recB_ok c4⟩
def creadB (C : Str) (K : PySem.W.Frag) : Bool := PySem.W.readsIn K (He.ga K C) (.type "type") && decide (PySem.W.specialIn K (.ref (He.ga K C)) "__getattribute__" = some (some (.builtin "type.__getattribute__")))
theorem creadB_ok {C : Str} (c : creadB C K = true) : ClX.CRead K (He.ga K C) (.type "type") := by
  obtain ⟨c1, c2⟩ := band c
  exact ⟨c1, of_decide_eq_true c2⟩
def isGet (r : Option PySem.W.CFound) (g a o t : Value) : Bool := match r with
  | some (.get g' a' o' t') => decide (g' = g) && (decide (a' = a) && (decide (o' = o) && decide (t' = t)))
  | _ => false
theorem isGet_ok {r : Option PySem.W.CFound} {g a o t : Value} (c : isGet r g a o t = true) : r = some (.get g a o t) := by
  unfold isGet at c
  split at c
  · obtain ⟨c1, c⟩ := band c
    obtain ⟨c2, c⟩ := band c
    obtain ⟨c3, c4⟩ := band c
    rw [of_decide_eq_true c1, of_decide_eq_true c2, of_decide_eq_true c3, of_decide_eq_true c4]
  · cases c
/-- the record of the classmethod m -/
def cmAt (K : PySem.W.Frag) (C m : Str) : Addr := match PySem.W.findCls K (.ref (He.ga K C)) (.type "type") m with
  | some (.get _ (.ref p) _ _) => p
  | _ => 0
def cmB (C m : Str) (K : PySem.W.Frag) : Bool := isGet (PySem.W.findCls K (.ref (He.ga K C)) (.type "type") m) (.builtin "classmethod.__get__") (.ref (cmAt K C m)) .none (.ref (He.ga K C)) && (recB (cmAt K C m) "classmethod" K && PySem.W.fnIn K (rcAt K (cmAt K C m) "classmethod"))
theorem cmB_ok {C m : Str} (c : cmB C m K = true) : ∃ p, ClX.CMet K (He.ga K C) (.type "type") m p (rcAt K (cmAt K C m) "classmethod") := by
  obtain ⟨c1, c⟩ := band c
  obtain ⟨c2, c3⟩ := band c
  exact ⟨_, isGet_ok c1, recB_ok c2, c3⟩
def eqB (C : Str) (K : PySem.W.Frag) : Bool := decide (PySem.W.findIn K (.ref (He.ga K C)) "__eq__" = some (some (.ref (He.ma K (He.ga K C) "__eq__")))) && (PySem.W.isFn K (.ref (He.ma K (He.ga K C) "__eq__")) && PySem.W.notFirst K (He.ga K C) (.ref (He.ga K C)))
theorem eqB_ok {C : Str} (c : eqB C K = true) : EqK K (He.ga K C) (He.ma K (He.ga K C) "__eq__") := by
  obtain ⟨c1, c⟩ := band c
  obtain ⟨c2, c3⟩ := band c
  exact ⟨of_decide_eq_true c1, c2, c3⟩
/-- what isinstance says: u a class's value -/
def kitB1 (t : PySem.W.Frag → Value) (u : PySem.W.Frag → Value) (b : Bool) (K : PySem.W.Frag) : Bool := decide (PySem.W.kitOne K (t K) (u K) = some b)
theorem kitB1_ok {t u : PySem.W.Frag → Value} {b : Bool} (c : kitB1 t u b K = true) : PySem.W.kitOne K (t K) (u K) = some b := of_decide_eq_true c
/-- the built-in kinds are not of the class C -/
def kdB (C : Str) (K : PySem.W.Frag) : Bool := [Knd.non, .bl, .int, .str, .tup, .lst, .dic].all fun k => decide (PySem.W.kitOne K (.type k.name) (.ref (He.ga K C)) = some false)
theorem kdB_ok {C : Str} (c : kdB C K = true) (k : Knd) : PySem.W.kitOne K (.type k.name) (.ref (He.ga K C)) = some false := by
  have q := List.all_eq_true.mp c k (by cases k <;> simp)
  exact of_decide_eq_true q
def tbB (f : PySem.W.Frag → Addr) (K : PySem.W.Frag) : Bool := PySem.W.codeHdIn K (cdAt K (f K)) (tbAt K (cdAt K (f K))) && (K.lookup (tbAt K (cdAt K (f K)))).isNone
theorem tbB_ok {f : PySem.W.Frag → Addr} (c : tbB f K = true) : PySem.W.codeHdIn K (cdAt K (f K)) (tbAt K (cdAt K (f K))) = true ∧ K.lookup (tbAt K (cdAt K (f K))) = none := by
  obtain ⟨c1, c2⟩ := band c
  exact ⟨c1, Option.isNone_iff_eq_none.mp c2⟩
/-- the tables' addresses are unlike -/
def neB (f g : PySem.W.Frag → Addr) (K : PySem.W.Frag) : Bool := !Nat.beq (tbAt K (cdAt K (f K))) (tbAt K (cdAt K (g K)))
theorem neB_ok {f g : PySem.W.Frag → Addr} (c : neB f g K = true) : tbAt K (cdAt K (f K)) ≠ tbAt K (cdAt K (g K)) := fun z => by
  unfold neB at c
  rw [z, Nat.beq_refl] at c
  cases c
end
end VE

noncomputable section
namespace VE
open PySem PySem.Spec PyProof.Rows L2 LamX
theorem RoomG.ofL {j k : Nat} {A A' : Around} {env : Env} (r : RoomG j A) (hg : A'.guards = A.guards) (hr : Room k (A'.deeper env)) : RoomG k (A'.deeper env) := ⟨hr, hg.trans r.g⟩
/-- the st-th statement of a class's body -/
def cst (st : Stmt) (j : Nat) : Stmt := match st with
  | .ClassDef _ _ _ b _ _ _ _ _ _ _ => b.getD j (.Pass ⟨0, 0, 0, 0⟩)
  | _ => .Pass ⟨0, 0, 0, 0⟩
section
variable {X : Cx} {k : Nat} {f : Addr} {fd : FuncData} {sp : Sp} {E : L2.St → XK} {x : Str} {p pos : Pos}
theorem pe_callG0 (F : FnG X.prog X.w X.K X.mg X.base k f fd [] sp) (room : RoomG k X.A) (hg : Gl X x) (hm : X.mg x = some (.ref f)) (hk : PySem.W.keepIn X.K (.ref f) = true) (hb : Binds X.K fd [] []) (hx : ∀ σ, PassesAt (L2.CX X.prog X.w) X σ (E σ)) (hdb : (x == ("__debug__" : Str)) = false := by decide) :
    PE X (.Call (.Name x p) [] [] pos) (fun σ H Q => sp [] H Q (E σ)) :=
  ⟨fun pins s σ H Q I h => wpAny_Call_Name_kw (ld_glob I hg hm (PySem.W.callWith_K0 I.kIn hk (run_g (us := []) F room hb (hx σ) I .nil h)) hdb)⟩
variable {G : Cfg} {W : WX} {F : List CV → M CV}
theorem se_callFG0 (B : Bx G W X) (hx : G.exi = none) (hy : G.lam = none) (ok : FnG X.prog X.w X.K X.mg X.base k f fd [] (spH G 0 F)) (hr : RoomG k X.A) (hg : Gl X x) (hm : X.mg x = some (.ref f)) (hk : PySem.W.keepIn X.K (.ref f) = true) (hb : Binds X.K fd [] []) (hdb : (x == ("__debug__" : Str)) = false := by decide) :
    SE G W X (.Call (.Name x p) [] [] pos) (eB (callF 0 F) eNilA) :=
  (pe_lk (pe_callG0 (E := fun σ => WE W σ) ok hr hg hm hk hb (fun σ => passAt B.tk σ) hdb)).wk fun σ H Q ⟨ρ, h, τ, m, s, p⟩ => callF_ok hx hy m (show ValsR G ρ H [] [] from rfl) p fun _ _ _ z => z
end
inductive HoldV (G : Cfg) (X : Cx) : Disp → Prop
  | nil : HoldV G X []
  | cons {D : Disp} {i np k : Nat} {F : List CV → M CV} (q : FnQ X.prog X.w X.K X.mg X.base k (G.fn i) (spH G np F)) (hr : RoomG k X.A) (kp : PySem.W.keepIn X.K (.ref (G.fn i)) = true) (t : HoldV G X D) : HoldV G X ((i, np, F) :: D)
theorem HoldV.at_ {G : Cfg} {X : Cx} {i : Nat} : ∀ {D : Disp} {d : Nat × (List CV → M CV)}, HoldV G X D → dispAt D i = some d → ∃ k, FnQ X.prog X.w X.K X.mg X.base k (G.fn i) (spH G d.1 d.2) ∧ RoomG k X.A ∧ PySem.W.keepIn X.K (.ref (G.fn i)) = true
  | [], d, _, e => nomatch (show (none : Option (Nat × (List CV → M CV))) = some d from e)
  | (j, np, F) :: D, d, .cons q hr r t, e => by
    have st : dispAt ((j, np, F) :: D) i = (Bool.rec (dispAt D i) (some (np, F)) (Nat.beq j i) : Option (Nat × (List CV → M CV))) := rfl
    rw [st] at e
    cases c : Nat.beq j i with
    | true =>
      rw [c] at e
      cases e
      have := Nat.eq_of_beq_eq_true c
      subst this
      exact ⟨_, q, hr, r⟩
    | false =>
      rw [c] at e
      exact t.at_ e
section
variable {X : Cx} {i : Nat} {x : Str} {p pos : Pos} {e : Expr} {es : List Expr} {t : TA} {E : L2.St → XK}
theorem pe_callVQ {S : Addr → Sp → Prop} (A : ∀ f sp, S f sp → ∃ j, FnQ X.prog X.w X.K X.mg X.base j f sp ∧ RoomG j X.A ∧ PySem.W.keepIn X.K (.ref f) = true)
    (hx : ∀ σ, PassesAt (L2.CX X.prog X.w) X σ (E σ)) (hN : X.N[i]? = some x) (hv : Vis X.env.scope x) (ha : PA X (e :: es) t) (hdb : (x == ("__debug__" : Str)) = false := by decide) (hcd : (x == ("__classdict__" : Str)) = false := by decide)
    (he : starEach (e :: es) X.env = (false, eval e X.env) :: starEach es X.env := by rfl) (hpl : (backTo pos (starEach es X.env)).any (·.1) = false := by rfl) :
    PE X (.Call (.Name x p) (e :: es) [] pos) (fun σ H Q => ∃ f sp, σ[i]? = some (some (.ref f)) ∧ S f sp ∧ t σ H fun vs H1 => sp vs H1 Q (E σ)) := by
  refine ⟨fun pins s σ H Q I ⟨f, sp, hs, hS, ht⟩ => ?_⟩
  obtain ⟨j, ok, hr, hk⟩ := A f sp hS
  refine wpAny_Call_Name_kw (thn ((pe_var (pos := p) hN hv hdb hcd).run pins s σ H (fun v H1 => v = .ref f ∧ H1 = H) I ⟨.ref f, hs, rfl, rfl⟩) fun u s1 ⟨v, H1, I1, r1, e1, e2⟩ => ?_)
  subst e1 e2
  cases (show u = .ref f from r1)
  exact PySem.W.callWith_K (h₀ := X.base) I.ok.mod.kin hk (thn (ha.run pos pins s1 σ _ _ I1 ht) fun us s2 ⟨vs, H2, I2, r, q⟩ => ⟨I2.kIn, call_q ok hr (hx σ) I2 r q⟩) he hpl
variable {G : Cfg} {W : WX} {ml : Sl → M (List CV)} {D : Disp}
theorem se_callVQ (B : Bx G W X) (hx : G.exi = none) (hy : G.lam = none) (hd : HoldV G X D) (hN : X.N[i]? = some x) (hv : Vis X.env.scope x) (ha : SA G W X (e :: es) ml) (hdb : (x == ("__debug__" : Str)) = false := by decide) (hcd : (x == ("__classdict__" : Str)) = false := by decide)
    (he : starEach (e :: es) X.env = (false, eval e X.env) :: starEach es X.env := by rfl) (hpl : (backTo pos (starEach es X.env)).any (·.1) = false := by rfl) : SE G W X (.Call (.Name x p) (e :: es) [] pos) (eDyn i D ml) :=
  (pe_lk (pe_callVQ (S := fun f sp => ∃ k d, f = G.fn k ∧ dispAt D k = some d ∧ sp = spH G d.1 d.2) (E := fun σ => WE W σ) (fun f sp ⟨k, d, e1, e2, e3⟩ => by subst e1 e3; exact hd.at_ e2) (fun σ => passAt B.tk σ) hN hv ha hdb hcd he hpl)).wk fun σ H Q ⟨ρ, h, τ, m, s, p⟩ => by
    unfold eDyn at p
    rw [sget_eq] at p
    cases q : τ[i]? with
    | none => rw [q] at p; exact p.elim
    | some o =>
      cases o with
      | none => rw [q] at p; exact p.elim
      | some v =>
        rw [q] at p
        cases v with
        | fn k =>
          simp only at p
          cases q2 : dispAt D k with
          | none => rw [q2] at p; exact p.elim
          | some d =>
            rw [q2] at p
            obtain ⟨u, hu, ru⟩ := s.2.1 i _ q
            cases (show u = .ref (G.fn k) from ru)
            exact ⟨_, _, hu, ⟨k, d, rfl, q2, rfl⟩, tM_bind m s p fun xs h1 ρ1 H1 us m1 e1 s1 r1 p1 => callF_ok hx hy m1 r1 p1 fun _ _ _ z => z⟩
        | _ => exact p.elim
end
end VE
namespace VE
open PySem PySem.Spec PyProof.Rows L2 LamX
theorem SaysV.at_ {fa : List (PySem.W.Frag → Bool)} {fn : List DefV} {K : PySem.W.Frag} (S : SaysV fa fn K) (i : Nat) {f : PySem.W.Frag → Bool} (h : sget fa i = some f) : f K = true := S.fact f (List.mem_of_getElem? (by rw [sget_eq] at h; exact h))
theorem SaysV.dat {fa : List (PySem.W.Frag → Bool)} {fn : List DefV} {K : PySem.W.Frag} (S : SaysV fa fn K) (i : Nat) {d : DefV} (h : sget fn i = some d) (hp : d.plain = true) : ∃ fd, Fun K d.name d.qual d.st (d.at_ K) fd ∧ FunC K d.name d.qual d.st (d.at_ K) fd (cdAt K (d.at_ K)) := S.def_ (List.mem_of_getElem? (by rw [sget_eq] at h; exact h)) hp
theorem SaysV.vat {fa : List (PySem.W.Frag → Bool)} {fn : List DefV} {K : PySem.W.Frag} (S : SaysV fa fn K) (i : Nat) {d : DefV} (h : sget fn i = some d) : fnAt K (d.at_ K) = d.val := S.val d (List.mem_of_getElem? (by rw [sget_eq] at h; exact h))
theorem TabsV.at_ {tb : List (PySem.W.Frag → Addr)} {K : PySem.W.Frag} {h : Heap} (t : TabsV tb K h) (i : Nat) {f : PySem.W.Frag → Addr} (e : sget tb i = some f) : h.get? (tbAt K (cdAt K (f K))) = some tabO := t f (List.mem_of_getElem? (by rw [sget_eq] at e; exact e))
end VE

noncomputable section
namespace VE
open PySem PySem.Spec PyProof.Rows L2 LamX
open PySem.W (OpenRow Hook WalkO XL kmHook kHook chainsOk opensWell frees SharedT)
def obKm (as ts : List Addr) (s : SharedT) : List (Option Obj) × List (Option Obj) := (as.map (HeadRun.getT s), ts.map (HeadRun.getT s))
def obK (as : List Addr) (s : SharedT) : List (Option Obj) := as.map (HeadRun.getT s)
section
variable {r : OpenRow} {q : Program} {M : Nat} {loose : List Str} {d : DefRec} {kwd : List (Str × Expr)} {K : Params → PySem.W.Frag} {as ts : List Addr} {e : ∀ P, as = (K P).map (·.1)}
theorem head_km (H : Hook) (hH : H = kmHook K as e ts) (run : ∀ w, HeadRun.RunEqI r q (kmHook K as e ts) (obKm as ts) M loose w)
    (hdef : PySem.W.defOf q r.name = some (d, kwd)) (hp : r.prog.theDef r.name = some (d.params, d.body, d.scope)) (hk : PySem.W.kwWritten? d.params.kwonlyargs d.params.kw_defaults = some kwd)
    (hwr : (!r.writes || r.records.isEmpty) = true) (k1 : r.wellSaid = true) (ok : (chainsOk q && opensWell r.prog && (frees r.toRowW && r.within.isEmpty)) = true) (hb : r.prog.bare) (hw : r.toRowW.promised)
    (call : WalkO q loose (XL q []) (kmHook K as e ts).says r.toRowW d kwd fun f vs => PySem.call f vs) : r.Holds :=
  HeadRun.head_imp (H := kmHook K as e ts) (ob := obKm as ts) (fun s => by
    show (as.map (HeadRun.getT s), ts.map (HeadRun.getT s)) = (as.map s.abs.heap.get?, ts.map s.abs.heap.get?)
    rw [show HeadRun.getT s = s.abs.heap.get? from funext (HeadRun.getT_eq s)]) run hdef hp hk hwr k1 ok hb hw call
theorem head_k (H : Hook) (hH : H = kHook K as e) (run : ∀ w, HeadRun.RunEqI r q (kHook K as e) (obK as) M loose w)
    (hdef : PySem.W.defOf q r.name = some (d, kwd)) (hp : r.prog.theDef r.name = some (d.params, d.body, d.scope)) (hk : PySem.W.kwWritten? d.params.kwonlyargs d.params.kw_defaults = some kwd)
    (hwr : (!r.writes || r.records.isEmpty) = true) (k1 : r.wellSaid = true) (ok : (chainsOk q && opensWell r.prog && (frees r.toRowW && r.within.isEmpty)) = true) (hb : r.prog.bare) (hw : r.toRowW.promised)
    (call : WalkO q loose (XL q []) (kHook K as e).says r.toRowW d kwd fun f vs => PySem.call f vs) : r.Holds :=
  HeadRun.head_imp (H := kHook K as e) (ob := obK as) (fun s => by
    show as.map (HeadRun.getT s) = as.map s.abs.heap.get?
    rw [show HeadRun.getT s = s.abs.heap.get? from funext (HeadRun.getT_eq s)]) run hdef hp hk hwr k1 ok hb hw call
end
def AllF (K : PySem.W.Frag) (fs : List (PySem.W.Frag → Bool)) : Prop := ∀ f ∈ fs, f K = true
def AllD (K : PySem.W.Frag) (ds : List DefV) : Prop := ∀ d ∈ ds, fnAt K (d.at_ K) = d.val ∧ (d.plain = true → d.ok K = true)
section
variable {K : PySem.W.Frag} {h : Heap}
theorem allF_nil : AllF K [] := fun _ z => nomatch z
theorem allF_cons {f : PySem.W.Frag → Bool} {fs : List (PySem.W.Frag → Bool)} (a : f K = true) (t : AllF K fs) : AllF K (f :: fs) := fun g z => by
  rcases List.mem_cons.mp z with z | z
  · rw [z]; exact a
  · exact t g z
theorem allF_app {as bs : List (PySem.W.Frag → Bool)} (a : AllF K as) (b : AllF K bs) : AllF K (as ++ bs) := fun g z => (List.mem_append.mp z).elim (a g) (b g)
theorem allD_nil : AllD K [] := fun _ z => nomatch z
theorem allD_cons {d : DefV} {ds : List DefV} (a : fnAt K (d.at_ K) = d.val) (b : (!d.plain || d.ok K) = true) (t : AllD K ds) : AllD K (d :: ds) := fun g z => by
  rcases List.mem_cons.mp z with z | z
  · rw [z]; exact ⟨a, fun p => by rw [p] at b; exact b⟩
  · exact t g z
theorem allD_app {as bs : List DefV} (a : AllD K as) (b : AllD K bs) : AllD K (as ++ bs) := fun g z => (List.mem_append.mp z).elim (a g) (b g)
theorem says_mk {fa : List (PySem.W.Frag → Bool)} {fn : List DefV} (a : AllF K fa) (b : AllD K fn) : SaysV fa fn K := ⟨a, fun d hd => (b d hd).1, fun d hd => (b d hd).2⟩
theorem says_in (X : K.In h) {fa : List (PySem.W.Frag → Bool)} {fn : List DefV} (a : AllF K fa) (b : AllD K fn) : SaysV fa fn K := says_mk a b
theorem tabs_nil : TabsV [] K h := fun _ z => nomatch z
theorem tabs_cons {ts : List Addr} (t : ∀ P ∈ ts, h.get? P = some (PySem.W.tabObj #[])) {f : PySem.W.Frag → Addr} {fs : List (PySem.W.Frag → Addr)} (e : (ts.any fun x => Nat.beq x (tbAt K (cdAt K (f K)))) = true) (r : TabsV fs K h) : TabsV (f :: fs) K h := fun g z => by
  rcases List.mem_cons.mp z with z | z
  · rw [z]
    obtain ⟨x, hx, e⟩ := List.any_eq_true.mp e
    rw [← Nat.eq_of_beq_eq_true e]
    exact t x hx
  · exact r g z
theorem tabs_in (X : K.In h) {fs : List (PySem.W.Frag → Addr)} (a : TabsV fs K h) : TabsV fs K h := a
theorem tabs_app {as bs : List (PySem.W.Frag → Addr)} (a : TabsV as K h) (b : TabsV bs K h) : TabsV (as ++ bs) K h := fun g z => (List.mem_append.mp z).elim (a g) (b g)
end
end VE

noncomputable section
namespace VE
open PySem PySem.Spec PyProof.Rows L2 LamX
open PySem.W (alike alikeAll AllAlike Sortable dataLe dataLt keyToks TotalLe sortLe sortLe_total EachIs)
def insL {α : Type} (le : α → α → Bool) (a : α) (l : List α) : List α := List.rec [a] (fun b t ih => Bool.rec (b :: ih) (a :: b :: t) (le a b)) l
def srtL {α : Type} (le : α → α → Bool) (l : List α) : List α := List.rec [] (fun a _ ih => insL le a ih) l
theorem insL_eq {α : Type} {le : α → α → Bool} {a : α} : ∀ (l1 l2 : List α), (∀ b ∈ l1, le a b = false) → (∀ b ∈ l2, le a b = true) → insL le a (l1 ++ l2) = l1 ++ a :: l2
  | [], [], _, _ => rfl
  | [], b :: t, _, h => by
    show (Bool.rec (b :: insL le a t) (a :: b :: t) (le a b) : List α) = _
    rw [h b List.mem_cons_self]
    rfl
  | b :: t, l2, h, h2 => by
    show (Bool.rec (b :: insL le a (t ++ l2)) (a :: b :: (t ++ l2)) (le a b) : List α) = _
    rw [h b List.mem_cons_self, insL_eq t l2 (fun c hc => h c (List.mem_cons_of_mem _ hc)) h2]
    rfl
theorem srtL_eq {α : Type} {le : α → α → Bool} (T : TotalLe le) : ∀ l : List α, srtL le l = l.mergeSort le
  | [] => by rw [List.mergeSort_nil]; rfl
  | a :: l => by
    have tr : ∀ a b c : α, le a b → le b c → le a c := fun a b c h1 h2 => T.trans a b c h1 h2
    have to : ∀ a b : α, le a b || le b a := fun a b => by
      rcases T.total a b with h | h <;> simp [h]
    obtain ⟨l1, l2, e1, e2, h⟩ := List.mergeSort_cons tr to a l
    have s := List.pairwise_mergeSort tr to (a :: l)
    rw [e1] at s
    have h2 : ∀ b ∈ l2, le a b = true := fun b hb => by
      have := (List.pairwise_append.mp s).2.1
      exact (List.pairwise_cons.mp this).1 b hb
    show insL le a (srtL le l) = _
    rw [srtL_eq T l, e2, e1]
    exact insL_eq l1 l2 (fun b hb => by simpa using h b hb) h2
theorem map_insL {α β : Type} {le : α → α → Bool} {le' : β → β → Bool} (f : α → β) (h : ∀ a b, le a b = le' (f a) (f b)) (a : α) : ∀ l : List α, (insL le a l).map f = insL le' (f a) (l.map f)
  | [] => rfl
  | b :: t => by
    show (Bool.rec (b :: insL le a t) (a :: b :: t) (le a b) : List α).map f = (Bool.rec (f b :: insL le' (f a) (t.map f)) (f a :: f b :: t.map f) (le' (f a) (f b)) : List β)
    rw [← h]
    cases le a b with
    | true => rfl
    | false =>
      show f b :: (insL le a t).map f = _
      rw [map_insL f h a t]
theorem map_srtL {α β : Type} {le : α → α → Bool} {le' : β → β → Bool} (f : α → β) (h : ∀ a b, le a b = le' (f a) (f b)) : ∀ l : List α, (srtL le l).map f = srtL le' (l.map f)
  | [] => rfl
  | a :: l => by
    show (insL le a (srtL le l)).map f = insL le' (f a) (srtL le' (l.map f))
    rw [map_insL f h, map_srtL f h l]
def rSrtD (K : PySem.W.Frag) : List V → Hp → VK → Prop := fun vs H Q => ∃ (a : Addr) (bs : List (PyData × V)), vs = [.ref a] ∧ SqL K H a (bs.map (·.2)) ∧ (∀ b ∈ bs, Dp K H b.2 b.1) ∧ AllAlike (bs.map (·.1)) ∧ Sortable (bs.map (·.1)) ∧ (∀ b ∈ bs, b.1.depth ≤ 40) ∧
  ∀ p, H p = none → Q (.ref p) (upd H p (.lst ((srtL (dataLe false (·.1)) bs).map (·.2))))
section
variable {X : Cx}
theorem each_vals {X : Cx} {pins : List (Addr × Obj)} {σ : L2.St} {H : Hp} {s : Shared} (I : Inv X pins σ H s) : ∀ {bs : List (PyData × V)} {us : List Value}, (∀ b ∈ bs, Dp X.K H b.2 b.1) → Vals (bs.map (·.2)) us →
    EachIs (fun v (b : PyData × V) => RelV b.2 v) us bs ∧ EachIs (fun v (b : PyData × V) => ∃ as, Reads s.heap v b.1 as) us bs
  | [], us, _, r => by cases r; exact ⟨.nil, .nil⟩
  | b :: bs, us, h, r => by
    cases r with
    | cons r1 r2 =>
      obtain ⟨e1, e2⟩ := each_vals I (fun c hc => h c (List.mem_cons_of_mem _ hc)) r2
      exact ⟨.cons r1 e1, .cons (Dp.reads I b.1 b.2 _ (h b List.mem_cons_self) r1) e2⟩
theorem vals_each {R : Value → (PyData × V) → Prop} (hR : ∀ v b, R v b → RelV b.2 v) : ∀ {us : List Value} {bs : List (PyData × V)}, EachIs R us bs → Vals (bs.map (·.2)) us
  | _, _, .nil => .nil
  | _, _, .cons r t => .cons (hR _ _ r) (vals_each hR t)
theorem cr_srtD (hu : X.A.units + 64 < cLine) : CallR X (.builtin "sorted") (rSrtD X.K) := by
  intro pins s σ H vs us Q I r h
  obtain ⟨a, bs, rfl, hs, hd, hal, hk, hdp, q⟩ := h
  obtain ⟨its, rv, hl, hz⟩ := I.list hs
  rw [Vals.ref1 r]
  obtain ⟨e1, e2⟩ := each_vals I hd rv
  rw [List.length_map] at hz
  refine PySem.W.sorted_data (enc := fun b : PyData × V => b.1) hl.isList e1 e2 hal hk hz (fun b hb => by have := hdp b hb; omega) fun out h1 h2 => ?_
  obtain ⟨ep, he'⟩ := PyProof.Rows.sortedAll_at s.heap its out.toArray
  have es := srtL_eq (sortLe_total (listOrd itemOrd) false fun b : PyData × V => keyToks b.1) bs
  have es : srtL (dataLe false fun b : PyData × V => b.1) bs = bs.mergeSort (dataLe false fun b : PyData × V => b.1) := es
  rw [← es] at h2
  have hlen : ((srtL (dataLe false fun b : PyData × V => b.1) bs).map (·.2)).length ≤ sizeLine := by
    rw [List.length_map, es, List.length_mergeSort]; exact hz
  exact ⟨.ref _, upd H (s.heap.objs.size + 1) (.lst ((srtL (dataLe false fun b : PyData × V => b.1) bs).map (·.2))), I.laid (t' := s.toks) (fun _ _ => PyProof.Rows.sortedAll_old) (Nat.le_succ _) ⟨hlen, out, ep, vals_each (fun _ _ z => z) h2, he'⟩, rfl, q _ (I.hok.fresh (Nat.le_succ _))⟩
end
/-- the tokens, reckoned -/
abbrev Tok2 := List (Int ⊕ List Nat)
def frT {α : Type} (l : Tok2) : (Tok2 → α) → α := List.rec (fun k => k []) (fun x _ ih k => match x with
  | .inl i => frI i fun i => ih fun xs => k (.inl i :: xs)
  | .inr c => frL c fun c => ih fun xs => k (.inr c :: xs)) l
theorem frT_eq {α : Type} : ∀ (l : Tok2) (k : Tok2 → α), frT l k = k l
  | [], _ => rfl
  | .inl i :: t, k => by
    show frI i (fun i => frT t fun xs => k (.inl i :: xs)) = _
    rw [frI_eq, frT_eq t]
  | .inr c :: t, k => by
    show frL c (fun c => frT t fun xs => k (.inr c :: xs)) = _
    rw [frL_eq, frT_eq t]
def keyed (xs : List CV) (ds : List PyData) : List (Tok2 × CV) := List.rec (fun _ => []) (fun x _ ih ds => match ds with
  | [] => []
  | d :: ds => (frT (keyToks d) fun k => (k, x)) :: ih ds) xs ds
theorem keyed_eq : ∀ (xs : List CV) (ds : List PyData), keyed xs ds = (ds.zip xs).map fun p => (keyToks p.1, p.2)
  | [], ds => by cases ds <;> rfl
  | x :: xs, [] => rfl
  | x :: xs, d :: ds => by
    show (frT (keyToks d) fun k => (k, x)) :: keyed xs ds = _
    rw [frT_eq, keyed_eq xs ds]
    rfl
def leK (a b : Tok2 × CV) : Bool := !(lexLt itemOrd b.1 a.1)
def pairwiseB {α : Type} (f : α → α → Bool) (l : List α) : Bool := l.all fun a => l.all fun b => f a b
def tupsB (ds : List PyData) : Bool := ds.all fun d => match d with
  | .tuple (_ :: _) => true
  | _ => false
def othersB (ds : List PyData) : Bool := ds.all fun d => match d with
  | .tuple _ => false
  | .none => false
  | _ => true
theorem sortable_of {ds : List PyData} (h : (tupsB ds || othersB ds) = true) : Sortable ds := by
  rcases Bool.or_eq_true_iff.mp h with h | h
  · refine .inl fun d hd => ?_
    have := List.all_eq_true.mp h d hd
    split at this
    · exact ⟨_, _, rfl⟩
    · cases this
  · refine .inr fun d hd => ?_
    have := List.all_eq_true.mp h d hd
    split at this
    · cases this
    · cases this
    · rename_i h1 h2
      exact ⟨h2, h1⟩
def depthB (ds : List PyData) : Bool := ds.all fun d => Nat.ble d.depth 40
def pySrtD (x : CV) : M CV := fun h => match seqOf x h with
  | some xs => if isTup x then .bad else match dats xs with
    | some ds => if (pairwiseB alike ds && ((tupsB ds || othersB ds) && depthB ds)) = true then .ok (.lst ((srtL leK (keyed xs ds)).map (·.2))) h else .bad
    | none => .bad
  | none => .bad
theorem dats_len : ∀ {xs : List CV} {ds : List PyData}, dats xs = some ds → ds.length = xs.length
  | [], ds, e => by cases e; rfl
  | x :: xs, ds, e => by
    unfold dats at e
    cases z1 : dat x with
    | none => simp [z1] at e
    | some d =>
      cases z2 : dats xs with
      | none => simp [z1, z2] at e
      | some ds' =>
        simp only [z1, z2, Option.some.injEq] at e
        subst e
        rw [List.length_cons, List.length_cons, dats_len z2]
section
variable {G : Cfg} {ρ : Wd} {H : Hp}
/-- values beside what they stand for -/
def TriR (G : Cfg) (ρ : Wd) (H : Hp) (t : PyData × CV × V) : Prop := ValR G ρ H t.2.1 t.2.2 ∧ Dp G.K H t.2.2 t.1
theorem tri_of : ∀ {xs : List CV} {us : List V} {ds : List PyData}, ValsR G ρ H xs us → dats xs = some ds → ∃ ts : List (PyData × CV × V), (∀ t ∈ ts, TriR G ρ H t) ∧ ts.map (fun t => t.2.1) = xs ∧ ts.map (fun t => t.2.2) = us ∧ ts.map (fun t => t.1) = ds
  | [], us, ds, r, e => by cases e; cases (show us = [] from r); exact ⟨[], fun _ z => (nomatch z), rfl, rfl, rfl⟩
  | x :: xs, us, ds, ⟨y, r, q, r1, r2⟩, e => by
    subst q
    unfold dats at e
    cases z1 : dat x with
    | none => simp [z1] at e
    | some d =>
      cases z2 : dats xs with
      | none => simp [z1, z2] at e
      | some ds' =>
        simp only [z1, z2, Option.some.injEq] at e
        subst e
        obtain ⟨ts, h1, h2, h3, h4⟩ := tri_of r2 z2
        refine ⟨(d, x, y) :: ts, fun t ht => ?_, by rw [List.map_cons, h2], by rw [List.map_cons, h3], by rw [List.map_cons, h4]⟩
        rcases List.mem_cons.mp ht with z | z
        · rw [z]; exact ⟨r1, dat_r r1 z1⟩
        · exact h1 t z
theorem tri_vals : ∀ {ts : List (PyData × CV × V)}, (∀ t ∈ ts, TriR G ρ H t) → ValsR G ρ H (ts.map fun t => t.2.1) (ts.map fun t => t.2.2)
  | [], _ => rfl
  | t :: ts, h => ⟨t.2.2, _, rfl, (h t List.mem_cons_self).1, tri_vals fun u hu => h u (List.mem_cons_of_mem _ hu)⟩
end
theorem srtL_mem {α : Type} {le : α → α → Bool} {a : α} : ∀ {l : List α}, a ∈ srtL le l → a ∈ l := by
  have ins : ∀ (b : α) (l : List α), a ∈ insL le b l → a = b ∨ a ∈ l := by
    intro b l
    induction l with
    | nil => intro h; exact .inl (by simpa using (show a ∈ [b] from h))
    | cons c t ih =>
      intro h
      have h : a ∈ (Bool.rec (c :: insL le b t) (b :: c :: t) (le b c) : List α) := h
      cases z : le b c with
      | true =>
        rw [z] at h
        rcases List.mem_cons.mp (show a ∈ b :: c :: t from h) with q | q
        · exact .inl q
        · exact .inr q
      | false =>
        rw [z] at h
        rcases List.mem_cons.mp (show a ∈ c :: insL le b t from h) with q | q
        · exact .inr (q ▸ List.mem_cons_self)
        · exact (ih q).imp id (List.mem_cons_of_mem _)
  intro l
  induction l with
  | nil => intro h; exact h
  | cons b t ih =>
    intro h
    rcases ins b (srtL le t) h with q | q
    · exact q ▸ List.mem_cons_self
    · exact List.mem_cons_of_mem _ (ih q)
theorem srtD_ok {G : Cfg} : OpL G (rSrtD G.K) (one pySrtD) := one_ok fun W σ ρ h H x u Q m rx p => by
  unfold pySrtD at p
  cases e : seqOf x h with
  | none => rw [e] at p; exact p.elim
  | some xs =>
    rw [e] at p
    simp only at p
    by_cases it : isTup x = true
    · rw [if_pos it] at p; exact p.elim
    · rw [if_neg it] at p
      cases e2 : dats xs with
      | none => rw [e2] at p; exact p.elim
      | some ds =>
        rw [e2] at p
        simp only at p
        by_cases c : (pairwiseB alike ds && ((tupsB ds || othersB ds) && depthB ds)) = true
        · rw [if_pos c] at p
          obtain ⟨c1, c⟩ := band c
          obtain ⟨c2, c3⟩ := band c
          have e' : lisOf x h = some xs := by unfold lisOf; rw [if_neg it]; exact e
          obtain ⟨a, ys, eu, rr, sq⟩ := lisOf_r m rx e'
          obtain ⟨ts, t1, t2, t3, t4⟩ := tri_of rr e2
          have eb : (ts.map fun t => (t.1, t.2.2)).map (·.2) = ys := by rw [List.map_map, ← t3]; rfl
          have ed : (ts.map fun t => (t.1, t.2.2)).map (·.1) = ds := by rw [List.map_map, ← t4]; rfl
          refine ⟨a, ts.map fun t => (t.1, t.2.2), by rw [eu], by rw [eb]; exact sq, fun b hb => ?_, ?_, by rw [ed]; exact sortable_of c2, fun b hb => ?_, fun q hq => ?_⟩
          · obtain ⟨t, ht, rfl⟩ := List.mem_map.mp hb
            exact (t1 t ht).2
          · rw [ed]
            exact fun d hd d' hd' => List.all_eq_true.mp (List.all_eq_true.mp c1 d hd) d' hd'
          · have hm : b.1 ∈ ds := by rw [← ed]; exact List.mem_map_of_mem hb
            exact Nat.le_of_ble_eq_true (List.all_eq_true.mp c3 b.1 hm)
          · have s1 := map_srtL (le := dataLe false fun t : PyData × CV × V => t.1) (le' := dataLe false fun b : PyData × V => b.1) (fun t : PyData × CV × V => (t.1, t.2.2)) (fun _ _ => rfl) ts
            have s2 := map_srtL (le := dataLe false fun t : PyData × CV × V => t.1) (le' := leK) (fun t : PyData × CV × V => (keyToks t.1, t.2.1)) (fun _ _ => rfl) ts
            have ek : keyed xs ds = ts.map fun t => (keyToks t.1, t.2.1) := by
              rw [keyed_eq, ← t2, ← t4, List.zip_map', List.map_map]
              rfl
            rw [ek, ← s2, List.map_map] at p
            rw [← s1, List.map_map]
            exact Post.newLst m (tri_vals (ts := srtL (dataLe false fun t : PyData × CV × V => t.1) ts) fun t ht => t1 t (srtL_mem ht)) p hq
        · rw [if_neg c] at p; exact p.elim
def rngV (lo hi : Int) : List CV := (List.range (hi - lo).toNat).map fun (i : Nat) => CV.int (lo + (i : Int))
def rngB (lo hi : Int) : Bool := Nat.ble lo.natAbs 1000000 && Nat.ble hi.natAbs 1000000
theorem rng_r {G : Cfg} {ρ : Wd} {H : Hp} (lo : Int) : ∀ l : List Nat, ValsR G ρ H (l.map fun (i : Nat) => CV.int (lo + (i : Int))) (l.map fun (i : Nat) => V.int (lo + (i : Int)))
  | [] => rfl
  | i :: t => ⟨_, _, rfl, rfl, rng_r lo t⟩
theorem rgOk_of {lo hi : Int} (h : rngB lo hi = true) : RgOk lo hi := by
  obtain ⟨h1, h2⟩ := band h
  have h1 := Nat.le_of_ble_eq_true h1
  have h2 := Nat.le_of_ble_eq_true h2
  refine ⟨?_, ?_, ?_, ?_, ?_⟩ <;> omega
/-- the ends of a range -/
def rends (xs : List CV) : Option (Int × Int) := match xs with
  | [.int n] => some (0, n)
  | [.int i, .int j] => some (i, j)
  | _ => none
def eLrg (ml : Sl → M (List CV)) : Sl → M CV := fun τ => bnd (ml τ) fun xs => match rends xs with
  | some p => if rngB p.1 p.2 then ret (.lst (rngV p.1 p.2)) else stuck
  | none => stuck
def eLrgN (ml : Sl → M (List CV)) : Sl → M CV := fun τ => bnd (ml τ) fun xs h => match rends xs with
  | some p => if rngB p.1 p.2 then frLs (frV 3) (rngV p.1 p.2) fun xs => frN h.length fun n => sapp h [.lst xs] fun h => .ok (.ref n) h else .bad
  | none => .bad
section
variable {G : Cfg} {W : WX} {X : Cx} {p p2 p3 pos : Pos} {a b : Expr} {ma mb : Sl → M CV}
theorem lrg_red {te : L2.St → Hp → (Int → Int → Hp → Prop) → Prop} {ml : Sl → M (List CV)} {σ : L2.St} {H : Hp} {Q : VK} (ht : ∀ (Q : Int → Int → Hp → Prop), tM G W (ValsR G) ml σ H (fun us H1 => ∃ lo hi, (us = [.int hi] ∧ lo = 0 ∨ us = [.int lo, .int hi]) ∧ Q lo hi H1) → te σ H Q) (q : tV G W (eLrg ml) σ H Q) : tLstRg te σ H Q := by
  obtain ⟨ρ, h, τ, m, s, p⟩ := q
  refine ht _ (tM_bind m s p fun xs h1 ρ1 H1 us m1 e1 s1 r1 p1 => ?_)
  cases c : rends xs with
  | none => rw [c] at p1; exact p1.elim
  | some z =>
    rw [c] at p1
    simp only at p1
    by_cases cb : rngB z.1 z.2 = true
    · rw [if_pos cb] at p1
      refine ⟨z.1, z.2, ?_, rgOk_of cb, fun q hq => Post.newLst m1 (rng_r z.1 _) p1 hq⟩
      unfold rends at c
      split at c
      · cases c; exact .inl ⟨ints1 r1, rfl⟩
      · cases c; exact .inr (ints2 r1)
      · cases c
    · rw [if_neg cb] at p1; exact p1.elim
theorem lrgN_red {te : L2.St → Hp → (Int → Int → Hp → Prop) → Prop} {ml : Sl → M (List CV)} {σ : L2.St} {H : Hp} {Q : VK} (ht : ∀ (Q : Int → Int → Hp → Prop), tM G W (ValsR G) ml σ H (fun us H1 => ∃ lo hi, (us = [.int hi] ∧ lo = 0 ∨ us = [.int lo, .int hi]) ∧ Q lo hi H1) → te σ H Q) (q : tV G W (eLrgN ml) σ H Q) : tLstRg te σ H Q := by
  obtain ⟨ρ, h, τ, m, s, p⟩ := q
  refine ht _ (tM_bind m s p fun xs h1 ρ1 H1 us m1 e1 s1 r1 p1 => ?_)
  cases c : rends xs with
  | none => rw [c] at p1; exact p1.elim
  | some z =>
    rw [c] at p1
    simp only at p1
    by_cases cb : rngB z.1 z.2 = true
    · rw [if_pos cb] at p1
      rw [frLs_eq (frV_eq 3), frN_eq, sapp_eq] at p1
      refine ⟨z.1, z.2, ?_, rgOk_of cb, fun q hq => ?_⟩
      · unfold rends at c
        split at c
        · cases c; exact .inl ⟨ints1 r1, rfl⟩
        · cases c; exact .inr (ints2 r1)
        · cases c
      · refine p1 _ _ _ (m1.push hq (rng_r z.1 _)) (Ext.push hq) ⟨q, ?_, rfl⟩
        show (ρ1.r ++ [q])[h1.length]? = some q
        rw [← m1.len]; simp
    · rw [if_neg cb] at p1; exact p1.elim
end
end VE

noncomputable section
namespace VE
open PySem PySem.Spec PyProof.Rows L2 LamX
structure ExtG (ρ : Wd) (H : Hp) (ρ' : Wd) (H' : Hp) : Prop where
  toH : ExtH ρ H ρ' H'
  gr : ∀ a, a ∉ ρ.r → H a ≠ none → H' a ≠ none
section
variable {ρ ρ1 ρ2 : Wd} {H H1 H2 : Hp}
theorem ExtG.refl : ExtG ρ H ρ H := ⟨Ext.refl.toH, fun _ _ e => e⟩
theorem ExtG.step (a : ExtG ρ H ρ1 H1) (b : Ext ρ1 H1 ρ2 H2) : ExtG ρ H ρ2 H2 := by
  have nr : ∀ x, x ∉ ρ.r → H x ≠ none → x ∉ ρ1.r := fun x n e z => (a.toH.new x z).elim n e
  have gr : ∀ x, x ∉ ρ.r → H x ≠ none → H2 x ≠ none := fun x n e => by
    cases q : H1 x with
    | none => exact absurd q (a.gr x n e)
    | some o => exact b.there q (nr x n e)
  refine ⟨⟨fun x hx => a.toH.hid x (b.hid ▸ hx), fun i x e => b.pre i x (a.toH.pre i x e), fun x o e n t => b.keep x o (a.toH.keep x o e n t) (nr x (fun z => n (.inl z)) (by rw [e]; exact Option.some_ne_none o)) t, fun x hx => ?_⟩, gr⟩
  rcases b.new x hx with z | z
  · exact a.toH.new x z
  · by_cases hr : x ∈ ρ.r
    · exact .inl hr
    · by_cases hn : H x = none
      · exact .inr hn
      · exact absurd z (a.gr x hr hn)
theorem ExtG.wr {D : Addr} {o : HO} (a : ExtG ρ H ρ1 H1) (hD : ρ.has D) : ExtG ρ H ρ1 (upd H1 D o) :=
  ⟨⟨a.toH.hid, a.toH.pre, fun x q e n t => by rw [upd_ne (fun (z : x = D) => n (by rw [z]; exact hD))]; exact a.toH.keep x q e n t, a.toH.new⟩, fun x n e => by
    by_cases hx : x = D
    · subst hx; rw [upd_same]; exact Option.some_ne_none o
    · rw [upd_ne hx]; exact a.gr x n e⟩
end
theorem lc_coreI {G : Cfg} {g : TG} {gg : CV → Sl → M Sl} {tt : Sl → M Bool} {te : Sl → M CV} {vs : List Nat} {τ : Sl} {σ : L2.St} {ρ1 : Wd} {H1 : Hp} {rI : List Addr} {hI : Mem} {HI : Hp} {J : It} {xs : List CV} {D : Addr} {Nx : Hp → Prop} {done0 : List CV} {acc0 : List V} {bb : Nat}
    (m1 : MemR G ⟨D :: ρ1.d, rI⟩ hI HI) (x1 : Ext ρ1 H1 ⟨ρ1.d, rI⟩ HI) (s1 : SlR G ⟨D :: ρ1.d, rI⟩ HI τ σ) (r1 : ItR G ⟨D :: ρ1.d, rI⟩ HI J xs) (hD : H1 D = none) (hacc0 : HI D = some (.lst acc0)) (rd0 : ValsR G ⟨D :: ρ1.d, rI⟩ HI done0 acc0) (hb : done0.length ≤ bb) (hb2 : bb ≤ 16000000)
    (hg : LcG G g gg vs) (hfv : vs.all G.fr = true) (hl : xs.length ≤ 4000) {ys : List CV} {hf : Mem} (e : lcR gg tt te (wipeC τ vs) xs hI = .ok ys hf)
    (fin : ∀ r H us, MemR G ⟨D :: ρ1.d, r⟩ hf H → Ext ρ1 H1 ⟨ρ1.d, r⟩ H → H D = some (.lst us) → ValsR G ⟨D :: ρ1.d, r⟩ H (done0 ++ ys) us → done0.length + ys.length ≤ bb + xs.length → Nx H) :
    ∃ W : Nat → Nat → Hp → Prop, (∃ m, W 0 m HI) ∧ ∀ i m H, W i m H →
      (J.stop i H ∧ Nx H) ∨ (J.go i H ∧ ∃ Nx1 : Hp → Prop, (∀ H', Nx1 H' → ∃ m', m' < m ∧ W (i + 1) m' H') ∧ ∀ x H', J.yld i H x H' → g x (L2.wipe σ vs) H' fun σ2 H2 => L2.wipe σ2 vs = L2.wipe σ vs ∧ tBo G W0 tt σ2 H2 fun b H3 =>
        if b = true then tV G W0 te σ2 H3 fun y H4 => ∃ acc, H4 D = some (.lst acc) ∧ acc.length < sizeLine ∧ Nx1 (upd H4 D (.lst (acc ++ [y]))) else Nx1 H3) := by
  refine ⟨fun i n H => i + n = xs.length ∧ ∃ r h done acc rest, MemR G ⟨D :: ρ1.d, r⟩ h H ∧ Ext ρ1 H1 ⟨ρ1.d, r⟩ H ∧ ExtG ⟨D :: ρ1.d, rI⟩ HI ⟨D :: ρ1.d, r⟩ H ∧ H D = some (.lst acc) ∧ ValsR G ⟨D :: ρ1.d, r⟩ H done acc ∧ done.length ≤ bb + i ∧ lcR gg tt te (wipeC τ vs) (xs.drop i) h = .ok rest hf ∧ done0 ++ ys = done ++ rest, ⟨xs.length, Nat.zero_add _, rI, hI, done0, acc0, ys, m1, x1, ExtG.refl, hacc0, rd0, hb, e, rfl⟩, ?_⟩
  rintro i n H ⟨hin, r, h, done, acc, rest, m, ex, eg, hacc, rd, hdl, el, ey⟩
  obtain ⟨go, stop, yld⟩ := r1 _ h H m eg.toH
  have hDd : D ∈ (⟨D :: ρ1.d, r⟩ : Wd).d := List.mem_cons_self
  have hDr : D ∉ r := (m.hid D hDd).2
  have hDI : (⟨D :: ρ1.d, rI⟩ : Wd).has D := .inr List.mem_cons_self
  cases n with
  | zero =>
    have ei : i = xs.length := by omega
    subst ei
    rw [List.drop_length] at el
    cases el
    rw [List.append_nil] at ey
    refine .inl ⟨stop, fin r H acc m ex hacc (by rw [ey]; exact rd) ?_⟩
    rw [← List.length_append, ey]; exact hdl
  | succ n =>
    have hlt : i < xs.length := by omega
    rw [List.drop_eq_getElem_cons hlt] at el
    simp only [lcR] at el
    have fin' : ∀ (ρ4 : Wd) (h4 : Mem) (H4 : Hp), MemR G ρ4 h4 H4 → Ext ⟨D :: ρ1.d, r⟩ H ρ4 H4 → ρ4.d = D :: ρ1.d ∧ H4 D = some (.lst acc) ∧ Ext ρ1 H1 ⟨ρ1.d, ρ4.r⟩ H4 := fun ρ4 h4 H4 m4 e4 => by
      refine ⟨e4.hid, e4.keep D _ hacc hDr (fun _ z => by cases z), rfl, fun i a q => e4.pre i a (ex.pre i a q), fun a o q n t => ?_, fun a ps q => ?_, fun a q => ?_⟩
      · refine e4.keep a o (ex.keep a o q n t) (fun z => ?_) t
        rcases ex.new a z with z | z
        · exact n z
        · rw [q] at z; cases z
      · obtain ⟨p1, q1⟩ := ex.tbl a ps q
        exact e4.tbl a p1 q1
      · rcases e4.new a q with z | z
        · exact ex.new a z
        · by_cases hx : a ∈ ρ1.r
          · exact .inl hx
          · cases q1 : H1 a with
            | none => exact .inr rfl
            | some o => exact absurd z (ex.there q1 hx)
    refine .inr ⟨go i hlt, fun H' => i + 1 + n = xs.length ∧ ∃ r h done acc rest, MemR G ⟨D :: ρ1.d, r⟩ h H' ∧ Ext ρ1 H1 ⟨ρ1.d, r⟩ H' ∧ ExtG ⟨D :: ρ1.d, rI⟩ HI ⟨D :: ρ1.d, r⟩ H' ∧ H' D = some (.lst acc) ∧ ValsR G ⟨D :: ρ1.d, r⟩ H' done acc ∧ done.length ≤ bb + (i + 1) ∧ lcR gg tt te (wipeC τ vs) (xs.drop (i + 1)) h = .ok rest hf ∧ done0 ++ ys = done ++ rest, fun H' q => ⟨n, Nat.lt_succ_self n, q⟩, fun u H' y => ?_⟩
    obtain ⟨m', e', r'⟩ := yld i xs[i] u H' (by simp [hlt]) y
    have s' : SlR G ⟨D :: ρ1.d, r⟩ H' (wipeC τ vs) (L2.wipe σ vs) := by
      have q : SlR G ⟨D :: ρ1.d, r⟩ H τ σ := ⟨s1.1, fun i v q => let ⟨u, a, b⟩ := s1.2.1 i v q; ⟨u, a, b.extH m1 eg.toH⟩, s1.2.2⟩
      exact (q.ext m e').wipe vs hfv
    cases q : gg xs[i] (wipeC τ vs) h with
    | ok τ1 h2 =>
      rw [q] at el
      refine hg _ h H' _ _ _ u τ1 h2 _ m' s' r' q fun σ2 eh s2 w2 => ?_
      subst eh
      refine ⟨w2.trans wipe_wipe, ⟨_, h2, τ1, m', s2, ?_⟩⟩
      simp only at el
      cases q2 : tt τ1 h2 with
      | ok b h3 =>
        rw [q2] at el
        intro ρ3 H3 b' m3 e3 eb
        subst eb
        have s3 := s2.ext m' e3
        cases b with
        | true =>
          rw [if_pos rfl]
          simp only at el
          refine ⟨ρ3, h3, τ1, m3, s3, ?_⟩
          cases q3 : te τ1 h3 with
          | ok z h4 =>
            rw [q3] at el
            simp only at el
            intro ρ4 H4 w m4 e4 r4
            obtain ⟨f1, f2, f3⟩ := fin' ρ4 h4 H4 m4 (e'.trans (e3.trans e4))
            have eg4 := ((eg.step e').step e3).step e4
            obtain ⟨d4, r4'⟩ := ρ4
            cases f1
            have hacl : acc.length ≤ bb + i := by rw [← rd.len]; exact hdl
            refine ⟨acc, f2, by rw [sizeLine_eq]; omega, by omega, r4', h4, done ++ [z], acc ++ [w], ?_⟩
            cases q4 : lcR gg tt te (wipeC τ vs) (xs.drop (i + 1)) h4 with
            | ok zs h5 =>
              rw [q4] at el
              cases el
              refine ⟨zs, m4.hidwr List.mem_cons_self, ?_, eg4.wr hDI, upd_same, ?_, by simp; omega, rfl, by rw [ey, List.append_assoc]; rfl⟩
              · refine ⟨rfl, f3.pre, fun a o z n t => ?_, fun a ps z => ?_, f3.new⟩
                · rw [upd_ne (ne_of_none z hD)]
                  exact f3.keep a o z n t
                · rw [upd_ne (ne_of_none z hD)]
                  exact f3.tbl a ps z
              · exact ((rd.ext m (e'.trans (e3.trans e4))).app (show ValsR G _ H4 [z] [w] from ⟨w, [], rfl, r4, rfl⟩)).wr (.inr List.mem_cons_self) ⟨_, f2, .inl ⟨_, rfl⟩⟩
            | exc _ _ => rw [q4] at el; cases el
            | bad => rw [q4] at el; cases el
          | exc _ _ => rw [q3] at el; cases el
          | bad => rw [q3] at el; cases el
        | false =>
          rw [if_neg Bool.false_ne_true]
          simp only at el
          obtain ⟨f1, f2, f3⟩ := fin' ρ3 h3 H3 m3 (e'.trans e3)
          have eg3 := (eg.step e').step e3
          obtain ⟨d3, r3⟩ := ρ3
          cases f1
          exact ⟨by omega, r3, h3, done, acc, rest, m3, f3, eg3, f2, rd.ext m (e'.trans e3), by omega, el, ey⟩
      | exc _ _ => rw [q2] at el; cases el
      | bad => rw [q2] at el; cases el
    | exc _ _ => rw [q] at el; cases el
    | bad => rw [q] at el; cases el
/-- [e for target in it if .. for target1 in it1 if ..]: the items -/
def lc2L (g : CV → Sl → M Sl) (tt : Sl → M Bool) (it1 : Sl → M (List CV)) (g1 : CV → Sl → M Sl) (tt1 : Sl → M Bool) (te : Sl → M CV) (vs1 : List Nat) (τ : Sl) (xs : List CV) : M (List CV) :=
  List.rec (fun h => .ok [] h) (fun x _ ih h => match g x τ h with
    | .ok τ1 h1 => match tt τ1 h1 with
      | .ok true h2 => match it1 τ1 h2 with
        | .ok xs1 h3 => Bool.rec .bad (match lcL g1 tt1 te (wipeC τ1 vs1) xs1 h3 with
          | .ok ys h4 => match ih h4 with
            | .ok zs h5 => sapp ys zs fun r => .ok r h5
            | _ => .bad
          | _ => .bad) (Nat.ble xs1.length 4000)
        | _ => .bad
      | .ok false h2 => ih h2
      | _ => .bad
    | _ => .bad) xs
def eLc2 (it : Sl → M (List CV)) (g : CV → Sl → M Sl) (tt : Sl → M Bool) (it1 : Sl → M (List CV)) (g1 : CV → Sl → M Sl) (tt1 : Sl → M Bool) (te : Sl → M CV) (vs vs1 : List Nat) : Sl → M CV := fun τ => bnd (it τ) fun xs h =>
  if xs.length ≤ 4000 then match lc2L g tt it1 g1 tt1 te vs1 (wipeC τ vs) xs h with
    | .ok ys h' => .ok (.lst ys) h'
    | _ => .bad
  else .bad
def eLc2N (it : Sl → M (List CV)) (g : CV → Sl → M Sl) (tt : Sl → M Bool) (it1 : Sl → M (List CV)) (g1 : CV → Sl → M Sl) (tt1 : Sl → M Bool) (te : Sl → M CV) (vs vs1 : List Nat) : Sl → M CV := fun τ => bnd (it τ) fun xs h =>
  if xs.length ≤ 4000 then match lc2L g tt it1 g1 tt1 te vs1 (wipeC τ vs) xs h with
    | .ok ys h' => frN h'.length fun n => sapp h' [.lst ys] fun h'' => .ok (.ref n) h''
    | _ => .bad
  else .bad
theorem lc2_coreS {G : Cfg} {g g1 : TG} {gg gg1 : CV → Sl → M Sl} {tt tt1 : Sl → M Bool} {it1 : Sl → M (List CV)} {te : Sl → M CV} {vs vs1 : List Nat} {τ : Sl} {σ : L2.St} {ρ1 : Wd} {H1 : Hp} {h1 : Mem} {J : It} {xs : List CV} {D : Addr} {Q : VK}
    (m1 : MemR G ρ1 h1 H1) (s1 : SlR G ρ1 H1 τ σ) (r1 : ItR G ρ1 H1 J xs) (hD : H1 D = none) (hg : LcG G g gg vs) (hg1 : LcG G g1 gg1 vs1) (hfv : vs.all G.fr = true) (hfv1 : vs1.all G.fr = true) (hl : xs.length ≤ 4000) {ys : List CV} {hf : Mem} (e : lc2L gg tt it1 gg1 tt1 te vs1 (wipeC τ vs) xs h1 = .ok ys hf)
    (fin : ∀ r H us, MemR G ⟨D :: ρ1.d, r⟩ hf H → Ext ρ1 H1 ⟨ρ1.d, r⟩ H → H D = some (.lst us) → ValsR G ⟨D :: ρ1.d, r⟩ H ys us → Q (.ref D) H) :
    ∃ W : Nat → Nat → Hp → Prop, (∃ m, W 0 m (upd H1 D (.lst []))) ∧ ∀ i m H, W i m H →
      (J.stop i H ∧ Q (.ref D) H) ∨ (J.go i H ∧ ∃ Nx : Hp → Prop, (∀ H', Nx H' → ∃ m', m' < m ∧ W (i + 1) m' H') ∧ ∀ x H', J.yld i H x H' → g x (L2.wipe σ vs) H' fun σ2 H2 => L2.wipe σ2 vs = L2.wipe σ vs ∧ tBo G W0 tt σ2 H2 fun b H3 =>
        if b = true then tIt G W0 it1 σ2 H3 fun J1 H4 => ∃ W1 : Nat → Nat → Hp → Prop, (∃ m, W1 0 m H4) ∧ ∀ j k H, W1 j k H →
          (J1.stop j H ∧ Nx H) ∨ (J1.go j H ∧ ∃ Nx1 : Hp → Prop, (∀ H', Nx1 H' → ∃ k', k' < k ∧ W1 (j + 1) k' H') ∧ ∀ x H', J1.yld j H x H' → g1 x (L2.wipe σ2 vs1) H' fun σ3 H5 => L2.wipe σ3 vs1 = L2.wipe σ2 vs1 ∧ tBo G W0 tt1 σ3 H5 fun b H6 =>
            if b = true then tV G W0 te σ3 H6 fun y H7 => ∃ acc, H7 D = some (.lst acc) ∧ acc.length < sizeLine ∧ Nx1 (upd H7 D (.lst (acc ++ [y]))) else Nx1 H6)
        else Nx H3) := by
  refine ⟨fun i n H => i + n = xs.length ∧ ∃ r h done acc rest, MemR G ⟨D :: ρ1.d, r⟩ h H ∧ Ext ρ1 H1 ⟨ρ1.d, r⟩ H ∧ H D = some (.lst acc) ∧ ValsR G ⟨D :: ρ1.d, r⟩ H done acc ∧ done.length ≤ i * 4000 ∧ lc2L gg tt it1 gg1 tt1 te vs1 (wipeC τ vs) (xs.drop i) h = .ok rest hf ∧ ys = done ++ rest, ⟨xs.length, Nat.zero_add _, ρ1.r, h1, [], [], ys, m1.hide hD, Ext.laid hD, upd_same, rfl, Nat.le_refl _, e, rfl⟩, ?_⟩
  rintro i n H ⟨hin, r, h, done, acc, rest, m, ex, hacc, rd, hdl, el, ey⟩
  have exH : ExtH ρ1 H1 ⟨D :: ρ1.d, r⟩ H := ⟨fun a ha => by
    rcases List.mem_cons.mp ha with z | z
    · exact .inr (z ▸ hD)
    · exact .inl z, ex.pre, fun a o e n t => ex.keep a o e (fun z => n (.inl z)) t, ex.new⟩
  obtain ⟨go, stop, yld⟩ := r1 _ h H m exH
  have hDd : D ∈ (⟨D :: ρ1.d, r⟩ : Wd).d := List.mem_cons_self
  have hDr : D ∉ r := (m.hid D hDd).2
  cases n with
  | zero =>
    have ei : i = xs.length := by omega
    subst ei
    rw [List.drop_length] at el
    cases el
    rw [List.append_nil] at ey
    subst ey
    exact .inl ⟨stop, fin r H acc m ex hacc rd⟩
  | succ n =>
    have hlt : i < xs.length := by omega
    rw [List.drop_eq_getElem_cons hlt] at el
    have st : lc2L gg tt it1 gg1 tt1 te vs1 (wipeC τ vs) (xs[i] :: xs.drop (i + 1)) h = (match gg xs[i] (wipeC τ vs) h with
      | .ok τ1 h1 => match tt τ1 h1 with
        | .ok true h2 => match it1 τ1 h2 with
          | .ok xs1 h3 => Bool.rec .bad (match lcL gg1 tt1 te (wipeC τ1 vs1) xs1 h3 with
            | .ok ys h4 => match lc2L gg tt it1 gg1 tt1 te vs1 (wipeC τ vs) (xs.drop (i + 1)) h4 with
              | .ok zs h5 => sapp ys zs fun r => .ok r h5
              | _ => .bad
            | _ => .bad) (Nat.ble xs1.length 4000)
          | _ => .bad
        | .ok false h2 => lc2L gg tt it1 gg1 tt1 te vs1 (wipeC τ vs) (xs.drop (i + 1)) h2
        | _ => .bad
      | _ => .bad) := rfl
    rw [st] at el
    have fin' : ∀ (ρ4 : Wd) (h4 : Mem) (H4 : Hp), MemR G ρ4 h4 H4 → Ext ⟨D :: ρ1.d, r⟩ H ρ4 H4 → ρ4.d = D :: ρ1.d ∧ H4 D = some (.lst acc) ∧ Ext ρ1 H1 ⟨ρ1.d, ρ4.r⟩ H4 := fun ρ4 h4 H4 m4 e4 => by
      refine ⟨e4.hid, e4.keep D _ hacc hDr (fun _ z => by cases z), rfl, fun i a q => e4.pre i a (ex.pre i a q), fun a o q n t => ?_, fun a ps q => ?_, fun a q => ?_⟩
      · refine e4.keep a o (ex.keep a o q n t) (fun z => ?_) t
        rcases ex.new a z with z | z
        · exact n z
        · rw [q] at z; cases z
      · obtain ⟨p1, q1⟩ := ex.tbl a ps q
        exact e4.tbl a p1 q1
      · rcases e4.new a q with z | z
        · exact ex.new a z
        · by_cases hx : a ∈ ρ1.r
          · exact .inl hx
          · cases q1 : H1 a with
            | none => exact .inr rfl
            | some o => exact absurd z (ex.there q1 hx)
    refine .inr ⟨go i hlt, fun H' => i + 1 + n = xs.length ∧ ∃ r h done acc rest, MemR G ⟨D :: ρ1.d, r⟩ h H' ∧ Ext ρ1 H1 ⟨ρ1.d, r⟩ H' ∧ H' D = some (.lst acc) ∧ ValsR G ⟨D :: ρ1.d, r⟩ H' done acc ∧ done.length ≤ (i + 1) * 4000 ∧ lc2L gg tt it1 gg1 tt1 te vs1 (wipeC τ vs) (xs.drop (i + 1)) h = .ok rest hf ∧ ys = done ++ rest, fun H' q => ⟨n, Nat.lt_succ_self n, q⟩, fun u H' y => ?_⟩
    obtain ⟨m', e', r'⟩ := yld i xs[i] u H' (by simp [hlt]) y
    have s' : SlR G ⟨D :: ρ1.d, r⟩ H' (wipeC τ vs) (L2.wipe σ vs) := by
      have q : SlR G ⟨D :: ρ1.d, r⟩ H τ σ := ⟨s1.1, fun i v q => let ⟨u, a, b⟩ := s1.2.1 i v q; ⟨u, a, b.extH m1 exH⟩, s1.2.2⟩
      exact (q.ext m e').wipe vs hfv
    cases q : gg xs[i] (wipeC τ vs) h with
    | ok τ1 h2 =>
      rw [q] at el
      refine hg _ h H' _ _ _ u τ1 h2 _ m' s' r' q fun σ2 eh s2 w2 => ?_
      subst eh
      refine ⟨w2.trans wipe_wipe, ⟨_, h2, τ1, m', s2, ?_⟩⟩
      simp only at el
      cases q2 : tt τ1 h2 with
      | ok b h3 =>
        rw [q2] at el
        intro ρ3 H3 b' m3 e3 eb
        subst eb
        have s3 := s2.ext m' e3
        cases b with
        | true =>
          rw [if_pos rfl]
          simp only at el
          refine ⟨ρ3, h3, τ1, m3, s3, ?_⟩
          cases q3 : it1 τ1 h3 with
          | ok xs1 h4 =>
            rw [q3] at el
            simp only at el
            intro ρ4 H4 J1 m4 e4 r4
            have s4 := s3.ext m3 e4
            have e04 := e'.trans (e3.trans e4)
            obtain ⟨f1, f2, f3⟩ := fin' ρ4 h4 H4 m4 e04
            have rd4 := rd.ext m e04
            obtain ⟨d4, r4'⟩ := ρ4
            cases f1
            by_cases hl1 : xs1.length ≤ 4000
            · rw [Nat.ble_eq_true_of_le hl1] at el
              cases q4 : lcR gg1 tt1 te (wipeC τ1 vs1) xs1 h4 with
              | ok zs h5 =>
                rw [lcL_eq, q4] at el
                simp only at el
                refine lc_coreI (ρ1 := ρ1) (H1 := H1) (D := D) (done0 := done) (acc0 := acc) (bb := i * 4000) m4 f3 s4 r4 hD f2 rd4 hdl (by omega) hg1 hfv1 hl1 q4 fun r6 H6 us m6 x6 a6 v6 l6 => ?_
                cases q5 : lc2L gg tt it1 gg1 tt1 te vs1 (wipeC τ vs) (xs.drop (i + 1)) h5 with
                | ok ws h7 =>
                  rw [q5] at el
                  simp only [sapp_eq] at el
                  cases el
                  exact ⟨by omega, r6, h5, done ++ zs, us, ws, m6, x6, a6, v6, by rw [List.length_append]; omega, q5, by rw [ey, List.append_assoc]⟩
                | exc _ _ => rw [q5] at el; cases el
                | bad => rw [q5] at el; cases el
              | exc _ _ => rw [lcL_eq, q4] at el; cases el
              | bad => rw [lcL_eq, q4] at el; cases el
            · have : Nat.ble xs1.length 4000 = false := by
                cases w : Nat.ble xs1.length 4000 with
                | false => rfl
                | true => exact absurd (Nat.le_of_ble_eq_true w) hl1
              rw [this] at el; cases el
          | exc _ _ => rw [q3] at el; cases el
          | bad => rw [q3] at el; cases el
        | false =>
          rw [if_neg Bool.false_ne_true]
          simp only at el
          obtain ⟨f1, f2, f3⟩ := fin' ρ3 h3 H3 m3 (e'.trans e3)
          obtain ⟨d3, r3⟩ := ρ3
          cases f1
          exact ⟨by omega, r3, h3, done, acc, rest, m3, f3, f2, rd.ext m (e'.trans e3), by omega, el, ey⟩
      | exc _ _ => rw [q2] at el; cases el
      | bad => rw [q2] at el; cases el
    | exc _ _ => rw [q] at el; cases el
    | bad => rw [q] at el; cases el
section
variable {G : Cfg} {W : WX} {X : Cx} {pos : Pos} {it it1 : Sl → M (List CV)} {g g1 : TG} {gg gg1 : CV → Sl → M Sl} {tt tt1 : Sl → M Bool} {te : Sl → M CV} {vs vs1 : List Nat}
theorem lc2_red (hg : LcG G g gg vs) (hg1 : LcG G g1 gg1 vs1) (hfv : vs.all G.fr = true) (hfv1 : vs1.all G.fr = true) {σ : L2.St} {H : Hp} {Q : VK} (q : tV G W (eLc2 it gg tt it1 gg1 tt1 te vs vs1) σ H Q) : tLc2 (tIt G W it) g (tBo G W0 tt) (tIt G W0 it1) g1 (tBo G W0 tt1) (tV G W0 te) vs vs1 σ H Q := by
  obtain ⟨ρ, h, τ, m, s, p⟩ := q
  refine tM_bind m s p fun xs h1 ρ1 H1 J m1 e1 s1 r1 p1 D hD => ?_
  by_cases hl : xs.length ≤ 4000
  · rw [if_pos hl] at p1
    cases e : lc2L gg tt it1 gg1 tt1 te vs1 (wipeC τ vs) xs h1 with
    | ok ys hf =>
      rw [e] at p1
      refine lc2_coreS m1 s1 r1 hD hg hg1 hfv hfv1 hl e fun r H2 us m2 e2 hus rus => ?_
      refine p1 ⟨ρ1.d, r⟩ H2 _ m2.unhid e2 ⟨D, us, rfl, fun z => ?_, hus, rus.unhid⟩
      rcases z with z | z
      · exact (m2.hid D List.mem_cons_self).2 z
      · obtain ⟨⟨_, w, _⟩, _⟩ := m1.hid D z
        rw [hD] at w; cases w
    | exc _ _ => rw [e] at p1; exact p1.elim
    | bad => rw [e] at p1; exact p1.elim
  · rw [if_neg hl] at p1; exact p1.elim
theorem lc2_redN (hg : LcG G g gg vs) (hg1 : LcG G g1 gg1 vs1) (hfv : vs.all G.fr = true) (hfv1 : vs1.all G.fr = true) {σ : L2.St} {H : Hp} {Q : VK} (q : tV G W (eLc2N it gg tt it1 gg1 tt1 te vs vs1) σ H Q) : tLc2 (tIt G W it) g (tBo G W0 tt) (tIt G W0 it1) g1 (tBo G W0 tt1) (tV G W0 te) vs vs1 σ H Q := by
  obtain ⟨ρ, h, τ, m, s, p⟩ := q
  refine tM_bind m s p fun xs h1 ρ1 H1 J m1 e1 s1 r1 p1 D hD => ?_
  by_cases hl : xs.length ≤ 4000
  · rw [if_pos hl] at p1
    cases e : lc2L gg tt it1 gg1 tt1 te vs1 (wipeC τ vs) xs h1 with
    | ok ys hf =>
      rw [e] at p1
      simp only [frN_eq, sapp_eq] at p1
      refine lc2_coreS m1 s1 r1 hD hg hg1 hfv hfv1 hl e fun r H2 us m2 e2 hus rus => ?_
      have nD : D ∉ r := (m2.hid D List.mem_cons_self).2
      have ndd : D ∉ ρ1.d := fun z => by
        obtain ⟨⟨_, w, _⟩, _⟩ := m1.hid D z
        rw [hD] at w; cases w
      refine p1 ⟨ρ1.d, r ++ [D]⟩ H2 _ (m2.unhidN rus hus ndd) ?_ ⟨D, ?_, rfl⟩
      · refine ⟨rfl, fun i a z => ?_, e2.keep, e2.tbl, fun a z => ?_⟩
        · have z2 := e2.pre i a z
          have hi : i < r.length := (List.getElem?_eq_some_iff.mp z2).1
          show (r ++ [D])[i]? = some a
          rw [List.getElem?_append_left hi]; exact z2
        · rcases List.mem_append.mp z with z | z
          · exact e2.new a z
          · rw [List.mem_singleton.mp z]; exact .inr hD
      · show (r ++ [D])[hf.length]? = some D
        rw [← m2.len]; simp
    | exc _ _ => rw [e] at p1; exact p1.elim
    | bad => rw [e] at p1; exact p1.elim
  · rw [if_neg hl] at p1; exact p1.elim
end
section
variable {G : Cfg} {W : WX} {X : Cx} {pos : Pos} {elt tg iter tg1 iter1 : Expr} {ifs ifs1 : List Expr} {scope : Scope} {own : List (Str × Nat)} {vs1 : List Nat} {it it1 : Sl → M (List CV)} {g g1 : TG} {gg gg1 : CV → Sl → M Sl} {tt tt1 : Sl → M Bool} {te : Sl → M CV}
theorem se_lc2 (hc : X.calm = true) (hN : X.N.Nodup) (hi : SI G W X tg iter it) (ok : BlkOk X.N X.env.scope scope own) (hv : ∀ i ∈ vs1, i ∈ own.map (·.2))
    (hgg : LcG G g gg (own.map (·.2))) (hgg1 : LcG G g1 gg1 vs1) (hg : Blk X scope fun Y => PG Y tg g) (ht : Blk X scope fun Y => PTs Y ifs (tBo G W0 tt)) (hi1 : Blk X scope fun Y => SI G W0 Y tg1 iter1 it1) (hg1 : Blk X scope fun Y => PG Y tg1 g1) (ht1 : Blk X scope fun Y => PTs Y ifs1 (tBo G W0 tt1)) (he : Blk X scope fun Y => SE G W0 Y elt te)
    (hs : ∀ x, foldedSetIterable iter X.env x = pure x := by intro _; rfl) (hs1 : ∀ env x, foldedSetIterable iter1 env x = pure x := by intro _ _; rfl) (hfv : (own.map (·.2)).all G.fr = true := by rfl) (hfv1 : vs1.all G.fr = true := by rfl) :
    SE G W X (.ListComp elt [⟨tg, iter, ifs, 0⟩, ⟨tg1, iter1, ifs1, 0⟩] scope pos) (eLc2 it gg tt it1 gg1 tt1 te (own.map (·.2)) vs1) := (pe_lc2 hc hN hi ok hv hg ht hi1 hg1 ht1 he hs hs1).wk fun σ H Q q => lc2_red hgg hgg1 hfv hfv1 q
theorem se_lc2N (hc : X.calm = true) (hN : X.N.Nodup) (hi : SI G W X tg iter it) (ok : BlkOk X.N X.env.scope scope own) (hv : ∀ i ∈ vs1, i ∈ own.map (·.2))
    (hgg : LcG G g gg (own.map (·.2))) (hgg1 : LcG G g1 gg1 vs1) (hg : Blk X scope fun Y => PG Y tg g) (ht : Blk X scope fun Y => PTs Y ifs (tBo G W0 tt)) (hi1 : Blk X scope fun Y => SI G W0 Y tg1 iter1 it1) (hg1 : Blk X scope fun Y => PG Y tg1 g1) (ht1 : Blk X scope fun Y => PTs Y ifs1 (tBo G W0 tt1)) (he : Blk X scope fun Y => SE G W0 Y elt te)
    (hs : ∀ x, foldedSetIterable iter X.env x = pure x := by intro _; rfl) (hs1 : ∀ env x, foldedSetIterable iter1 env x = pure x := by intro _ _; rfl) (hfv : (own.map (·.2)).all G.fr = true := by rfl) (hfv1 : vs1.all G.fr = true := by rfl) :
    SE G W X (.ListComp elt [⟨tg, iter, ifs, 0⟩, ⟨tg1, iter1, ifs1, 0⟩] scope pos) (eLc2N it gg tt it1 gg1 tt1 te (own.map (·.2)) vs1) := (pe_lc2 hc hN hi ok hv hg ht hi1 hg1 ht1 he hs hs1).wk fun σ H Q q => lc2_redN hgg hgg1 hfv hfv1 q
variable {i : Nat} {y : Str} {py spos : Pos}
theorem ss_setLc2 (hc : X.calm = true) (hN : X.N.Nodup) (hy : X.N[i]? = some y) (hyl : X.env.scope.names.lookup y = some .local)
    (hsw : swapsWith (.ListComp elt [⟨tg, iter, ifs, 0⟩, ⟨tg1, iter1, ifs1, 0⟩] scope pos) (some (.Name y py)) spos.line X.env = pure true) (hi : SI G W X tg iter it) (ok : BlkOk X.N X.env.scope scope own) (hv : ∀ i ∈ vs1, i ∈ own.map (·.2))
    (hgg : LcG G g gg (own.map (·.2))) (hgg1 : LcG G g1 gg1 vs1) (hg : Blk X scope fun Y => PG Y tg g) (ht : Blk X scope fun Y => PTs Y ifs (tBo G W0 tt)) (hi1 : Blk X scope fun Y => SI G W0 Y tg1 iter1 it1) (hg1 : Blk X scope fun Y => PG Y tg1 g1) (ht1 : Blk X scope fun Y => PTs Y ifs1 (tBo G W0 tt1)) (he : Blk X scope fun Y => SE G W0 Y elt te)
    (hs : ∀ x, foldedSetIterable iter X.env x = pure x := by intro _; rfl) (hs1 : ∀ env x, foldedSetIterable iter1 env x = pure x := by intro _ _; rfl) (hfv : (own.map (·.2)).all G.fr = true := by rfl) (hfv1 : vs1.all G.fr = true := by rfl) (hfr : G.fr i = true := by rfl) :
    SS G W X (.Assign [.Name y py] (.ListComp elt [⟨tg, iter, ifs, 0⟩, ⟨tg1, iter1, ifs1, 0⟩] scope pos) spos) (mAsg (gSet i) (eLc2 it gg tt it1 gg1 tt1 te (own.map (·.2)) vs1)) := (ps_setLc2 hc hN hy hyl hsw hi ok hv hg ht hi1 hg1 ht1 he hs hs1).wk fun D σ H q => asg_red (fun σ H Q q => lc2_red hgg hgg1 hfv hfv1 q) hfr q
theorem ss_setLc2N (hc : X.calm = true) (hN : X.N.Nodup) (hy : X.N[i]? = some y) (hyl : X.env.scope.names.lookup y = some .local)
    (hsw : swapsWith (.ListComp elt [⟨tg, iter, ifs, 0⟩, ⟨tg1, iter1, ifs1, 0⟩] scope pos) (some (.Name y py)) spos.line X.env = pure true) (hi : SI G W X tg iter it) (ok : BlkOk X.N X.env.scope scope own) (hv : ∀ i ∈ vs1, i ∈ own.map (·.2))
    (hgg : LcG G g gg (own.map (·.2))) (hgg1 : LcG G g1 gg1 vs1) (hg : Blk X scope fun Y => PG Y tg g) (ht : Blk X scope fun Y => PTs Y ifs (tBo G W0 tt)) (hi1 : Blk X scope fun Y => SI G W0 Y tg1 iter1 it1) (hg1 : Blk X scope fun Y => PG Y tg1 g1) (ht1 : Blk X scope fun Y => PTs Y ifs1 (tBo G W0 tt1)) (he : Blk X scope fun Y => SE G W0 Y elt te)
    (hs : ∀ x, foldedSetIterable iter X.env x = pure x := by intro _; rfl) (hs1 : ∀ env x, foldedSetIterable iter1 env x = pure x := by intro _ _; rfl) (hfv : (own.map (·.2)).all G.fr = true := by rfl) (hfv1 : vs1.all G.fr = true := by rfl) (hfr : G.fr i = true := by rfl) :
    SS G W X (.Assign [.Name y py] (.ListComp elt [⟨tg, iter, ifs, 0⟩, ⟨tg1, iter1, ifs1, 0⟩] scope pos) spos) (mAsg (gSet i) (eLc2N it gg tt it1 gg1 tt1 te (own.map (·.2)) vs1)) := (ps_setLc2 hc hN hy hyl hsw hi ok hv hg ht hi1 hg1 ht1 he hs hs1).wk fun D σ H q => asg_red (fun σ H Q q => lc2_redN hgg hgg1 hfv hfv1 q) hfr q
end
end VE

noncomputable section
namespace VE
open PySem PySem.Spec PyProof.Rows L2 LamX
open PySem.W (alike alikeAll AllAlike Sortable dataLe dataLt keyToks TotalLe sortLe sortLe_total EachIs)
section
variable {prog : Program} {w : World} {A : Around} {s : Shared}
abbrev ixBody (n x : Str) (p1 p2 p3 p4 p5 : Pos) (k1 : Nat) : Expr := .Subscript (.Name n p1) (.Subscript (.Name x p2) (.Constant (.int 0) k1 p3) p4) p5
theorem key_turn {f c' c2 tn t : Addr} {q n x : Str} {params : Arguments} {scope : Scope} {cl : List (Str × Addr)} {pm ctv : Value} {p1 p2 p3 p4 p5 : Pos} {k1 : Nat} {its nms : Array Value} {i : Int} {tk tk2 : Tok} {k : Int}
    (hroom : A.depth < recursionLimit) (hf : s.heap.get? f = some (PySem.W.kla_obj "<lambda>" q params (ixBody n x p1 p2 p3 p4 p5 k1) scope cl pm c' ctv)) (hcd : s.heap.CodeRec (.ref c') q) (nl : s.heap.NoLimit)
    (hk : scope.kind = .function) (hco : scope.isCoroutine = false) (hge : scope.isGenerator = false) (hncell : ∀ y ∈ scope.names, y.2 ≠ .cell)
    (hbind : bindArgs (PySem.W.kla_fn "<lambda>" q params (ixBody n x p1 p2 p3 p4 p5 k1) scope cl pm (.ref c') ctv) ⟨[.ref t], []⟩ = pure [(x, .ref t)]) (hx : scope.names.lookup x = some .local) (hn : scope.names.lookup n = some .free) (hcl : cl.lookup n = some c2)
    (hcell : s.heap.IsCell c2 (some (.ref tn))) (ht : IsTup s.heap t its) (h0 : its[0]? = some (.int i tk)) (hi0 : 0 ≤ i) (hi1 : i < 2 ^ 63) (htn : IsTup s.heap tn nms) (hu : nms[i.toNat]? = some (.int k tk2))
    (hsz : its.size < 2 ^ 63) (hsz2 : nms.size < 2 ^ 63)
    (hdx : (x == ("__debug__" : Str)) = false) (hdn : (n == ("__debug__" : Str)) = false) (hcn : (n == ("__classdict__" : Str)) = false) :
    wpAny (model prog w) A (call (.ref f) [.ref t]) (PySem.W.KeyPure (.int k) s) (fun _ _ => False) s := by
  have rc : codeAny (model prog w) A (.call (.ref f) ⟨[.ref t], []⟩) (fun r s' => match r with | .ok (.ret v) => PySem.W.KeyPure (.int k) s v s' | .ok _ => False | .error e => False) s := by
    refine PySem.W.kla_callFunE hroom hf rfl hco hge rfl hcd ?_
    rw [hbind]
    refine wpAny_pure (wpAny_newFunctionEnv hncell (fun y hy => by rw [List.mem_singleton.mp hy]; exact hx) (fun h₁ hns hsb => ⟨nl.fresh _ hsb, ?_⟩) hk)
    have kp : ∀ b o, s.heap.get? b = some o → h₁.get? b = some o := fun b o e => hsb.extBut b o (Nat.ne_of_lt (Heap.lt_size e)) (Heap.get?_push_of_some _ e)
    have tupK : ∀ {a its}, IsTup s.heap a its → IsTup h₁ a its := fun ⟨o, e, z⟩ => ⟨o, kp _ _ e, z⟩
    have cellK : h₁.IsCell c2 (some (.ref tn)) := let ⟨o, ho, hd⟩ := hcell; ⟨o, kp _ _ ho, hd⟩
    refine PySem.W.kla_codeExpr ?_
    refine Subscript_ (wpAny_Name (wpAny_loadName_free (v := .ref tn) hk hn hcl cellK ?_ hcn) hdn)
    refine Subscript_ (wpAny_Name (wpAny_loadName_local (v := .ref t) hk hx hns (by simp) ?_) hdx)
    refine wpAny_Constant_int ?_
    refine item_tuple (j := 0) (tupK ht) (by decide) (by decide) ?_ h0 ?_
    · have : 0 < its.size := (Array.getElem?_eq_some_iff.mp h0).1
      exact seqIndex_of (by omega) (by omega)
    · have hlt : i.toNat < nms.size := (Array.getElem?_eq_some_iff.mp hu).1
      refine item_tuple (j := i.toNat) (tupK htn) (by omega) hi1 (seqIndex_of hi0 (by omega)) hu ?_
      exact ⟨h₁, _, rfl, kp, .int k tk2⟩
  exact wpAny_call rc
end
/-- the lambda's names: the parameter x, the captured n -/
structure LamS1 (sc scope : Scope) (n x : Str) : Prop where
  kind : scope.kind = .function
  co : scope.isCoroutine = false
  gen : scope.isGenerator = false
  own : ∀ y ∈ scope.names, y.2 ≠ .cell
  free : ∀ y ∈ scope.names, y.2 = .free → sc.names.lookup y.1 = some .cell ∨ sc.names.lookup y.1 = some .free
  hn : scope.names.lookup n = some .free
  hx : scope.names.lookup x = some .local
def lamS1B (sc scope : Scope) (n x : Str) : Bool :=
  decide (scope.kind = .function) && !scope.isCoroutine && !scope.isGenerator && (scope.names.all fun y => !decide (y.2 = .cell) && (!decide (y.2 = .free) || decide (sc.names.lookup y.1 = some .cell) || decide (sc.names.lookup y.1 = some .free))) && decide (scope.names.lookup n = some .free) && decide (scope.names.lookup x = some .local)
theorem lamS1_by {sc scope : Scope} {n x : Str} (h : lamS1B sc scope n x = true) : LamS1 sc scope n x := by
  unfold lamS1B at h
  simp only [Bool.and_eq_true, Bool.or_eq_true, Bool.not_eq_true', decide_eq_true_eq, decide_eq_false_iff_not, List.all_eq_true] at h
  obtain ⟨⟨⟨⟨⟨h1, h2⟩, h3⟩, h4⟩, h5⟩, h6⟩ := h
  refine ⟨h1, h2, h3, fun y hy => (h4 y hy).1, fun y hy e => ?_, h5, h6⟩
  rcases (h4 y hy).2 with (z | z) | z
  · exact absurd e z
  · exact .inl z
  · exact .inr z
/-- the key of an item: names[item[0]] -/
def key1 (nm x : CV) : Option Int := match nm, x with
  | .tup ns, .tup (.int i :: _) => if 0 ≤ i then match ns[i.toNat]? with
    | some (.int j) => some j
    | _ => none
    else none
  | _, _ => none
def keys1 (nm : CV) (xs : List CV) : Option (List (Int × CV)) := List.rec (some []) (fun x _ ih => match key1 nm x with
  | some k => match ih with
    | some ks => some ((k, x) :: ks)
    | none => none
  | none => none) xs
def leI {α : Type} (a b : Int × α) : Bool := decide (a.1 ≤ b.1)
def eSrtKey (i : Nat) (me : Sl → M CV) : Sl → M CV := fun τ => bnd (me τ) fun x h => match τ[i]? with
  | some (some (.tup ns)) => match seqOf x h with
    | some xs => if isTup x then .bad else match keys1 (.tup ns) xs with
      | some ks => .ok (.lst ((srtL leI ks).map (·.2))) h
      | none => .bad
    | none => .bad
  | _ => .bad
def tSrtKey (K : PySem.W.Frag) (T : List (Addr × Str)) (P : Addr) (q : Str) (i : Nat) (te : TE) : TE := fun σ H Q => te σ H fun x H1 => Tabs T H1 ∧ ∃ (a tn : Addr) (bs : List (Int × V)) (nv : List V), x = .ref a ∧ SqL K H1 a (bs.map (·.2)) ∧ σ[i]? = some (some (.ref tn)) ∧ SqT K H1 tn nv ∧
  (∀ b ∈ bs, ∃ (t : Addr) (ys : List V) (k : Int), b.2 = .ref t ∧ SqT K H1 t (.int k :: ys) ∧ 0 ≤ k ∧ nv[k.toNat]? = some (.int b.1)) ∧
  ∀ (H2 : Hp) (c' : Addr), LamH P q c' H1 H2 → Tabs T H2 → ∀ p, H2 p = none → Q (.ref p) (upd H2 p (.lst ((srtL leI bs).map (·.2))))
theorem leI_le {α : Type} : dataLe false (fun b : Int × α => PyData.int b.1) = leI := by
  funext p q
  show (!dataLt (.int q.1) (.int p.1)) = decide (p.1 ≤ q.1)
  have : dataLt (.int q.1) (.int p.1) = decide (q.1 < p.1) := by
    show PyProof.Rows.lexLt itemOrd [Sum.inl q.1] [Sum.inl p.1] = _
    unfold PyProof.Rows.lexLt
    simp [PyProof.Rows.lexLt, itemLt]
  rw [this]
  by_cases h : q.1 < p.1
  · rw [decide_eq_true h, decide_eq_false (by omega)]; rfl
  · rw [decide_eq_false h, decide_eq_true (by omega)]; rfl
theorem key_each {R : Value → (Int × V) → Prop} : ∀ {us : List Value} {bs : List (Int × V)}, Vals (bs.map (·.2)) us → (∀ v b, b ∈ bs → RelV b.2 v → R v b) → EachIs R us bs
  | us, [], r, _ => by cases r; exact .nil
  | us, b :: bs, r, h => by
    cases r with
    | cons r1 r2 => exact .cons (h _ _ List.mem_cons_self r1) (key_each r2 fun v c hc => h v c (List.mem_cons_of_mem _ hc))
theorem each_key {R : Value → (Int × V) → Prop} (hR : ∀ v b, R v b → RelV b.2 v) : ∀ {us : List Value} {bs : List (Int × V)}, EachIs R us bs → Vals (bs.map (·.2)) us
  | _, _, .nil => .nil
  | _, _, .cons r t => .cons (hR _ _ r) (each_key hR t)
theorem sortable_ints (bs : List (Int × V)) : Sortable (bs.map fun b : Int × V => PyData.int b.1) := by
  refine .inr fun d hd => ?_
  obtain ⟨b, _, rfl⟩ := List.mem_map.mp hd
  exact ⟨fun z => (by cases z), fun xs z => (by cases z)⟩
theorem LamH.keepO {P : Addr} {q : Str} {c' : Addr} {H H1 : Hp} (l : LamH P q c' H H1) {a : Addr} {o : HO} (e : H a = some o) (n : ∀ ps, o ≠ .tbl ps) : H1 a = some o := by
  rcases l with rfl | ⟨ps, ps', hP, hc, rfl⟩
  · exact e
  · rw [upd_ne (ne_of_none e hc), upd_ne (ne_of e hP (n ps))]; exact e
theorem LamH.rd {P : Addr} {q : Str} {c' : Addr} {H H1 : Hp} (l : LamH P q c' H H1) {a : Addr} {u : HO} (r : Rd H a u) (n : ∀ ps, u ≠ .tbl ps) : Rd H1 a u := by
  rcases r with r | ⟨o, r⟩
  · exact .inl (l.keepO r n)
  · exact .inr ⟨o, l.keepO r fun _ z => by cases z⟩
section
variable {X : Cx}
theorem pe_srtKey {k k1 i : Nat} {T : List (Addr × Str)} {c P : Addr} {q n x : Str} {params : Arguments} {scope : Scope} {p pos lpos kpos p1 p2 p3 p4 p5 : Pos} {e : Expr} {te : TE} (hg : Gl X "sorted") (hm : X.mg "sorted" = none) (he : PE X e te)
    (TB : TabB X.base X.mg c P) (hcode : X.env.code = .ref c) (eq : q = X.env.qual ++ "<lambda>") (hmT : (P, q) ∈ T) (hu : ∀ p ∈ T, p.1 = P → p.2 = q) (hr : Room (k + 4) X.A) (L : LamS1 X.env.scope scope n x) (hdef : defaultsOf params X.env = ([], []))
    (hbind : ∀ (q : Str) (cl : List (Str × Addr)) (pm cv ctv v : Value), bindArgs (PySem.W.kla_fn "<lambda>" q params (ixBody n x p1 p2 p3 p4 p5 k1) scope cl pm cv ctv) ⟨[v], []⟩ = pure [(x, v)])
    (hN : X.N[i]? = some n)
    (hs : backTo pos (starEach [e] X.env) = (false, eval e X.env) :: backTo pos (starEach [] X.env) := by rfl) (hpl : (backTo pos (starEach [e] X.env)).any (·.1) = false := by rfl)
    (hdx : (x == ("__debug__" : Str)) = false := by decide) (hdn : (n == ("__debug__" : Str)) = false := by decide) (hcn : (n == ("__classdict__" : Str)) = false := by decide) :
    PE X (.Call (.Name "sorted" p) [e] [⟨some "key", .Lambda params (ixBody n x p1 p2 p3 p4 p5 k1) scope lpos, kpos⟩] pos) (tSrtKey X.K T P q i te) := by
  refine ⟨fun pins s σ H Q I h => ?_⟩
  refine wpAny_Call_Name_kw (ld_blt I hg hm (by rfl) ?_ (by decide) (by decide))
  refine PyProof.Rows.callWith_kw ?_ hs hpl (by rfl) (by rfl)
  rw [hs]
  refine Calls.spliced_cons (thn (he.run pins s σ H _ I h) fun v s1 ⟨y, H1, I1, r1, hT, a, tn, bs, nv, ey, hs1, hσ, htn, hb, hq⟩ => Calls.spliced_nil ?_)
  subst ey
  obtain rfl : v = Value.ref a := r1
  show wpAny _ _ (evalAll [do let v ← eval (.Lambda params (ixBody n x p1 p2 p3 p4 p5 k1) scope lpos) X.env; standAt pos; pure v]) _ _ s1
  have hvis : Vis X.env.scope n := by
    rcases L.free _ (PySem.mem_of_lookup L.hn) rfl with z | z
    · exact .inr (.inl z)
    · exact .inr (.inr z)
  have hfree : ∀ y ∈ scope.names, y.2 = .free → ∃ c, X.env.cells.lookup y.1 = some c := fun y hy e => by
    rcases L.free y hy e with k | k
    · exact I1.ok.has _ (.inl k)
    · exact I1.ok.has _ (.inr k)
  refine wpAny_evalAll_cons (wpAny_bind (lam_made I1 TB hcode eq hmT hu hT hdef hfree fun f c' pm ctv H2 s2 I2 lh T2 hf hfn hfr hco => wpAny_bind (wpAny_standAt (wpAny_pure (wpAny_evalAll_nil ?_)))))
  show wpAny _ _ (call (.builtin "sorted") [.ref a] [(Str.ofString "key", .ref f)]) _ _ s2
  obtain ⟨c2, hc2⟩ := mem_lookup (cloFrom_has (cells := X.env.cells) (acc := []) (PySem.mem_of_lookup L.hn))
  have hcX : X.env.cells.lookup n = some c2 := by
    obtain ⟨c3, h3⟩ := hfree _ (PySem.mem_of_lookup L.hn) rfl
    rcases cloFrom_mem (PySem.mem_of_lookup hc2) with hm | ⟨h1, h2⟩
    · cases hm
    · have h3 : X.env.cells.lookup n = some c3 := h3
      have e2 : c2 = c3 := by
        rw [h2, h3] <;> rfl
      rw [e2]; exact h3
  have hcell : s2.heap.IsCell c2 (some (.ref tn)) := by
    obtain ⟨m2, hn2, hl2⟩ := I2.loc
    obtain ⟨w', rw', lk⟩ := hl2 i n _ hN hσ hvis
    cases rw'
    rcases lk with ⟨z, _⟩ | ⟨_, c3, e3, z⟩
    · have z : X.env.scope.names.lookup n = some .local := z
      rcases L.free _ (PySem.mem_of_lookup L.hn) rfl with z2 | z2 <;> rw [show X.env.scope.names.lookup n = _ from z2] at z <;> cases z
    · rw [hcX] at e3; cases e3; exact z
  have exT : ∀ {a ys}, SqT X.K H1 a ys → SqT X.K H2 a ys := fun r => r.elim (fun r => .inl (lh.rd r fun _ z => by cases z)) .inr
  have exL : SqL X.K H2 a (bs.map (·.2)) := hs1.elim (fun r => .inl (lh.rd r fun _ z => by cases z)) .inr
  obtain ⟨its, rv, pl, hz⟩ := I2.list exL
  rw [List.length_map] at hz
  obtain ⟨nits, rn, pn, hzn⟩ := I2.tuple (exT htn)
  have crec : s2.heap.CodeRec (.ref c') q := by
    obtain ⟨⟨oc, vs, t, hoc, hdc, hvc⟩, _, _⟩ := I2.hok c' _ hco
    exact ⟨c', oc, vs, t, rfl, hoc, hdc, hvc⟩
  have er : EachIs (fun v (b : Int × V) => RelV b.2 v ∧ b ∈ bs) its bs := key_each rv fun v b hm r => ⟨r, hm⟩
  have hr2 := hr.in1.in1
  refine PySem.W.sorted_key_data (b := false) (R := fun v (b : Int × V) => RelV b.2 v ∧ b ∈ bs) (fun b : Int × V => PyData.int b.1) pl.isList er (AllAlike.of fun _ _ => by simp [alike]) (sortable_ints bs) hz (fun b _ => ?_) (PyProof.Rows.ksk_s1 _ _) (fun _ => PyProof.Rows.ksk_l1 _ _) (fun _ => PyProof.Rows.ksk_t1 _ _) (fun v b ⟨rb, hm⟩ _ h tk kp => ?_) (fun out cc h' tk kp _ hD hlen eo => ?_)
  · have := hr.un
    have hd : (PyData.int b.1).depth = 0 := by simp [PyData.depth]
    omega
  · obtain ⟨t, ys, kk, e2, ht, h0, hk⟩ := hb b hm
    rw [e2] at rb
    obtain rfl : v = Value.ref t := rb
    obtain ⟨tits, rt, pt, hzt⟩ := I2.tuple (exT ht)
    obtain ⟨u0, g0, ru0⟩ := rt.get (i := 0) rfl
    obtain ⟨tk0, rfl⟩ := ru0
    obtain ⟨u1, g1, ru1⟩ := rn.get hk
    obtain ⟨tk1, rfl⟩ := ru1
    have hl1 : kk.toNat < nv.length := (List.getElem?_eq_some_iff.mp hk).1
    have hl2 := rn.length
    have hl3 := rt.length
    have hsl := sizeLine_eq
    have tupK : ∀ {a its}, IsTup s2.heap a its → IsTup h a its := fun ⟨o, e, z⟩ => ⟨o, kp _ _ e, z⟩
    refine key_turn (s := { s2 with heap := h, toks := tk }) (c' := c') (c2 := c2) (tn := tn) (i := kk) (tk := tk0) (tk2 := tk1) (its := tits.toArray) (nms := nits.toArray) (q := q) (n := n) (x := x) (scope := scope) (cl := cloFrom X.env.cells scope.names []) ?_ (kp _ _ hf) ?_ ?_ L.kind L.co L.gen L.own (hbind _ _ _ _ _ _) L.hx L.hn hc2 ?_ (tupK pt) (by simpa using g0) h0 ?_ (tupK pn) (by simpa using g1) ?_ ?_ hdx hdn hcn
    · have := hr2.dp; omega
    · obtain ⟨c0, oc, vs, t0, z1, hoc, hdc, hvc⟩ := crec
      exact ⟨c0, oc, vs, t0, z1, kp _ _ hoc, hdc, hvc⟩
    · exact I2.nolimit.keeps kp
    · obtain ⟨o, ho, hd⟩ := hcell
      exact ⟨o, kp _ _ ho, hd⟩
    · omega
    · rw [List.size_toArray]; omega
    · rw [List.size_toArray]; omega
  · have eo : EachIs (fun v (b : Int × V) => RelV b.2 v ∧ b ∈ bs) out (bs.mergeSort (dataLe false fun b : Int × V => PyData.int b.1)) := eo
    have es : srtL (dataLe false fun b : Int × V => PyData.int b.1) bs = bs.mergeSort (dataLe false fun b : Int × V => PyData.int b.1) := srtL_eq (sortLe_total (listOrd itemOrd) false fun b : Int × V => keyToks (PyData.int b.1)) bs
    rw [← es, leI_le] at eo
    have hl4 : ((srtL leI bs).map (·.2)).length ≤ sizeLine := by
      rw [List.length_map, ← leI_le, es, List.length_mergeSort]; exact hz
    exact ⟨.ref _, upd H2 (s2.heap.objs.size + 1) (.lst ((srtL leI bs).map (·.2))), I2.laid (t' := tk) kp (Nat.le_succ _) ⟨hl4, out, cc, each_key (fun _ _ z => z.1) eo, hD⟩, rfl, hq H2 c' lh T2 _ (I2.hok.fresh (Nat.le_succ _))⟩
end
section
variable {G : Cfg} {ρ : Wd} {H : Hp}
def KeyR (G : Cfg) (ρ : Wd) (H : Hp) (nm : CV) (t : Int × CV × V) : Prop := ValR G ρ H t.2.1 t.2.2 ∧ key1 nm t.2.1 = some t.1
theorem keys_of {nm : CV} : ∀ {xs : List CV} {us : List V} {ks : List (Int × CV)}, ValsR G ρ H xs us → keys1 nm xs = some ks → ∃ ts : List (Int × CV × V), (∀ t ∈ ts, KeyR G ρ H nm t) ∧ ts.map (fun t => (t.1, t.2.1)) = ks ∧ ts.map (fun t => t.2.2) = us
  | [], us, ks, r, e => by
    cases e
    cases (show us = [] from r)
    exact ⟨[], fun _ z => (nomatch z), rfl, rfl⟩
  | x :: xs, us, ks, ⟨y, r, q, r1, r2⟩, e => by
    subst q
    have e : (match key1 nm x with
      | some k => match keys1 nm xs with
        | some ks => some ((k, x) :: ks)
        | none => none
      | none => none) = some ks := e
    cases z1 : key1 nm x with
    | none => rw [z1] at e; cases e
    | some k =>
      rw [z1] at e
      cases z2 : keys1 nm xs with
      | none => rw [z2] at e; cases e
      | some ks' =>
        rw [z2] at e
        cases e
        obtain ⟨ts, h1, h2, h3⟩ := keys_of r2 z2
        refine ⟨(k, x, y) :: ts, fun t ht => ?_, by rw [List.map_cons, h2], by rw [List.map_cons, h3]⟩
        rcases List.mem_cons.mp ht with z | z
        · rw [z]; exact ⟨r1, z1⟩
        · exact h1 t z
theorem keys_vals {nm : CV} : ∀ {ts : List (Int × CV × V)}, (∀ t ∈ ts, KeyR G ρ H nm t) → ValsR G ρ H (ts.map fun t => t.2.1) (ts.map fun t => t.2.2)
  | [], _ => rfl
  | t :: ts, h => ⟨t.2.2, _, rfl, (h t List.mem_cons_self).1, keys_vals fun u hu => h u (List.mem_cons_of_mem _ hu)⟩
theorem key1_r {ns : List CV} {nv : List V} {x : CV} {k : Int} {u : V} (rn : ValsR G ρ H ns nv) (rx : ValR G ρ H x u) (e : key1 (.tup ns) x = some k) : ∃ (t : Addr) (ys : List V) (i : Int), u = .ref t ∧ SqT G.K H t (.int i :: ys) ∧ 0 ≤ i ∧ nv[i.toNat]? = some (.int k) := by
  unfold key1 at e
  split at e
  · rename_i ns' i t e0
    cases e0
    by_cases h0 : 0 ≤ i
    · rw [if_pos h0] at e
      split at e
      · rename_i j hj
        cases e
        obtain ⟨tt, us, e2, s2, r2⟩ := rx
        obtain ⟨w, hw, rw'⟩ := rn.at_ hj
        obtain ⟨y, ys, e3, r3, r4⟩ := r2
        cases (show w = .int k from rw')
        cases (show y = .int i from r3)
        subst e3
        exact ⟨tt, ys, i, e2, s2, h0, hw⟩
      · cases e
    · rw [if_neg h0] at e; cases e
  · cases e
end
section
variable {G : Cfg} {W : WX} {X : Cx}
theorem se_srtKey {k k1 i : Nat} {c P : Addr} {q n x : Str} {params : Arguments} {scope : Scope} {p pos lpos kpos p1 p2 p3 p4 p5 : Pos} {e : Expr} {me : Sl → M CV} (hx : G.exi = none) (hy : G.lam = none) (hK : G.K = X.K) (hg : Gl X "sorted") (hm : X.mg "sorted" = none) (he : SE G W X e me)
    (TB : TabB X.base X.mg c P) (hcode : X.env.code = .ref c) (eq : q = X.env.qual ++ "<lambda>") (hmT : (P, q) ∈ G.T) (hu : ∀ p ∈ G.T, p.1 = P → p.2 = q) (hr : Room (k + 4) X.A) (L : LamS1 X.env.scope scope n x) (hdef : defaultsOf params X.env = ([], []))
    (hbind : ∀ (q : Str) (cl : List (Str × Addr)) (pm cv ctv v : Value), bindArgs (PySem.W.kla_fn "<lambda>" q params (ixBody n x p1 p2 p3 p4 p5 k1) scope cl pm cv ctv) ⟨[v], []⟩ = pure [(x, v)])
    (hN : X.N[i]? = some n)
    (hs : backTo pos (starEach [e] X.env) = (false, eval e X.env) :: backTo pos (starEach [] X.env) := by rfl) (hpl : (backTo pos (starEach [e] X.env)).any (·.1) = false := by rfl)
    (hdx : (x == ("__debug__" : Str)) = false := by decide) (hdn : (n == ("__debug__" : Str)) = false := by decide) (hcn : (n == ("__classdict__" : Str)) = false := by decide) :
    SE G W X (.Call (.Name "sorted" p) [e] [⟨some "key", .Lambda params (ixBody n x p1 p2 p3 p4 p5 k1) scope lpos, kpos⟩] pos) (eSrtKey i me) :=
  (pe_srtKey hg hm he TB hcode eq hmT hu hr L hdef hbind hN hs hpl hdx hdn hcn).wk fun σ H Q ⟨ρ, h, τ, m, s, p⟩ => tM_bind m s p fun y h1 ρ1 H1 u m1 e1 s1 r1 p1 => by
    refine ⟨m1.tab, ?_⟩
    split at p1
    · rename_i ns z1
      cases z2 : seqOf y h1 with
      | none => rw [z2] at p1; exact p1.elim
      | some xs =>
        rw [z2] at p1
        simp only at p1
        by_cases it : isTup y = true
        · rw [if_pos it] at p1; exact p1.elim
        · rw [if_neg it] at p1
          cases z3 : keys1 (.tup ns) xs with
          | none => rw [z3] at p1; exact p1.elim
          | some ks =>
            rw [z3] at p1
            simp only at p1
            have e' : lisOf y h1 = some xs := by unfold lisOf; rw [if_neg it]; exact z2
            obtain ⟨a, ys, eu, rr, sq⟩ := lisOf_r m1 r1 e'
            obtain ⟨ts, t1, t2, t3⟩ := keys_of rr z3
            obtain ⟨w, hw, tn, nv, ew, sn, rn⟩ := s1.2.1 i _ z1
            subst ew
            have eb : (ts.map fun t => (t.1, t.2.2)).map (·.2) = ys := by rw [List.map_map, ← t3]; rfl
            refine ⟨a, tn, ts.map fun t => (t.1, t.2.2), nv, eu, by rw [eb, ← hK]; exact sq, hw, by rw [← hK]; exact sn, fun b hb => ?_, fun H2 c' lh T2 pp hp => ?_⟩
            · obtain ⟨t, ht, rfl⟩ := List.mem_map.mp hb
              obtain ⟨r2, k2⟩ := t1 t ht
              obtain ⟨tt, ys2, i2, q1, q2, q3, q4⟩ := key1_r rn r2 k2
              exact ⟨tt, ys2, i2, q1, by rw [← hK]; exact q2, q3, q4⟩
            · have m2 := lh.mem m1 T2 hx hy
              have e2 := lh.ext m1
              have s1' := map_srtL (le := leI) (le' := leI) (fun t : Int × CV × V => (t.1, t.2.2)) (fun _ _ => rfl) ts
              have s2' := map_srtL (le := leI) (le' := leI) (fun t : Int × CV × V => (t.1, t.2.1)) (fun _ _ => rfl) ts
              rw [← t2, ← s2', List.map_map] at p1
              rw [← s1', List.map_map]
              exact Post.newLst m2 ((keys_vals (ts := srtL leI ts) fun t ht => t1 t (srtL_mem ht)).ext m1 e2) (p1.ext e2) hp
    · exact p1.elim
end
end VE

noncomputable section
namespace VE
open PySem PySem.Spec PyProof.Rows L2 LamX
section
variable {G : Cfg} {W : WX} {X : Cx} {p p2 p3 pos pos2 : Pos} {a b : Expr} {ma mb : Sl → M CV}
theorem lrg1_ht {σ : L2.St} {H : Hp} (Q : Int → Int → Hp → Prop) (q : tM G W (ValsR G) (eConsA ma eNilA) σ H (fun us H1 => ∃ lo hi, (us = [.int hi] ∧ lo = 0 ∨ us = [.int lo, .int hi]) ∧ Q lo hi H1)) : tRg1 (tV G W ma) σ H Q := by
  obtain ⟨ρ, h, τ, m, s, p⟩ := q
  refine tM_bind m s p fun x h1 ρ1 H1 u m1 e1 s1 r1 p1 => ?_
  obtain ⟨lo, hi, z, q⟩ := p1 ρ1 H1 [u] m1 Ext.refl ⟨u, [], rfl, r1, rfl⟩
  rcases z with ⟨z, rfl⟩ | z
  · cases z; exact ⟨hi, rfl, q⟩
  · cases z
theorem lrg2_ht {σ : L2.St} {H : Hp} (Q : Int → Int → Hp → Prop) (q : tM G W (ValsR G) (eConsA ma (eConsA mb eNilA)) σ H (fun us H1 => ∃ lo hi, (us = [.int hi] ∧ lo = 0 ∨ us = [.int lo, .int hi]) ∧ Q lo hi H1)) : tRg2 (tV G W ma) (tV G W mb) σ H Q := by
  obtain ⟨ρ, h, τ, m, s, p⟩ := q
  refine tM_bind m s p fun x h1 ρ1 H1 u m1 e1 s1 r1 p1 => ?_
  have hb : bnd (eConsA mb eNilA τ) (fun xs => ret (x :: xs)) h1 = bnd (mb τ) (fun y => ret [x, y]) h1 := by
    show bnd (bnd (mb τ) _) _ h1 = _
    unfold bnd
    cases mb τ h1 <;> rfl
  rw [hb] at p1
  refine tM_bind m1 s1 p1 fun y h2 ρ2 H2 v m2 e2 s2 r2 p2 => ?_
  obtain ⟨lo, hi, z, q⟩ := p2 ρ2 H2 [u, v] m2 Ext.refl ⟨u, [v], rfl, r1.ext m1 e2, ⟨v, [], rfl, r2, rfl⟩⟩
  rcases z with ⟨z, rfl⟩ | z
  · cases z
  · cases z; exact ⟨lo, hi, rfl, rfl, q⟩
theorem se_lrg1 (hc : X.calm = true) (hg : Gl X "list") (hm : X.mg "list" = none) (hg2 : Gl X "range") (hm2 : X.mg "range" = none) (ha : SE G W X a ma)
    (na : starEach [a] X.env = (false, eval a X.env) :: starEach [] X.env := by rfl) (nb : starEach [.Call (.Name "range" p2) [a] [] pos2] X.env = (false, eval (.Call (.Name "range" p2) [a] [] pos2) X.env) :: starEach [] X.env := by rfl) :
    SE G W X (.Call (.Name "list" p) [.Call (.Name "range" p2) [a] [] pos2] [] pos) (eLrg (eConsA ma eNilA)) :=
  (pe_listRg hc hg hm (prg_1 hg2 hm2 ha na) nb).wk fun σ H Q q => lrg_red (fun Q q => lrg1_ht Q q) q
theorem se_lrg1N (hc : X.calm = true) (hg : Gl X "list") (hm : X.mg "list" = none) (hg2 : Gl X "range") (hm2 : X.mg "range" = none) (ha : SE G W X a ma)
    (na : starEach [a] X.env = (false, eval a X.env) :: starEach [] X.env := by rfl) (nb : starEach [.Call (.Name "range" p2) [a] [] pos2] X.env = (false, eval (.Call (.Name "range" p2) [a] [] pos2) X.env) :: starEach [] X.env := by rfl) :
    SE G W X (.Call (.Name "list" p) [.Call (.Name "range" p2) [a] [] pos2] [] pos) (eLrgN (eConsA ma eNilA)) :=
  (pe_listRg hc hg hm (prg_1 hg2 hm2 ha na) nb).wk fun σ H Q q => lrgN_red (fun Q q => lrg1_ht Q q) q
theorem se_lrg2 (hc : X.calm = true) (hg : Gl X "list") (hm : X.mg "list" = none) (hg2 : Gl X "range") (hm2 : X.mg "range" = none) (ha : SE G W X a ma) (hb : SE G W X b mb)
    (na : starEach [a, b] X.env = (false, eval a X.env) :: starEach [b] X.env := by rfl) (nb : starEach [b] X.env = (false, eval b X.env) :: starEach [] X.env := by rfl) (hp : (backTo pos2 (starEach [b] X.env)).any (·.1) = false := by rfl)
    (nc : starEach [.Call (.Name "range" p2) [a, b] [] pos2] X.env = (false, eval (.Call (.Name "range" p2) [a, b] [] pos2) X.env) :: starEach [] X.env := by rfl) :
    SE G W X (.Call (.Name "list" p) [.Call (.Name "range" p2) [a, b] [] pos2] [] pos) (eLrg (eConsA ma (eConsA mb eNilA))) :=
  (pe_listRg hc hg hm (prg_2 hg2 hm2 ha hb na nb hp) nc).wk fun σ H Q q => lrg_red (fun Q q => lrg2_ht Q q) q
theorem se_lrg2N (hc : X.calm = true) (hg : Gl X "list") (hm : X.mg "list" = none) (hg2 : Gl X "range") (hm2 : X.mg "range" = none) (ha : SE G W X a ma) (hb : SE G W X b mb)
    (na : starEach [a, b] X.env = (false, eval a X.env) :: starEach [b] X.env := by rfl) (nb : starEach [b] X.env = (false, eval b X.env) :: starEach [] X.env := by rfl) (hp : (backTo pos2 (starEach [b] X.env)).any (·.1) = false := by rfl)
    (nc : starEach [.Call (.Name "range" p2) [a, b] [] pos2] X.env = (false, eval (.Call (.Name "range" p2) [a, b] [] pos2) X.env) :: starEach [] X.env := by rfl) :
    SE G W X (.Call (.Name "list" p) [.Call (.Name "range" p2) [a, b] [] pos2] [] pos) (eLrgN (eConsA ma (eConsA mb eNilA))) :=
  (pe_listRg hc hg hm (prg_2 hg2 hm2 ha hb na nb hp) nc).wk fun σ H Q q => lrgN_red (fun Q q => lrg2_ht Q q) q
end
theorem u64 {k : Nat} {A : Around} (hr : Room k A) : A.units + 64 < PySem.cLine := by have := hr.un; omega
end VE

noncomputable section
namespace VE
open PySem PySem.Spec PyProof.Rows PySem.W PySem.Calls
section
variable {pg : Program} {wd : World} {B : Around} {Er : Value → Shared → Prop} {st : Shared}
/-- a tuple's items, gathered into a list of the interpreter's own -/
theorem collect_tup {t : Addr} {ws : List Value} {R : List Value → Shared → Prop} (ht : IsTup st.heap t ws.toArray) (hw : ws.length ≤ sizeLine)
    (k : R ws { st with heap := (st.heap.push (seqObj "list" #[] 0)).update st.heap.objs.size (Obj.mapSeq (· ++ ws.toArray)) }) : wpAny (model pg wd) B (collect (.ref t)) R Er st := by
  obtain ⟨ob, at_, cl, ep, dt⟩ := ht
  have at2 : (st.heap.push (seqObj "list" #[] 0)).get? t = some ob := Heap.get?_push_of_some _ at_
  have new_ : (st.heap.push (seqObj "list" #[] 0)).get? st.heap.objs.size = some (seqObj "list" #[] 0) := Heap.get?_push_size _ rfl
  have both : ((#[] : Array Value) ++ ws.toArray) = ws.toArray := by simp
  unfold collect
  refine wpAny_bind (wpAny_runValue (codeAny_builtin entry_proto_collect' ?_))
  show wpAny (model pg wd) _ (do again (.builtin "list.__iadd__" ⟨[← newList [], .ref t], []⟩)) _ _ st
  refine wpAny_bind (wpAny_newList (wpAny_pure ⟨Code.quiet_builtin _ (by decide +kernel), codeAny_builtin entry_list_iadd' ?_⟩))
  show wpAny (model pg wd) _ (Builtin.List.listExtendWith (.ref st.heap.objs.size) (.ref t) (.ref st.heap.objs.size)) _ _ { st with heap := st.heap.push (seqObj "list" #[] 0) }
  unfold Builtin.List.listExtendWith
  refine wpAny_bind (wpAny_typeOf (T := "tuple") ⟨ob, at2, cl⟩ ?_)
  rw [if_pos (by rw [show (Value.type "tuple" == Value.type "tuple") = true by rfl]; simp)]
  refine wpAny_bind (listItems_at at2 dt (wpAny_bind (listItems_at new_ rfl ?_)))
  rw [if_neg (by simp)]
  refine wpAny_bind (listUpdate_at new_ rfl (wpAny_pure ?_) (Nat.zero_le _) (by rw [both, List.size_toArray]; exact Nat.le_succ_of_le hw))
  refine (show wpAny (model pg wd) B (load st.heap.objs.size >>= fun o => match o.data with
      | .seq its _ => pure its.toList
      | _ => unsupported "internal:collect") R Er { st with heap := (st.heap.push (seqObj "list" #[] 0)).update st.heap.objs.size (Obj.mapSeq (· ++ ws.toArray)) } from wpAny_bind (wpAny_load (get?_update_seq new_ _) ?_))
  have un : ((#[] : Array Value) ++ ws.toArray).toList = ws := by simp
  show wpAny (model pg wd) B (pure ((#[] : Array Value) ++ ws.toArray).toList) R Er _
  rw [un]
  exact wpAny_pure k
theorem sorted_of_sortT {t : Addr} {ws : List Value} {R : Value → Shared → Prop} (ht : IsTup st.heap t ws.toArray) (hw : ws.length ≤ sizeLine)
    (k : ∀ E2 : Value → Shared → Prop, wpAny (model pg wd) B.in1.in1 (Builtin.«list.sort» ⟨[.ref (st.heap.objs.size + 1)], []⟩) (fun fin s2 => fin = .done (.ret .none) ∧ R (.ref (st.heap.objs.size + 1)) s2) E2 { st with heap := copyHeap st.heap ws }) :
    wpAny (model pg wd) B (call (.builtin "sorted") [.ref t]) R Er st := by
  have sz : ((st.heap.push (seqObj "list" #[] 0)).update st.heap.objs.size (Obj.mapSeq (· ++ ws.toArray))).objs.size = st.heap.objs.size + 1 := (Heap.size_update ..).trans (size_push' ..)
  refine call_function_entry_kw kind_sorted plain_sorted entry_sorted (args_sorted1 _) ?_
  unfold Builtin.«sorted»
  refine wpAny_bind (m := checkCount "sorted" 1 1 _) (wpAny_pure (wpAny_bind (collect_tup ht hw (wpAny_bind (wpAny_newList ?_ hw)))))
  show wpAny (model pg wd) _ _ _ _ { st with heap := copyHeap st.heap ws }
  rw [sz]
  refine wpAny_bind (wpAny_holding (wpAny_call_entry_kw slot_list_sort ⟨_, copyHeap_at st.heap ws, rfl⟩ entry_list_sort ?k2 (args_list_sort _)))
  case k2 =>
    refine (show wpAny (model pg wd) B.in1.in1 (Builtin.«list.sort» ⟨[.ref (st.heap.objs.size + 1)], []⟩) _ _ _ from wpAny_mono (k _) (fun fin s2 z => ?_) fun _ _ z => z)
    cases z.1
    exact ⟨_, rfl, wpAny_pure ⟨_, rfl, z.2⟩⟩
theorem sorted_dataT {β : Type} {S : Value → β → Prop} {ws : List Value} {bs : List β} {en : β → PyData} {t : Addr} {R : Value → Shared → Prop} (ht : IsTup st.heap t ws.toArray) (e : EachIs S ws bs) (er : EachIs (fun v b => ∃ as, Reads st.heap v (en b) as) ws bs) (ha : AllAlike (bs.map en)) (hs : Sortable (bs.map en)) (hb : bs.length ≤ sizeLine)
    (hu : ∀ b ∈ bs, B.units + 2 + (en b).depth < cLine) (k : ∀ out, out.length = bs.length → EachIs S out (bs.mergeSort (dataLe false en)) → R (.ref (st.heap.objs.size + 1)) { st with heap := sortedAll st.heap ws (List.toArray out) }) :
    wpAny (model pg wd) B (call (.builtin "sorted") [.ref t]) R Er st := by
  have up : EachIs (fun v b => ∃ as, Reads (sortingHeap (copyHeap st.heap ws) (st.heap.objs.size + 1) ws) v (en b) as) ws bs := er.mono fun _ _ ⟨as, z⟩ => ⟨as, PyProof.Rows.Reads.keeps (fun _ _ => sorting_copy_old) z⟩
  have lw : ws.length ≤ sizeLine := by rw [e.length]; exact hb
  refine sorted_of_sortT ht lw fun _ => list_sort_vals (s := { st with heap := copyHeap st.heap ws }) (copyHeap_at st.heap ws) (SortsAt.data (s := { st with heap := sortingHeap (copyHeap st.heap ws) (st.heap.objs.size + 1) ws }) (each_map (R := fun v d => ∃ as, Reads (sortingHeap (copyHeap st.heap ws) (st.heap.objs.size + 1) ws) v d as) en up) ha hs (bound_map hu)) lw ⟨rfl, ?_⟩
  exact k _ ((sortVals_length false rfl).trans e.length) (sortVals_data false e up ha)
end
end VE
namespace VE
open PySem PySem.Spec PyProof.Rows L2 LamX
open PySem.W (alike alikeAll AllAlike Sortable dataLe dataLt keyToks TotalLe sortLe sortLe_total EachIs)
/-- sorted of a list or a tuple -/
def rSrtA (K : PySem.W.Frag) : List V → Hp → VK → Prop := fun vs H Q => ∃ (a : Addr) (bs : List (PyData × V)), vs = [.ref a] ∧ (SqL K H a (bs.map (·.2)) ∨ SqT K H a (bs.map (·.2))) ∧ (∀ b ∈ bs, Dp K H b.2 b.1) ∧ AllAlike (bs.map (·.1)) ∧ Sortable (bs.map (·.1)) ∧ (∀ b ∈ bs, b.1.depth ≤ 40) ∧
  ∀ p, H p = none → Q (.ref p) (upd H p (.lst ((srtL (dataLe false (·.1)) bs).map (·.2))))
theorem cr_srtA {X : Cx} (hu : X.A.units + 64 < cLine) : CallR X (.builtin "sorted") (rSrtA X.K) := by
  intro pins s σ H vs us Q I r h
  obtain ⟨a, bs, rfl, hs, hd, hal, hk, hdp, q⟩ := h
  rcases hs with hs | hs
  · exact cr_srtD hu pins s σ H _ us Q I r ⟨a, bs, rfl, hs, hd, hal, hk, hdp, q⟩
  obtain ⟨its, rv, hl, hz⟩ := I.tuple hs
  rw [Vals.ref1 r]
  obtain ⟨e1, e2⟩ := each_vals I hd rv
  rw [List.length_map] at hz
  refine sorted_dataT (en := fun b : PyData × V => b.1) hl e1 e2 hal hk hz (fun b hb => by have := hdp b hb; omega) fun out h1 h2 => ?_
  obtain ⟨ep, he'⟩ := PyProof.Rows.sortedAll_at s.heap its out.toArray
  have es := srtL_eq (sortLe_total (listOrd itemOrd) false fun b : PyData × V => keyToks b.1) bs
  have es : srtL (dataLe false fun b : PyData × V => b.1) bs = bs.mergeSort (dataLe false fun b : PyData × V => b.1) := es
  rw [← es] at h2
  have hlen : ((srtL (dataLe false fun b : PyData × V => b.1) bs).map (·.2)).length ≤ sizeLine := by
    rw [List.length_map, es, List.length_mergeSort]; exact hz
  exact ⟨.ref _, upd H (s.heap.objs.size + 1) (.lst ((srtL (dataLe false fun b : PyData × V => b.1) bs).map (·.2))), I.laid (t' := s.toks) (fun _ _ => PyProof.Rows.sortedAll_old) (Nat.le_succ _) ⟨hlen, out, ep, vals_each (fun _ _ z => z) h2, he'⟩, rfl, q _ (I.hok.fresh (Nat.le_succ _))⟩
def pySrtA (x : CV) : M CV := fun h => match seqOf x h with
  | some xs => match dats xs with
    | some ds => if (pairwiseB alike ds && ((tupsB ds || othersB ds) && depthB ds)) = true then .ok (.lst ((srtL leK (keyed xs ds)).map (·.2))) h else .bad
    | none => .bad
  | none => .bad
theorem srtA_ok {G : Cfg} : OpL G (rSrtA G.K) (one pySrtA) := one_ok fun W σ ρ h H x u Q m rx p => by
  unfold pySrtA at p
  cases e : seqOf x h with
  | none => rw [e] at p; exact p.elim
  | some xs =>
    rw [e] at p
    simp only at p
    cases e2 : dats xs with
    | none => rw [e2] at p; exact p.elim
    | some ds =>
      rw [e2] at p
      simp only at p
      by_cases c : (pairwiseB alike ds && ((tupsB ds || othersB ds) && depthB ds)) = true
      · rw [if_pos c] at p
        obtain ⟨c1, c⟩ := band c
        obtain ⟨c2, c3⟩ := band c
        obtain ⟨a, ys, eu, rr, sq⟩ := seqOf_r m rx e
        obtain ⟨ts, t1, t2, t3, t4⟩ := tri_of rr e2
        have eb : (ts.map fun t => (t.1, t.2.2)).map (·.2) = ys := by rw [List.map_map, ← t3]; rfl
        have ed : (ts.map fun t => (t.1, t.2.2)).map (·.1) = ds := by rw [List.map_map, ← t4]; rfl
        refine ⟨a, ts.map fun t => (t.1, t.2.2), by rw [eu], ?_, fun b hb => ?_, ?_, by rw [ed]; exact sortable_of c2, fun b hb => ?_, fun q hq => ?_⟩
        · rw [eb]
          by_cases it : isTup x = true
          · rw [if_pos it] at sq; exact .inr sq
          · rw [if_neg it] at sq; exact .inl sq
        · obtain ⟨t, ht, rfl⟩ := List.mem_map.mp hb
          exact (t1 t ht).2
        · rw [ed]
          exact fun d hd d' hd' => List.all_eq_true.mp (List.all_eq_true.mp c1 d hd) d' hd'
        · have hm : b.1 ∈ ds := by rw [← ed]; exact List.mem_map_of_mem hb
          exact Nat.le_of_ble_eq_true (List.all_eq_true.mp c3 b.1 hm)
        · have s1 := map_srtL (le := dataLe false fun t : PyData × CV × V => t.1) (le' := dataLe false fun b : PyData × V => b.1) (fun t : PyData × CV × V => (t.1, t.2.2)) (fun _ _ => rfl) ts
          have s2 := map_srtL (le := dataLe false fun t : PyData × CV × V => t.1) (le' := leK) (fun t : PyData × CV × V => (keyToks t.1, t.2.1)) (fun _ _ => rfl) ts
          have ek : keyed xs ds = ts.map fun t => (keyToks t.1, t.2.1) := by
            rw [keyed_eq, ← t2, ← t4, List.zip_map', List.map_map]
            rfl
          rw [ek, ← s2, List.map_map] at p
          rw [← s1, List.map_map]
          exact Post.newLst m (tri_vals (ts := srtL (dataLe false fun t : PyData × CV × V => t.1) ts) fun t ht => t1 t (srtL_mem ht)) p hq
      · rw [if_neg c] at p; exact p.elim
end VE

noncomputable section
namespace VE
open PySem PySem.Spec PyProof.Rows L2 LamX
section
variable {G : Cfg} {ρ : Wd} {h : Mem} {H : Hp} {a b : Addr} {ys zs : List V} {xs us : List CV}
theorem SqF.inL {G : Cfg} {ρ ρ1 : Wd} {H H1 : Hp} {a : Addr} {ys : List V} (s : SqF G.K ρ H a ys) (e1 : ExtH ρ H ρ1 H1) : SqL G.K H1 a ys := by
  rcases s with ⟨n, s⟩ | s
  · exact .inl (e1.rd s n fun _ e => by cases e)
  · exact (show SqF G.K ρ1 H1 a ys from .inr s).l
theorem itR_zip (m : MemR G ρ h H) (s : SqF G.K ρ H a ys) (s' : SqF G.K ρ H b zs) (r : ValsR G ρ H xs ys) (r' : ValsR G ρ H us zs) : ItR G ρ H (Itz G.K a b) (zipL xs us) := by
  intro ρ1 h1 H1 m1 e1
  have q1 := s.inL e1
  have q2 := s'.inL e1
  have r1 := r.extH m e1
  have r2 := r'.extH m e1
  have ln : (zipL xs us).length = min ys.length zs.length := by rw [zipL_len, r1.len, r2.len]
  refine ⟨fun i hi => ?_, ⟨ys, zs, q1, q2, by omega⟩, fun i x u H' q y => ?_⟩
  · have h1 : i < ys.length := by omega
    have h2 : i < zs.length := by omega
    exact ⟨ys, zs, ys[i], zs[i], q1, q2, by simp, by simp⟩
  · obtain ⟨T, v, w, eu, hT, eH, hv, hw⟩ := y
    subst eu eH
    obtain ⟨c, d, g1, g2, rfl⟩ := zipL_get q
    obtain ⟨v', e3, r3⟩ := r1.get g1
    obtain ⟨w', e4, r4⟩ := r2.get g2
    rw [hv ys q1] at e3
    cases e3
    rw [hw zs q2] at e4
    cases e4
    exact ⟨m1.laid hT, Ext.laid hT, T, _, rfl, SqT.of upd_same, _, _, rfl, r3.ext m1 (Ext.laid hT), _, _, rfl, r4.ext m1 (Ext.laid hT), rfl⟩
theorem itR_zipT (m : MemR G ρ h H) (s : SqT G.K H a ys) (s' : SqT G.K H b zs) (r : ValsR G ρ H xs ys) (r' : ValsR G ρ H us zs) : ItR G ρ H (RZ.ItzT G.K a b) (zipL xs us) := by
  intro ρ1 h1 H1 m1 e1
  have q1 : SqT G.K H1 a ys := e1.sqT m s
  have q2 : SqT G.K H1 b zs := e1.sqT m s'
  have r1 := r.extH m e1
  have r2 := r'.extH m e1
  have ln : (zipL xs us).length = min ys.length zs.length := by rw [zipL_len, r1.len, r2.len]
  refine ⟨fun i hi => ?_, ⟨ys, zs, q1, q2, by omega⟩, fun i x u H' q y => ?_⟩
  · have h1 : i < ys.length := by omega
    have h2 : i < zs.length := by omega
    exact ⟨ys, zs, ys[i], zs[i], q1, q2, by simp, by simp⟩
  · obtain ⟨T, v, w, eu, hT, eH, hv, hw⟩ := y
    subst eu eH
    obtain ⟨c, d, g1, g2, rfl⟩ := zipL_get q
    obtain ⟨v', e3, r3⟩ := r1.get g1
    obtain ⟨w', e4, r4⟩ := r2.get g2
    rw [hv ys q1] at e3
    cases e3
    rw [hw zs q2] at e4
    cases e4
    exact ⟨m1.laid hT, Ext.laid hT, T, _, rfl, SqT.of upd_same, _, _, rfl, r3.ext m1 (Ext.laid hT), _, _, rfl, r4.ext m1 (Ext.laid hT), rfl⟩
end
/-- the pairs, made at once -/
def zipF (xs ys : List CV) : List CV := List.rec (fun _ => []) (fun x _ ih ys => match ys with
  | [] => []
  | y :: ys => .tup [x, y] :: ih ys) xs ys
theorem zipF_eq : ∀ xs ys : List CV, zipF xs ys = zipL xs ys
  | [], ys => by cases ys <;> rfl
  | x :: xs, [] => rfl
  | x :: xs, y :: ys => by
    show CV.tup [x, y] :: zipF xs ys = _
    rw [zipF_eq xs ys]; rfl
def zipOf (xs : List CV) : M (List CV) := match xs with
  | [.tup xs, .tup ys] => ret (zipF xs ys)
  | [x, y] => match frzOf x, frzOf y with
    | some xs, some ys => ret (zipF xs ys)
    | _, _ => stuck
  | _ => stuck
theorem si_zip {G : Cfg} {W : WX} {X : Cx} {e e2 : Expr} {ml : Sl → M (List CV)} {p pos : Pos} {elts : List Expr} {kk : Nat} {tpos : Pos} (hK : G.K = X.K) (hg : Gl X "zip") (hm : X.mg "zip" = none) (ha : SA G W X [e, e2] ml)
    (hs : starEach [e, e2] X.env = (false, eval e X.env) :: starEach [e2] X.env := by rfl) (hpl : (backTo pos (starEach [e2] X.env)).any (·.1) = false := by rfl) :
    SI G W X (.Tuple elts kk tpos) (.Call (.Name "zip" p) [e, e2] [] pos) (iArgs zipOf ml) :=
  (RZ.pi_zipA hg hm ha hs hpl).wk fun σ H R ⟨ρ, h, τ, m, s, p⟩ => tM_bind m s p fun xs h1 ρ1 H1 us m1 e1 s1 r1 p1 => by
    rw [← hK]
    unfold zipOf at p1
    split at p1
    · rename_i xs ys
      rw [zipF_eq] at p1
      obtain ⟨u, t, eu, ⟨a, vs, ea, z, r⟩, u2, t2, eu2, ⟨b, ws, eb, z2, r2⟩, rt⟩ := r1
      subst eu eu2 ea eb
      cases (show t2 = [] from rt)
      exact ⟨a, b, vs, ws, rfl, .inr ⟨z, z2, p1 ρ1 H1 _ m1 Ext.refl (itR_zipT m1 z z2 r r2)⟩⟩
    · rename_i x y _
      cases ex : frzOf x with
      | none => rw [ex] at p1; exact p1.elim
      | some xs =>
        cases ey : frzOf y with
        | none => rw [ex, ey] at p1; exact p1.elim
        | some ys =>
          rw [ex, ey] at p1
          simp only at p1
          rw [zipF_eq] at p1
          obtain ⟨u, t, eu, q1, u2, t2, eu2, q2, rt⟩ := r1
          obtain ⟨a, vs, ea, z, r⟩ := frzOf_r q1 ex
          obtain ⟨b, ws, eb, z2, r2⟩ := frzOf_r q2 ey
          subst eu eu2 ea eb
          cases (show t2 = [] from rt)
          exact ⟨a, b, vs, ws, rfl, .inl ⟨z.l, z2.l, p1 ρ1 H1 _ m1 Ext.refl (itR_zip m1 z z2 r r2)⟩⟩
    · exact p1.elim
end VE

noncomputable section
namespace VE
open PySem PySem.Spec PyProof.Rows L2 LamX
/-- a new list in the memory -/
def pushL (zs : List CV) : M CV := fun h => frLs (frV 3) zs fun zs => frN h.length fun n => sapp h [.lst zs] fun h => .ok (.ref n) h
theorem Post.pushL {G : Cfg} {W : WX} {σ : L2.St} {ρ : Wd} {h : Mem} {H : Hp} {q : Addr} {zs : List CV} {ys : List V} {Q : VK} (m : MemR G ρ h H) (r : ValsR G ρ H zs ys) (p : Post G W (ValR G) σ ρ H (VE.pushL zs h) Q) (hq : H q = none) : Q (.ref q) (upd H q (.lst ys)) := by
  unfold VE.pushL at p
  rw [frLs_eq (frV_eq 3), frN_eq, sapp_eq] at p
  refine p _ _ _ (m.push hq r) (Ext.push hq) ⟨q, ?_, rfl⟩
  show (ρ.r ++ [q])[h.length]? = some q
  rw [← m.len]; simp
def pyTimesN (x y : CV) : M CV := fun h => match y with
  | .int k => match lstOf x h with
    | some xs => if 0 ≤ k ∧ k ≤ 1000 ∧ xs.length ≤ 1000 then pushL (List.replicate k.toNat xs).flatten h else .bad
    | none => .bad
  | _ => .bad
theorem timesN_ok {G : Cfg} : Op2 G (rTimesS G.K) pyTimesN := by
  intro W σ ρ h H x y u v Q m rx ry p
  unfold pyTimesN at p
  split at p
  · rename_i k
    cases e : lstOf x h with
    | none => rw [e] at p; exact p.elim
    | some xs =>
      rw [e] at p
      simp only at p
      by_cases hc : 0 ≤ k ∧ k ≤ 1000 ∧ xs.length ≤ 1000
      · rw [if_pos hc] at p
        obtain ⟨a, us, ea, ra, sa⟩ := lstOf_r m rx e
        refine .inl (.inr (.inr ⟨a, k, us, ea, ry, sa, by omega, by omega, ?_, fun p' hp => Post.pushL m (ra.rep _) p hp⟩))
        rw [← ra.len]
        have h1 : k.toNat ≤ 1000 := by omega
        have h2 := Nat.mul_le_mul hc.2.2 h1
        rw [sizeLine_eq]; omega
      · rw [if_neg hc] at p; exact p.elim
  · exact p.elim
def pyPlusN (x y : CV) : M CV := fun h => match lstOf x h with
  | some xs => match lstOf y h with
    | some ys => if xs.length + ys.length ≤ 1000000 then pushL (xs ++ ys) h else .bad
    | none => .bad
  | none => .bad
theorem plusN_ok {G : Cfg} : Op2 G (rPlus G.K) pyPlusN := by
  intro W σ ρ h H x y u v Q m rx ry p
  unfold pyPlusN at p
  cases e1 : lstOf x h with
  | none => rw [e1] at p; exact p.elim
  | some xs =>
    cases e2 : lstOf y h with
    | none => rw [e1, e2] at p; exact p.elim
    | some ys =>
      rw [e1, e2] at p
      simp only at p
      by_cases hl : xs.length + ys.length ≤ 1000000
      · rw [if_pos hl] at p
        obtain ⟨a, us, ea, ra, sa⟩ := lstOf_r m rx e1
        obtain ⟨b, vs, eb, rb, sb⟩ := lstOf_r m ry e2
        exact .inr (.inr (.inr ⟨a, b, us, vs, ea, eb, sa, sb, by rw [← ra.len, ← rb.len]; exact lineM hl, fun p' hp => Post.pushL m (ra.app rb) p hp⟩))
      · rw [if_neg hl] at p; exact p.elim
/-- sorted, written later -/
def pySrtAN (x : CV) : M CV := fun h => match seqOf x h with
  | some xs => match dats xs with
    | some ds => if (pairwiseB PySem.W.alike ds && ((tupsB ds || othersB ds) && depthB ds)) = true then pushL ((srtL leK (keyed xs ds)).map (·.2)) h else .bad
    | none => .bad
  | none => .bad
end VE

noncomputable section
namespace VE
open PySem PySem.Spec PyProof.Rows L2 LamX
section
variable {G : Cfg} {W : WX} {X : Cx} {pos p : Pos}
def eDOneV (i : Nat) (x : CV) : Sl → M CV := fun τ h => match sget τ i with
  | some (some k) => Bool.rec .bad (frN h.length fun n => sapp h [.dic false false [k] [x]] fun h => .ok (.ref n) h) (isKey k)
  | _ => .bad
theorem se_dOneV {v : Expr} {y : Str} {i : Nat} {x : CV} {u : V} (hN : X.N[i]? = some y) (hy : Vis X.env.scope y) (hv : PE X v (tC u)) (r : ∀ ρ H, ValR G ρ H x u) (hd : (y == ("__debug__" : Str)) = false := by decide) (hcd : (y == ("__classdict__" : Str)) = false := by decide) : SE G W X (.Dict [some (.Name y p)] [v] pos) (eDOneV i x) :=
  (pe_disp (pps_cons (pe_var hN hy hd hcd) hv pps_nil) rfl rfl (by simp) (Nat.le_of_ble_eq_true rfl)).wk fun σ H Q ⟨ρ, h, τ, m, s, p⟩ q hq => by
    unfold eDOneV at p
    rw [sget_eq] at p
    cases z : τ[i]? with
    | none => rw [z] at p; exact p.elim
    | some o =>
      cases o with
      | none => rw [z] at p; exact p.elim
      | some k =>
        rw [z] at p
        simp only at p
        by_cases hk : isKey k = true
        · rw [hk] at p
          obtain ⟨kk, rfl⟩ := isKey_of hk
          obtain ⟨w, hw, rw'⟩ := s.2.1 i _ z
          have ew := keyC_kV rw'
          subst ew
          have p : Post G W (ValR G) σ ρ H (frN h.length fun n => sapp h [.dic false false [keyC kk] [x]] fun h => Out.ok (CV.ref n) h) Q := p
          rw [frN_eq, sapp_eq] at p
          refine ⟨kV kk, hw, upd_same, [(kk, u)], rfl, Nat.le_of_ble_eq_true rfl, ?_⟩
          have e : upd (upd H q (.dK [])) q (.dK (mergeK [] [(kk, u)])) = upd H q (.dK [(kk, u)]) := by
            funext b
            by_cases c : b = q
            · subst c; rw [upd_same, upd_same]; rfl
            · rw [upd_ne c, upd_ne c, upd_ne c]
          rw [e]
          refine p _ _ _ (m.pushO hq (co := .dic false false [keyC kk] [x]) ⟨_, fun z => (nomatch z), fun _ => upd_same, fun z => (nomatch z), fun _ => ⟨[(kk, u)], rfl, rfl, u, [], rfl, r _ _, rfl⟩⟩) (Ext.push hq) ⟨q, ?_, rfl⟩
          show (ρ.r ++ [q])[h.length]? = some q
          rw [← m.len]; simp
        · rw [Bool.not_eq_true] at hk; rw [hk] at p; exact p.elim
end
end VE

noncomputable section
namespace VE
open PySem PySem.Spec PyProof.Rows L2 LamX
section
variable {X : Cx} {k : Nat} {f : Addr} {fd : FuncData} {ps : List Str} {sp : Sp} {E : L2.St → XK} {x : Str} {e : Expr} {es : List Expr} {te : TE} {t : TA} {p pos sp_ : Pos}
theorem pe_callGS1 (F : FnG X.prog X.w X.K X.mg X.base k f fd ps sp) (room : RoomG k X.A) (hg : Gl X x) (hm : X.mg x = some (.ref f)) (hk : PySem.W.keepIn X.K (.ref f) = true) (hb : Binds X.K fd ps []) (hx : ∀ σ, PassesAt (L2.CX X.prog X.w) X σ (E σ))
    (he : PE X e te) (hdb : (x == ("__debug__" : Str)) = false := by decide) (hst : starEach [.Starred e sp_] X.env = [(true, eval e X.env)] := by rfl) :
    PE X (.Call (.Name x p) [.Starred e sp_] [] pos) (fun σ H Q => te σ H fun y H1 => ∃ a xs, y = V.ref a ∧ (SqT X.K H1 a xs ∨ SqL X.K H1 a xs) ∧ sp xs H1 Q (E σ)) := by
  refine ⟨fun pins s σ H Q I h => wpAny_Call_Name_kw (ld_glob I hg hm ?_ hdb)⟩
  refine PySem.W.callWith_S (h₀ := X.base) I.ok.mod.kin hk (thn (he.run pins s σ H _ I h) fun v s1 ⟨y, H1, I1, ry, a, xs, ey, hxs, q⟩ => ?_) hst
  subst ey
  obtain rfl : v = Value.ref a := ry
  exact StX.star_any I1 hxs fun us s2 I2 rv => ⟨I2.kIn, run_g F room hb (hx σ) I2 rv q⟩
theorem pe_callGS2 (F : FnG X.prog X.w X.K X.mg X.base k f fd ps sp) (room : RoomG k X.A) (hg : Gl X x) (hm : X.mg x = some (.ref f)) (hk : PySem.W.keepIn X.K (.ref f) = true) (hb : Binds X.K fd ps []) (hx : ∀ σ, PassesAt (L2.CX X.prog X.w) X σ (E σ))
    (ha : PA X (e :: es) t) (hdb : (x == ("__debug__" : Str)) = false := by decide) (he : starEach (e :: es) X.env = (false, eval e X.env) :: starEach es X.env := by rfl) (hst : (backTo pos (starEach es X.env)).any (·.1) = true := by rfl) :
    PE X (.Call (.Name x p) (e :: es) [] pos) (tCallS sp E t) :=
  ⟨fun pins s σ H Q I h => wpAny_Call_Name_kw (ld_glob I hg hm (PySem.W.callWith_S2 (h₀ := X.base) I.ok.mod.kin hk (thn (ha.run pos pins s σ H _ I h) fun us s1 ⟨xs, H1, I1, rel, q⟩ => ⟨I1.kIn, run_g F room hb (hx σ) I1 rel q⟩) he hst) hdb)⟩
variable {G : Cfg} {W : WX} {np : Nat} {F : List CV → M CV} {ml : Sl → M (List CV)} {me : Sl → M CV}
def eStar1 (np : Nat) (F : List CV → M CV) (me : Sl → M CV) : Sl → M CV := fun τ => bnd (me τ) fun x => bnd (starOf x) (callF np F)
theorem se_callFS2 (B : Bx G W X) (hx : G.exi = none) (hy : G.lam = none) (ok : FnG X.prog X.w X.K X.mg X.base k f fd ps (spH G np F)) (hr : RoomG k X.A) (hg : Gl X x) (hm : X.mg x = some (.ref f)) (hk : PySem.W.keepIn X.K (.ref f) = true) (hb : Binds X.K fd ps [])
    (ha : SA G W X (e :: es) ml) (hdb : (x == ("__debug__" : Str)) = false := by decide) (he : starEach (e :: es) X.env = (false, eval e X.env) :: starEach es X.env := by rfl) (hst : (backTo pos (starEach es X.env)).any (·.1) = true := by rfl) :
    SE G W X (.Call (.Name x p) (e :: es) [] pos) (eB (callF np F) ml) :=
  (pe_lk (pe_callGS2 (E := fun σ => WE W σ) ok hr hg hm hk hb (fun σ => passAt B.tk σ) ha hdb he hst)).wk fun σ H Q ⟨ρ, h, τ, m, s, p⟩ => tM_bind m s p fun xs h1 ρ1 H1 us m1 e1 s1 r1 p1 => callF_ok hx hy m1 r1 p1 fun _ _ _ z => z
theorem se_callFS1 (B : Bx G W X) (hx : G.exi = none) (hy : G.lam = none) (hK : G.K = X.K) (ok : FnG X.prog X.w X.K X.mg X.base k f fd ps (spH G np F)) (hr : RoomG k X.A) (hg : Gl X x) (hm : X.mg x = some (.ref f)) (hk : PySem.W.keepIn X.K (.ref f) = true) (hb : Binds X.K fd ps [])
    (he : SE G W X e me) (hdb : (x == ("__debug__" : Str)) = false := by decide) (hst : starEach [.Starred e sp_] X.env = [(true, eval e X.env)] := by rfl) :
    SE G W X (.Call (.Name x p) [.Starred e sp_] [] pos) (eStar1 np F me) :=
  (pe_lk (pe_callGS1 (E := fun σ => WE W σ) ok hr hg hm hk hb (fun σ => passAt B.tk σ) he hdb hst)).wk fun σ H Q ⟨ρ, h, τ, m, s, p⟩ => tM_bind m s p fun x h1 ρ1 H1 u m1 e1 s1 r1 p1 => by
    unfold starOf at p1
    rw [rd_bnd] at p1
    cases z : seqOf x h1 with
    | none => rw [z] at p1; exact p1.elim
    | some xs =>
      rw [z] at p1
      obtain ⟨a, ys, eu, rr, sq⟩ := seqOf_r m1 r1 z
      refine ⟨a, ys, eu, ?_, callF_ok hx hy m1 rr p1 fun _ _ _ z => z⟩
      rw [← hK]
      by_cases ht : isTup x = true
      · rw [if_pos ht] at sq; exact .inl sq
      · rw [if_neg ht] at sq; exact .inr sq
end
section
variable {X : Cx} {E : L2.St → XK} {x : Str} {e : Expr} {te tn : TE} {p pos sp_ : Pos} {S : Addr → Nat → Sp → Prop}
def tStar1 (K : PySem.W.Frag) (te : TE) : TA := fun σ H Q => te σ H fun y H1 => ∃ a xs, y = V.ref a ∧ (SqT K H1 a xs ∨ SqL K H1 a xs) ∧ Q xs H1
theorem pe_makeQS1 (hn : PE X (.Name x p) tn) (A : ∀ C n sp, S C n sp → ∃ k f, Mk X.K C f ∧ FnQ X.prog X.w X.K X.mg X.base k f sp ∧ RoomG (k + 1) X.A) (hx : ∀ σ, PassesAt (L2.CX X.prog X.w) X σ (E σ)) (he : PE X e te)
    (hst : starEach [.Starred e sp_] X.env = [(true, eval e X.env)] := by rfl) : PE X (.Call (.Name x p) [.Starred e sp_] [] pos) (tMakeQ S E tn (tStar1 X.K te)) := by
  refine ⟨fun pins s σ H Q I h => ?_⟩
  refine wpAny_Call_Name_kw (thn (hn.run pins s σ H _ I h) fun u s1 ⟨g, H1, I1, rg, C, n, sp, eg, hS, q⟩ => ?_)
  subst eg
  cases (show u = Value.ref C from rg)
  obtain ⟨k, f, M, F, hr⟩ := A C n sp hS
  refine PySem.W.callWith_S (h₀ := X.base) I1.ok.mod.kin M.kp (thn (he.run pins s1 σ H1 _ I1 q) fun v s2 ⟨y, H2, I2, ry, a, xs, ey, hxs, q2⟩ => ?_) hst
  subst ey
  obtain rfl : v = Value.ref a := ry
  exact StX.star_any I2 hxs fun us s3 I3 rv => ⟨I3.kIn, run_makeQ n M F hr (hx σ) I3 rv q2⟩
variable {G : Cfg} {W : WX} {D : MDisp} {mc me : Sl → M CV}
def mlS (me : Sl → M CV) : Sl → M (List CV) := fun τ => bnd (me τ) starOf
theorem mlS_red (hK : G.K = X.K) {σ : L2.St} {H : Hp} {Q : List V → Hp → Prop} (q : tM G W (ValsR G) (mlS me) σ H Q) : tStar1 X.K (tV G W me) σ H Q := by
  obtain ⟨ρ, h, τ, m, s, p⟩ := q
  refine tM_bind m s p fun x h1 ρ1 H1 u m1 e1 s1 r1 p1 => ?_
  unfold starOf at p1
  cases z : seqOf x h1 with
  | none => rw [z] at p1; exact p1.elim
  | some xs =>
    rw [z] at p1
    obtain ⟨a, ys, eu, rr, sq⟩ := seqOf_r m1 r1 z
    refine ⟨a, ys, eu, ?_, p1 ρ1 H1 ys m1 Ext.refl rr⟩
    rw [← hK]
    by_cases ht : isTup x = true
    · rw [if_pos ht] at sq; exact .inl sq
    · rw [if_neg ht] at sq; exact .inr sq
theorem se_mkFS1 (B : Bx G W X) (hx : G.exi = none) (hy : G.lam = none) (hK : G.K = X.K) (hd : HoldMk G X D) (hn : SE G W X (.Name x p) mc) (he : SE G W X e me)
    (hst : starEach [.Starred e sp_] X.env = [(true, eval e X.env)] := by rfl) : SE G W X (.Call (.Name x p) [.Starred e sp_] [] pos) (eMkF D mc (mlS me)) :=
  (pe_lk (pe_makeQS1 hn (holdMk_fn hd) (fun σ => passAt B.tk σ) he hst)).wk fun σ H Q q => mkF_red (fun _ _ _ z => mlS_red hK z) hx hy q
end
end VE

noncomputable section
namespace VE
open PySem PySem.Spec PyProof.Rows L2 LamX
theorem pg_or {X : Cx} {e : Expr} {t t' : TG} (a : PG X e t) (b : PG X e t') : PG X e (fun v σ H Q => t v σ H Q ∨ t' v σ H Q) :=
  ⟨fun pins s σ H v u Q I r q => q.elim (fun q => a.run pins s σ H v u Q I r q) fun q => b.run pins s σ H v u Q I r q⟩
def gUnpA (n : Nat) (g : List CV → Sl → M Sl) : CV → Sl → M Sl := fun x τ h => match seqOf x h with
  | some xs => if xs.length = n then g xs τ h else .bad
  | none => .bad
theorem sg_unpA {G : Cfg} {X : Cx} {pos : Pos} {es : List Expr} {k n : Nat} {g : List CV → Sl → M Sl} (hK : G.K = X.K) (hc : X.calm = true) (hg : SGs G X es g) (hn : (assignEach es X.env).length = n := by rfl) (hst : (assignEach es X.env).findIdx? (·.1) = none := by rfl) :
    SG G X (.Tuple es k pos) (gUnpA n g) :=
  (pg_or (pg_tup hc hg hn hst) (L2.pg_lst hc hg hn hst)).wk fun v σ H Q ⟨ρ, h, τ, x, m, s, r, p⟩ => by
    unfold gUnpA at p
    cases z : seqOf x h with
    | none => rw [z] at p; exact p.elim
    | some xs =>
      rw [z] at p
      simp only at p
      by_cases hl : xs.length = n
      · rw [if_pos hl] at p
        obtain ⟨a, ys, eu, rr, sq⟩ := seqOf_r m r z
        by_cases ht : isTup x = true
        · rw [if_pos ht] at sq
          exact .inl ⟨a, ys, eu, hK ▸ sq, by rw [← rr.len]; exact hl, ρ, h, τ, xs, m, s, rr, p⟩
        · rw [if_neg ht] at sq
          exact .inr ⟨a, ys, eu, hK ▸ sq, by rw [← rr.len]; exact hl, ρ, h, τ, xs, m, s, rr, p⟩
      · rw [if_neg hl] at p; exact p.elim
end VE

noncomputable section
namespace VE
open PySem PySem.Spec PyProof.Rows L2 LamX
def rGetL : V → V → Hp → VK → Prop := fun o i H Q => ∃ (a : Addr) (xs : List V) (k : Int) (v : V), o = .ref a ∧ i = .int k ∧ H a = some (.lst xs) ∧ 0 ≤ k ∧ xs[k.toNat]? = some v ∧ Q v H
theorem get_list {X : Cx} : PGet X rGetL := by
  intro pins s σ H o i ov iv Q I ro ri h
  obtain ⟨a, xs, k, v, rfl, rfl, hp, h0, hv, q⟩ := h
  cases ro
  obtain ⟨t, rfl⟩ := ri
  obtain ⟨its, rv, pl, hz⟩ := I.list (xs := xs) (.inl (.inl hp))
  obtain ⟨w, ew, rw'⟩ := rv.get hv
  have hl := (List.getElem?_eq_some_iff.mp hv).1
  have hn := sizeLine_eq
  exact wpAny_getItem_list pl.isList h0 (by omega) (by simpa using ew) ⟨v, H, I, rw', q⟩
/-- the memory's list at x, its int at i -/
def intAt (x y : CV) (h : Mem) : Option (Nat × List CV × Nat × Int) := match x, y with
  | .ref l, .int k => match memAt h l with
    | some xs => Bool.rec none (match xs[k.toNat]? with
      | some (.int a) => some (l, xs, k.toNat, a)
      | _ => none) (decide (0 ≤ k))
    | none => none
  | _, _ => none
def mAugS (f : Int → Int → Int) (o i e : Sl → M CV) : MS := fun τ => inS (o τ) τ fun x => inS (i τ) τ fun y h => match intAt x y h with
  | some p => inS (e τ) τ (fun b h => match b with
    | .int c => match memAt h p.1 with
      | some xs => Bool.rec .bad (frLs (frV 3) (xs.set p.2.2.1 (.int (f p.2.2.2 c))) fun zs => sset h p.1 (.lst zs) fun h => .mk (.nx τ) h) (Nat.blt p.2.2.1 xs.length)
      | none => .bad
    | _ => .bad) h
  | none => .bad
theorem ss_augS {G : Cfg} {W : WX} {X : Cx} {o i e : Expr} {mo mi me : Sl → M CV} {op : Operator} {f : Int → Int → Int} {tpos pos : Pos} (hp : PIp X op (ipI f)) (ho : SE G W X o mo) (hi : SE G W X i mi) (he : SE G W X e me)
    (ha : ∀ ov iv new, augStore i ov iv new = (do holding [new, ov, iv] (setItem ov iv new); release [new, ov, iv] []; pure .next) := by intros; rfl) : SS G W X (.AugAssign (.Subscript o i tpos) op e pos) (mAugS f mo mi me) :=
  (ps_augS ho hi get_list he hp set_list ha).wk fun D σ H ⟨ρ, h, τ, m, s, p⟩ => tM_inS m s p fun x h1 ρ1 H1 u m1 e1 s1 r1 p1 => tM_inS m1 s1 p1 fun y h2 ρ2 H2 v m2 e2 s2 r2 p2 => by
    have r1 := r1.ext m1 e2
    cases x with
    | ref l =>
      cases y with
      | int k =>
        cases hm : memAt h2 l with
        | none => simp only [intAt, hm] at p2; exact p2.elim
        | some xs =>
          by_cases h0 : 0 ≤ k
          · have ei : intAt (.ref l) (.int k) h2 = (match xs[k.toNat]? with
              | some (.int a) => some (l, xs, k.toNat, a)
              | _ => none) := by
              simp only [intAt, hm]
              rw [decide_eq_true h0]
            rw [ei] at p2
            cases hx : xs[k.toNat]? with
            | none => rw [hx] at p2; exact p2.elim
            | some a0 =>
              rw [hx] at p2
              cases a0 with
              | int a0 =>
                simp only at p2
                obtain ⟨a, ql, eu⟩ := r1
                obtain ⟨ys, ea, rr⟩ := m2.obj l a _ ql (memAt_some hm)
                obtain ⟨w, hw, rw'⟩ := rr.at_ hx
                cases (show w = .int a0 from rw')
                refine ⟨a, ys, k, .int a0, eu, r2, ea, h0, hw, tM_inS m2 s2 p2 fun b h3 ρ3 H3 t m3 e3 s3 r3 p3 => ?_⟩
                cases b with
                | int c =>
                  cases (show t = .int c from r3)
                  cases hm3 : memAt h3 l with
                  | none => simp only [hm3] at p3; exact p3.elim
                  | some zs =>
                    simp only [hm3] at p3
                    by_cases hlt : k.toNat < zs.length
                    · rw [show Nat.blt k.toNat zs.length = true from by rw [Nat.blt_eq]; exact hlt] at p3
                      have q3 := e3.pre _ _ ql
                      obtain ⟨us, ea3, rr3⟩ := m3.obj l a _ q3 (memAt_some hm3)
                      have p3 : PostS G W ρ3 H3 (frLs (frV 3) (zs.set k.toNat (.int (f a0 c))) fun zs => sset h3 l (.lst zs) fun h => OS.mk (.nx τ) h) D := p3
                      rw [frLs_eq (frV_eq 3), sset_eq] at p3
                      have lu := rr3.len
                      refine ⟨a0, c, rfl, rfl, a, us, k, k.toNat, eu, r2, ea3, ?_, ?_⟩
                      · unfold L2.ixN; rw [if_pos h0, if_pos (by omega)]
                      · exact p3 ρ3 _ σ (m3.write q3 (rr3.set (show ValR G ρ3 H3 (.int (f a0 c)) (.int (f a0 c)) from rfl) _)) (Ext.writeAt m3 q3) (s3.ext m3 (Ext.writeAt m3 q3))
                    · rw [show Nat.blt k.toNat zs.length = false from by
                        cases z : Nat.blt k.toNat zs.length with
                        | false => rfl
                        | true => exact absurd (Nat.blt_eq ▸ z) hlt] at p3
                      exact p3.elim
                | _ => exact p3.elim
              | _ => exact p2.elim
          · simp only [intAt, hm] at p2
            rw [decide_eq_false h0] at p2
            exact p2.elim
      | _ => exact p2.elim
    | _ => exact p2.elim
end VE

noncomputable section
namespace VE
open PySem PySem.Spec PyProof.Rows L2 LamX
section
variable {X : Cx} {i : Nat} {y : Str} {py pos spos : Pos} {kx vx tg iter : Expr} {ifs : List Expr} {scope : Scope} {own : List (Str × Nat)} {wi : TI} {g : TG} {tt : TT} {tk tv : TE}
theorem ps_setDc (hc : X.calm = true) (hN : X.N.Nodup) (hy : X.N[i]? = some y) (hyl : X.env.scope.names.lookup y = some .local) (hsw : swapsWith (.DictComp kx vx [⟨tg, iter, ifs, 0⟩] scope pos) (some (.Name y py)) spos.line X.env = pure true)
    (hi : PI X tg iter wi) (ok : BlkOk X.N X.env.scope scope own) (hg : Blk X scope fun Y => PG Y tg g) (ht : Blk X scope fun Y => PTs Y ifs tt) (hk : Blk X scope fun Y => PE Y kx tk) (he : Blk X scope fun Y => PE Y vx tv) (hs : ∀ x, foldedSetIterable iter X.env x = pure x) :
    PS X (.Assign [.Name y py] (.DictComp kx vx [⟨tg, iter, ifs, 0⟩] scope pos) spos) (tAsg (tDc wi g tt tk tv (own.map (·.2))) (gName i)) := by
  refine ⟨fun pins s σ H D I h => ?_⟩
  have h : tDc wi g tt tk tv (own.map (·.2)) σ H (fun x H1 => gName i x σ H1 D.nx) := h
  rw [exec_Assign_Name_used _ _ _ _ hsw]
  refine wpAny_bind (wpAny_standAt (wpAny_bind ?_))
  show wpAny _ X.A (do let _ ← comprehension (.DictComp kx vx [⟨tg, iter, ifs, 0⟩] scope pos) scope X.env (firstIterPos [⟨tg, iter, ifs, 0⟩] pos) newDict false (eval iter X.env) (some (assign (.Name y py) X.env))) _ _ s
  refine wpAny_bind (thn (dc_core (Qf := fun _ s2 => SP X pins D .next s2) hc hN I hi ok hg ht hk he hs h fun L C s2 m H2 I2 q hn f => ?_) fun _ s2 hq => wpAny_pure (wpAny_pure hq))
  obtain ⟨a0, a1, a2, a3, a4, a5⟩ := f
  refine (show wpAny _ _ (assign (.Name y py) X.env (.ref L)) _ _ _ from wpAny_assign_Name (store_ok2 (v := V.ref L) I2 hN hy (.inl hyl) rfl (fun s3 I3 ⟨c, sb, hc2⟩ => ?_) (.inr hyl)))
  have nC : C ≠ c := hc2.elim (fun z => z ▸ a1) fun z w => a4 y c z w.symm
  exact ⟨m, hn.sameBut sb nC, fun h3 sb3 => ⟨_, H2, I3.turned (t' := s3.toks) (fun b o hb w => (sb3.2 b hb).trans w) a0 a1 a3 a4 a5, q⟩⟩
theorem sw_trueD {gs : List Comprehension} {l : Nat} {env : Env} (hk : env.scope.kind = .function) (hy : env.scope.names.lookup y = some .local) (hl : (py.line == pos.line) = true) (ha : (scope.names.any fun (n, k) => n == y && (k == .local || k == .cell)) = false) :
    swapsWith (.DictComp kx vx gs scope pos) (some (.Name y py)) l env = pure true := by
  have e1 : env.kindOf y = some .local := hy
  have e2 : env.blockKind = .function := by unfold Env.blockKind; rw [hk]; rfl
  unfold swapsWith
  simp only [e2, e1, ha, Expr.pos, hl]
  rfl
variable {G : Cfg} {W : WX} {it : Sl → M (List CV)} {gg : CV → Sl → M Sl} {bt : Sl → M Bool} {mk me : Sl → M CV}
theorem ss_setDc (hc : X.calm = true) (hN : X.N.Nodup) (hy : X.N[i]? = some y) (hyl : X.env.scope.names.lookup y = some .local) (hsw : swapsWith (.DictComp kx vx [⟨tg, iter, ifs, 0⟩] scope pos) (some (.Name y py)) spos.line X.env = pure true)
    (hi : SI G W X tg iter it) (ok : BlkOk X.N X.env.scope scope own) (hgg : LcG G g gg (own.map (·.2))) (hg : Blk X scope fun Y => PG Y tg g) (ht : Blk X scope fun Y => PTs Y ifs (tBo G W0 bt)) (hk : Blk X scope fun Y => SE G W0 Y kx mk) (he : Blk X scope fun Y => SE G W0 Y vx me)
    (hs : ∀ x, foldedSetIterable iter X.env x = pure x := by intro _; rfl) (hfv : (own.map (·.2)).all G.fr = true := by rfl) (hfr : G.fr i = true := by rfl) :
    SS G W X (.Assign [.Name y py] (.DictComp kx vx [⟨tg, iter, ifs, 0⟩] scope pos) spos) (mAsg (gSet i) (eDc it gg bt mk me (own.map (·.2)))) := (ps_setDc hc hN hy hyl hsw hi ok hg ht hk he hs).wk fun D σ H q => asg_red (fun σ H Q q => dc_red hgg hfv q) hfr q
end
end VE

noncomputable section
namespace VE
open PySem PySem.Spec PyProof.Rows L2 LamX
def eDOneE (mk mv : Sl → M CV) : Sl → M CV := fun τ h => match mk τ h with
  | .ok x h1 => match mv τ h1 with
    | .ok y h2 => Bool.rec .bad (frV 3 y fun y => frN h2.length fun n => sapp h2 [.dic false false [x] [y]] fun h => .ok (.ref n) h) (isKey x)
    | _ => .bad
  | _ => .bad
section
variable {G : Cfg} {W : WX} {X : Cx} {pos : Pos} {k v : Expr} {mk mv : Sl → M CV}
theorem se_dOneE (hk : SE G W0 X k mk) (hv : SE G W0 X v mv) : SE G W X (.Dict [some k] [v] pos) (eDOneE mk mv) :=
  (pe_disp (pps_cons hk hv pps_nil) rfl rfl (by simp) (Nat.le_of_ble_eq_true rfl)).wk fun σ H Q ⟨ρ, h, τ, m, s, p⟩ q hq => by
    have p : Post G W (ValR G) σ ρ H (eDOneE mk mv τ h) Q := p
    unfold eDOneE at p
    have mh : MemR G ⟨q :: ρ.d, ρ.r⟩ h (upd H q (.dK [])) := m.hideO hq (.inr (.inl ⟨[], rfl⟩))
    have x0 : Ext ρ H ⟨ρ.d, ρ.r⟩ (upd H q (.dK [])) := Ext.laid hq
    have xH : ExtH ρ H ⟨q :: ρ.d, ρ.r⟩ (upd H q (.dK [])) := ⟨fun a ha => by
      rcases List.mem_cons.mp ha with z | z
      · exact .inr (z ▸ hq)
      · exact .inl z, x0.pre, fun a o e n t => x0.keep a o e (fun z => n (.inl z)) t, x0.new⟩
    have sh : SlR G ⟨q :: ρ.d, ρ.r⟩ (upd H q (.dK [])) τ σ := ⟨s.1, fun i w z => let ⟨u, a, b⟩ := s.2.1 i w z; ⟨u, a, b.extH m xH⟩, s.2.2⟩
    have qr : q ∉ ρ.r := (mh.hid q List.mem_cons_self).2
    have qd : q ∉ ρ.d := fun z => by
      obtain ⟨⟨_, w, _⟩, _⟩ := m.hid q z
      rw [hq] at w; cases w
    cases z1 : mk τ h with
    | exc _ _ => rw [z1] at p; exact p.elim
    | bad => rw [z1] at p; exact p.elim
    | ok x h1 =>
      rw [z1] at p
      simp only at p
      refine ⟨_, h, τ, mh, sh, ?_⟩
      rw [z1]
      intro ρ1 H1 u m1 e1 r1
      cases z2 : mv τ h1 with
      | exc _ _ => rw [z2] at p; exact p.elim
      | bad => rw [z2] at p; exact p.elim
      | ok y h2 =>
        rw [z2] at p
        simp only at p
        refine ⟨ρ1, h1, τ, m1, sh.ext mh e1, ?_⟩
        rw [z2]
        intro ρ2 H2 w m2 e2 r2
        by_cases kx : isKey x = true
        · obtain ⟨kk, rfl⟩ := isKey_of kx
          rw [kx] at p
          have ek := keyC_kV r1
          subst ek
          have p : Post G W (ValR G) σ ρ H (frV 3 y fun y => frN h2.length fun n => sapp h2 [.dic false false [keyC kk] [y]] fun h => Out.ok (.ref n) h) Q := p
          rw [frV_eq, frN_eq, sapp_eq] at p
          have e12 := e1.trans e2
          have hid := e12.hid
          have at_ : H2 q = some (.dK []) := e12.keep q _ upd_same qr fun _ z => by cases z
          obtain ⟨d2, r2'⟩ := ρ2
          cases hid
          have nD : q ∉ r2' := (m2.hid q List.mem_cons_self).2
          refine ⟨at_, [(kk, w)], rfl, Nat.le_of_ble_eq_true rfl, ?_⟩
          have ew : ValsR G ⟨q :: ρ.d, r2'⟩ (upd H2 q (.dK [(kk, w)])) [y] [w] := (show ValsR G ⟨q :: ρ.d, r2'⟩ H2 [y] [w] from ⟨w, [], rfl, r2, rfl⟩).wr (.inr List.mem_cons_self) ⟨_, at_, .inr (.inl ⟨_, rfl⟩)⟩
          have m3 : MemR G ⟨q :: ρ.d, r2'⟩ h2 (upd H2 q (.dK [(kk, w)])) := m2.hidwrO List.mem_cons_self (.inr (.inl ⟨_, rfl⟩))
          have m4 := m3.unhidO (co := .dic false false [keyC kk] [y]) ⟨_, (fun z => nomatch z), fun _ => upd_same, fun z => (nomatch z), fun _ => ⟨[(kk, w)], rfl, rfl, ew⟩⟩ qd
          have em : mergeK [] [(kk, w)] = [(kk, w)] := rfl
          rw [em]
          refine p ⟨ρ.d, r2' ++ [q]⟩ _ _ m4 ?_ ⟨q, ?_, rfl⟩
          · refine ⟨rfl, fun i a z => ?_, fun a o z n t => ?_, fun a ps z => ?_, fun a z => ?_⟩
            · have z2 := e12.pre i a z
              have hi : i < r2'.length := (List.getElem?_eq_some_iff.mp z2).1
              show (r2' ++ [q])[i]? = some a
              rw [List.getElem?_append_left hi]; exact z2
            · rw [upd_ne (ne_of_none z hq)]
              exact e12.keep a o (by rw [upd_ne (ne_of_none z hq)]; exact z) n t
            · rw [upd_ne (ne_of_none z hq)]
              exact e12.tbl a ps (by rw [upd_ne (ne_of_none z hq)]; exact z)
            · rcases List.mem_append.mp z with z | z
              · rcases e12.new a z with z2 | z2
                · exact .inl z2
                · by_cases c : a = q
                  · exact .inr (c ▸ hq)
                  · rw [upd_ne c] at z2; exact .inr z2
              · rw [List.mem_singleton.mp z]; exact .inr hq
          · show (r2' ++ [q])[h2.length]? = some q
            rw [← m2.len]; simp
        · rw [Bool.not_eq_true] at kx; rw [kx] at p; exact p.elim
end
end VE

noncomputable section
namespace VE
open PySem PySem.Spec PyProof.Rows L2 LamX
mutual
/-- two keys are one -/
def keq : CV → CV → Bool
  | .non, .non => true
  | .int i, .int j => decide (i = j)
  | .str a, .str b => decide (a = b)
  | .tup xs, .tup ys => keqs xs ys
  | _, _ => false
def keqs : List CV → List CV → Bool
  | [], [] => true
  | x :: xs, y :: ys => keq x y && keqs xs ys
  | _, _ => false
end
theorem nkey_tup {xs : List CV} {k : NestedKey} (e : nkey (.tup xs) = some k) : ∃ ks, k = .tup ks ∧ nkeys xs = some ks := by
  rw [nkey] at e
  cases q : nkeys xs with
  | none => rw [q] at e; cases e
  | some ks => rw [q] at e; cases e; exact ⟨ks, rfl, rfl⟩
theorem nkeys_cons {x : CV} {xs : List CV} {ks : List NestedKey} (e : nkeys (x :: xs) = some ks) : ∃ k r, ks = k :: r ∧ nkey x = some k ∧ nkeys xs = some r := by
  rw [nkeys] at e
  cases q : nkey x with
  | none => rw [q] at e; cases e
  | some k =>
    cases q2 : nkeys xs with
    | none => rw [q, q2] at e; cases e
    | some r => rw [q, q2] at e; cases e; exact ⟨k, r, rfl, rfl, rfl⟩
mutual
theorem keq_beq : ∀ (x y : CV) (k l : NestedKey), nkey x = some k → nkey y = some l → keq x y = NestedKey.beq k l
  | .non, y, k, l, e, f => by
    cases e
    cases y <;> first | (obtain ⟨_, rfl, _⟩ := nkey_tup f; rfl) | (simp only [nkey, Option.some.injEq] at f; subst f; rfl) | (simp [nkey] at f; done)
  | .int i, y, k, l, e, f => by
    cases e
    cases y <;> first | (obtain ⟨_, rfl, _⟩ := nkey_tup f; rfl) | (simp only [nkey, Option.some.injEq] at f; subst f; rfl) | (simp [nkey] at f; done)
  | .str i, y, k, l, e, f => by
    cases e
    cases y <;> first | (obtain ⟨_, rfl, _⟩ := nkey_tup f; rfl) | (simp only [nkey, Option.some.injEq] at f; subst f; rfl) | (simp [nkey] at f; done)
  | .tup xs, y, k, l, e0, f => by
    obtain ⟨ks, rfl, e⟩ := nkey_tup e0
    cases y with
    | tup ys =>
      obtain ⟨ls, rfl, f2⟩ := nkey_tup f
      exact keqs_beq xs ys ks ls e f2
    | _ => first | (simp only [nkey, Option.some.injEq] at f; subst f; rfl) | (simp [nkey] at f; done)
  | .bl _, y, k, l, e, f => by simp [nkey] at e
  | .lst _, y, k, l, e, f => by simp [nkey] at e
  | .frz _, y, k, l, e, f => by simp [nkey] at e
  | .ref _, y, k, l, e, f => by simp [nkey] at e
  | .cls _, y, k, l, e, f => by simp [nkey] at e
  | .fn _, y, k, l, e, f => by simp [nkey] at e
  | .ty _, y, k, l, e, f => by simp [nkey] at e
  | .ins _ _, y, k, l, e, f => by simp [nkey] at e
  | .dic _ _ _, y, k, l, e, f => by simp [nkey] at e
theorem keqs_beq : ∀ (xs ys : List CV) (k l : List NestedKey), nkeys xs = some k → nkeys ys = some l → keqs xs ys = NestedKey.beqAll k l
  | [], [], k, l, e, f => by cases e; cases f; rfl
  | [], y :: ys, k, l, e, f => by cases e; obtain ⟨_, _, rfl, _, _⟩ := nkeys_cons f; rfl
  | x :: xs, [], k, l, e, f => by cases f; obtain ⟨_, _, rfl, _, _⟩ := nkeys_cons e; rfl
  | x :: xs, y :: ys, k, l, e, f => by
    obtain ⟨k1, k2, rfl, e1, e2⟩ := nkeys_cons e
    obtain ⟨l1, l2, rfl, f1, f2⟩ := nkeys_cons f
    show (keq x y && keqs xs ys) = (NestedKey.beq k1 l1 && NestedKey.beqAll k2 l2)
    rw [keq_beq x y k1 l1 e1 f1, keqs_beq xs ys k2 l2 e2 f2]
end
theorem keq_eq {x y : CV} {k l : NestedKey} (e : nkey x = some k) (f : nkey y = some l) : keq x y = decide (k = l) := (keq_beq x y k l e f).trans (NestedKey.decide_eq k l).symm
/-- a tuple that may be a key -/
def isTK (x : CV) : Bool := match x with
  | .tup xs => match nkeys xs with
    | some ks => Nat.ble (NestedKey.depth (.tup ks)) 8
    | none => false
  | _ => false
theorem isTK_of {x : CV} (h : isTK x = true) : ∃ xs k, x = .tup xs ∧ nkey x = some k ∧ k.depth ≤ 8 := by
  cases x with
  | tup xs =>
    unfold isTK at h
    cases q : nkeys xs with
    | none => simp only [q] at h; cases h
    | some ks =>
      simp only [q] at h
      exact ⟨xs, .tup ks, rfl, by rw [nkey, q], Nat.ble_eq.mp h⟩
  | _ => cases h
def dgetN (ks : List CV) (k : CV) : List CV → Option CV := List.rec (fun _ => none) (fun x _ ih vs => List.rec none (fun v t _ => Bool.rec (ih t) (some v) (keq x k)) vs) ks
def dhasN (ks : List CV) (k : CV) : Bool := List.rec false (fun x _ ih => Bool.rec ih true (keq x k)) ks
def drepN {α : Type} (ks : List CV) (k v : CV) : List CV → (List CV → α) → α := List.rec (fun _ c => c []) (fun x _ ih vs c => List.rec (c []) (fun y t _ => Bool.rec (ih t fun r => c (y :: r)) (ih t fun r => c (v :: r)) (keq x k)) vs) ks
def dputN {α : Type} (ks vs : List CV) (k v : CV) (c : List CV → List CV → α) : α := Bool.rec (sapp ks [k] fun ks' => sapp vs [v] fun vs' => c ks' vs') (drepN ks k v vs fun vs' => c ks vs') (dhasN ks k)
/-- what stands at a key -/
def atE (es : Ents) (k : NestedKey) : Option V := (es.find? fun e => decide (e.1 = k)).map (·.2.2)
def putE (es : Ents) (k : NestedKey) (b : Addr) (v : V) : Ents := if (atE es k).isSome then es.map (fun e => if e.1 = k then (e.1, e.2.1, v) else e) else es ++ [(k, b, v)]
theorem atE_pos {p : NestedKey × Addr × V} {r : Ents} {k : NestedKey} (e : p.1 = k) : atE (p :: r) k = some p.2.2 := by simp [atE, List.find?_cons, e]
theorem atE_neg {p : NestedKey × Addr × V} {r : Ents} {k : NestedKey} (e : ¬ p.1 = k) : atE (p :: r) k = atE r k := by simp [atE, List.find?_cons, e]
theorem atE_rel {es : Ents} {xs : List (NestedKey × Addr × Value)} (r : Paired EntR es xs) (k : NestedKey) : RelO (atE es k) ((atKey xs k).map (·.2)) := by
  induction r with
  | nil => exact True.intro
  | @cons p q ps qs h t ih =>
    obtain ⟨h1, _, h2⟩ := h
    by_cases e : p.1 = k
    · have e' : q.1 = k := h1.symm.trans e
      have b : atKey (q :: qs) k = some q.2 := by simp [atKey, List.find?_cons, e']
      rw [atE_pos e, b]; exact h2
    · have e' : ¬ q.1 = k := fun z => e (h1.trans z)
      have b : atKey (q :: qs) k = atKey qs k := by simp [atKey, List.find?_cons, e']
      rw [atE_neg e, b]; exact ih
theorem putE_rel {es : Ents} {xs : List (NestedKey × Addr × Value)} (r : Paired EntR es xs) (k : NestedKey) {b : Addr} {v : V} {u : Value} (rv : RelV v u) : Paired EntR (putE es k b v) (storedH xs k b u) := by
  have e : (atE es k).isSome = (atKey xs k).isSome := by rw [(atE_rel r k).isSome_eq, Option.isSome_map]
  unfold putE storedH
  rw [e]
  by_cases q : (atKey xs k).isSome = true
  · rw [if_pos q, if_pos q]
    clear e q
    induction r with
    | nil => exact .nil
    | @cons p q ps qs h t ih =>
      rw [List.map_cons, List.map_cons]
      refine .cons ?_ ih
      obtain ⟨h1, h2, h3⟩ := h
      unfold putAt
      by_cases e : p.1 = k
      · rw [if_pos e, if_pos (h1.symm.trans e)]; exact ⟨h1, h2, rv⟩
      · rw [if_neg e, if_neg (fun z => e (h1.trans z))]; exact ⟨h1, h2, h3⟩
  · rw [if_neg q, if_neg q]; exact Paired.snoc r ⟨rfl, rfl, rv⟩
theorem putE_len (es : Ents) (k : NestedKey) (b : Addr) (v : V) : (putE es k b v).length ≤ es.length + 1 := by
  unfold putE
  split
  · rw [List.length_map]; omega
  · rw [List.length_append, List.length_cons, List.length_nil]; omega
theorem putE_depth {es : Ents} {k : NestedKey} {b : Addr} {v : V} (h : ∀ e ∈ es, e.1.depth ≤ 8) (hk : k.depth ≤ 8) : ∀ e ∈ putE es k b v, e.1.depth ≤ 8 := by
  unfold putE
  split
  · intro e he
    obtain ⟨p, hp, rfl⟩ := List.mem_map.mp he
    split
    · exact h p hp
    · exact h p hp
  · intro e he
    rcases List.mem_append.mp he with z | z
    · exact h e z
    · rw [List.mem_singleton.mp z]; exact hk
section
variable {G : Cfg} {ρ : Wd} {H : Hp}
theorem dgetN_r {k : NestedKey} {x : CV} (hx : nkey x = some k) : ∀ (es : Ents) (ks vs : List CV), nkeys ks = some (es.map (·.1)) → ValsR G ρ H vs (es.map (·.2.2)) → (dgetN ks x vs = none → atE es k = none) ∧ ∀ v, dgetN ks x vs = some v → ∃ u, atE es k = some u ∧ ValR G ρ H v u
  | [], ks, vs, e, _ => by
    cases ks with
    | nil => exact ⟨fun _ => rfl, fun v z => nomatch (show (none : Option CV) = some v from z)⟩
    | cons y ys => obtain ⟨_, _, z, _, _⟩ := nkeys_cons e; cases z
  | p :: r, [], vs, e, _ => by cases e
  | p :: r, y :: ks, [], _, q => nomatch (show p.2.2 :: r.map (·.2.2) = [] from q)
  | p :: r, y :: ks, v :: vs, e, q => by
    obtain ⟨u, t, eq, r1, r2⟩ := q
    cases eq
    obtain ⟨a, b, z, e1, e2⟩ := nkeys_cons e
    cases z
    obtain ⟨i1, i2⟩ := dgetN_r hx r ks vs e2 r2
    have st : dgetN (y :: ks) x (v :: vs) = (Bool.rec (dgetN ks x vs) (some v) (keq y x) : Option CV) := rfl
    rw [st, keq_eq e1 hx]
    by_cases c : p.1 = k
    · rw [decide_eq_true c, atE_pos c]
      exact ⟨fun z => (nomatch (show some v = none from z)), fun w z => by cases (show some v = some w from z); exact ⟨_, rfl, r1⟩⟩
    · rw [decide_eq_false c, atE_neg c]
      exact ⟨i1, i2⟩
theorem dhasN_eq {k : NestedKey} {x : CV} (hx : nkey x = some k) : ∀ (es : Ents) (ks : List CV), nkeys ks = some (es.map (·.1)) → dhasN ks x = (atE es k).isSome
  | [], ks, e => by
    cases ks with
    | nil => rfl
    | cons y ys => obtain ⟨_, _, z, _, _⟩ := nkeys_cons e; cases z
  | p :: r, [], e => by cases e
  | p :: r, y :: ks, e => by
    obtain ⟨a, b, z, e1, e2⟩ := nkeys_cons e
    cases z
    have st : dhasN (y :: ks) x = (Bool.rec (dhasN ks x) true (keq y x) : Bool) := rfl
    rw [st, keq_eq e1 hx, dhasN_eq hx r ks e2]
    by_cases c : p.1 = k
    · rw [decide_eq_true c, atE_pos c]; rfl
    · rw [decide_eq_false c, atE_neg c]
theorem drepN_r {α : Type} {k : NestedKey} {x v : CV} {u : V} (hx : nkey x = some k) (rv : ValR G ρ H v u) : ∀ (es : Ents) (ks vs : List CV) (c : List CV → α), nkeys ks = some (es.map (·.1)) → ValsR G ρ H vs (es.map (·.2.2)) →
    ∃ vs', drepN ks x v vs c = c vs' ∧ ValsR G ρ H vs' ((es.map fun e => if e.1 = k then (e.1, e.2.1, u) else e).map (·.2.2))
  | [], ks, vs, c, e, _ => by
    cases ks with
    | nil => exact ⟨[], rfl, rfl⟩
    | cons y ys => obtain ⟨_, _, z, _, _⟩ := nkeys_cons e; cases z
  | p :: r, [], vs, c, e, _ => by cases e
  | p :: r, y :: ks, [], c, _, q => nomatch (show p.2.2 :: r.map (·.2.2) = [] from q)
  | p :: r, y :: ks, w :: vs, c, e, q => by
    obtain ⟨u1, t, eq, r1, r2⟩ := q
    cases eq
    obtain ⟨a, b, z, e1, e2⟩ := nkeys_cons e
    cases z
    have st : drepN (y :: ks) x v (w :: vs) c = (Bool.rec (drepN ks x v vs fun r => c (w :: r)) (drepN ks x v vs fun r => c (v :: r)) (keq y x) : α) := rfl
    rw [st, keq_eq e1 hx]
    by_cases z : p.1 = k
    · obtain ⟨vs', f1, f2⟩ := drepN_r hx rv r ks vs (fun r => c (v :: r)) e2 r2
      rw [decide_eq_true z]
      refine ⟨v :: vs', f1, u, _, ?_, rv, f2⟩
      rw [List.map_cons, List.map_cons, if_pos z]
    · obtain ⟨vs', f1, f2⟩ := drepN_r hx rv r ks vs (fun r => c (w :: r)) e2 r2
      rw [decide_eq_false z]
      refine ⟨w :: vs', f1, p.2.2, _, ?_, r1, f2⟩
      rw [List.map_cons, List.map_cons, if_neg z]
theorem nkeys_app : ∀ {ks : List CV} {l : List NestedKey} {x : CV} {k : NestedKey}, nkeys ks = some l → nkey x = some k → nkeys (ks ++ [x]) = some (l ++ [k])
  | [], l, x, k, e, f => by
    cases e
    show nkeys [x] = _
    rw [nkeys, f]
    rfl
  | y :: ys, l, x, k, e, f => by
    obtain ⟨a, b, rfl, e1, e2⟩ := nkeys_cons e
    show nkeys (y :: (ys ++ [x])) = _
    rw [nkeys, e1, nkeys_app e2 f]
    rfl
theorem dputN_r {α : Type} {k : NestedKey} {x v : CV} {b : Addr} {u : V} (hx : nkey x = some k) (rx : ValR G ρ H x (.ref b)) (rv : ValR G ρ H v u) (es : Ents) (ks vs : List CV) (c : List CV → List CV → α) (e : nkeys ks = some (es.map (·.1))) (rk : ValsR G ρ H ks (es.map fun e => V.ref e.2.1)) (r : ValsR G ρ H vs (es.map (·.2.2))) :
    ∃ ks' vs', dputN ks vs x v c = c ks' vs' ∧ nkeys ks' = some ((putE es k b u).map (·.1)) ∧ ValsR G ρ H ks' ((putE es k b u).map fun e => V.ref e.2.1) ∧ ValsR G ρ H vs' ((putE es k b u).map (·.2.2)) := by
  unfold dputN putE
  rw [dhasN_eq hx es ks e]
  by_cases z : (atE es k).isSome = true
  · rw [z, if_pos rfl]
    obtain ⟨vs', e1, e2⟩ := drepN_r hx rv es ks vs (fun vs' => c ks vs') e r
    refine ⟨ks, vs', e1, ?_, ?_, e2⟩
    · rw [e, List.map_map]
      refine congrArg some (List.map_congr_left fun p _ => ?_)
      show p.1 = (if p.1 = k then (p.1, p.2.1, u) else p).1
      split <;> rfl
    · have : (es.map fun e => if e.1 = k then (e.1, e.2.1, u) else e).map (fun e => V.ref e.2.1) = es.map fun e => V.ref e.2.1 := by
        rw [List.map_map]
        refine List.map_congr_left fun p _ => ?_
        show V.ref (if p.1 = k then (p.1, p.2.1, u) else p).2.1 = V.ref p.2.1
        split <;> rfl
      rw [this]; exact rk
  · rw [Bool.not_eq_true] at z
    rw [z, if_neg Bool.false_ne_true]
    refine ⟨ks ++ [x], vs ++ [v], ?_, ?_, ?_, ?_⟩
    · show sapp _ _ _ = _
      rw [sapp_eq, sapp_eq]
    · rw [List.map_append]
      exact nkeys_app e hx
    · rw [List.map_append]
      exact rk.app1 rx
    · rw [List.map_append]
      exact r.app1 rv
end
mutual
theorem nis_of {G : Cfg} {X : Cx} {pins : List (Addr × Obj)} {σ : L2.St} {H : Hp} {s : Shared} {ρ : Wd} (hK : G.K = X.K) (I : Inv X pins σ H s) : ∀ (x : CV) (v : V) (u : Value) (k : NestedKey), ValR G ρ H x v → RelV v u → nkey x = some k → NestedIs s.heap k u
  | .non, v, u, k, r, ru, e => by
    cases e; cases (show v = .non from r); cases (show u = Value.none from ru); exact .none
  | .int i, v, u, k, r, ru, e => by
    cases e; cases (show v = .int i from r); obtain ⟨t, rfl⟩ := (show ∃ t, u = Value.int i t from ru); exact .int _ _
  | .str i, v, u, k, r, ru, e => by
    cases e; cases (show v = .str i from r); obtain ⟨t, rfl⟩ := (show ∃ t, u = Value.str i t from ru); exact .text _ _
  | .tup xs, v, u, k, ⟨a, ys, ev, sq, rs⟩, ru, e0 => by
    obtain ⟨ks, rfl, e⟩ := nkey_tup e0
    subst ev
    cases (show u = Value.ref a from ru)
    rw [hK] at sq
    obtain ⟨its, rv, ht, _⟩ := I.tuple sq
    obtain ⟨o, ho, hc, n, hd⟩ := ht
    exact .tup ho hc hd (by simpa using niss_of hK I xs ys its ks rs rv e)
  | .bl _, v, u, k, r, ru, e => by simp [nkey] at e
  | .lst _, v, u, k, r, ru, e => by simp [nkey] at e
  | .frz _, v, u, k, r, ru, e => by simp [nkey] at e
  | .ref _, v, u, k, r, ru, e => by simp [nkey] at e
  | .cls _, v, u, k, r, ru, e => by simp [nkey] at e
  | .fn _, v, u, k, r, ru, e => by simp [nkey] at e
  | .ty _, v, u, k, r, ru, e => by simp [nkey] at e
  | .ins _ _, v, u, k, r, ru, e => by simp [nkey] at e
  | .dic _ _ _, v, u, k, r, ru, e => by simp [nkey] at e
theorem niss_of {G : Cfg} {X : Cx} {pins : List (Addr × Obj)} {σ : L2.St} {H : Hp} {s : Shared} {ρ : Wd} (hK : G.K = X.K) (I : Inv X pins σ H s) : ∀ (xs : List CV) (vs : List V) (us : List Value) (ks : List NestedKey), ValsR G ρ H xs vs → Vals vs us → nkeys xs = some ks → NestedAll s.heap ks us
  | [], vs, us, ks, r, ru, e => by
    cases e; cases (show vs = [] from r); cases ru; exact .nil
  | x :: xs, vs, us, ks, ⟨y, t, ev, r1, r2⟩, ru, e => by
    obtain ⟨k1, k2, rfl, e1, e2⟩ := nkeys_cons e
    subst ev
    cases ru with
    | cons h1 h2 => exact .cons (nis_of hK I x y _ k1 r1 h1 e1) (niss_of hK I xs t _ k2 r2 h2 e2)
end
/-- v is the tuple that is the key k -/
def NKey (G : Cfg) (H : Hp) (v : V) (k : NestedKey) : Prop := ∃ ρ x b, ValR G ρ H x v ∧ v = .ref b ∧ nkey x = some k ∧ k.depth ≤ 8
/-- at a stands the dict of these pairs -/
def NDict (G : Cfg) (H : Hp) (a : Addr) (es : Ents) : Prop := (Rd H a (dN G.P G.w a es) ∧ ∃ ρ ks, nkeys ks = some (es.map (·.1)) ∧ ValsR G ρ H ks (es.map fun e => V.ref e.2.1)) ∨ (es = [] ∧ Rd H a (.dK []))
/-- the context's program is the configuration's -/
structure SameG (G : Cfg) (X : Cx) : Prop where
  k : G.K = X.K
  p : G.P = X.prog
  w : G.w = X.w
theorem Bx.same {G : Cfg} {W : WX} {X : Cx} (B : Bx G W X) : SameG G X := ⟨B.k, B.p, B.w⟩
section
variable {G : Cfg} {X : Cx} {pins : List (Addr × Obj)} {σ : L2.St} {H : Hp} {s : Shared} {a : Addr} {es : Ents}
theorem nkey_is (S : SameG G X) (I : Inv X pins σ H s) {v : V} {u : Value} {k : NestedKey} (n : NKey G H v k) (ru : RelV v u) : ∃ b, u = .ref b ∧ (nestedKind X.prog X.w).is s.heap k b := by
  obtain ⟨ρ, x, b, r, e, hk, hd⟩ := n
  subst e
  cases (show u = Value.ref b from ru)
  exact ⟨b, rfl, nis_of S.k I x _ _ k r rfl hk, hd⟩
theorem nd_of (S : SameG G X) (I : Inv X pins σ H s) (n : NDict G H a es) : es.length ≤ sizeLine ∧ (a == sysModules) = false ∧ (∀ e ∈ es, e.1.depth ≤ 8) ∧ ∃ xs, Paired EntR es xs ∧ s.heap.DictOfH (nestedKind X.prog X.w) a xs := by
  rcases n with ⟨r, ρ, ks, e1, e2⟩ | ⟨rfl, r⟩
  · have q := r.ok I.hok
    unfold dN at q
    obtain ⟨⟨z1, z2, z3, xs, o, ds, ep, pr, h1, h2, h3, h4, h5⟩, zz⟩ := q
    rw [S.p, S.w] at h4
    refine ⟨z1, z2, z3, xs, pr, o, ds, ep, h1, h2, h3, h4, ?_, h5⟩
    clear h4 h5 h3 h2 h1 z1 r zz
    induction pr generalizing ks with
    | nil => intro x hx; cases hx
    | @cons p q ps qs hq t ih =>
      cases ks with
      | nil => cases e1
      | cons y ys =>
        obtain ⟨k1, k2, ek, f1, f2⟩ := nkeys_cons e1
        cases ek
        obtain ⟨y', t', ev, r1, r2⟩ := e2
        cases ev
        intro x hx
        rcases List.mem_cons.mp hx with z | z
        · subst z
          rw [← hq.1, ← hq.2.1]
          exact ⟨nis_of S.k I y _ _ _ r1 rfl f1, z3 p List.mem_cons_self⟩
        · exact ih ys f2 r2 (fun e he => z3 e (List.mem_cons_of_mem _ he)) x z
  · obtain ⟨z, hd, vs, rel, o, ds, ep, h1, h2, h3, h4⟩ := dk_rd I.hok r
    cases rel
    refine ⟨Nat.zero_le _, hd, fun e he => (nomatch he), [], .nil, o, ds, ep, h1, h2, h3, ?_, fun x hx => (nomatch hx), List.nodup_nil⟩
    obtain ⟨h5, h6, h7⟩ := h4
    have h6 := h6.length
    exact List.length_eq_zero_iff.mp (by simpa using h6)
theorem NDict.typeIs (S : SameG G X) (I : Inv X pins σ H s) (n : NDict G H a es) : s.TypeIs (.ref a) "dict" := by
  obtain ⟨_, _, _, xs, _, o, _, _, h1, h2, _⟩ := nd_of S I n
  exact ⟨o, h1, h2.1⟩
end
end VE

noncomputable section
namespace VE
open PySem PySem.Spec PyProof.Rows L2 LamX
/-- what the dict at a holds at the key y -/
def GetU (G : Cfg) (H : Hp) (a : Addr) (y : V) (o : Option V) : Prop := DGet H a y o ∨ ∃ es k, NDict G H a es ∧ NKey G H y k ∧ o = atE es k
/-- at a stands the dict of these pairs, to be written -/
def WDict (G : Cfg) (H : Hp) (a : Addr) (es : Ents) : Prop := (H a = some (dN G.P G.w a es) ∧ ∃ ρ ks, nkeys ks = some (es.map (·.1)) ∧ ValsR G ρ H ks (es.map fun e => V.ref e.2.1)) ∨ (es = [] ∧ H a = some (.dK []))
def PutU (G : Cfg) (H : Hp) (a : Addr) (y v : V) (H' : Hp) : Prop := (∃ kvs k, H a = some (.dK kvs) ∧ y = kV k ∧ kvs.length < sizeLine ∧ H' = upd H a (.dK (putK kvs k v))) ∨ ∃ es k b, WDict G H a es ∧ y = .ref b ∧ NKey G H y k ∧ es.length < sizeLine ∧ H' = upd H a (dN G.P G.w a (putE es k b v))
theorem WDict.nd {G : Cfg} {H : Hp} {a : Addr} {es : Ents} (w : WDict G H a es) : NDict G H a es := w.imp (fun ⟨r, z⟩ => ⟨.inl r, z⟩) fun ⟨e, r⟩ => ⟨e, .inl r⟩
theorem WDict.mut {G : Cfg} {H : Hp} {a : Addr} {es : Ents} (w : WDict G H a es) : Mut (H a) := by
  rcases w with ⟨r, _⟩ | ⟨_, r⟩
  · rw [r]; unfold dN; exact True.intro
  · rw [r]; exact True.intro
theorem dN_obj {P P' : Program} {w w' : World} {H : Hp} {h : Heap} {a : Addr} {es : Ents} (hP : P' = P) (hw : w' = w) (z : es.length ≤ sizeLine) (hd : (a == sysModules) = false) (dp : ∀ e ∈ es, e.1.depth ≤ 8) {xs : List (NestedKey × Addr × Value)} (r : Paired EntR es xs) (d : h.DictOfH (nestedKind P w) a xs) :
    ObjOk P w H h a (dN P' w' a es) := by
  subst hP hw
  obtain ⟨o, ds, ep, h1, h2, h3, h4, _, h5⟩ := d
  unfold dN
  exact ⟨⟨z, hd, dp, xs, o, ds, ep, r, h1, h2, h3, h4, h5⟩, ⟨o, h1⟩, fun g1 g2 ⟨a1, a2, a3, xs, o, ds, ep, b1, b2, b3⟩ k => ⟨a1, a2, a3, xs, o, ds, ep, b1, k o b2, b3⟩⟩
section
variable {G : Cfg} {X : Cx} {pins : List (Addr × Obj)} {σ : L2.St} {H : Hp} {s : Shared} {a : Addr} {y v d : V} {u r : Value} {o : Option V} {A : Around} {E : Value → Shared → Prop}
theorem roomN (hu : A.units + 20 < cLine) : (nestedKind X.prog X.w).room A.in1 := by
  show A.units + 1 + 8 < cLine
  omega
theorem getU_type (S : SameG G X) (I : Inv X pins σ H s) (g : GetU G H a y o) : s.TypeIs (.ref a) "dict" := by
  rcases g with g | ⟨es, k, n, _, _⟩
  · exact dict_typeIs I g
  · exact n.typeIs S I
theorem getU_item {Q : Value → Shared → Prop} (S : SameG G X) (hu : A.units + 20 < cLine) (I : Inv X pins σ H s) (g : GetU G H a y (some v)) (ry : RelV y u) (h : ∀ w' s', Inv X pins σ H s' → RelV v w' → Q w' s') :
    wpAny (model X.prog X.w) A (getItem (.ref a) u) Q E s := by
  rcases g with g | ⟨es, k, n, nk, e⟩
  · exact d_getItem (by omega) I g ry h
  · obtain ⟨b, rfl, hk⟩ := nkey_is S I nk ry
    obtain ⟨_, _, _, xs, rel, dd⟩ := nd_of S I n
    obtain ⟨w', hw, rw'⟩ := RelO.some_of (v := v) (o := (atKey xs k).map (·.2)) (by rw [e]; exact atE_rel rel k)
    obtain ⟨p, hp, hp2⟩ := Option.map_eq_some_iff.mp hw
    refine wpAny_getItem_heap (roomN hu) hk dd hp ?_
    rw [hp2]
    exact h w' _ (I.tok _) rw'
theorem getU_in {Q : Value → Shared → Prop} (S : SameG G X) (hu : A.units + 20 < cLine) (I : Inv X pins σ H s) (g : GetU G H a y o) (ry : RelV y u) (h : ∀ s', Inv X pins σ H s' → Q (.bool o.isSome) s') :
    wpAny (model X.prog X.w) A (compareOp .In u (.ref a)) Q E s := by
  rcases g with g | ⟨es, k, n, nk, e⟩
  · exact d_in (by omega) I g ry h
  · obtain ⟨b, rfl, hk⟩ := nkey_is S I nk ry
    obtain ⟨_, hd, _, xs, rel, dd⟩ := nd_of S I n
    refine wpAny_in_heap (roomN hu) hk hd dd ?_
    have q := (atE_rel rel k).isSome_eq
    rw [Option.isSome_map] at q
    rw [← q, ← e]
    exact h _ (I.tok _)
theorem getU_notIn {Q : Value → Shared → Prop} (S : SameG G X) (hu : A.units + 20 < cLine) (I : Inv X pins σ H s) (g : GetU G H a y o) (ry : RelV y u) (h : ∀ s', Inv X pins σ H s' → Q (.bool (!o.isSome)) s') :
    wpAny (model X.prog X.w) A (compareOp .NotIn u (.ref a)) Q E s := by
  rcases g with g | ⟨es, k, n, nk, e⟩
  · exact d_notIn (by omega) I g ry h
  · obtain ⟨b, rfl, hk⟩ := nkey_is S I nk ry
    obtain ⟨_, hd, _, xs, rel, dd⟩ := nd_of S I n
    refine wpAny_notIn_heap (roomN hu) hk hd dd ?_
    have q := (atE_rel rel k).isSome_eq
    rw [Option.isSome_map] at q
    rw [← q, ← e]
    exact h _ (I.tok _)
theorem getU_get {Q : Value → Shared → Prop} (S : SameG G X) (hu : A.units + 20 < cLine) (I : Inv X pins σ H s) (g : GetU G H a y o) (ry : RelV y u) (rd : RelV d r) (h : ∀ w' s', Inv X pins σ H s' → RelV (o.getD d) w' → Q w' s') :
    wpAny (model X.prog X.w) A (call (.builtin "dict.get") [.ref a, u, r]) Q E s := by
  rcases g with g | ⟨es, k, n, nk, e⟩
  · exact d_get2 (by omega) I g ry rd h
  · obtain ⟨b, rfl, hk⟩ := nkey_is S I nk ry
    obtain ⟨_, hd, _, xs, rel, dd⟩ := nd_of S I n
    refine call_meetsIn PySem.F.slot_dict_get dd.typeIs PySem.F.entry_dict_get (PySem.F.args_dict_get_3 _ _ _) (meetsH_dict_get_default (nestedKind X.prog X.w) a b hd r) ⟨roomN hu, k, xs, hk, dd, h _ _ (I.tok _) ?_⟩
    rw [e]
    exact (atE_rel rel k).getD rd
theorem putU_item {H' : Hp} {Q : Unit → Shared → Prop} (S : SameG G X) (hu : A.units + 20 < cLine) (I : Inv X pins σ H s) (g : PutU G H a y v H') (ry : RelV y u) (rv : RelV v r) (h : ∀ s', Inv X pins σ H' s' → Q () s') :
    wpAny (model X.prog X.w) A (setItem (.ref a) u r) Q E s := by
  rcases g with g | ⟨es, k, b, n, ey, nk, l, eH⟩
  · exact d_setItem (by omega) I (.inl g) ry rv h
  · subst ey eH
    obtain ⟨b', eb, hk⟩ := nkey_is S I nk ry
    cases (show u = Value.ref b from ry)
    injection eb with eb
    subst eb
    obtain ⟨z, hd, dp, xs, rel, dd⟩ := nd_of S I n.nd
    have hz : xs.length ≤ sizeLine := by rw [← Paired.length rel]; exact z
    have hl : (putE es k b v).length ≤ sizeLine := by have := putE_len es k b v; omega
    refine wpAny_setItem_heap (hsz := hz) (roomN hu) hk dd fun h' dd' hs => h _ ?_
    have he : ∃ q, h'.get? a = some q := let ⟨q, _, _, hq, _⟩ := dd'; ⟨q, hq⟩
    exact d_write I n.mut hs he (dN_obj S.p S.w hl hd (putE_depth dp hk.2) (putE_rel rel k rv) dd')
end
def rInU (G : Cfg) (neg : Bool) : R2 := fun y x H Q => ∃ a o, x = .ref a ∧ GetU G H a y o ∧ Q (.bl (neg ^^ o.isSome)) H
theorem u20 {k : Nat} {A : Around} (hr : Room k A) : A.units + 20 < cLine := by have := u65 hr; omega
theorem op_inU {G : Cfg} {X : Cx} {k : Nat} (S : SameG G X) (hr : Room k X.A) : OpR X (compareOp .In) (rInU G false) := fun pins s σ H x y v u Q I rx ry ⟨a, o, e, g, q⟩ => by
  subst e
  cases (show u = Value.ref a from ry)
  exact getU_in S (u20 hr) I g rx fun s' I' => ⟨.bl _, H, I', rfl, by rw [Bool.false_xor] at q; exact q⟩
theorem op_ninU {G : Cfg} {X : Cx} {k : Nat} (S : SameG G X) (hr : Room k X.A) : OpR X (compareOp .NotIn) (rInU G true) := fun pins s σ H x y v u Q I rx ry ⟨a, o, e, g, q⟩ => by
  subst e
  cases (show u = Value.ref a from ry)
  exact getU_notIn S (u20 hr) I g rx fun s' I' => ⟨.bl _, H, I', rfl, by rw [Bool.true_xor] at q; exact q⟩
section
variable {G : Cfg} {ρ : Wd} {h : Mem} {H : Hp}
theorem dicOf_n {x : CV} {u : V} {ks vs : List CV} (m : MemR G ρ h H) (r : ValR G ρ H x u) (e : dicOf x h = some (true, ks, vs)) : ∃ a es, u = .ref a ∧ NDict G H a es ∧ nkeys ks = some (es.map (·.1)) ∧ ValsR G ρ H ks (es.map fun e => V.ref e.2.1) ∧ ValsR G ρ H vs (es.map (·.2.2)) := by
  cases x with
  | dic n ks' vs' =>
    cases e
    obtain ⟨a, ob, w, eu, nh, hw, d⟩ := valR_dic.mp r
    obtain ⟨es, rfl, e1, e2, e3⟩ := d.1 rfl
    exact ⟨a, es, eu, .inl ⟨.inr ⟨ob, hw⟩, ρ, ks, e1, e2⟩, e1, e2, e3⟩
  | ref l =>
    obtain ⟨a, q, eu⟩ := r
    unfold dicOf at e
    simp only [sget_eq] at e
    cases hc : h[l]? with
    | none => rw [hc] at e; cases e
    | some co =>
      rw [hc] at e
      cases co with
      | dic lk n ks' vs' =>
        cases e
        obtain ⟨w, h1, h2, d⟩ := m.obj l a _ q hc
        obtain ⟨es, rfl, e1, e2, e3⟩ := d.1 rfl
        refine ⟨a, es, eu, .inl ⟨?_, ρ, ks, e1, e2⟩, e1, e2, e3⟩
        cases lk with
        | true => obtain ⟨ob, z⟩ := h1 rfl; exact .inr ⟨ob, z⟩
        | false => exact .inl (h2 rfl)
      | _ => cases e
  | _ => cases e
theorem dicOf_0 {x : CV} {u : V} {vs : List CV} (m : MemR G ρ h H) (r : ValR G ρ H x u) (e : dicOf x h = some (false, [], vs)) : ∃ a, u = .ref a ∧ NDict G H a [] := by
  obtain ⟨a, kvs, eu, hd, e1, _⟩ := dicOf_r m r e
  cases kvs with
  | nil => exact ⟨a, eu, .inr ⟨rfl, hd⟩⟩
  | cons p r => cases e1
theorem nkey_r {x : CV} {u : V} (r : ValR G ρ H x u) (c : isTK x = true) : ∃ k, nkey x = some k ∧ NKey G H u k ∧ ∃ b, u = .ref b := by
  obtain ⟨xs, k, rfl, e, hd⟩ := isTK_of c
  have r' := r
  obtain ⟨a, ys, eu, sq, rs⟩ := r
  exact ⟨k, e, ⟨ρ, _, a, r', eu, e, hd⟩, a, eu⟩
end
def pyInU (neg : Bool) (x y : CV) : M CV := fun h => match dicOf y h with
  | some (false, ks, vs) => if isKey x = true then .ok (.bl (neg ^^ dhas ks x)) h else if isTK x = true then match ks with
    | [] => .ok (.bl neg) h
    | _ => .bad else .bad
  | some (true, ks, vs) => if isTK x = true then .ok (.bl (neg ^^ dhasN ks x)) h else .bad
  | _ => .bad
theorem inU_ok {G : Cfg} {neg : Bool} : Op2 G (rInU G neg) (pyInU neg) := by
  intro W σ ρ h H x y u v Q m rx ry p
  unfold pyInU at p
  split at p
  · rename_i ks vs e
    split at p
    · rename_i c
      obtain ⟨k, rfl⟩ := isKey_of c
      obtain ⟨a, kvs, ev, hd, e1, e2⟩ := dicOf_r m ry e
      subst e1
      refine ⟨a, L2.valV kvs k, ev, .inl (.inl ⟨kvs, k, hd, keyC_kV rx, rfl⟩), ?_⟩
      rw [dhas_eq, valV_any] at p
      exact p ρ H _ m Ext.refl rfl
    · split at p
      · rename_i c
        split at p
        · obtain ⟨a, ev, nd⟩ := dicOf_0 m ry e
          obtain ⟨k, _, nk, _⟩ := nkey_r rx c
          refine ⟨a, none, ev, .inr ⟨[], k, nd, nk, rfl⟩, p ρ H _ m Ext.refl ?_⟩
          show V.bl (neg ^^ false) = V.bl neg
          rw [Bool.xor_false]
        · exact p.elim
      · exact p.elim
  · rename_i ks vs e
    split at p
    · rename_i c
      obtain ⟨a, es, ev, nd, e1, e2, e3⟩ := dicOf_n m ry e
      obtain ⟨k, ek, nk, _⟩ := nkey_r rx c
      refine ⟨a, atE es k, ev, .inr ⟨es, k, nd, nk, rfl⟩, ?_⟩
      rw [dhasN_eq ek es ks e1] at p
      exact p ρ H _ m Ext.refl rfl
    · exact p.elim
  · exact p.elim
/-- d[k] -/
def pyDGetU (x y : CV) : M CV := fun h => match dicOf x h with
  | some (false, ks, vs) => if isKey y = true then match dget ks y vs with
    | some v => .ok v h
    | none => .bad else .bad
  | some (true, ks, vs) => if isTK y = true then match dgetN ks y vs with
    | some v => .ok v h
    | none => .bad else .bad
  | _ => .bad
/-- d.get(k, x) -/
def pyDGetD (x : CV) (ys : List CV) : M CV := fun h => match ys with
  | [y, z] => match dicOf x h with
    | some (false, ks, vs) => if isKey y = true then match dget ks y vs with
      | some v => .ok v h
      | none => .ok z h else if isTK y = true then match ks with
        | [] => .ok z h
        | _ => .bad else .bad
    | some (true, ks, vs) => if isTK y = true then match dgetN ks y vs with
      | some v => .ok v h
      | none => .ok z h else .bad
    | _ => .bad
  | _ => .bad
section
variable {G : Cfg} {W : WX} {X : Cx} {k : Nat} {o i e value : Expr} {mo mi mv : Sl → M CV} {pos pos' : Pos}
def tGetU (G : Cfg) (td ty : TE) : TE := fun σ H Q => td σ H fun x H1 => ty σ H1 fun y H2 => ∃ a v, x = .ref a ∧ GetU G H2 a y (some v) ∧ Q v H2
theorem pe_getU {td ty : TE} (S : SameG G X) (hr : Room k X.A) (ho : PE X o td) (hi : PE X i ty) (hs : NoSl i) : PE X (.Subscript o i pos) (tGetU G td ty) := by
  refine ⟨fun pins s σ H Q I h => ?_⟩
  refine subD_of PySem.F.slot_dict_getitem.lookup hs (thn (ho.run pins s σ H _ I h) fun u s1 ⟨x, H1, I1, rx, q1⟩ => thn (hi.run pins s1 σ H1 _ I1 q1) fun iv s2 ⟨y, H2, I2, ry, a, v, ex, g, q2⟩ => ?_)
  subst ex
  obtain rfl : u = Value.ref a := rx
  exact ⟨getU_type S I2 g, getU_item S (u20 hr) I2 g ry fun w' s3 I3 rw' => ⟨v, H2, I3, rw', q2⟩⟩
theorem se_getU (S : SameG G X) (hr : Room k X.A) (ho : SE G W X o mo) (hi : SE G W X i mi) (hs : NoSl i := by exact fun _ _ => rfl) : SE G W X (.Subscript o i pos) (eOp pyDGetU mo mi) :=
  (pe_getU S hr ho hi hs).wk fun σ H Q ⟨ρ, h, τ, m, s, p⟩ => tM_bind m s p fun x h1 ρ1 H1 u m1 e1 s1 r1 p1 => tM_bind m1 s1 p1 fun y h2 ρ2 H2 v m2 e2 s2 r2 p2 => by
    unfold pyDGetU at p2
    split at p2
    · rename_i ks vs e
      split at p2
      · rename_i c
        obtain ⟨k, rfl⟩ := isKey_of c
        obtain ⟨a, kvs, ev, hd, e1', e2'⟩ := dicOf_r m2 (r1.ext m1 e2) e
        subst e1'
        split at p2
        · rename_i w q
          obtain ⟨z, hz, rz⟩ := (dget_r k kvs vs e2').2 w q
          exact ⟨a, z, ev, .inl (.inl ⟨kvs, k, hd, keyC_kV r2, hz.symm⟩), p2 ρ2 H2 z m2 Ext.refl rz⟩
        · exact p2.elim
      · exact p2.elim
    · rename_i ks vs e
      split at p2
      · rename_i c
        obtain ⟨a, es, ev, nd, e1', _, e3'⟩ := dicOf_n m2 (r1.ext m1 e2) e
        obtain ⟨k, ek, nk, _⟩ := nkey_r r2 c
        split at p2
        · rename_i w q
          obtain ⟨z, hz, rz⟩ := (dgetN_r ek es ks vs e1' e3').2 w q
          exact ⟨a, z, ev, .inr ⟨es, k, nd, nk, hz.symm⟩, p2 ρ2 H2 z m2 Ext.refl rz⟩
        · exact p2.elim
      · exact p2.elim
    · exact p2.elim
end
def rGetU (G : Cfg) : V → List V → Hp → VK → Prop := fun x xs H Q => ∃ a y z o, x = .ref a ∧ xs = [y, z] ∧ GetU G H a y o ∧ Q (o.getD z) H
theorem mt_getU {G : Cfg} {X : Cx} {k : Nat} (S : SameG G X) (hr : Room k X.A) : MtR X "dict.get" (rGetU G) := by
  intro pins s σ H x xs v us Q I rx rxs ⟨a, y, z, o, e1, e2, g, q⟩
  subst e1 e2
  cases (show v = Value.ref a from rx)
  cases rxs with
  | cons r1 r2 =>
    cases r2 with
    | cons r2 r3 =>
      cases r3
      exact getU_get S (u20 hr) I g r1 r2 fun w' s' I' rw' => ⟨_, H, I', rw', q⟩
theorem getD_ok {G : Cfg} : Mt G (rGetU G) pyDGetD := by
  intro W σ ρ h H x u ys us Q m rx rys p
  unfold pyDGetD at p
  split at p
  · rename_i y z
    obtain ⟨uy, t, ew, ry, r2⟩ := rys
    obtain ⟨uz, t2, ew2, rz, r3⟩ := r2
    cases (show t2 = [] from r3)
    subst ew2 ew
    split at p
    · rename_i ks vs e
      split at p
      · rename_i c
        obtain ⟨k, rfl⟩ := isKey_of c
        obtain ⟨a, kvs, ev, hd, e1', e2'⟩ := dicOf_r m rx e
        subst e1'
        have key := keyC_kV ry
        split at p
        · rename_i w q
          obtain ⟨z', hz, rz'⟩ := (dget_r k kvs vs e2').2 w q
          exact ⟨a, uy, uz, _, ev, rfl, .inl (.inl ⟨kvs, k, hd, key, rfl⟩), by rw [hz]; exact p ρ H z' m Ext.refl rz'⟩
        · rename_i q
          have hz := (dget_r k kvs vs e2').1 q
          exact ⟨a, uy, uz, _, ev, rfl, .inl (.inl ⟨kvs, k, hd, key, rfl⟩), by rw [hz]; exact p ρ H uz m Ext.refl rz⟩
      · split at p
        · rename_i c
          split at p
          · obtain ⟨a, ev, nd⟩ := dicOf_0 m rx e
            obtain ⟨k, _, nk, _⟩ := nkey_r ry c
            exact ⟨a, uy, uz, none, ev, rfl, .inr ⟨[], k, nd, nk, rfl⟩, p ρ H uz m Ext.refl rz⟩
          · exact p.elim
        · exact p.elim
    · rename_i ks vs e
      split at p
      · rename_i c
        obtain ⟨a, es, ev, nd, e1', _, e3'⟩ := dicOf_n m rx e
        obtain ⟨k, ek, nk, _⟩ := nkey_r ry c
        split at p
        · rename_i w q
          obtain ⟨z', hz, rz'⟩ := (dgetN_r ek es ks vs e1' e3').2 w q
          exact ⟨a, uy, uz, _, ev, rfl, .inr ⟨es, k, nd, nk, rfl⟩, by rw [hz]; exact p ρ H z' m Ext.refl rz'⟩
        · rename_i q
          have hz := (dgetN_r ek es ks vs e1' e3').1 q
          exact ⟨a, uy, uz, _, ev, rfl, .inr ⟨es, k, nd, nk, rfl⟩, by rw [hz]; exact p ρ H uz m Ext.refl rz⟩
      · exact p.elim
    · exact p.elim
  · exact p.elim
/-- a dict, wherever it stands -/
def isDicV (x : CV) (h : Mem) : Bool := (dicOf x h).isSome
/-- v is a dict -/
def DictV (G : Cfg) (H : Hp) (v : V) : Prop := ∃ a, v = .ref a ∧ ((∃ es, NDict G H a es) ∨ ∃ kvs, Rd H a (.dK kvs))
theorem DictV.typ {G : Cfg} {X : Cx} {pins : List (Addr × Obj)} {σ : L2.St} {H : Hp} {s : Shared} {x : V} {v : Value} (S : SameG G X) (I : Inv X pins σ H s) (d : DictV G H x) (r : RelV x v) : s.TypeIs v "dict" ∧ ∀ a, v = .ref a → ∃ ob, s.heap.get? a = some ob ∧ ob.dict = none := by
  obtain ⟨a, rfl, d⟩ := d
  cases (show v = Value.ref a from r)
  have go : ∃ o, s.heap.get? a = some o ∧ o.ExactDict := by
    rcases d with ⟨es, n⟩ | ⟨kvs, r⟩
    · obtain ⟨_, _, _, xs, _, o, _, _, h1, h2, _⟩ := nd_of S I n
      exact ⟨o, h1, h2⟩
    · obtain ⟨_, _, _, _, o, _, _, h1, h2, _⟩ := dk_rd I.hok r
      exact ⟨o, h1, h2⟩
  obtain ⟨o, h1, h2⟩ := go
  exact ⟨⟨o, h1, h2.1⟩, fun b e => by cases e; exact ⟨o, h1, h2.2.1⟩⟩
theorem isDicV_r {G : Cfg} {ρ : Wd} {h : Mem} {H : Hp} {x : CV} {u : V} (m : MemR G ρ h H) (r : ValR G ρ H x u) (e : isDicV x h = true) : DictV G H u := by
  unfold isDicV at e
  cases q : dicOf x h with
  | none => rw [q] at e; cases e
  | some t =>
    obtain ⟨n, ks, vs⟩ := t
    cases n with
    | true =>
      obtain ⟨a, es, eu, nd, _⟩ := dicOf_n m r q
      exact ⟨a, eu, .inl ⟨es, nd⟩⟩
    | false =>
      obtain ⟨a, kvs, eu, hd, _⟩ := dicOf_r m r q
      exact ⟨a, eu, .inr ⟨kvs, hd⟩⟩
section
variable {G : Cfg} {W : WX} {X : Cx} {o e : Expr} {es : List Expr} {mo : Sl → M CV} {ml : Sl → M (List CV)} {name : Str} {apos cpos : Pos} {id : String} {r : V → List V → Hp → VK → Prop} {g : CV → List CV → M CV}
/-- o.m(e, ..), o a dict -/
theorem pe_bmD {to : TE} {t : TA} (S : SameG G X) (slot : Slot "dict" name id) (hty : typeOf (.builtin id) = pure (.type "method_descriptor")) (hm : MtR X id r) (ho : PE X o to) (ha : PA X (e :: es) t) (hbase : attributeBase o name X.env (eval o X.env) = eval o X.env)
    (hfew : ((backTo cpos (starEach (e :: es) X.env)).all (fun x => !x.1) && (backToKw cpos (keywordEach [] X.env)).all (fun x => x.1.isSome) && decide ((e :: es).length + ([] : List Keyword).length + (if ([] : List Keyword).isEmpty then 0 else 1) < 30)) = true)
    (hline : (apos.endLine == cpos.line) = true) (hs : starEach (e :: es) X.env = (false, eval e X.env) :: starEach es X.env) (hplain : (backTo cpos (starEach es X.env)).any (·.1) = false) :
    PE X (.Call (.Attribute o name apos) (e :: es) [] cpos) (fun σ H Q => to σ H fun x H1 => DictV G H1 x ∧ t σ H1 fun xs H2 => r x xs H2 Q) := ⟨fun pins s σ H Q I h => by
  refine wpAny_Call_method_late hbase hfew hline rfl (thn (ho.run pins s σ H _ I h) fun v s1 ⟨x, H1, I1, r1, ty, q1⟩ => ?_)
  obtain ⟨h1, h2⟩ := ty.typ S I1 r1
  have go := ha.run cpos pins s1 σ H1 _ I1 q1
  refine ⟨"dict", id, PySem.F.plainAttrs_dict, slot, hty, h1, h2, ?_⟩
  rw [hs] at go ⊢
  exact Calls.callWith_builtin (by show (false || (backTo cpos (starEach es X.env)).any (·.1)) = false; rw [hplain] <;> rfl) (Calls.evalArgs_plain (thn go fun us s2 ⟨vs, H2, I2, r2, q2⟩ => hm pins s2 σ H2 x vs v us Q I2 r1 r2 q2))⟩
theorem se_mtD (S : SameG G X) (slot : Slot "dict" name id) (hty : typeOf (.builtin id) = pure (.type "method_descriptor")) (hm : MtR X id r) (hg : Mt G r g) (ho : SE G W X o mo) (ha : SA G W X (e :: es) ml) (hbase : attributeBase o name X.env (eval o X.env) = eval o X.env := by rfl)
    (hfew : ((backTo cpos (starEach (e :: es) X.env)).all (fun x => !x.1) && (backToKw cpos (keywordEach [] X.env)).all (fun x => x.1.isSome) && decide ((e :: es).length + ([] : List Keyword).length + (if ([] : List Keyword).isEmpty then 0 else 1) < 30)) = true := by rfl)
    (hline : (apos.endLine == cpos.line) = true := by rfl) (hs : starEach (e :: es) X.env = (false, eval e X.env) :: starEach es X.env := by rfl) (hplain : (backTo cpos (starEach es X.env)).any (·.1) = false := by rfl) :
    SE G W X (.Call (.Attribute o name apos) (e :: es) [] cpos) (eMt isDicV g mo ml) :=
  (pe_bmD S slot hty hm ho ha hbase hfew hline hs hplain).wk fun σ H Q ⟨ρ, h, τ, m, s, p⟩ => tM_bind m s p fun x h1 ρ1 H1 u m1 e1 s1 r1 p1 => by
    by_cases ht : isDicV x h1 = true
    · rw [if_pos ht] at p1
      exact ⟨isDicV_r m1 r1 ht, tM_bind m1 s1 p1 fun xs h2 ρ2 H2 us m2 e2 s2 r2 p2 => hg W σ ρ2 h2 H2 x u xs us Q m2 (r1.ext m1 e2) r2 p2⟩
    · rw [if_neg ht] at p1; exact p1.elim
end
def pyDPutU (v : CV) (x y : CV) : M CV := fun h => match x with
  | .ref l => match sget h l with
    | some (.dic false false ks vs) => if (isKey y && Nat.ble ks.length 1000000) = true then frV 3 v fun v => dput ks vs y v fun ks vs => sset h l (.dic false false ks vs) fun h => .ok .non h
      else if isTK y = true then match ks with
        | [] => frV 3 v fun v => sset h l (.dic false true [y] [v]) fun h => .ok .non h
        | _ => .bad
      else .bad
    | some (.dic false true ks vs) => if (isTK y && Nat.ble ks.length 1000000) = true then frV 3 v fun v => dputN ks vs y v fun ks vs => sset h l (.dic false true ks vs) fun h => .ok .non h else .bad
    | _ => .bad
  | _ => .bad
def mDPutU (o i v : Sl → M CV) : MS := fun τ => inS (v τ) τ fun v h => match bnd (o τ) (fun x => bnd (i τ) fun y => frV 6 y fun y => pyDPutU v x y) h with
  | .ok _ h => .mk (.nx τ) h
  | _ => .bad
def sPutU (G : Cfg) (td ty tv : TE) : TS := fun D σ H => tv σ H fun v H1 => td σ H1 fun x H2 => ty σ H2 fun y H3 => ∃ a H4, x = .ref a ∧ PutU G H3 a y v H4 ∧ D.nx σ H4
section
variable {G : Cfg} {W : WX} {X : Cx} {k : Nat} {o i e value : Expr} {mo mi mv : Sl → M CV} {pos pos' : Pos}
theorem ps_putU {td ty tv : TE} (S : SameG G X) (hr : Room k X.A) (ho : PE X o td) (hi : PE X i ty) (hv : PE X value tv) (hs : swapsWith value (some (.Subscript o i pos')) pos.line X.env = pure false) :
    PS X (.Assign [.Subscript o i pos'] value pos) (sPutU G td ty tv) := ⟨fun pins s σ H D I h =>
  wpAny_Assign_Subscript (thn (hv.run pins s σ H _ I h) fun r s1 ⟨v, H1, I1, rv, q1⟩ => thn (ho.run pins s1 σ H1 _ I1 q1) fun u s2 ⟨x, H2, I2, rx, q2⟩ => thn (hi.run pins s2 σ H2 _ I2 q2) fun iv s3 ⟨y, H3, I3, ry, a, H4, ex, g, q3⟩ => by
    subst ex
    cases (show u = Value.ref a from rx)
    exact putU_item S (u20 hr) I3 g ry rv fun s4 I4 => ⟨σ, H4, I4, q3⟩) hs⟩
theorem dputU_ok {ρ : Wd} {h : Mem} {H : Hp} {x y v : CV} {xv yv u : V} (m : MemR G ρ h H) (rx : ValR G ρ H x xv) (ry : ValR G ρ H y yv) (rv : ValR G ρ H v u) {h' : Mem} {z : CV} (e : pyDPutU v x y h = .ok z h') :
    ∃ a H4, xv = .ref a ∧ PutU G H a yv u H4 ∧ MemR G ρ h' H4 ∧ Ext ρ H ρ H4 := by
  cases x with
  | ref l =>
    obtain ⟨a, q0, eu⟩ := rx
    have hp : a ∈ ρ.r := List.mem_of_getElem? q0
    unfold pyDPutU at e
    simp only [sget_eq] at e
    cases hc : h[l]? with
    | none => rw [hc] at e; cases e
    | some co =>
      rw [hc] at e
      cases co with
      | dic lk n ks vs =>
        cases lk with
        | true => cases e
        | false =>
          obtain ⟨w, _, hw, d⟩ := m.obj l a _ q0 hc
          have hw := hw rfl
          cases n with
          | false =>
            obtain ⟨kvs, rfl, e4, e5⟩ := d.k
            simp only at e
            split at e
            · rename_i c
              rw [Bool.and_eq_true] at c
              obtain ⟨kk, rfl⟩ := isKey_of c.1
              subst e4
              rw [frV_eq] at e
              obtain ⟨vs', e6, e7⟩ := dput_r rv kk kvs vs (fun ks vs => sset h l (.dic false false ks vs) fun h => Out.ok CV.non h) e5
              rw [e6, sset_eq] at e
              cases e
              have hl : kvs.length < sizeLine := by
                have := Nat.ble_eq.mp c.2
                rw [List.length_map] at this
                rw [sizeLine_eq]; omega
              exact ⟨a, _, eu, .inl ⟨kvs, kk, hw, keyC_kV ry, hl, rfl⟩, m.writeO q0 (co := .dic false false ((putK kvs kk u).map fun e => keyC e.1) vs') (o := .dK (putK kvs kk u)) ⟨_, (fun z => nomatch z), fun _ => upd_same, fun z => (nomatch z), fun _ => ⟨_, rfl, rfl, e7.wr (.inl hp) (m.at_ (.inl hp))⟩⟩, Ext.writeAt m q0⟩
            · split at e
              · rename_i c
                cases ks with
                | nil =>
                  cases kvs with
                  | cons p r => cases e4
                  | nil =>
                    obtain ⟨k, ek, nk, b, eb⟩ := nkey_r ry c
                    subst eb
                    simp only [frV_eq, sset_eq] at e
                    cases e
                    refine ⟨a, _, eu, .inr ⟨[], k, b, .inr ⟨rfl, hw⟩, rfl, nk, by decide +kernel, rfl⟩, m.writeO q0 (co := .dic false true [y] [v]) (o := dN G.P G.w a (putE [] k b u)) ⟨_, (fun z => nomatch z), fun _ => upd_same, fun _ => ⟨_, rfl, ?_, ?_, ?_⟩, fun z => (nomatch z)⟩, Ext.writeAt m q0⟩
                    · rw [nkeys, ek]; rfl
                    · exact (show ValsR G ρ H [y] [.ref b] from ⟨_, _, rfl, ry, rfl⟩).wr (.inl hp) (m.at_ (.inl hp))
                    · exact (show ValsR G ρ H [v] [u] from ⟨_, _, rfl, rv, rfl⟩).wr (.inl hp) (m.at_ (.inl hp))
                | cons _ _ => cases e
              · cases e
          | true =>
            obtain ⟨es, rfl, e4, e5, e6⟩ := d.1 rfl
            simp only at e
            split at e
            · rename_i c
              rw [Bool.and_eq_true] at c
              obtain ⟨k, ek, nk, b, eb⟩ := nkey_r ry c.1
              subst eb
              rw [frV_eq] at e
              obtain ⟨ks', vs', f1, f2, f3, f4⟩ := dputN_r ek ry rv es ks vs (fun ks vs => sset h l (.dic false true ks vs) fun h => Out.ok CV.non h) e4 e5 e6
              rw [f1, sset_eq] at e
              cases e
              have hl : es.length < sizeLine := by
                have h1 := Nat.ble_eq.mp c.2
                have h2 := e5.len
                rw [List.length_map] at h2
                rw [sizeLine_eq]; omega
              exact ⟨a, _, eu, .inr ⟨es, k, b, .inl ⟨hw, ρ, ks, e4, e5⟩, rfl, nk, hl, rfl⟩, m.writeO q0 (co := .dic false true ks' vs') (o := dN G.P G.w a (putE es k b u)) ⟨_, (fun z => nomatch z), fun _ => upd_same, fun _ => ⟨_, rfl, f2, f3.wr (.inl hp) (m.at_ (.inl hp)), f4.wr (.inl hp) (m.at_ (.inl hp))⟩, fun z => (nomatch z)⟩, Ext.writeAt m q0⟩
            · cases e
      | _ => cases e
  | _ => cases e
theorem ss_putU (S : SameG G X) (hr : Room k X.A) (ho : SE G W X o mo) (hi : SE G W X i mi) (hv : SE G W X value mv) (hs : swapsWith value (some (.Subscript o i pos')) pos.line X.env = pure false := by rfl) : SS G W X (.Assign [.Subscript o i pos'] value pos) (mDPutU mo mi mv) := by
  refine (ps_putU S hr ho hi hv hs).wk fun D σ H ⟨ρ, h, τ, m, s, p⟩ => tM_inS m s p fun v h1 ρ1 H1 u m1 e1 s1 r1 p1 => ⟨ρ1, h1, τ, m1, s1, ?_⟩
  cases q1 : mo τ h1 with
  | exc x h2 => rw [rd_bnd, q1] at p1; exact p1.elim
  | bad => rw [rd_bnd, q1] at p1; exact p1.elim
  | ok x h2 =>
    rw [rd_bnd, q1] at p1
    simp only at p1
    intro ρ2 H2 xv m2 e2 r2
    refine ⟨ρ2, h2, τ, m2, s1.ext m1 e2, ?_⟩
    cases q2 : mi τ h2 with
    | exc x h3 => rw [rd_bnd, q2] at p1; exact p1.elim
    | bad => rw [rd_bnd, q2] at p1; exact p1.elim
    | ok y h3 =>
      rw [rd_bnd, q2] at p1
      simp only [frV_eq] at p1
      intro ρ3 H3 yv m3 e3 r3
      cases q3 : pyDPutU v x y h3 with
      | exc x h4 => rw [q3] at p1; exact p1.elim
      | bad => rw [q3] at p1; exact p1.elim
      | ok z h4 =>
        rw [q3] at p1
        obtain ⟨a, H4, eu, g, m4, e8⟩ := dputU_ok m3 (r2.ext m2 e3) r3 ((r1.ext m1 e2).ext m2 e3) q3
        exact ⟨a, H4, eu, g, p1 ρ3 H4 σ m4 ((e2.trans e3).trans e8) ((((s1.ext m1 e2).ext m2 e3)).ext m3 e8)⟩
end
end VE

noncomputable section
namespace VE
open PySem PySem.Spec PyProof.Rows L2 LamX
/-- the pairs of a dict -/
def PrsOf (P : Program) (w : World) (d : Addr) (u : HO) (ps : List (V × V)) : Prop := (∃ kvs : List (Key × V), u = .dK kvs ∧ ps = kvs.map fun e => (kV e.1, e.2)) ∨ ∃ es, u = dN P w d es ∧ ps = es.map fun e => (V.ref e.2.1, e.2.2)
def DAt (P : Program) (w : World) (H : Hp) (d : Addr) (o : Obj) (ps : List (V × V)) : Prop := ∃ u, H d = some (.frz o u) ∧ PrsOf P w d u ps
abbrev PrE : List (V × V) → List DictEntry → Prop := Paired fun p e => RelV p.1 e.key ∧ RelV p.2 e.val
theorem prE_k {P : Program} {w : World} : ∀ {kvs : List (Key × V)} {vs : List (Key × Value)} {ds : List DictEntry}, L2.KV kvs vs → Pairs (mixKind P w) ds vs → PrE (kvs.map fun e => (kV e.1, e.2)) ds
  | [], vs, ds, r, p => by cases r; cases p; exact .nil
  | q :: r, vs, ds, r1, p => by
    cases r1 with
    | cons h t =>
      cases p with
      | cons a b c =>
        refine .cons ⟨?_, ?_⟩ (prE_k t c)
        · show L2.RelV (kV q.1) _
          rw [h.1]
          exact relV_key (show keyIs _ _ = true from a)
        · show L2.RelV q.2 _
          rw [b]; exact h.2
theorem prE_n {P : Program} {w : World} : ∀ {es : Ents} {xs : List (NestedKey × Addr × Value)}, Paired EntR es xs → PrE (es.map fun e => (V.ref e.2.1, e.2.2)) (xs.map (entryOfKey (nestedKind P w)))
  | [], xs, r => by cases r; exact .nil
  | q :: r, xs, r1 => by
    cases r1 with
    | cons h t =>
      rw [List.map_cons, List.map_cons]
      refine .cons ⟨?_, h.2.2⟩ (prE_n t)
      show Value.ref _ = Value.ref _
      rw [h.2.1]
section
variable {X : Cx} {pins : List (Addr × Obj)} {σ : L2.St} {H : Hp} {s : Shared} {d : Addr} {o : Obj} {ps : List (V × V)}
theorem dat_of (I : Inv X pins σ H s) (h : DAt X.prog X.w H d o ps) : (d == sysModules) = false ∧ o.ExactDict ∧ ∃ (es : Array DictEntry) (ep : Nat), o.data = .dict es ep ∧ s.heap.DictRaw d es ep ∧ PrE ps es.toList ∧ es.size = ps.length := by
  obtain ⟨u, hd, hp⟩ := h
  obtain ⟨ho, ok⟩ := I.hok d _ hd
  have go : ∀ {o' : Obj} {es : Array DictEntry} {ep : Nat}, s.heap.get? d = some o' → o'.ExactDict → o'.data = .dict es ep → PrE ps es.toList → o.ExactDict ∧ ∃ (es : Array DictEntry) (ep : Nat), o.data = .dict es ep ∧ s.heap.DictRaw d es ep ∧ PrE ps es.toList ∧ es.size = ps.length := fun h1 h2 h3 h4 => by
    rw [ho] at h1
    cases h1
    refine ⟨h2, _, _, h3, ⟨o, ho, h2, h3⟩, h4, ?_⟩
    have := Paired.length h4
    rw [Array.length_toList] at this
    exact this.symm
  rcases hp with ⟨kvs, rfl, rfl⟩ | ⟨es, rfl, rfl⟩
  · obtain ⟨z, hs, vs, kv, o', ds, ep, h1, h2, h3, h4, h5, h6⟩ := ok
    exact ⟨hs, go h1 h2 h3 (prE_k kv h5)⟩
  · unfold dN at ok
    obtain ⟨⟨z, hs, dp, xs, o', ds, ep, r, h1, h2, h3, h4, h5⟩, _⟩ := ok
    exact ⟨hs, go h1 h2 h3 (by rw [h4]; exact prE_n r)⟩
theorem prE_at {ds : Array DictEntry} {i : Nat} {k v : V} (r : PrE ps ds.toList) (e : ps[i]? = some (k, v)) (hi : i < ds.size) : RelV k ds[i].key ∧ RelV v ds[i].val := by
  obtain ⟨b, hb, z⟩ := paired_get r e
  rw [Array.getElem?_toList, Array.getElem?_eq_getElem hi] at hb
  cases hb
  exact z
end
def Itp (P : Program) (w : World) (d : Addr) (o : Obj) (ps : List (V × V)) : It :=
  ⟨fun i H => DAt P w H d o ps ∧ i < ps.length, fun i H x H' => ∃ T k v, ps[i]? = some (k, v) ∧ x = .ref T ∧ H T = none ∧ H' = upd H T (.tup [k, v]), fun i H => DAt P w H d o ps ∧ ps.length ≤ i⟩
def Itq (P : Program) (w : World) (d : Addr) (o : Obj) (ps : List (V × V)) : It :=
  ⟨fun i H => DAt P w H d o ps ∧ i < ps.length, fun i H x H' => H' = H ∧ ∃ v, ps[i]? = some (x, v), fun i H => DAt P w H d o ps ∧ ps.length ≤ i⟩
def Itw (P : Program) (w : World) (d : Addr) (o : Obj) (ps : List (V × V)) : It :=
  ⟨fun i H => DAt P w H d o ps ∧ i < ps.length, fun i H x H' => H' = H ∧ ∃ k, ps[i]? = some (k, x), fun i H => DAt P w H d o ps ∧ ps.length ≤ i⟩
section
variable {P : Program} {w : World} {K : PySem.W.Frag} {tg : Expr} {d : Addr} {o : Obj} {ps : List (V × V)} {es : Array DictEntry} {ep : Nat}
theorem turnQ (it : Addr) (hod : o.data = .dict es ep) : Turn P w K tg (Itq P w d o ps) [it] it (fun i h => h.IsKeyIter it d i es.size ep) where
  mem := by simp
  obj := fun i h st b hb => by
    have e : b = it := by simpa using hb
    subst e
    obtain ⟨oi, e, c, dd⟩ := st
    exact ⟨oi, e, fun v z => by rw [dd] at z; cases z⟩
  keep := fun i h h' st k => st.at fun oi e => k it (by simp) oi e
  item := by
    intro X hP hw hK hc i pins s σ H E I hf st hg
    subst hP hw hK
    obtain ⟨hd, hi⟩ := hg
    obtain ⟨f0, f1, f2, f3, f4, f5⟩ := hf it (by simp)
    obtain ⟨hs, hx, es', ep', hdt, raw, pr, hsz⟩ := dat_of I hd
    obtain ⟨rfl, rfl⟩ := dict_ep hod hdt
    obtain ⟨⟨k, v⟩, hkv⟩ : ∃ p, ps[i]? = some p := ⟨ps[i], List.getElem?_eq_getElem hi⟩
    obtain ⟨r1, r2⟩ := prE_at pr hkv (by omega)
    refine wpAny_pyNext_keys_item_raw st raw (by omega) fun h' st' sb => ?_
    have I1 : Inv X pins σ H { s with heap := h' } := I.turned (t' := s.toks) (fun b ob hb e => (sb.2 b hb).trans e) f0 f1 f3 f4 f5
    obtain ⟨oi, e, c, dd⟩ := id st'
    exact ⟨_, rfl, go_of (s := { s with heap := h' }) e c dd (by decide) ⟨k, H, I1, r1, ⟨rfl, v, hkv⟩, st', fun b hb => (hf b hb).1⟩⟩
  done := by
    intro X hP hw hK hc i pins s σ H E I hf st hg
    subst hP hw hK
    obtain ⟨hd, hi⟩ := hg
    obtain ⟨f0, f1, f2, f3, f4, f5⟩ := hf it (by simp)
    obtain ⟨hs, hx, es', ep', hdt, raw, pr, hsz⟩ := dat_of I hd
    obtain ⟨rfl, rfl⟩ := dict_ep hod hdt
    exact wpAny_pyNext_keys_end_raw (I.ok.hd hc) st raw (by omega) fun h' eb => ⟨rfl, I.turned (t' := s.toks) (fun b ob hb e => eb b ob hb e) f0 f1 f3 f4 f5⟩
  self := fun A i s Q E st h => by
    refine wpAny_pyIter_slot st.typeIs F.slot_dict_keyiterator_iter (wpAny_call_entry F.slot_dict_keyiterator_iter st.typeIs F.entry_dict_keyiterator_iter ?_ (F.args_dict_keyiterator_iter_1 _))
    show wpAny _ _ (PySem.ret (Value.ref it)) _ _ s
    exact wpAny_pure ⟨_, rfl, "dict_keyiterator", _, st.typeIs, F.slot_dict_keyiterator_next.lookup, h⟩
theorem turnW (it : Addr) (hod : o.data = .dict es ep) : Turn P w K tg (Itw P w d o ps) [it] it (fun i h => h.IsValIter it d i es.size ep) where
  mem := by simp
  obj := fun i h st b hb => by
    have e : b = it := by simpa using hb
    subst e
    obtain ⟨oi, e, c, dd⟩ := st
    exact ⟨oi, e, fun v z => by rw [dd] at z; cases z⟩
  keep := fun i h h' st k => st.at fun oi e => k it (by simp) oi e
  item := by
    intro X hP hw hK hc i pins s σ H E I hf st hg
    subst hP hw hK
    obtain ⟨hd, hi⟩ := hg
    obtain ⟨f0, f1, f2, f3, f4, f5⟩ := hf it (by simp)
    obtain ⟨hs, hx, es', ep', hdt, raw, pr, hsz⟩ := dat_of I hd
    obtain ⟨rfl, rfl⟩ := dict_ep hod hdt
    obtain ⟨⟨k, v⟩, hkv⟩ : ∃ p, ps[i]? = some p := ⟨ps[i], List.getElem?_eq_getElem hi⟩
    obtain ⟨r1, r2⟩ := prE_at pr hkv (by omega)
    refine wpAny_pyNext_values_item_raw st raw (by omega) fun h' st' sb => ?_
    have I1 : Inv X pins σ H { s with heap := h' } := I.turned (t' := s.toks) (fun b ob hb e => (sb.2 b hb).trans e) f0 f1 f3 f4 f5
    obtain ⟨oi, e, c, dd⟩ := id st'
    exact ⟨_, rfl, go_of (s := { s with heap := h' }) e c dd (by decide) ⟨v, H, I1, r2, ⟨rfl, k, hkv⟩, st', fun b hb => (hf b hb).1⟩⟩
  done := by
    intro X hP hw hK hc i pins s σ H E I hf st hg
    subst hP hw hK
    obtain ⟨hd, hi⟩ := hg
    obtain ⟨f0, f1, f2, f3, f4, f5⟩ := hf it (by simp)
    obtain ⟨hs, hx, es', ep', hdt, raw, pr, hsz⟩ := dat_of I hd
    obtain ⟨rfl, rfl⟩ := dict_ep hod hdt
    exact wpAny_pyNext_values_end_raw (I.ok.hd hc) st raw (by omega) fun h' eb => ⟨rfl, I.turned (t' := s.toks) (fun b ob hb e => eb b ob hb e) f0 f1 f3 f4 f5⟩
  self := fun A i s Q E st h => wpAny_pyIter_valiter st h
theorem turnP {elts : List Expr} {kk : Nat} {tpos : Pos} (it : Addr) (hod : o.data = .dict es ep) : Turn P w K (.Tuple elts kk tpos) (Itp P w d o ps) [it] it (fun i h => ∃ ok ov, IsItemIter h it d i es.size ep ok ov) where
  mem := by simp
  obj := fun i h st b hb => by
    have e : b = it := by simpa using hb
    subst e
    obtain ⟨ok, ov, e⟩ := st
    exact ⟨_, e, fun v z => nomatch z⟩
  keep := fun i h h' st k => let ⟨ok, ov, e⟩ := st; ⟨ok, ov, k it (by simp) _ e⟩
  item := by
    intro X hP hw hK hc i pins s σ H E I hf st hg
    subst hP hw hK
    obtain ⟨hd, hi⟩ := hg
    obtain ⟨hs, hx, es', ep', hdt, raw, pr, hsz⟩ := dat_of I hd
    obtain ⟨rfl, rfl⟩ := dict_ep hod hdt
    obtain ⟨⟨k, v⟩, hkv⟩ : ∃ p, ps[i]? = some p := ⟨ps[i], List.getElem?_eq_getElem hi⟩
    obtain ⟨r1, r2⟩ := prE_at pr hkv (by omega)
    obtain ⟨ok, ov, he⟩ := st
    have hlt : it < s.heap.objs.size := Heap.lt_size he
    refine wpAny_pyNext_items_item_raw he raw (by omega) fun h' ho hT hz hk => ?_
    refine ⟨_, rfl, wpAny_letOwnedTupleGo_items (s := { s with heap := h' }) ho fun h'' he' sb => ?_⟩
    have hT2 : h''.get? s.heap.objs.size = some { cls := .type "tuple", data := .seq #[es'[i].key, es'[i].val] } := (sb.2 _ (Nat.ne_of_gt hlt)).trans hT
    have new : ObjOk X.prog X.w (upd H s.heap.objs.size (.tup [k, v])) h'' s.heap.objs.size (.tup [k, v]) :=
      ⟨by show 2 ≤ sizeLine; decide, [_, _], .cons r1 (.cons r2 .nil), ⟨_, hT2, rfl, _, rfl⟩⟩
    have I1 : Inv X pins σ (upd H s.heap.objs.size (.tup [k, v])) { s with heap := h'' } :=
      I.turnedNew (t' := s.toks) (ch := [it]) (fun b ob hb e => (sb.2 b (by simpa using hb)).trans (hk b ob (by simpa using hb) e)) hf (Nat.le_refl _) new
    refine ⟨.ref s.heap.objs.size, _, I1, rfl, ⟨_, k, v, hkv, rfl, I.hok.fresh (Nat.le_refl _), rfl⟩, ⟨_, _, he'⟩, fun b hb => ?_⟩
    have e : b = it := by simpa using hb
    rw [e, upd_ne (Nat.ne_of_lt hlt)]
    exact (hf it (by simp)).1
  done := by
    intro X hP hw hK hc i pins s σ H E I hf st hg
    subst hP hw hK
    obtain ⟨hd, hi⟩ := hg
    obtain ⟨f0, f1, f2, f3, f4, f5⟩ := hf it (by simp)
    obtain ⟨hs, hx, es', ep', hdt, raw, pr, hsz⟩ := dat_of I hd
    obtain ⟨rfl, rfl⟩ := dict_ep hod hdt
    obtain ⟨ok, ov, he⟩ := st
    exact wpAny_pyNext_items_end_raw (I.ok.hd hc) he raw (by omega) fun h' eb => ⟨rfl, I.turned (t' := s.toks) (fun b ob hb e => eb b ob hb e) f0 f1 f3 f4 f5⟩
  self := fun A i s Q E st h => let ⟨_, _, e⟩ := st; PySem.W.kcp_self e h
end
section
variable {X : Cx} {tg e : Expr} {td : TE} {apos cpos : Pos}
def iFrz (X : Cx) (J : Addr → Obj → List (V × V) → It) (td : TE) : TI := fun σ H R => td σ H fun x H1 => ∃ d o ps, x = .ref d ∧ DAt X.prog X.w H1 d o ps ∧ R (J d o ps) H1
theorem pi_keysF (he : PE X e td) : PI X tg e (iFrz X (Itq X.prog X.w) td) := by
  refine ⟨fun pins s σ H R I h => ?_⟩
  refine thn (he.run pins s σ H _ I h) fun u s1 ⟨x, H1, I1, rx, d, o, ps, ex, hd, q⟩ => ?_
  subst ex
  obtain rfl : u = Value.ref d := rx
  obtain ⟨hs, hx, es, ep, hdt, raw, pr, hsz⟩ := dat_of I1 hd
  exact wpAny_pyIter_dict_raw hs raw (pi_one (tk := s1.toks) I1 _ (turnQ _ hdt) ⟨_, Heap.get?_push_size _ rfl, rfl, rfl⟩ q)
theorem raw_no {h : Heap} {d : Addr} {es : Array DictEntry} {ep : Nat} (x : h.DictRaw d es ep) : ∀ b, Value.ref d = .ref b → ∃ ob, h.get? b = some ob ∧ ob.dict = none := fun b q => by
  cases q
  obtain ⟨o, h1, h2, _⟩ := x
  exact ⟨o, h1, h2.2.1⟩
theorem pi_valsF (he : PE X e td) (hbase : attributeBase e "values" X.env (eval e X.env) = eval e X.env := by rfl) (hline : (apos.endLine == cpos.line) = true := by rfl) : PI X tg (.Call (.Attribute e "values" apos) [] [] cpos) (iFrz X (Itw X.prog X.w) td) := by
  refine ⟨fun pins s σ H R I h => ?_⟩
  refine wpAny_Call_method (T := "dict") (id := "dict.values") hbase rfl hline F.plainAttrs_dict F.slot_dict_values F.type_dict_values (thn (he.run pins s σ H _ I h) fun u s1 ⟨x, H1, I1, rx, d, o, ps, ex, hd, q⟩ => ?_)
  subst ex
  obtain rfl : u = Value.ref d := rx
  obtain ⟨hs, hx, es, ep, hdt, raw, pr, hsz⟩ := dat_of I1 hd
  refine ⟨raw.typeIs, raw_no raw, ?_⟩
  have I2 : Inv X pins σ H1 { s1 with heap := s1.heap.push { cls := .type "dict_values", data := .fields #[.ref d] } } := I1.kept (t' := s1.toks) fun b ob q => Heap.get?_push_of_some _ q
  have fin : wpAny (model X.prog X.w) X.A (pyIter (.ref s1.heap.objs.size)) (PIE X pins σ tg R) X.xe { s1 with heap := s1.heap.push { cls := .type "dict_values", data := .fields #[.ref d] } } :=
    wpAny_pyIter_values_raw (d := d) ⟨_, Heap.get?_push_size _ rfl, rfl, rfl⟩ (raw.at fun o q => Heap.get?_push_of_some _ q) (pi_one (tk := s1.toks) I2 _ (turnW _ hdt) ⟨_, Heap.get?_push_size _ rfl, rfl, rfl⟩ q)
  show wpAny _ _ (callWith cpos (.builtin "dict.values") [.ref d] [] []) _ X.xe s1
  exact method_meetsIn F.slot_dict_values F.entry_dict_values rfl (PySem.evalArgs_none ⟨rfl, raw.typeIs, F.args_dict_values_1 _, _, meets_dict_values_raw d hs, ⟨_, _, raw⟩, fin⟩)
theorem pi_itemsF {elts : List Expr} {kk : Nat} {tpos : Pos} (he : PE X e td) (hbase : attributeBase e "items" X.env (eval e X.env) = eval e X.env := by rfl) (hline : (apos.endLine == cpos.line) = true := by rfl) :
    PI X (.Tuple elts kk tpos) (.Call (.Attribute e "items" apos) [] [] cpos) (iFrz X (Itp X.prog X.w) td) := by
  refine ⟨fun pins s σ H R I h => ?_⟩
  refine wpAny_Call_method (T := "dict") (id := "dict.items") hbase rfl hline F.plainAttrs_dict F.slot_dict_items F.type_dict_items (thn (he.run pins s σ H _ I h) fun u s1 ⟨x, H1, I1, rx, d, o, ps, ex, hd, q⟩ => ?_)
  subst ex
  obtain rfl : u = Value.ref d := rx
  obtain ⟨hs, hx, es, ep, hdt, raw, pr, hsz⟩ := dat_of I1 hd
  refine ⟨raw.typeIs, raw_no raw, ?_⟩
  have I2 : Inv X pins σ H1 { s1 with heap := s1.heap.push { cls := .type "dict_items", data := .fields #[.ref d] } } := I1.kept (t' := s1.toks) fun b ob q => Heap.get?_push_of_some _ q
  have fin : wpAny (model X.prog X.w) X.A (pyIter (.ref s1.heap.objs.size)) (PIE X pins σ (.Tuple elts kk tpos) R) X.xe { s1 with heap := s1.heap.push { cls := .type "dict_items", data := .fields #[.ref d] } } :=
    wpAny_pyIter_items_raw (d := d) ⟨_, Heap.get?_push_size _ rfl, rfl, rfl⟩ (raw.at fun o q => Heap.get?_push_of_some _ q) (pi_one (tk := s1.toks) I2 _ (turnP _ hdt) ⟨.none, .none, Heap.get?_push_size _ rfl⟩ q)
  show wpAny _ _ (callWith cpos (.builtin "dict.items") [.ref d] [] []) _ X.xe s1
  exact method_meetsIn F.slot_dict_items F.entry_dict_items rfl (PySem.evalArgs_none ⟨rfl, raw.typeIs, F.args_dict_items_1 _, _, meets_dict_items_raw d hs, ⟨_, _, raw⟩, fin⟩)
end
def pairL (ks vs : List CV) : List CV := List.rec (fun _ => []) (fun k _ ih vs => List.rec [] (fun v t _ => .tup [k, v] :: ih t) vs) ks vs
def iDic (f : List CV → List CV → List CV) (e : Sl → M CV) : Sl → M (List CV) := fun τ => bnd (e τ) fun x => match x with
  | .dic _ ks vs => ret (f ks vs)
  | _ => stuck
section
variable {G : Cfg} {ρ : Wd} {h : Mem} {H : Hp}
/-- the pairs, as values -/
theorem dic_prs {n : Bool} {ks vs : List CV} {v : V} (r : ValR G ρ H (.dic n ks vs) v) : ∃ a o u ps, v = .ref a ∧ ¬ ρ.has a ∧ H a = some (.frz o u) ∧ PrsOf G.P G.w a u ps ∧ ValsR G ρ H ks (ps.map (·.1)) ∧ ValsR G ρ H vs (ps.map (·.2)) := by
  obtain ⟨a, ob, u, e, nh, hu, d⟩ := valR_dic.mp r
  cases n with
  | true =>
    obtain ⟨es, rfl, e1, e2, e3⟩ := d.1 rfl
    refine ⟨a, ob, _, _, e, nh, hu, .inr ⟨es, rfl, rfl⟩, ?_, ?_⟩
    · rw [List.map_map]; exact e2
    · rw [List.map_map]; exact e3
  | false =>
    obtain ⟨kvs, rfl, e1, e2⟩ := d.k
    refine ⟨a, ob, _, _, e, nh, hu, .inl ⟨kvs, rfl, rfl⟩, ?_, ?_⟩
    · rw [List.map_map, e1]
      have : ∀ l : List (Key × V), ValsR G ρ H (l.map fun e => keyC e.1) (l.map ((fun x : V × V => x.1) ∘ fun e => (kV e.1, e.2))) := fun l => by
        induction l with
        | nil => exact rfl
        | cons p r ih => exact ⟨_, _, rfl, kV_keyC p.1, ih⟩
      exact this kvs
    · rw [List.map_map]; exact e2
theorem ValsR.toAt : ∀ {xs : List CV} {us : List V} {i : Nat} {x : CV}, ValsR G ρ H xs us → xs[i]? = some x → ∃ u, us[i]? = some u ∧ ValR G ρ H x u := fun r e => r.at_ e
variable {a : Addr} {o : Obj} {u : HO} {ps : List (V × V)} {ks vs : List CV}
theorem dat_ext (m : MemR G ρ h H) (nh : ¬ ρ.has a) (hu : H a = some (.frz o u)) (hp : PrsOf G.P G.w a u ps) {ρ1 : Wd} {H1 : Hp} (e : ExtH ρ H ρ1 H1) : DAt G.P G.w H1 a o ps := ⟨u, e.keep a _ hu nh (fun _ z => nomatch z), hp⟩
theorem itR_keys (m : MemR G ρ h H) (nh : ¬ ρ.has a) (hu : H a = some (.frz o u)) (hp : PrsOf G.P G.w a u ps) (rk : ValsR G ρ H ks (ps.map (·.1))) : ItR G ρ H (Itq G.P G.w a o ps) ks := by
  intro ρ1 h1 H1 m1 e1
  have hl : ks.length = ps.length := by rw [rk.len, List.length_map]
  have da := dat_ext m nh hu hp e1
  refine ⟨fun i hi => ⟨da, by omega⟩, ⟨da, by omega⟩, fun i x v H' ex ⟨eH, w, y⟩ => ?_⟩
  subst eH
  obtain ⟨z, hz, r⟩ := rk.at_ ex
  rw [List.getElem?_map, y] at hz
  cases hz
  exact ⟨m1, Ext.refl, r.extH m e1⟩
theorem itR_vals (m : MemR G ρ h H) (nh : ¬ ρ.has a) (hu : H a = some (.frz o u)) (hp : PrsOf G.P G.w a u ps) (rv : ValsR G ρ H vs (ps.map (·.2))) : ItR G ρ H (Itw G.P G.w a o ps) vs := by
  intro ρ1 h1 H1 m1 e1
  have hl : vs.length = ps.length := by rw [rv.len, List.length_map]
  have da := dat_ext m nh hu hp e1
  refine ⟨fun i hi => ⟨da, by omega⟩, ⟨da, by omega⟩, fun i x v H' ex ⟨eH, w, y⟩ => ?_⟩
  subst eH
  obtain ⟨z, hz, r⟩ := rv.at_ ex
  rw [List.getElem?_map, y] at hz
  cases hz
  exact ⟨m1, Ext.refl, r.extH m e1⟩
theorem pairL_len : ∀ {ks vs : List CV}, ks.length = vs.length → (pairL ks vs).length = ks.length
  | [], vs, _ => rfl
  | k :: ks, [], e => by simp at e
  | k :: ks, v :: vs, e => by
    show (pairL ks vs).length + 1 = ks.length + 1
    rw [pairL_len (by simpa using e)]
theorem pairL_at : ∀ {ks vs : List CV} {i : Nat} {x : CV}, (pairL ks vs)[i]? = some x → ∃ k v, ks[i]? = some k ∧ vs[i]? = some v ∧ x = .tup [k, v]
  | [], vs, i, x, e => by cases i <;> cases e
  | k :: ks, [], i, x, e => by cases i <;> cases e
  | k :: ks, v :: vs, 0, x, e => by cases e; exact ⟨k, v, rfl, rfl, rfl⟩
  | k :: ks, v :: vs, i + 1, x, e => by
    obtain ⟨k', v', q⟩ := pairL_at (ks := ks) (vs := vs) (i := i) (x := x) e
    exact ⟨k', v', q⟩
theorem itR_items (m : MemR G ρ h H) (nh : ¬ ρ.has a) (hu : H a = some (.frz o u)) (hp : PrsOf G.P G.w a u ps) (rk : ValsR G ρ H ks (ps.map (·.1))) (rv : ValsR G ρ H vs (ps.map (·.2))) : ItR G ρ H (Itp G.P G.w a o ps) (pairL ks vs) := by
  intro ρ1 h1 H1 m1 e1
  have hl : ks.length = ps.length := by rw [rk.len, List.length_map]
  have hl2 : vs.length = ps.length := by rw [rv.len, List.length_map]
  have hl3 := pairL_len (hl.trans hl2.symm)
  have da := dat_ext m nh hu hp e1
  refine ⟨fun i hi => ⟨da, by omega⟩, ⟨da, by omega⟩, fun i x v H' ex ⟨T, p, q, y, ev, hT, eH⟩ => ?_⟩
  subst eH ev
  obtain ⟨k, w, ek, ew, rfl⟩ := pairL_at ex
  obtain ⟨z1, hz1, r1⟩ := rk.at_ ek
  obtain ⟨z2, hz2, r2⟩ := rv.at_ ew
  rw [List.getElem?_map, y] at hz1 hz2
  cases hz1
  cases hz2
  have ee : Ext ρ1 H1 ρ1 (upd H1 T (.tup [p, q])) := Ext.laid hT
  refine ⟨m1.laid hT, ee, T, [p, q], rfl, SqT.of upd_same, ?_⟩
  exact ⟨_, _, rfl, (r1.extH m e1).ext m1 ee, _, _, rfl, (r2.extH m e1).ext m1 ee, rfl⟩
end
section
variable {G : Cfg} {W : WX} {X : Cx} {tg e : Expr} {me : Sl → M CV} {apos cpos : Pos}
theorem dic_si {f : List CV → List CV → List CV} {J : Addr → Obj → List (V × V) → It} (S : SameG G X) (hJ : ∀ {ρ : Wd} {h : Mem} {H : Hp} {a : Addr} {o : Obj} {u : HO} {ps : List (V × V)} {ks vs : List CV}, MemR G ρ h H → ¬ ρ.has a → H a = some (.frz o u) → PrsOf G.P G.w a u ps → ValsR G ρ H ks (ps.map (·.1)) → ValsR G ρ H vs (ps.map (·.2)) → ItR G ρ H (J a o ps) (f ks vs))
    {σ : L2.St} {H : Hp} {R : It → Hp → Prop} (q : tIt G W (iDic f me) σ H R) : iFrz X J (tV G W me) σ H R := by
  obtain ⟨ρ, h, τ, m, s, p⟩ := q
  refine tM_bind m s p fun x h1 ρ1 H1 u m1 e1 s1 r1 p1 => ?_
  cases x with
  | dic n ks vs =>
    obtain ⟨a, o, u', ps, ev, nh, hu, hp, rk, rv⟩ := dic_prs r1
    exact ⟨a, o, ps, ev, ⟨u', hu, by rw [← S.p, ← S.w]; exact hp⟩, p1 ρ1 H1 _ m1 Ext.refl (hJ m1 nh hu hp rk rv)⟩
  | _ => exact p1.elim
theorem si_dkeys (S : SameG G X) (he : SE G W X e me) : SI G W X tg e (iDic (fun ks _ => ks) me) := (pi_keysF he).wk fun σ H R q => dic_si S (fun m nh hu hp rk rv => by rw [← S.p, ← S.w]; exact itR_keys m nh hu hp rk) q
theorem si_dvals (S : SameG G X) (he : SE G W X e me) (hbase : attributeBase e "values" X.env (eval e X.env) = eval e X.env := by rfl) (hline : (apos.endLine == cpos.line) = true := by rfl) : SI G W X tg (.Call (.Attribute e "values" apos) [] [] cpos) (iDic (fun _ vs => vs) me) :=
  (pi_valsF he hbase hline).wk fun σ H R q => dic_si S (fun m nh hu hp rk rv => by rw [← S.p, ← S.w]; exact itR_vals m nh hu hp rv) q
theorem si_ditems {elts : List Expr} {kk : Nat} {tpos : Pos} (S : SameG G X) (he : SE G W X e me) (hbase : attributeBase e "items" X.env (eval e X.env) = eval e X.env := by rfl) (hline : (apos.endLine == cpos.line) = true := by rfl) :
    SI G W X (.Tuple elts kk tpos) (.Call (.Attribute e "items" apos) [] [] cpos) (iDic pairL me) := (pi_itemsF he hbase hline).wk fun σ H R q => dic_si S (fun m nh hu hp rk rv => by rw [← S.p, ← S.w]; exact itR_items m nh hu hp rk rv) q
end
end VE

noncomputable section
namespace VE
open PySem PySem.Spec PyProof.Rows L2 LamX
open PySem.W (alike alikeAll AllAlike Sortable dataLe dataLt keyToks TotalLe sortLe sortLe_total EachIs)
def DRd (P : Program) (w : World) (H : Hp) (d : Addr) (ps : List (V × V)) : Prop := ∃ u, Rd H d u ∧ PrsOf P w d u ps
section
variable {X : Cx} {pins : List (Addr × Obj)} {σ : L2.St} {H : Hp} {s : Shared} {d : Addr} {ps : List (V × V)}
theorem raw_of (I : Inv X pins σ H s) (h : DRd X.prog X.w H d ps) : (d == sysModules) = false ∧ ∃ (es : Array DictEntry) (ep : Nat), s.heap.DictRaw d es ep ∧ PrE ps es.toList ∧ es.size = ps.length ∧ ps.length ≤ sizeLine := by
  obtain ⟨u, hd, hp⟩ := h
  have ok := hd.ok I.hok
  rcases hp with ⟨kvs, rfl, rfl⟩ | ⟨es, rfl, rfl⟩
  · obtain ⟨z, hs, vs, kv, o', ds, ep, h1, h2, h3, h4, h5, h6⟩ := ok
    have pr := prE_k kv h5
    refine ⟨hs, ds, ep, ⟨o', h1, h2, h3⟩, pr, ?_, by rw [List.length_map]; exact z⟩
    have := Paired.length pr
    rw [Array.length_toList] at this
    exact this.symm
  · unfold dN at ok
    obtain ⟨⟨z, hs, dp, xs, o', ds, ep, r, h1, h2, h3, h4, h5⟩, _⟩ := ok
    have pr : PrE (es.map fun e => (V.ref e.2.1, e.2.2)) ds.toList := by rw [h4]; exact prE_n r
    refine ⟨hs, ds, ep, ⟨o', h1, h2, h3⟩, pr, ?_, by rw [List.length_map]; exact z⟩
    have := Paired.length pr
    rw [Array.length_toList] at this
    exact this.symm
theorem prE_keys : ∀ {ps : List (V × V)} {es : List DictEntry} {us : List Value}, PrE ps es → us.length = ps.length → (∀ (j : Nat) (v : Value), us[j]? = some v → ∃ e : DictEntry, es[j]? = some e ∧ v = e.key) → Vals (ps.map (·.1)) us
  | [], _, us, r, hl, _ => by
    cases us with
    | nil => exact .nil
    | cons _ _ => simp at hl
  | p :: ps, _, [], r, hl, _ => by simp at hl
  | p :: ps, _, u :: us, r, hl, h => by
    cases r with
    | cons a t =>
      obtain ⟨e, e1, e2⟩ := h 0 u rfl
      cases e1
      exact .cons (by rw [e2]; exact a.1) (prE_keys t (by simpa using hl) fun j v q => h (j + 1) v (by simpa using q))
theorem keysV_of {n : Nat} {es : Array DictEntry} {acc : Array Value} (pr : PrE ps es.toList) (hn : es.size = ps.length) (ha : ItemsOf (fun i v => ∃ hi : i < es.size, v = es[i].key) acc es.size) : Vals (ps.map (·.1)) acc.toList :=
  prE_keys pr (by rw [Array.length_toList, ha.1, hn]) fun j v e => by
    obtain ⟨hj, ev⟩ := ha.2 j v (by rw [← Array.getElem?_toList]; exact e)
    exact ⟨es[j], by rw [Array.getElem?_toList, Array.getElem?_eq_getElem hj], ev⟩
end
section
variable {G : Cfg} {ρ : Wd} {h : Mem} {H : Hp}
theorem dicOf_prs {x : CV} {u : V} {n : Bool} {ks vs : List CV} (m : MemR G ρ h H) (r : ValR G ρ H x u) (e : dicOf x h = some (n, ks, vs)) : ∃ a ps, u = .ref a ∧ DRd G.P G.w H a ps ∧ ValsR G ρ H ks (ps.map (·.1)) ∧ ValsR G ρ H vs (ps.map (·.2)) := by
  cases n with
  | true =>
    obtain ⟨a, es, eu, nd, e1, e2, e3⟩ := dicOf_n m r e
    rcases nd with ⟨rd, _⟩ | ⟨rfl, rd⟩
    · exact ⟨a, _, eu, ⟨_, rd, .inr ⟨es, rfl, rfl⟩⟩, by rw [List.map_map]; exact e2, by rw [List.map_map]; exact e3⟩
    · exact ⟨a, [], eu, ⟨_, rd, .inl ⟨[], rfl, rfl⟩⟩, e2, e3⟩
  | false =>
    obtain ⟨a, kvs, eu, hd, e1, e2⟩ := dicOf_r m r e
    refine ⟨a, _, eu, ⟨_, hd, .inl ⟨kvs, rfl, rfl⟩⟩, ?_, ?_⟩
    · rw [List.map_map, e1]
      have : ∀ l : List (Key × V), ValsR G ρ H (l.map fun e => keyC e.1) (l.map ((fun x : V × V => x.1) ∘ fun e => (kV e.1, e.2))) := fun l => by
        induction l with
        | nil => exact rfl
        | cons p r ih => exact ⟨_, _, rfl, kV_keyC p.1, ih⟩
      exact this kvs
    · rw [List.map_map]; exact e2
end
def rSrtK (G : Cfg) : List V → Hp → VK → Prop := fun vs H Q => ∃ (a : Addr) (ps : List (V × V)) (bs : List (PyData × V)), vs = [.ref a] ∧ DRd G.P G.w H a ps ∧ bs.map (·.2) = ps.map (·.1) ∧ (∀ b ∈ bs, Dp G.K H b.2 b.1) ∧ AllAlike (bs.map (·.1)) ∧ Sortable (bs.map (·.1)) ∧ (∀ b ∈ bs, b.1.depth ≤ 40) ∧
  ∀ p, H p = none → Q (.ref p) (upd H p (.lst ((srtL (dataLe false (·.1)) bs).map (·.2))))
theorem cr_srtK {G : Cfg} {X : Cx} (S : SameG G X) (hc : X.calm = true) (hu : X.A.units + 64 < cLine) : CallR X (.builtin "sorted") (rSrtK G) := by
  intro pins s σ H vs us Q I r h
  obtain ⟨a, ps, bs, rfl, hd, hbs, hdp, hal, hk, hdd, q⟩ := h
  rw [S.p, S.w] at hd
  rw [S.k] at hdp
  rw [Vals.ref1 r]
  obtain ⟨hs, es, ep, raw, pr, hsz, hle⟩ := raw_of I hd
  refine Calls.call_function_entry PyProof.Rows.kind_sorted PyProof.Rows.plain_sorted PyProof.Rows.entry_sorted (PyProof.Rows.args_sorted1 _) ?_
  unfold Builtin.«sorted»
  refine wpAny_bind (m := checkCount "sorted" 1 1 _) (wpAny_pure (wpAny_bind (PySem.W.kdu_collect (A := X.A.in1) (PySem.KdlSrc.rawDict (ep := ep) hs) (I.ok.hd hc) raw (by omega) fun h' tk acc hk' hacc => ?_)))
  have I1 : Inv X pins σ H { s with heap := h', toks := tk } := I.kept hk'
  have rv : Vals (bs.map (·.2)) acc.toList := by rw [hbs]; exact keysV_of (n := 0) pr hsz hacc
  have hal' : acc.toList.length = bs.length := by rw [← rv.length, List.length_map]
  have hbl : bs.length = ps.length := by have := congrArg List.length hbs; simpa using this
  obtain ⟨e1, e2⟩ := each_vals I1 hdp rv
  refine wpAny_bind (wpAny_newList ?_ (by rw [hal', hbl]; exact hle))
  have hoL : (h'.push (seqObj "list" acc.toList.toArray 0)).get? h'.objs.size = some (seqObj "list" acc.toList.toArray 0) := Heap.get?_push_size _ rfl
  show wpAny _ _ _ _ _ { s with heap := h'.push (seqObj "list" acc.toList.toArray 0), toks := tk }
  have up : EachIs (fun v (b : PyData × V) => ∃ as, Reads (PySem.W.sortingHeap (h'.push (seqObj "list" acc.toList.toArray 0)) h'.objs.size acc.toList) v b.1 as) acc.toList bs :=
    e2.mono fun _ _ ⟨as, z⟩ => ⟨as, PyProof.Rows.Reads.keeps (fun b o e => PySem.W.sortingHeap_old (Nat.ne_of_lt (Heap.lt_size e)) (Heap.get?_push_of_some _ e)) z⟩
  refine wpAny_bind (wpAny_holding (wpAny_call_entry PyProof.Rows.slot_list_sort ⟨_, hoL, rfl⟩ PyProof.Rows.entry_list_sort
    (PySem.W.list_sort_vals (s := { s with heap := h'.push (seqObj "list" acc.toList.toArray 0), toks := tk }) hoL
      (PySem.W.SortsAt.data (s := { s with heap := PySem.W.sortingHeap (h'.push (seqObj "list" acc.toList.toArray 0)) h'.objs.size acc.toList, toks := tk }) (PySem.W.each_map (R := fun v d => ∃ as, Reads (PySem.W.sortingHeap (h'.push (seqObj "list" acc.toList.toArray 0)) h'.objs.size acc.toList) v d as) (fun b : PyData × V => b.1) up) hal hk
        (PySem.W.bound_map fun b hb => by have := hdd b hb; show X.A.units + 1 + 1 + _ < _; omega))
      (by rw [hal', hbl]; exact hle) ⟨_, rfl, ?_⟩)
    (PyProof.Rows.args_list_sort _)))
  have out := PySem.W.sortVals_data (enc := fun b : PyData × V => b.1) false e1 up hal
  have es' : srtL (dataLe false fun b : PyData × V => b.1) bs = bs.mergeSort (dataLe false fun b : PyData × V => b.1) := srtL_eq (sortLe_total (listOrd itemOrd) false fun b : PyData × V => keyToks b.1) bs
  rw [← es'] at out
  have rout := vals_each (fun _ _ z => z) out
  obtain ⟨e', he'⟩ := PyProof.Rows.sortedHeap_at (vs := acc.toList) (out := (PySem.W.sortVals (PySem.W.dataKind (PySem.W.sortingHeap (h'.push (seqObj "list" acc.toList.toArray 0)) h'.objs.size acc.toList) (bs.map fun b : PyData × V => b.1)) false acc.toList acc.toList).toArray) hoL
  have hlen : ((srtL (dataLe false fun b : PyData × V => b.1) bs).map (·.2)).length ≤ sizeLine := by
    rw [List.length_map, es', List.length_mergeSort, hbl]; exact hle
  refine wpAny_pure ⟨_, rfl, .ref h'.objs.size, upd H h'.objs.size (.lst ((srtL (dataLe false fun b : PyData × V => b.1) bs).map (·.2))), I1.laid (t' := tk) (fun b u e => ?_) (Nat.le_refl _) ⟨hlen, _, e', rout, he'⟩, rfl, q _ (I1.hok.fresh (Nat.le_refl _))⟩
  have hb : b < h'.objs.size := Heap.lt_size e
  rw [PyProof.Rows.sortedHeap_old (Nat.ne_of_lt hb) (by rw [size_push']; exact Nat.lt_succ_of_lt hb)]
  exact Heap.get?_push_of_some _ e
def pySrtK (x : CV) : M CV := fun h => match dicOf x h with
  | some (_, xs, _) => match dats xs with
    | some ds => if (pairwiseB alike ds && ((tupsB ds || othersB ds) && depthB ds)) = true then .ok (.lst ((srtL leK (keyed xs ds)).map (·.2))) h else .bad
    | none => .bad
  | none => .bad
theorem srtK_ok {G : Cfg} : OpL G (rSrtK G) (one pySrtK) := one_ok fun W σ ρ h H x u Q m rx p => by
  unfold pySrtK at p
  split at p
  · rename_i n xs vs e
    split at p
    · rename_i ds e2
      by_cases c : (pairwiseB alike ds && ((tupsB ds || othersB ds) && depthB ds)) = true
      · rw [if_pos c] at p
        obtain ⟨c1, c⟩ := band c
        obtain ⟨c2, c3⟩ := band c
        obtain ⟨a, ps, eu, hd, rr, _⟩ := dicOf_prs m rx e
        obtain ⟨ts, t1, t2, t3, t4⟩ := tri_of rr e2
        have eb : (ts.map fun t => (t.1, t.2.2)).map (·.2) = ps.map (·.1) := by rw [List.map_map, ← t3]; rfl
        have ed : (ts.map fun t => (t.1, t.2.2)).map (·.1) = ds := by rw [List.map_map, ← t4]; rfl
        refine ⟨a, ps, ts.map fun t => (t.1, t.2.2), by rw [eu], hd, eb, fun b hb => ?_, ?_, by rw [ed]; exact sortable_of c2, fun b hb => ?_, fun q hq => ?_⟩
        · obtain ⟨t, ht, rfl⟩ := List.mem_map.mp hb
          exact (t1 t ht).2
        · rw [ed]
          intro d1 h1 d2 h2
          exact List.all_eq_true.mp (List.all_eq_true.mp c1 d1 h1) d2 h2
        · have hm : b.1 ∈ ds := ed ▸ List.mem_map_of_mem hb
          exact Nat.le_of_ble_eq_true (List.all_eq_true.mp c3 _ hm)
        · have w1 := map_srtL (le := dataLe false fun t : PyData × CV × V => t.1) (le' := dataLe false fun b : PyData × V => b.1) (fun t : PyData × CV × V => (t.1, t.2.2)) (fun _ _ => rfl) ts
          have w2 := map_srtL (le := dataLe false fun t : PyData × CV × V => t.1) (le' := leK) (fun t : PyData × CV × V => (keyToks t.1, t.2.1)) (fun _ _ => rfl) ts
          have ek : keyed xs ds = ts.map fun t => (keyToks t.1, t.2.1) := by
            rw [keyed_eq, ← t2, ← t4, List.zip_map', List.map_map] <;> rfl
          rw [ek, ← w2, List.map_map] at p
          rw [← w1, List.map_map]
          exact Post.newLst m (tri_vals (ts := srtL (dataLe false fun t : PyData × CV × V => t.1) ts) fun t ht => t1 t (srtL_mem ht)) p hq
      · rw [if_neg c] at p; exact p.elim
    · exact p.elim
  · exact p.elim
def rLstK (G : Cfg) : List V → Hp → VK → Prop := fun vs H Q => ∃ (a : Addr) (ps : List (V × V)), vs = [.ref a] ∧ DRd G.P G.w H a ps ∧ ∀ p, H p = none → Q (.ref p) (upd H p (.lst (ps.map (·.1))))
theorem cr_lstK {G : Cfg} {X : Cx} (S : SameG G X) (hc : X.calm = true) : CallR X (.type "list") (rLstK G) := by
  intro pins s σ H vs us Q I r h
  obtain ⟨a, ps, rfl, hd, q⟩ := h
  rw [S.p, S.w] at hd
  rw [Vals.ref1 r]
  obtain ⟨hs, es, ep, raw, pr, hsz, hle⟩ := raw_of I hd
  refine PySem.W.kdl_call (PySem.KdlSrc.rawDict (ep := ep) hs) (I.ok.hd hc) raw (by omega) fun h' tk acc c hk ho hacc => ?_
  exact ⟨.ref s.heap.objs.size, upd H s.heap.objs.size (.lst (ps.map (·.1))), I.laid (t' := tk) hk (Nat.le_refl _) ⟨by rw [List.length_map]; exact hle, acc.toList, c, keysV_of (n := 0) pr hsz hacc, by rw [ho]⟩, rfl, q _ (I.hok.fresh (Nat.le_refl _))⟩
def pyLstK (x : CV) : M CV := fun h => match dicOf x h with
  | some (_, xs, _) => .ok (.lst xs) h
  | none => .bad
theorem lstK_ok {G : Cfg} : OpL G (rLstK G) (one pyLstK) := one_ok fun W σ ρ h H x u Q m rx p => by
  unfold pyLstK at p
  split at p
  · rename_i n xs vs e
    obtain ⟨a, ps, eu, hd, rr, _⟩ := dicOf_prs m rx e
    exact ⟨a, ps, by rw [eu], hd, fun q hq => Post.newLst m rr p hq⟩
  · exact p.elim
def rLenK (G : Cfg) : List V → Hp → VK → Prop := fun vs H Q => (∃ (a : Addr) (es : Ents), vs = [.ref a] ∧ NDict G H a es ∧ Q (.int es.length) H) ∨ rLenD vs H Q
theorem call_lenK {G : Cfg} {X : Cx} (S : SameG G X) : CallR X (.builtin "len") (rLenK G) := by
  intro pins s σ H vs us Q I r h
  rcases h with ⟨a, es, rfl, nd, q⟩ | h
  · rw [Vals.ref1 r]
    obtain ⟨z, hs, _, xs, rel, dd⟩ := nd_of S I nd
    have hz : xs.length ≤ sizeLine := by rw [← Paired.length rel]; exact z
    rw [sizeLine_eq] at hz
    refine call_len_slot (n := (xs.length : Int)) dd.typeIs PySem.F.slot_dict_len (fun Q' q' => PySem.len_keyed hs ⟨xs, dd, rfl⟩ (by rw [pairsH_length]; exact q')) (by omega) (by omega) ?_
    exact ⟨.int es.length, H, I.tok _, ⟨_, by rw [Paired.length rel]⟩, q⟩
  · exact call_lenD pins s σ H vs us Q I r h
def pyLenK (x : CV) : M CV := fun h => match dicOf x h with
  | some (_, ks, _) => .ok (.int ks.length) h
  | _ => .bad
theorem lenK_ok {G : Cfg} : OpL G (rLenK G) (one pyLenK) := one_ok fun W σ ρ h H x u Q m rx p => by
  unfold pyLenK at p
  split at p
  · rename_i n ks vs e
    cases n with
    | true =>
      obtain ⟨a, es, eu, nd, e1, e2, e3⟩ := dicOf_n m rx e
      refine .inl ⟨a, es, by rw [eu], nd, p ρ H _ m Ext.refl ?_⟩
      have := e2.len
      rw [List.length_map] at this
      rw [this]; rfl
    | false =>
      obtain ⟨a, kvs, ev, hd, e1, e2⟩ := dicOf_r m rx e
      subst e1
      refine .inr ⟨a, kvs, by rw [ev], hd, p ρ H _ m Ext.refl ?_⟩
      rw [List.length_map]; rfl
  · exact p.elim
end VE

noncomputable section
namespace VE
open PySem PySem.Spec PyProof.Rows L2 LamX
abbrev St := L2.St
theorem putU_dictSet {G : Cfg} {X : Cx} {pins : List (Addr × Obj)} {σ : L2.St} {H H' : Hp} {s : Shared} {a : Addr} {y v : V} {u r : Value} {A : Around} {E : Value → Shared → Prop} {Q : Unit → Shared → Prop} (S : SameG G X) (hu : A.units + 20 < cLine) (I : Inv X pins σ H s) (g : PutU G H a y v H') (ry : RelV y u) (rv : RelV v r)
    (h : ∀ s', Inv X pins σ H' s' → Q () s') : wpAny (model X.prog X.w) A (dictSet a u r) Q E s := by
  rcases g with ⟨kvs, k, e, ey, l, eH⟩ | ⟨es, k, b, n, ey, nk, l, eH⟩
  · subst ey eH
    obtain ⟨z, hd, vs, rel, dd⟩ := dk_of I.hok e
    have hz : vs.length ≤ sizeLine := by rw [← rel.length]; exact z
    have hl : (putK kvs k v).length ≤ sizeLine := by have := length_putK kvs k v; omega
    refine wpAny_dictSet_pairs (hsz := hz) (kV_is ry) dd fun h' d2 hs => h _ ?_
    exact d_write I (by rw [e]; exact True.intro) hs (let ⟨q, _, _, hq, _⟩ := d2; ⟨q, hq⟩) (dk_new hl hd (rel.put k rv) d2)
  · subst ey eH
    obtain ⟨b', eb, hk⟩ := nkey_is S I nk ry
    cases (show u = Value.ref b from ry)
    injection eb with eb
    subst eb
    obtain ⟨z, hd, dp, xs, rel, dd⟩ := nd_of S I n.nd
    have hz : xs.length ≤ sizeLine := by rw [← Paired.length rel]; exact z
    have hl : (putE es k b v).length ≤ sizeLine := by have := putE_len es k b v; omega
    refine wpAny_dictSet_heap (hsz := hz) (knd := nestedKind X.prog X.w) (show A.units + 8 < cLine by omega) hk dd fun h' d2 hs => h _ ?_
    exact d_write I n.mut hs (let ⟨q, _, _, hq, _⟩ := d2; ⟨q, hq⟩) (dN_obj S.p S.w hl hd (putE_depth dp hk.2) (putE_rel rel k rv) d2)
section
variable {X : Cx}
def tDcU (G : Cfg) (wi : TI) (g : TG) (tt : TT) (tk tv : TE) (vs : List Nat) : TE := fun σ H Q => wi σ H fun J H1 => ∀ D, H1 D = none → ∃ W : Nat → Nat → Hp → Prop, (∃ m, W 0 m (upd H1 D (.dK []))) ∧ ∀ i m H, W i m H →
  (J.stop i H ∧ Q (.ref D) H) ∨ (J.go i H ∧ ∃ Nx : Hp → Prop, (∀ H', Nx H' → ∃ m', m' < m ∧ W (i + 1) m' H') ∧ ∀ x H', J.yld i H x H' → g x (L2.wipe σ vs) H' fun σ2 H2 => L2.wipe σ2 vs = L2.wipe σ vs ∧ tt σ2 H2 fun b H3 =>
    if b = true then tk σ2 H3 fun y H4 => tv σ2 H4 fun z H5 => ∃ H6, PutU G H5 D y z H6 ∧ Nx H6 else Nx H3)
theorem dcU_core {pins : List (Addr × Obj)} {s : Shared} {σ : St} {H : Hp} {Q : VK} {kx vx tg iter : Expr} {ifs : List Expr} {scope : Scope} {ow : List (Str × Nat)} {pos pos' : Pos} {wi : TI} {g : TG} {tt : TT} {tk tv : TE} {use : Option (Value → Sem Unit)} {Qf : Value → Shared → Prop} {G : Cfg} {kr : Nat} (S : SameG G X) (hr0 : Room kr X.A) (hc : X.calm = true) (hN : X.N.Nodup) (I : Inv X pins σ H s) (hi : PI X tg iter wi) (ok : BlkOk X.N X.env.scope scope ow) (hg : Blk X scope fun Y => PG Y tg g) (ht : Blk X scope fun Y => PTs Y ifs tt) (hk : Blk X scope fun Y => PE Y kx tk) (he : Blk X scope fun Y => PE Y vx tv) (hs : ∀ x, foldedSetIterable iter X.env x = pure x) (h : tDcU G wi g tt tk tv (ow.map (·.2)) σ H Q) (hend : ∀ D C s' m H', Inv X pins σ H' s' → Q (.ref D) H' → s'.heap.Ns C m → FpOk X pins H' C → compPost (model X.prog X.w) X.A X.xe use Qf (.ref D) C (.ok .next) s') : wpAny (model X.prog X.w) X.A (comprehension (.DictComp kx vx [⟨tg, iter, ifs, 0⟩] scope pos) scope X.env pos' newDict false (eval iter X.env) use) Qf X.xe s := by
  have frees : ∀ y ∈ scope.names, y.2 = .free → ∃ c, X.env.cells.lookup y.1 = some c := fun y hy e => by
    exact (ok.free y hy e).elim (fun k => I.ok.has _ (.inl k)) fun k => I.ok.has _ (.inr k)
  refine wpAny_comprehension_free (use := use) rfl hs (closure_ok frees) ok.kind (fun y hy e => by rw [ok.uniq y hy, e])
    (thn (hi.run pins s σ H _ I h) fun xv sa hx => thn hx fun iv sb hb_ => ?_)
  obtain ⟨it, fp, tn, J, Hb, e, Ib, T, stb, fb, q⟩ := hb_
  cases e; refine wpAny_newObj_type (newEnv_comp ?_)
  generalize hD : sb.heap.objs.size = D
  have hDnone : Hb D = none := Ib.hok.fresh (Nat.le_of_eq hD)
  obtain ⟨W, ⟨mz, wz⟩, turns⟩ := q D hDnone
  -- the new dict
  generalize hsc : ({ sb with heap := sb.heap.push { cls := .type "dict", data := .dict #[] } } : Shared) = sc
  have Ic : Inv X pins σ (upd Hb D (.dK [])) sc := by
    rw [← hsc]
    refine Ib.laid (t' := sb.toks) (fun b o e => Heap.get?_push_of_some _ e) (Nat.le_of_eq hD) ?_
    rw [← hD]
    exact dk_empty sb.heap Ib.big
  have hheap : sc.heap = sb.heap.push { cls := .type "dict", data := .dict #[] } := by rw [← hsc]
  have below : ∀ b ∈ fp, b < sb.heap.objs.size := fun b hb => by
    obtain ⟨o, e, _⟩ := T.obj _ _ stb b hb
    exact Heap.lt_size e
  have fc : ∀ b ∈ fp, FpOk X pins (upd Hb D (.dK [])) b ∧ b < sc.heap.objs.size := fun b hb => by
    have hlt := below b hb
    refine ⟨⟨?_, (fb b hb).2⟩, by rw [hheap, Heap.size_push]; exact Nat.lt_succ_of_lt hlt⟩
    rw [upd_ne (hD ▸ Nat.ne_of_lt hlt)]
    exact (fb b hb).1
  have stc : tn 0 sc.heap := T.keep _ _ _ stb fun b _ o e => by rw [hheap]; exact Heap.get?_push_of_some _ e
  have Id := block_start Ic ok hN fc
  have pgv := hg sc (upd Hb D (.dK [])) sc.heap.objs.size (cellsFrom (sc.heap.objs.size + 1) scope.names (cloFrom X.env.cells scope.names [])) fp
  have ptv := ht sc (upd Hb D (.dK [])) sc.heap.objs.size (cellsFrom (sc.heap.objs.size + 1) scope.names (cloFrom X.env.cells scope.names [])) fp
  have pkv := hk sc (upd Hb D (.dK [])) sc.heap.objs.size (cellsFrom (sc.heap.objs.size + 1) scope.names (cloFrom X.env.cells scope.names [])) fp
  have pev := he sc (upd Hb D (.dK [])) sc.heap.objs.size (cellsFrom (sc.heap.objs.size + 1) scope.names (cloFrom X.env.cells scope.names [])) fp
  show codeAny _ _ (.compStart (.DictComp kx vx [⟨tg, iter, ifs, 0⟩] scope pos) 0 (.ref it) (.ref D) (compEnvC scope (cellsFrom (sc.heap.objs.size + 1) scope.names (cloFrom X.env.cells scope.names [])) sc.heap.objs.size X.env)) (compPost (model X.prog X.w) X.A X.xe use Qf (.ref D) sc.heap.objs.size) { sc with heap := pushCells (sc.heap.push { cls := .type "dict", data := .dict #[] }) scope.names }
  have nofp : ∀ b ∈ fp, (upd Hb D (.dK [])) b = none := fun b hb => (fc b hb).1.1
  generalize hcenv : compEnvC scope (cellsFrom (sc.heap.objs.size + 1) scope.names (cloFrom X.env.cells scope.names [])) sc.heap.objs.size X.env = cenv at Id pgv ptv pkv pev ⊢
  have cloc : cenv.locals = sc.heap.objs.size := by subst hcenv; rfl
  generalize hHc : upd Hb D (.dK []) = Hc at Ic Id pgv ptv pkv pev wz nofp fc
  generalize hsd : ({ sc with heap := pushCells (sc.heap.push { cls := .type "dict", data := .dict #[] }) scope.names } : Shared) = sd at Id ⊢
  have std : tn 0 sd.heap := T.keep _ _ _ stc fun b _ o e => by rw [← hsd]; exact pushCells_keeps _ _ _ _ (Heap.get?_push_of_some _ e)
  have stays : ∀ {σ' : St} {H' : Hp} {s' : Shared}, Inv (X.blk sc Hc scope cenv fp) [] σ' H' s' → (∀ b ∈ fp, H' b = none) → ∀ b ∈ fp, FpOk (X.blk sc Hc scope cenv fp) [] H' b := fun {σ' H' s'} I' hn b hb =>
    ⟨hn b hb, (I'.ok.exf b hb).1, I'.ok.exfs b hb, .inl hb, (I'.ok.exf b hb).2, fun p hp => absurd (show p ∈ ([] : List (Addr × Obj)) ++ [] from hp) (by simp)⟩
  have looped : codeAny (model X.prog X.w) X.A (.compLoop (.DictComp kx vx [⟨tg, iter, ifs, 0⟩] scope pos) 0 (.ref it) (.ref D) cenv) (compPost (model X.prog X.w) X.A X.xe use Qf (.ref D) sc.heap.objs.size) sd := by
    refine compLoop_anyD (fun n s' => ∃ i H', Inv (X.blk sc Hc scope cenv fp) [] (wipe σ (ow.map (·.2))) H' s' ∧ tn i s'.heap ∧ (∀ b ∈ fp, H' b = none) ∧ W i n H') ?_ mz ⟨0, Hc, Id, std, nofp, wz⟩
    rintro n se ⟨i, He, Ie, ste, ne, we⟩
    rcases turns i n He we with ⟨stop, qq⟩ | ⟨go, Nx, hNx, step⟩
    · have tdn := T.done (X.blk sc Hc scope cenv fp) rfl rfl rfl hc i [] se _ He (fun _ _ => False) Ie (stays Ie ne) ste stop
      refine thnF tdn fun r sf ⟨hr, If⟩ => ?_
      subst hr
      have Ig : Inv X pins σ He sf := Ic.call' (ch := fp) If.os If.base If.hok If.bare fun b hb => ⟨(fc b hb).1.2.2.2.1, (fc b hb).1.2.1, (fc b hb).1.2.2.2.2.1, (fc b hb).1.2.2.2.2.2⟩
      have noC : He sc.heap.objs.size = none := by
        have z : He cenv.locals = none := If.free
        rw [cloc] at z
        exact z
      obtain ⟨m, hn, _⟩ := If.loc
      have hn : sf.heap.Ns cenv.locals m := hn
      rw [cloc] at hn
      exact hend D sc.heap.objs.size sf m He Ig qq hn (Ic.fpOk (Nat.le_refl _) noC)
    · have tin := T.item (X.blk sc Hc scope cenv fp) rfl rfl rfl hc i [] se _ He (fun _ _ => False) Ie (stays Ie ne) ste go
      refine thnF tin fun r sf ⟨u, hr, hf⟩ => ?_
      subst hr
      refine thnF hf fun _ sg ⟨x, Hg, Ig, rg, yg, stg, ng⟩ => ?_
      have I7' := Ig.pinned (stays Ig ng) (T.obj _ _ stg)
      refine thnF (pgv.run _ sg _ Hg x u _ I7' rg (step x Hg yg)) fun _ sh ⟨σ8, Hh, Ih, hwh, qh⟩ => ?_
      refine thnF (ptv.run _ sh σ8 Hh _ Ih qh) fun b si ⟨Hi, Ii, qi⟩ => ?_
      have ended : ∀ {s' : Shared} {H' : Hp}, Inv (X.blk sc Hc scope cenv fp) ([] ++ pinsAt fp sg.heap) σ8 H' s' → Nx H' → ∃ m, m < n ∧ ∃ i H', Inv (X.blk sc Hc scope cenv fp) [] (wipe σ (ow.map (·.2))) H' s' ∧ tn i s'.heap ∧ (∀ b ∈ fp, H' b = none) ∧ W i m H' := fun {s' H'} I' nx => by
        obtain ⟨mm, hm, w'⟩ := hNx H' nx
        have pinned_ : ∀ b ∈ fp, ∀ o, sg.heap.get? b = some o → s'.heap.get? b = some o ∧ H' b = none := fun b hb o e =>
          have z := I'.pin (b, o) (List.mem_append_right _ (List.mem_append_right _ (mem_pinsAt hb e)))
          ⟨z.1, z.2.1⟩
        have hl : (wipe σ (ow.map (·.2))).length = σ8.length := by rw [← hwh, wipe_length]
        refine ⟨mm, hm, i + 1, H', (I'.unpinned (pins := [])).weak hl (fun j v e => ?_), T.keep _ _ _ stg fun b hb o e => (pinned_ b hb o e).1, fun b hb => ?_, w'⟩
        · rw [← hwh] at e
          exact (wipe_some e).1
        · obtain ⟨o, e, _⟩ := T.obj _ _ stg b hb
          exact (pinned_ b hb o e).2
      cases b with
      | false =>
        simp only [Bool.false_eq_true, if_false] at qi ⊢
        exact ended Ii qi
      | true =>
        simp only [if_true] at qi ⊢
        refine thnF (pkv.run _ si σ8 Hi _ Ii qi) fun z sj ⟨yk, Hj, Ij, rj, qj⟩ => ?_
        refine thnF (pev.run _ sj σ8 Hj _ Ij qj) fun z2 sk ⟨yv, Hk, Ik, rk, Hl, pu, nx⟩ => ?_
        exact putU_dictSet (X := X.blk sc Hc scope cenv fp) ⟨S.k, S.p, S.w⟩ (u20 hr0) Ik pu rj rk fun sl Il => ended Il nx
  exact codeAny_compStart_dict looped (T.self X.A 0 _ _ _ std looped)
theorem pe_dcU {G : Cfg} {kr : Nat} {kx vx tg iter : Expr} {ifs : List Expr} {scope : Scope} {own : List (Str × Nat)} {pos : Pos} {wi : TI} {g : TG} {tt : TT} {tk tv : TE} (S : SameG G X) (hr : Room kr X.A) (hc : X.calm = true) (hN : X.N.Nodup) (hi : PI X tg iter wi) (ok : BlkOk X.N X.env.scope scope own)
    (hg : Blk X scope fun Y => PG Y tg g) (ht : Blk X scope fun Y => PTs Y ifs tt) (hk : Blk X scope fun Y => PE Y kx tk) (he : Blk X scope fun Y => PE Y vx tv) (hs : ∀ x, foldedSetIterable iter X.env x = pure x) : PE X (.DictComp kx vx [⟨tg, iter, ifs, 0⟩] scope pos) (tDcU G wi g tt tk tv (own.map (·.2))) := by
  refine ⟨fun pins s σ H Q I h => ?_⟩
  rw [arm_eval_DictComp]
  refine dcU_core S hr hc hN I hi ok hg ht hk he hs h fun D C s' m H' I' q hn ⟨f0, f1, f2, f3, f4, f5⟩ => ⟨m, hn, fun h'' sb => ⟨.ref D, H', I'.turned (t' := s'.toks) (fun b o hb e => (sb.2 b hb).trans e) f0 f1 f3 f4 f5, rfl, q⟩⟩
theorem ps_setDcU {G : Cfg} {kr i : Nat} {y : Str} {py pos spos : Pos} {kx vx tg iter : Expr} {ifs : List Expr} {scope : Scope} {own : List (Str × Nat)} {wi : TI} {g : TG} {tt : TT} {tk tv : TE} (S : SameG G X) (hr : Room kr X.A) (hc : X.calm = true) (hN : X.N.Nodup) (hy : X.N[i]? = some y) (hyl : X.env.scope.names.lookup y = some .local)
    (hsw : swapsWith (.DictComp kx vx [⟨tg, iter, ifs, 0⟩] scope pos) (some (.Name y py)) spos.line X.env = pure true) (hi : PI X tg iter wi) (ok : BlkOk X.N X.env.scope scope own)
    (hg : Blk X scope fun Y => PG Y tg g) (ht : Blk X scope fun Y => PTs Y ifs tt) (hk : Blk X scope fun Y => PE Y kx tk) (he : Blk X scope fun Y => PE Y vx tv) (hs : ∀ x, foldedSetIterable iter X.env x = pure x) :
    PS X (.Assign [.Name y py] (.DictComp kx vx [⟨tg, iter, ifs, 0⟩] scope pos) spos) (tAsg (tDcU G wi g tt tk tv (own.map (·.2))) (gName i)) := by
  refine ⟨fun pins s σ H D I h => ?_⟩
  have h : tDcU G wi g tt tk tv (own.map (·.2)) σ H (fun x H1 => gName i x σ H1 D.nx) := h
  rw [exec_Assign_Name_used _ _ _ _ hsw]
  refine wpAny_bind (wpAny_standAt (wpAny_bind ?_))
  show wpAny _ X.A (do let _ ← comprehension (.DictComp kx vx [⟨tg, iter, ifs, 0⟩] scope pos) scope X.env (firstIterPos [⟨tg, iter, ifs, 0⟩] pos) newDict false (eval iter X.env) (some (assign (.Name y py) X.env))) _ _ s
  refine wpAny_bind (thn (dcU_core (Qf := fun _ s2 => SP X pins D .next s2) S hr hc hN I hi ok hg ht hk he hs h fun L C s2 m H2 I2 q hn ⟨a0, a1, a2, a3, a4, a5⟩ => ?_) fun _ s2 hq => wpAny_pure (wpAny_pure hq))
  refine (show wpAny _ _ (assign (.Name y py) X.env (.ref L)) _ _ _ from wpAny_assign_Name (store_ok2 (v := V.ref L) I2 hN hy (.inl hyl) rfl (fun s3 I3 ⟨c, sb, hc2⟩ => ?_) (.inr hyl)))
  exact ⟨m, hn.sameBut sb (hc2.elim (fun z => z ▸ a1) fun z w => a4 y c z w.symm), fun h3 sb3 => ⟨_, H2, I3.turned (t' := s3.toks) (fun b o hb w => (sb3.2 b hb).trans w) a0 a1 a3 a4 a5, q⟩⟩
end
def dputA {α : Type} (n : Bool) (ks vs : List CV) (k v : CV) (bad : α) (c : Bool → List CV → List CV → α) : α :=
  Bool.rec (Bool.rec bad (Bool.rec (List.rec (c true [k] [v]) (fun _ _ _ => bad) ks) (dputN ks vs k v (c true)) n) (isTK k)) (Bool.rec (dput ks vs k v (c false)) bad n) (isKey k)
theorem dputA_r {G : Cfg} {ρ : Wd} {H : Hp} {D : Addr} {u : HO} {n : Bool} {ks vs : List CV} {k v : CV} {kv zv : V} (hD : H D = some u) (hh : ρ.has D) (d : DicR G ρ H n ks vs D u) (rk : ValR G ρ H k kv) (rv : ValR G ρ H v zv) (hl : ks.length < sizeLine) :
    (∀ (α : Type) (bad : α) c, dputA n ks vs k v bad c = bad) ∨ ∃ n' ks' vs' u', (∀ (α : Type) (bad : α) c, dputA n ks vs k v bad c = c n' ks' vs') ∧ PutU G H D kv zv (upd H D u') ∧ DicR G ρ (upd H D u') n' ks' vs' D u' ∧ ks'.length ≤ ks.length + 1 := by
  have at_ : ∃ o, H D = some o ∧ MutO G D o := ⟨u, hD, d.mutO.1⟩
  by_cases c1 : isKey k = true
  · cases n with
    | true => exact .inl fun α bad c => by unfold dputA; rw [c1]
    | false =>
      obtain ⟨kk, rfl⟩ := isKey_of c1
      obtain ⟨kvs, rfl, e1, e2⟩ := d.k
      subst e1
      rw [List.length_map] at hl
      obtain ⟨vs', e6, e7⟩ := dput_r rv kk kvs vs (fun ks vs => (ks, vs)) e2
      refine .inr ⟨false, (putK kvs kk zv).map fun e => keyC e.1, vs', .dK (putK kvs kk zv), fun α bad c => ?_, .inl ⟨kvs, kk, hD, keyC_kV rk, hl, rfl⟩, ⟨(fun z => nomatch z), fun _ => ⟨_, rfl, rfl, e7.wr hh at_⟩⟩, ?_⟩
      · unfold dputA
        rw [c1]
        obtain ⟨vs2, f6, f7⟩ := dput_r rv kk kvs vs (c false) e2
        show dput _ _ _ _ _ = _
        rw [f6]
        have : ∀ {β : Type} (c : List CV → List CV → β), dput (kvs.map fun e => keyC e.1) vs (keyC kk) v c = (fun p : List CV × List CV => c p.1 p.2) (dput (kvs.map fun e => keyC e.1) vs (keyC kk) v Prod.mk) := fun {β} c => by
          unfold dput
          cases dhas (kvs.map fun e => keyC e.1) (keyC kk) with
          | true =>
            show drep _ _ _ _ _ = _
            have : ∀ (ks vs : List CV) {γ δ : Type} (f : List CV → γ) (g : γ → δ), drep ks (keyC kk) v vs (fun r => g (f r)) = g (drep ks (keyC kk) v vs f) := fun ks => by
              induction ks with
              | nil => intro vs γ δ f g; rfl
              | cons a t ih =>
                intro vs γ δ f g
                cases vs with
                | nil => rfl
                | cons w ws =>
                  show (Bool.rec (drep t (keyC kk) v ws fun r => g (f (w :: r))) (drep t (keyC kk) v ws fun r => g (f (v :: r))) (sameK a (keyC kk)) : δ) = g (Bool.rec (drep t (keyC kk) v ws fun r => f (w :: r)) (drep t (keyC kk) v ws fun r => f (v :: r)) (sameK a (keyC kk)))
                  cases sameK a (keyC kk) with
                  | true => exact ih ws (fun r => f (v :: r)) g
                  | false => exact ih ws (fun r => f (w :: r)) g
            exact this _ _ (fun vs' => (kvs.map (fun e => keyC e.1), vs')) (fun p : List CV × List CV => c p.1 p.2)
          | false =>
            show sapp _ _ _ = (fun p : List CV × List CV => c p.1 p.2) (sapp _ _ _)
            simp only [sapp_eq]
        rw [← f6, this (c false), show dput (kvs.map fun e => keyC e.1) vs (keyC kk) v Prod.mk = _ from e6]
      · rw [List.length_map, List.length_map]; exact length_putK kvs kk zv
  · rw [Bool.not_eq_true] at c1
    by_cases c2 : isTK k = true
    · obtain ⟨kk, ek, nk, b, eb⟩ := nkey_r rk c2
      subst eb
      cases n with
      | false =>
        cases ks with
        | nil =>
          obtain ⟨kvs, rfl, e1, e2⟩ := d.k
          cases kvs with
          | cons p r => cases e1
          | nil =>
            refine .inr ⟨true, [k], [v], dN G.P G.w D (putE [] kk b zv), fun α bad c => by unfold dputA; rw [c1, c2], .inr ⟨[], kk, b, .inr ⟨rfl, hD⟩, rfl, nk, by decide +kernel, rfl⟩, ⟨fun _ => ⟨_, rfl, ?_, ?_, ?_⟩, (fun z => nomatch z)⟩, by simp⟩
            · rw [nkeys, ek]; rfl
            · exact (show ValsR G ρ H [k] [.ref b] from ⟨_, _, rfl, rk, rfl⟩).wr hh at_
            · exact (show ValsR G ρ H [v] [zv] from ⟨_, _, rfl, rv, rfl⟩).wr hh at_
        | cons a t => exact .inl fun α bad c => by unfold dputA; rw [c1, c2]
      | true =>
        obtain ⟨es, rfl, e4, e5, e6⟩ := d.1 rfl
        have hle : es.length < sizeLine := by
          have := e5.len
          rw [List.length_map] at this
          omega
        have key : ∃ ks' vs', (∀ (α : Type) (c : List CV → List CV → α), dputN ks vs k v c = c ks' vs') ∧ nkeys ks' = some ((putE es kk b zv).map (·.1)) ∧ ValsR G ρ H ks' ((putE es kk b zv).map fun e => V.ref e.2.1) ∧ ValsR G ρ H vs' ((putE es kk b zv).map (·.2.2)) := by
          obtain ⟨ks', vs', f1, f2, f3, f4⟩ := dputN_r ek rk rv es ks vs Prod.mk e4 e5 e6
          refine ⟨ks', vs', fun α c => ?_, f2, f3, f4⟩
          have : dputN ks vs k v c = (fun p : List CV × List CV => c p.1 p.2) (dputN ks vs k v Prod.mk) := by
            unfold dputN
            cases dhasN ks k with
            | true =>
              show drepN _ _ _ _ _ = _
              have : ∀ (ks vs : List CV) {γ δ : Type} (f : List CV → γ) (g : γ → δ), drepN ks k v vs (fun r => g (f r)) = g (drepN ks k v vs f) := fun ks => by
                induction ks with
                | nil => intro vs γ δ f g; rfl
                | cons a t ih =>
                  intro vs γ δ f g
                  cases vs with
                  | nil => rfl
                  | cons w ws =>
                    show (Bool.rec (drepN t k v ws fun r => g (f (w :: r))) (drepN t k v ws fun r => g (f (v :: r))) (keq a k) : δ) = g (Bool.rec (drepN t k v ws fun r => f (w :: r)) (drepN t k v ws fun r => f (v :: r)) (keq a k))
                    cases keq a k with
                    | true => exact ih ws (fun r => f (v :: r)) g
                    | false => exact ih ws (fun r => f (w :: r)) g
              exact this _ _ (fun vs' => (ks, vs')) (fun p : List CV × List CV => c p.1 p.2)
            | false =>
              show sapp _ _ _ = (fun p : List CV × List CV => c p.1 p.2) (sapp _ _ _)
              simp only [sapp_eq]
          rw [this, f1]
        obtain ⟨ks', vs', f1, f2, f3, f4⟩ := key
        refine .inr ⟨true, ks', vs', dN G.P G.w D (putE es kk b zv), fun α bad c => by unfold dputA; rw [c1, c2]; exact f1 α (c true), .inr ⟨es, kk, b, .inl ⟨hD, ρ, ks, e4, e5⟩, rfl, nk, hle, rfl⟩, ⟨fun _ => ⟨_, rfl, f2, f3.wr hh at_, f4.wr hh at_⟩, (fun z => nomatch z)⟩, ?_⟩
        have l1 := f3.len
        have l2 := e5.len
        rw [List.length_map] at l1 l2
        rw [l1, l2]
        exact putE_len es kk b zv
    · rw [Bool.not_eq_true] at c2
      exact .inl fun α bad c => by unfold dputA; rw [c1, c2]
end VE

noncomputable section
namespace VE
open PySem PySem.Spec PyProof.Rows L2 LamX
def dcLU (g : CV → Sl → M Sl) (tt : Sl → M Bool) (tk te : Sl → M CV) (τ : Sl) (xs : List CV) : Bool → List CV → List CV → Mem → Out (Bool × List CV × List CV) := List.rec (fun n ks vs h => .ok (n, ks, vs) h) (fun x _ ih n ks vs h => match g x τ h with
  | .ok τ1 h1 => match tt τ1 h1 with
    | .ok true h2 => match tk τ1 h2 with
      | .ok k h3 => match te τ1 h3 with
        | .ok v h4 => frV 6 k fun k => frV 3 v fun v => dputA n ks vs k v .bad fun n ks vs => ih n ks vs h4
        | _ => .bad
      | _ => .bad
    | .ok false h2 => ih n ks vs h2
    | _ => .bad
  | _ => .bad) xs
def eDcU (it : Sl → M (List CV)) (g : CV → Sl → M Sl) (tt : Sl → M Bool) (tk te : Sl → M CV) (vs : List Nat) : Sl → M CV := fun τ => bnd (it τ) fun xs h =>
  if xs.length ≤ 1000000 then match dcLU g tt tk te (wipeC τ vs) xs false [] [] h with
    | .ok p h' => frN h'.length fun n => sapp h' [.dic false p.1 p.2.1 p.2.2] fun h'' => .ok (.ref n) h''
    | _ => .bad
  else .bad
theorem DicR.ntbl {G : Cfg} {ρ : Wd} {H : Hp} {n : Bool} {ks vs : List CV} {a : Addr} {u : HO} (d : DicR G ρ H n ks vs a u) : ∀ ps, u ≠ .tbl ps := fun ps e => by
  subst e
  exact notMut_tbl d.mutO.1
theorem DicR.ext {G : Cfg} {ρ ρ1 : Wd} {h : Mem} {H H1 : Hp} {n : Bool} {ks vs : List CV} {a : Addr} {u : HO} (d : DicR G ρ H n ks vs a u) (m : MemR G ρ h H) (e : Ext ρ H ρ1 H1) : DicR G ρ1 H1 n ks vs a u :=
  ⟨fun z => let ⟨es, q1, q2, q3, q4⟩ := d.1 z; ⟨es, q1, q2, q3.ext m e, q4.ext m e⟩, fun z => let ⟨kvs, q1, q2, q3⟩ := d.2 z; ⟨kvs, q1, q2, q3.ext m e⟩⟩
theorem dcU_core' {G : Cfg} {g : TG} {gg : CV → Sl → M Sl} {tt : Sl → M Bool} {tk te : Sl → M CV} {vs : List Nat} {τ : Sl} {σ : L2.St} {ρ1 : Wd} {H1 : Hp} {h1 : Mem} {J : It} {xs : List CV} {D : Addr} {Q : VK}
    (m1 : MemR G ρ1 h1 H1) (s1 : SlR G ρ1 H1 τ σ) (r1 : ItR G ρ1 H1 J xs) (hD : H1 D = none) (hg : LcG G g gg vs) (hfv : vs.all G.fr = true) (hl : xs.length ≤ 1000000) {nf : Bool} {ks ys : List CV} {hf : Mem} (e : dcLU gg tt tk te (wipeC τ vs) xs false [] [] h1 = .ok (nf, ks, ys) hf)
    (fin : ∀ r H u, MemR G ⟨D :: ρ1.d, r⟩ hf H → Ext ρ1 H1 ⟨ρ1.d, r⟩ H → H D = some u → DicR G ⟨D :: ρ1.d, r⟩ H nf ks ys D u → Q (.ref D) H) :
    ∃ W : Nat → Nat → Hp → Prop, (∃ m, W 0 m (upd H1 D (.dK []))) ∧ ∀ i m H, W i m H →
      (J.stop i H ∧ Q (.ref D) H) ∨ (J.go i H ∧ ∃ Nx : Hp → Prop, (∀ H', Nx H' → ∃ m', m' < m ∧ W (i + 1) m' H') ∧ ∀ x H', J.yld i H x H' → g x (L2.wipe σ vs) H' fun σ2 H2 => L2.wipe σ2 vs = L2.wipe σ vs ∧ tBo G W0 tt σ2 H2 fun b H3 =>
        if b = true then tV G W0 tk σ2 H3 fun y H4 => tV G W0 te σ2 H4 fun z H5 => ∃ H6, PutU G H5 D y z H6 ∧ Nx H6 else Nx H3) := by
  refine ⟨fun i n H => i + n = xs.length ∧ ∃ r h u n0 kd vd, MemR G ⟨D :: ρ1.d, r⟩ h H ∧ Ext ρ1 H1 ⟨ρ1.d, r⟩ H ∧ H D = some u ∧ DicR G ⟨D :: ρ1.d, r⟩ H n0 kd vd D u ∧ kd.length ≤ i ∧ dcLU gg tt tk te (wipeC τ vs) (xs.drop i) n0 kd vd h = .ok (nf, ks, ys) hf,
    ⟨xs.length, Nat.zero_add _, ρ1.r, h1, _, false, [], [], m1.hideO hD (.inr (.inl ⟨[], rfl⟩)), Ext.laid hD, upd_same, ⟨(fun z => nomatch z), fun _ => ⟨[], rfl, rfl, rfl⟩⟩, Nat.le_refl _, e⟩, ?_⟩
  rintro i n H ⟨hin, r, h, u0, n0, kd, vd, m, ex, hacc, rd, hdl, el⟩
  have exH : ExtH ρ1 H1 ⟨D :: ρ1.d, r⟩ H := ⟨fun a ha => by
    rcases List.mem_cons.mp ha with z | z
    · exact .inr (z ▸ hD)
    · exact .inl z, ex.pre, fun a o e n t => ex.keep a o e (fun z => n (.inl z)) t, ex.new⟩
  obtain ⟨go, stop, yld⟩ := r1 _ h H m exH
  have hDd : D ∈ (⟨D :: ρ1.d, r⟩ : Wd).d := List.mem_cons_self
  have hDr : D ∉ r := (m.hid D hDd).2
  cases n with
  | zero =>
    have ei : i = xs.length := by omega
    subst ei
    rw [List.drop_length] at el
    cases el
    exact .inl ⟨stop, fin r H _ m ex hacc rd⟩
  | succ n =>
    have hlt : i < xs.length := by omega
    rw [List.drop_eq_getElem_cons hlt] at el
    have st : dcLU gg tt tk te (wipeC τ vs) (xs[i] :: xs.drop (i + 1)) n0 kd vd h = (match gg xs[i] (wipeC τ vs) h with
      | .ok τ1 h1 => match tt τ1 h1 with
        | .ok true h2 => match tk τ1 h2 with
          | .ok k h3 => match te τ1 h3 with
            | .ok v h4 => frV 6 k fun k => frV 3 v fun v => dputA n0 kd vd k v .bad fun n1 ks vs' => dcLU gg tt tk te (wipeC τ vs) (xs.drop (i + 1)) n1 ks vs' h4
            | _ => .bad
          | _ => .bad
        | .ok false h2 => dcLU gg tt tk te (wipeC τ vs) (xs.drop (i + 1)) n0 kd vd h2
        | _ => .bad
      | _ => .bad) := rfl
    rw [st] at el
    have fin' : ∀ (ρ4 : Wd) (h4 : Mem) (H4 : Hp), MemR G ρ4 h4 H4 → Ext ⟨D :: ρ1.d, r⟩ H ρ4 H4 → ρ4.d = D :: ρ1.d ∧ H4 D = some u0 ∧ Ext ρ1 H1 ⟨ρ1.d, ρ4.r⟩ H4 := fun ρ4 h4 H4 m4 e4 => by
      refine ⟨e4.hid, e4.keep D _ hacc hDr (rd.ntbl), rfl, fun i a q => e4.pre i a (ex.pre i a q), fun a o q n t => ?_, fun a ps q => ?_, fun a q => ?_⟩
      · refine e4.keep a o (ex.keep a o q n t) (fun z => ?_) t
        rcases ex.new a z with z | z
        · exact n z
        · rw [q] at z; cases z
      · obtain ⟨p1, q1⟩ := ex.tbl a ps q
        exact e4.tbl a p1 q1
      · rcases e4.new a q with z | z
        · exact ex.new a z
        · by_cases hx : a ∈ ρ1.r
          · exact .inl hx
          · cases q1 : H1 a with
            | none => exact .inr rfl
            | some o => exact absurd z (ex.there q1 hx)
    refine .inr ⟨go i hlt, fun H' => i + 1 + n = xs.length ∧ ∃ r h u n0 kd vd, MemR G ⟨D :: ρ1.d, r⟩ h H' ∧ Ext ρ1 H1 ⟨ρ1.d, r⟩ H' ∧ H' D = some u ∧ DicR G ⟨D :: ρ1.d, r⟩ H' n0 kd vd D u ∧ kd.length ≤ i + 1 ∧ dcLU gg tt tk te (wipeC τ vs) (xs.drop (i + 1)) n0 kd vd h = .ok (nf, ks, ys) hf,
      fun H' q => ⟨n, Nat.lt_succ_self n, q⟩, fun u H' y => ?_⟩
    obtain ⟨m', e', r'⟩ := yld i xs[i] u H' (by simp [hlt]) y
    have s' : SlR G ⟨D :: ρ1.d, r⟩ H' (wipeC τ vs) (L2.wipe σ vs) := by
      have q : SlR G ⟨D :: ρ1.d, r⟩ H τ σ := ⟨s1.1, fun i v q => let ⟨u, a, b⟩ := s1.2.1 i v q; ⟨u, a, b.extH m1 exH⟩, s1.2.2⟩
      exact (q.ext m e').wipe vs hfv
    cases q : gg xs[i] (wipeC τ vs) h with
    | ok τ1 h2 =>
      rw [q] at el
      refine hg _ h H' _ _ _ u τ1 h2 _ m' s' r' q fun σ2 eh s2 w2 => ?_
      subst eh
      refine ⟨w2.trans wipe_wipe, ⟨_, h2, τ1, m', s2, ?_⟩⟩
      simp only at el
      cases q2 : tt τ1 h2 with
      | ok b h3 =>
        rw [q2] at el
        intro ρ3 H3 b' m3 e3 eb
        subst eb
        have s3 := s2.ext m' e3
        cases b with
        | true =>
          rw [if_pos rfl]
          simp only at el
          refine ⟨ρ3, h3, τ1, m3, s3, ?_⟩
          cases q3 : tk τ1 h3 with
          | ok kk h4 =>
            rw [q3] at el
            simp only at el
            intro ρ4 H4 kv m4 e4 r4
            have s4 := s3.ext m3 e4
            refine ⟨ρ4, h4, τ1, m4, s4, ?_⟩
            cases q4 : te τ1 h4 with
            | ok z h5 =>
              rw [q4] at el
              simp only at el
              intro ρ5 H5 w m5 e5 r5
              have r4 := r4.ext m4 e5
              obtain ⟨f1, f2, f3⟩ := fin' ρ5 h5 H5 m5 (e'.trans (e3.trans (e4.trans e5)))
              have rd5 := rd.ext m (e'.trans (e3.trans (e4.trans e5)))
              obtain ⟨d5, r5'⟩ := ρ5
              cases f1
              rw [frV_eq, frV_eq] at el
              have hkl : kd.length < sizeLine := by rw [sizeLine_eq]; omega
              rcases dputA_r f2 (.inr List.mem_cons_self) rd5 r4 r5 hkl with z | ⟨n', ks', vs', u', g1, g2, g3, g4⟩
              · rw [z] at el; cases el
              · rw [g1] at el
                refine ⟨_, g2, by omega, r5', h5, u', n', ks', vs', m5.hidwrO List.mem_cons_self g3.mutO.1, ?_, upd_same, g3, by omega, el⟩
                refine ⟨rfl, f3.pre, fun a o z n t => ?_, fun a ps z => ?_, f3.new⟩
                · rw [upd_ne (ne_of_none z hD)]
                  exact f3.keep a o z n t
                · rw [upd_ne (ne_of_none z hD)]
                  exact f3.tbl a ps z
            | exc _ _ => rw [q4] at el; cases el
            | bad => rw [q4] at el; cases el
          | exc _ _ => rw [q3] at el; cases el
          | bad => rw [q3] at el; cases el
        | false =>
          rw [if_neg Bool.false_ne_true]
          simp only at el
          obtain ⟨f1, f2, f3⟩ := fin' ρ3 h3 H3 m3 (e'.trans e3)
          obtain ⟨d3, r3⟩ := ρ3
          cases f1
          exact ⟨by omega, r3, h3, u0, n0, kd, vd, m3, f3, f2, rd.ext m (e'.trans e3), by omega, el⟩
      | exc _ _ => rw [q2] at el; cases el
      | bad => rw [q2] at el; cases el
    | exc _ _ => rw [q] at el; cases el
    | bad => rw [q] at el; cases el
section
variable {G : Cfg} {W : WX} {X : Cx} {pos : Pos}
theorem dcU_red {it : Sl → M (List CV)} {g : TG} {gg : CV → Sl → M Sl} {tt : Sl → M Bool} {tk te : Sl → M CV} {vs : List Nat} (hg : LcG G g gg vs) (hfv : vs.all G.fr = true) {σ : L2.St} {H : Hp} {Q : VK} (q : tV G W (eDcU it gg tt tk te vs) σ H Q) : tDcU G (tIt G W it) g (tBo G W0 tt) (tV G W0 tk) (tV G W0 te) vs σ H Q := by
  obtain ⟨ρ, h, τ, m, s, p⟩ := q
  refine tM_bind m s p fun xs h1 ρ1 H1 J m1 e1 s1 r1 p1 D hD => ?_
  by_cases hl : xs.length ≤ 1000000
  · rw [if_pos hl] at p1
    cases e : dcLU gg tt tk te (wipeC τ vs) xs false [] [] h1 with
    | ok ps hf =>
      obtain ⟨nf, ks, ys⟩ := ps
      rw [e] at p1
      simp only [frN_eq, sapp_eq] at p1
      refine dcU_core' m1 s1 r1 hD hg hfv hl e fun r H2 u2 m2 e2 hus rus => ?_
      have nD : D ∉ r := (m2.hid D List.mem_cons_self).2
      have ndd : D ∉ ρ1.d := fun z => by
        obtain ⟨⟨_, w, _⟩, _⟩ := m1.hid D z
        rw [hD] at w; cases w
      refine p1 ⟨ρ1.d, r ++ [D]⟩ H2 _ (m2.unhidO (co := .dic false nf ks ys) ⟨_, (fun z => nomatch z), fun _ => hus, rus⟩ ndd) ?_ ⟨D, ?_, rfl⟩
      · refine ⟨rfl, fun i a z => ?_, e2.keep, e2.tbl, fun a z => ?_⟩
        · have z2 := e2.pre i a z
          have hi : i < r.length := (List.getElem?_eq_some_iff.mp z2).1
          show (r ++ [D])[i]? = some a
          rw [List.getElem?_append_left hi]; exact z2
        · rcases List.mem_append.mp z with z | z
          · exact e2.new a z
          · rw [List.mem_singleton.mp z]; exact .inr hD
      · show (r ++ [D])[hf.length]? = some D
        rw [← m2.len]; simp
    | exc _ _ => rw [e] at p1; exact p1.elim
    | bad => rw [e] at p1; exact p1.elim
  · rw [if_neg hl] at p1; exact p1.elim
theorem se_dcU {kr : Nat} {kx vx tg iter : Expr} {ifs : List Expr} {scope : Scope} {own : List (Str × Nat)} {it : Sl → M (List CV)} {g : TG} {gg : CV → Sl → M Sl} {tt : Sl → M Bool} {tk te : Sl → M CV} (S : SameG G X) (hr : Room kr X.A) (hc : X.calm = true) (hN : X.N.Nodup) (hi : SI G W X tg iter it) (ok : BlkOk X.N X.env.scope scope own)
    (hgg : LcG G g gg (own.map (·.2))) (hg : Blk X scope fun Y => PG Y tg g) (ht : Blk X scope fun Y => PTs Y ifs (tBo G W0 tt)) (hk : Blk X scope fun Y => SE G W0 Y kx tk) (he : Blk X scope fun Y => SE G W0 Y vx te) (hs : ∀ x, foldedSetIterable iter X.env x = pure x := by intro _; rfl) (hfv : (own.map (·.2)).all G.fr = true := by rfl) :
    SE G W X (.DictComp kx vx [⟨tg, iter, ifs, 0⟩] scope pos) (eDcU it gg tt tk te (own.map (·.2))) := (pe_dcU S hr hc hN hi ok hg ht hk he hs).wk fun σ H Q q => dcU_red hgg hfv q
theorem ss_setDcU {kr i : Nat} {y : Str} {py spos : Pos} {kx vx tg iter : Expr} {ifs : List Expr} {scope : Scope} {own : List (Str × Nat)} {it : Sl → M (List CV)} {g : TG} {gg : CV → Sl → M Sl} {tt : Sl → M Bool} {tk te : Sl → M CV} (S : SameG G X) (hr : Room kr X.A) (hc : X.calm = true) (hN : X.N.Nodup) (hy : X.N[i]? = some y) (hyl : X.env.scope.names.lookup y = some .local)
    (hsw : swapsWith (.DictComp kx vx [⟨tg, iter, ifs, 0⟩] scope pos) (some (.Name y py)) spos.line X.env = pure true) (hi : SI G W X tg iter it) (ok : BlkOk X.N X.env.scope scope own)
    (hgg : LcG G g gg (own.map (·.2))) (hg : Blk X scope fun Y => PG Y tg g) (ht : Blk X scope fun Y => PTs Y ifs (tBo G W0 tt)) (hk : Blk X scope fun Y => SE G W0 Y kx tk) (he : Blk X scope fun Y => SE G W0 Y vx te) (hs : ∀ x, foldedSetIterable iter X.env x = pure x := by intro _; rfl)
    (hfv : (own.map (·.2)).all G.fr = true := by rfl) (hfr : G.fr i = true := by rfl) :
    SS G W X (.Assign [.Name y py] (.DictComp kx vx [⟨tg, iter, ifs, 0⟩] scope pos) spos) (mAsg (gSet i) (eDcU it gg tt tk te (own.map (·.2)))) := (ps_setDcU S hr hc hN hy hyl hsw hi ok hg ht hk he hs).wk fun D σ H q => asg_red (fun σ H Q q => dcU_red hgg hfv q) hfr q
end
end VE

noncomputable section
namespace VE
open PySem PySem.Spec PyProof.Rows L2 LamX
theorem Ext.grow {ρ : Wd} {H H' : Hp} (g : ∀ b o, H b = some o → H' b = some o) : Ext ρ H ρ H' := ⟨rfl, fun _ _ e => e, fun a u e _ _ => g a u e, fun a ps e => ⟨ps, g _ _ e⟩, fun _ e => .inl e⟩
theorem MemR.grow {G : Cfg} {ρ : Wd} {h : Mem} {H H' : Hp} (m : MemR G ρ h H) (g : ∀ b o, H b = some o → H' b = some o) : MemR G ρ h H' where
  len := m.len
  nd := m.nd
  obj := fun i a co e1 e2 => by
    have r := m.obj i a co e1 e2
    obtain ⟨ys, q, _⟩ := r.there
    exact objR_ext m (Ext.grow g) ((g _ _ q).trans q.symm) r
  hid := fun a ha => by
    obtain ⟨⟨ys, q, q2⟩, n⟩ := m.hid a ha
    exact ⟨⟨ys, g _ _ q, q2⟩, n⟩
  tab := m.tab.ext g
  exc := fun e he => (m.exc e he).ext m (Ext.grow g)
  lam := m.lamE (Ext.grow g)
theorem valsR_at {G : Cfg} {ρ : Wd} {H : Hp} : ∀ {xs : List CV} {ys : List V}, xs.length = ys.length → (∀ (i : Nat) x y, xs[i]? = some x → ys[i]? = some y → ValR G ρ H x y) → ValsR G ρ H xs ys
  | [], [], _, _ => rfl
  | [], y :: ys, e, _ => by simp at e
  | x :: xs, [], e, _ => by simp at e
  | x :: xs, y :: ys, e, h => ⟨y, ys, rfl, h 0 x y rfl rfl, valsR_at (by simpa using e) fun i a b p q => h (i + 1) a b p q⟩
def tLI (X : Cx) (td : TE) : TE := fun σ H Q => td σ H fun x H1 => ∃ a ps, x = .ref a ∧ DRd X.prog X.w H1 a ps ∧ ∀ (H3 : Hp) (as : List Addr) (p : Addr), H1 p = none → (∀ b o, upd H1 p (.lst (as.map V.ref)) b = some o → H3 b = some o) → as.length = ps.length →
  (∀ (j : Nat) (c : Addr) (k v : V), as[j]? = some c → ps[j]? = some (k, v) → H3 c = some (.tup [k, v])) → Q (.ref p) H3
section
variable {X : Cx} {e : Expr} {td : TE} {p apos cpos pos : Pos}
theorem pe_lstItems (hc : X.calm = true) (hg : Gl X "list") (hm : X.mg "list" = none) (he : PE X e td) (hbase : attributeBase e "items" X.env (eval e X.env) = eval e X.env) (hline : (apos.endLine == cpos.line) = true)
    (hst : starEach [.Call (.Attribute e "items" apos) [] [] cpos] X.env = (false, eval (.Call (.Attribute e "items" apos) [] [] cpos) X.env) :: starEach [] X.env) : PE X (.Call (.Name "list" p) [.Call (.Attribute e "items" apos) [] [] cpos] [] pos) (tLI X td) := by
  refine ⟨fun pins s σ H Q I h => ?_⟩
  refine wpAny_Call_Name_kw (ld_blt I hg hm (by rfl : bootBuiltins "list" = some (.type "list")) ?_ (by decide) (by decide))
  refine PyProof.Rows.callWith_type1 ?_ hst rfl
  rw [hst]
  refine (show wpAny (model X.prog X.w) X.A (spliced ((false, eval (.Call (.Attribute e "items" apos) [] [] cpos) X.env) :: backTo pos (starEach [] X.env))) _ X.xe s from ?_)
  refine Calls.spliced_cons (wpAny_Call_method (T := "dict") (id := "dict.items") hbase rfl hline F.plainAttrs_dict F.slot_dict_items F.type_dict_items (thn (he.run pins s σ H _ I h) fun u s1 ⟨x, H1, I1, rx, d, ps, ex, hd, q⟩ => ?_))
  subst ex
  obtain rfl : u = Value.ref d := rx
  obtain ⟨hs, es, ep, raw, pr, hsz, hle⟩ := raw_of I1 hd
  refine ⟨raw.typeIs, raw_no raw, ?_⟩
  have I2 : Inv X pins σ H1 { s1 with heap := s1.heap.push { cls := .type "dict_items", data := .fields #[.ref d] } } := I1.kept (t' := s1.toks) fun b ob q => Heap.get?_push_of_some _ q
  show wpAny _ _ (callWith cpos (.builtin "dict.items") [.ref d] [] []) _ X.xe s1
  refine method_meetsIn F.slot_dict_items F.entry_dict_items rfl (PySem.evalArgs_none ⟨rfl, raw.typeIs, F.args_dict_items_1 _, _, meets_dict_items_raw d hs, ⟨_, _, raw⟩, Calls.spliced_nil ?_⟩)
  refine PySem.W.dil_call (es := es) (ep := ep) (I2.ok.hd hc) ⟨_, Heap.get?_push_size _ rfl, rfl, rfl⟩ (raw.at fun o q => Heap.get?_push_of_some _ q) (by omega) fun h' tk acc c as hk ho hl hG hacc => ?_
  have I3 : Inv X pins σ H1 { { s1 with heap := s1.heap.push { cls := .type "dict_items", data := .fields #[.ref d] } } with heap := h', toks := tk } := I2.kept hk
  generalize hlo : (s1.heap.push { cls := .type "dict_items", data := .fields #[.ref d] }).objs.size = lo at ho hG
  have nlo : H1 lo = none := I2.hok.fresh (Nat.le_of_eq hlo)
  have lst : ∀ H' : Hp, ObjOk X.prog X.w H' h' lo (.lst (as.map V.ref)) := fun H' => by
    refine ⟨by rw [List.length_map]; omega, acc.toList, c, ?_, by rw [ho]⟩
    rw [hacc]
    have : ∀ l : List Addr, Vals (l.map V.ref) (l.map Value.ref) := fun l => by
      induction l with
      | nil => exact .nil
      | cons a r ih => exact .cons rfl ih
    exact this as
  have I4 : Inv X pins σ (upd H1 lo (.lst (as.map V.ref))) { { s1 with heap := s1.heap.push { cls := .type "dict_items", data := .fields #[.ref d] } } with heap := h', toks := tk } :=
    I3.take (h' := h') (t' := tk) (fun b ob _ e => e) (I2.fpOk (Nat.le_of_eq hlo) nlo) (lst _)
  have nd : as.Nodup := hG.rise.imp fun h => Nat.ne_of_lt h
  obtain ⟨H3, I5, g, tp⟩ := DX.takeT (P := fun c vs => ∃ (j : Nat) (k v : V), as[j]? = some c ∧ ps[j]? = some (k, v) ∧ vs = [k, v]) I2 as _ I4 nd fun c hcm => by
    have hlt := hG.above c hcm
    obtain ⟨j, hj⟩ := List.mem_iff_getElem?.mp hcm
    obtain ⟨hjs, hget⟩ := hG.pairs j c hj
    obtain ⟨⟨k, v⟩, hkv⟩ : ∃ r, ps[j]? = some r := ⟨ps[j]'(by omega), List.getElem?_eq_getElem _⟩
    obtain ⟨r1, r2⟩ := prE_at pr hkv hjs
    refine ⟨by rw [← hlo] at hlt; exact Nat.le_of_lt hlt, ?_, [k, v], ⟨j, k, v, hj, hkv, rfl⟩, fun H2 => ⟨by show 2 ≤ sizeLine; decide, [_, _], .cons r1 (.cons r2 .nil), ⟨_, hget, rfl, _, rfl⟩⟩⟩
    rw [upd_ne (Nat.ne_of_gt hlt)]
    exact I2.hok.fresh (by rw [← hlo] at hlt; exact Nat.le_of_lt hlt)
  refine ⟨.ref lo, H3, I5, by rw [← hlo]; exact rfl, q H3 as lo nlo g (by omega) fun j c k v hj hkv => ?_⟩
  obtain ⟨vs, ⟨j2, k2, v2, hj2, hkv2, rfl⟩, e⟩ := tp c (List.mem_of_getElem? hj)
  have : j2 = j := (List.getElem?_inj (List.getElem?_eq_some_iff.mp hj2).1 nd).mp (hj2.trans hj.symm)
  subst this
  rw [hkv2] at hkv
  cases hkv
  exact e
def eLstItems (e : Sl → M CV) : Sl → M CV := fun τ => bnd (e τ) fun x h => match dicOf x h with
  | some (_, ks, vs) => .ok (.lst (pairL ks vs)) h
  | none => .bad
theorem se_lstItems {G : Cfg} {W : WX} {me : Sl → M CV} (S : SameG G X) (hc : X.calm = true) (hg : Gl X "list") (hm : X.mg "list" = none) (he : SE G W X e me) (hbase : attributeBase e "items" X.env (eval e X.env) = eval e X.env := by rfl) (hline : (apos.endLine == cpos.line) = true := by rfl)
    (hst : starEach [.Call (.Attribute e "items" apos) [] [] cpos] X.env = (false, eval (.Call (.Attribute e "items" apos) [] [] cpos) X.env) :: starEach [] X.env := by rfl) : SE G W X (.Call (.Name "list" p) [.Call (.Attribute e "items" apos) [] [] cpos] [] pos) (eLstItems me) :=
  (pe_lstItems hc hg hm he hbase hline hst).wk fun σ H Q ⟨ρ, h, τ, m, s, p⟩ => tM_bind m s p fun x h1 ρ1 H1 u m1 e1 s1 r1 p1 => by
    split at p1
    · rename_i n ks vs ed
      obtain ⟨a, ps, eu, hd, rk, rv⟩ := dicOf_prs m1 r1 ed
      refine ⟨a, ps, eu, by rw [← S.p, ← S.w]; exact hd, fun H3 as p hp g hl ht => ?_⟩
      have lk : ks.length = ps.length := by rw [rk.len, List.length_map]
      have lv : vs.length = ps.length := by rw [rv.len, List.length_map]
      have m2 := m1.laid (o := .lst (as.map V.ref)) hp
      have e2 : Ext ρ1 H1 ρ1 (upd H1 p (.lst (as.map V.ref))) := Ext.laid hp
      have m3 := m2.grow g
      have e3 := e2.trans (Ext.grow g)
      refine p1 ρ1 H3 _ m3 e3 ⟨p, as.map V.ref, rfl, m1.free hp, g _ _ upd_same, valsR_at (by rw [pairL_len (lk.trans lv.symm), List.length_map]; omega) fun i x y hx hy => ?_⟩
      obtain ⟨k, v, hk, hv, rfl⟩ := pairL_at hx
      obtain ⟨k', qk, rk'⟩ := rk.at_ hk
      obtain ⟨v', qv, rv'⟩ := rv.at_ hv
      rw [List.getElem?_map] at hy qk qv
      cases qp : ps[i]? with
      | none => rw [qp] at qk; cases qk
      | some pp =>
        obtain ⟨k0, v0⟩ := pp
        rw [qp] at qk qv
        cases qk
        cases qv
        cases qa : as[i]? with
        | none => rw [qa] at hy; cases hy
        | some c =>
          rw [qa] at hy
          cases hy
          exact ⟨c, [k0, v0], rfl, SqT.of (ht i c k0 v0 qa qp), _, _, rfl, rk'.ext m1 e3, _, _, rfl, rv'.ext m1 e3, rfl⟩
    · exact p1.elim
end
end VE


noncomputable section
namespace VE
open PySem
/-- the list at l -/
def At (m : Mem) (l : Nat) (xs : List CV) : Prop := m[l]? = some (.lst xs)
section
variable {m : Mem} {l k : Nat} {xs ys : List CV} {o : CO}
theorem At.lt (a : At m l xs) : l < m.length := (List.getElem?_eq_some_iff.mp a).1
theorem At.set_self (a : At m l xs) : At (m.set l (.lst ys)) l ys := by unfold At; simp [a.lt]
theorem At.set_ne (a : At m l xs) (h : k ≠ l) : At (m.set k o) l xs := by unfold At at *; rw [List.getElem?_set_ne h]; exact a
theorem At.push (a : At m l xs) : At (m ++ [o]) l xs := by have b := a.lt; unfold At at *; rw [List.getElem?_append_left b]; exact a
theorem At.last : At (m ++ [.lst xs]) m.length xs := by unfold At; simp
end
theorem mTry_ex {b : MS} {l : List Hd} {τ τ' : Sl} {h h' : Mem} {x : Exn} (e : b τ h = .mk (.ex x τ') h') : mTry b l τ h = tryL l x τ' h' := by unfold mTry; rw [e]
theorem mTry_nx {b : MS} {l : List Hd} {τ τ' : Sl} {h h' : Mem} (e : b τ h = .mk (.nx τ') h') : mTry b l τ h = .mk (.nx τ') h' := by unfold mTry; rw [e]
theorem mExpr_ex {e : Sl → M CV} {τ : Sl} {x : Exn} {h h' : Mem} (q : e τ h = .exc x h') : mExpr e τ h = .mk (.ex x τ) h' := by rw [rd_mExpr, q]
theorem eB_ex {F : List CV → M CV} {ml : Sl → M (List CV)} {τ : Sl} {xs : List CV} {x : Exn} {h h1 h2 : Mem} (e1 : ml τ h = .ok xs h1) (e2 : F xs h1 = .exc x h2) : eB F ml τ h = .exc x h2 := by rw [rd_eB, e1]; exact e2
/-- told is a new list -/
theorem new_ok {i : Nat} {a : Sl → M CV} {τ : Sl} {v : CV} {h : Mem} (q : a τ h = .ok v h) : mAsg (gSet i) (eNew (eConsA a eNilA)) τ h = .mk (.nx (τ.set i (some (.ref h.length)))) (h ++ [.lst [v]]) := by
  refine mAsg_ok ?_
  rw [rd_eNew, eCons_ok q eNil_ok]
  rfl
theorem newL_ok {i : Nat} {a : Sl → M (List CV)} {τ : Sl} {vs : List CV} {h : Mem} (q : a τ h = .ok vs h) (hl : vs.length ≤ 1000) : mAsg (gSet i) (eNew a) τ h = .mk (.nx (τ.set i (some (.ref h.length)))) (h ++ [.lst vs]) := by
  refine mAsg_ok ?_
  rw [rd_eNew, q]
  simp only
  rw [if_pos hl]
theorem isLis_at {h : Mem} {l : Nat} {xs : List CV} (a : At h l xs) : isLis (.ref l) h = true := by
  unfold isLis
  simp only [sget_eq]
  rw [show h[l]? = some (.lst xs) from a]
/-- told.append(a) -/
theorem app_ok {i l : Nat} {a : Sl → M CV} {τ : Sl} {v : CV} {h : Mem} {xs : List CV} (ht : τ[i]? = some (some (.ref l))) (q : a τ h = .ok v h) (hm : At h l xs) (hl : xs.length < 1000000) :
    mExpr (eMt isLis pyAppend (eVar i) (eConsA a eNilA)) τ h = .mk (.nx τ) (h.set l (.lst (xs ++ [v]))) := by
  refine mExpr_ok (v := .non) ?_
  unfold eMt
  rw [rd_bnd, eVar_ok ht]
  simp only
  rw [if_pos (isLis_at hm), rd_bnd, eCons_ok q eNil_ok]
  simp only
  unfold pyAppend
  simp only [rd_memAt]
  rw [show h[l]? = some (.lst xs) from hm]
  simp only
  rw [if_pos hl, frV_eq, sapp_eq, sset_eq]
/-- due.extend(..) -/
theorem ext_ok {i l : Nat} {a : Sl → M CV} {τ : Sl} {v : CV} {h : Mem} {xs zs : List CV} (ht : τ[i]? = some (some (.ref l))) (q : a τ h = .ok v h) (hv : lstOf v h = some zs) (hm : At h l xs) (hl : xs.length + zs.length < 1000000) :
    mExpr (eMt isLis pyExtend (eVar i) (eConsA a eNilA)) τ h = .mk (.nx τ) (h.set l (.lst (xs ++ zs))) := by
  refine mExpr_ok (v := .non) ?_
  unfold eMt
  rw [rd_bnd, eVar_ok ht]
  simp only
  rw [if_pos (isLis_at hm), rd_bnd, eCons_ok q eNil_ok]
  simp only
  unfold pyExtend
  simp only [rd_memAt, hv]
  rw [show h[l]? = some (.lst xs) from hm]
  simp only
  rw [if_pos hl, sapp_eq, sset_eq]
def sho (y : CV) : Str := match shoD y [] with
  | some d => d.shown
  | none => Str.empty
def okR (y : CV) : Bool := (match y with | .ref _ => false | _ => true) && (match shoD y [] with | some d => d.showable && Nat.ble d.shown.length 1000000 && Nat.ble d.depth 100 && PyData.strOk d.shown | none => false)
theorem shoD_h {y : CV} {h : Mem} (n : ∀ l, y ≠ .ref l) : shoD y h = shoD y [] := by
  cases y with
  | ref l => exact absurd rfl (n l)
  | dic b ks vs => cases b <;> cases ks <;> cases vs <;> rfl
  | _ => rfl
theorem repr_okR {y : CV} {h : Mem} (q : okR y = true) : pyRepr y h = .ok (.str (sho y)) h := by
  unfold okR at q
  rw [Bool.and_eq_true] at q
  have n : ∀ l, y ≠ .ref l := fun l e => by subst e; exact absurd q.1 (by simp)
  unfold pyRepr sho
  rw [shoD_h n]
  have q2 := q.2
  cases e : shoD y [] with
  | none => rw [e] at q2; cases q2
  | some d => rw [e] at q2; simp only at q2 ⊢; rw [Bool.and_eq_true] at q2; rw [if_pos q2.1]
theorem okR_str {y : CV} (q : okR y = true) : PyData.strOk (sho y) = true := by
  unfold okR at q
  unfold sho
  rw [Bool.and_eq_true] at q
  have q2 := q.2
  cases e : shoD y [] with
  | none => rw [e] at q2; cases q2
  | some d => rw [e] at q2; simp only at q2 ⊢; rw [Bool.and_eq_true] at q2; exact q2.2
/-- a word of three texts -/
def tx3 (a b : Str) (y : CV) : CV := .tup [.str a, .str b, .str (sho y)]
def d3 (a b s : Str) : PyData := .tuple [.str a, .str b, .str s]
theorem dats_tx3 (a b : Str) : ∀ ys : List CV, dats (ys.map (tx3 a b)) = some (ys.map fun y => d3 a b (sho y))
  | [] => rfl
  | y :: ys => by
    rw [List.map_cons]
    unfold dats
    rw [dats_tx3 a b ys]
    rfl
theorem eqvAll_d3 (a b : Str) : ∀ ys : List CV, PyData.eqvAll (ys.map fun y => d3 a b (sho y)) (ys.map fun y => d3 a b (sho y)) = true
  | [] => rfl
  | y :: ys => by
    rw [List.map_cons]
    unfold PyData.eqvAll
    rw [eqvAll_d3 a b ys, Bool.and_true]
    simp [d3, PyData.eqv, PyData.eqvAll]
theorem canLay_d3 {a b : Str} (ha : PyData.strOk a = true) (hb : PyData.strOk b = true) : ∀ ys : List CV, (∀ y ∈ ys, okR y = true) → PyData.canLayAll0 (ys.map fun y => d3 a b (sho y)) = true
  | [], _ => rfl
  | y :: ys, h => by
    rw [List.map_cons]
    unfold PyData.canLayAll0
    rw [canLay_d3 ha hb ys fun y hy => h y (List.mem_cons_of_mem _ hy), Bool.and_true]
    simp [d3, PyData.canLay0, PyData.canLayAll0, ha, hb, okR_str (h y List.mem_cons_self)]
theorem depth_d3 (a b : Str) : ∀ ys : List CV, PyData.depthAll (ys.map fun y => d3 a b (sho y)) ≤ 2
  | [] => Nat.zero_le _
  | y :: ys => by
    rw [List.map_cons]
    unfold PyData.depthAll
    have := depth_d3 a b ys
    have q : (d3 a b (sho y)).depth ≤ 2 := by simp [d3, PyData.depth, PyData.depthAll]
    omega
theorem shaped_d3 {a b : Str} (ha : PyData.strOk a = true) (hb : PyData.strOk b = true) {ys : List CV} (h : ∀ y ∈ ys, okR y = true) : SeqAt.shaped (.list (ys.map fun y => d3 a b (sho y))) = true := by
  unfold SeqAt.shaped
  rw [Bool.and_eq_true]
  refine ⟨?_, decide_eq_true ?_⟩
  · unfold PyData.canLay0; exact canLay_d3 ha hb ys h
  · have := depth_d3 a b ys
    unfold PyData.depth
    omega
/-- told against due -/
theorem eq_told {neg : Bool} {a b : Str} (ha : PyData.strOk a = true) (hb : PyData.strOk b = true) {ys : List CV} {l : Nat} {h : Mem} (hm : At h l (ys.map (tx3 a b))) (hy : ∀ y ∈ ys, okR y = true) : pyEq neg (.ref l) (.lst (ys.map (tx3 a b))) h = .ok (.bl (!neg)) h := by
  have e1 : datM (.ref l) h = some (.list (ys.map fun y => d3 a b (sho y))) := by
    unfold datM
    simp only [rd_memAt]
    rw [show h[l]? = some (.lst (ys.map (tx3 a b))) from hm]
    simp only
    rw [dats_tx3]; rfl
  have e2 : datM (.lst (ys.map (tx3 a b))) h = some (.list (ys.map fun y => d3 a b (sho y))) := by
    show (dats (ys.map (tx3 a b))).map PyData.list = _
    rw [dats_tx3]; rfl
  have s := shaped_d3 ha hb hy
  have e3 : PyData.eqv (.list (ys.map fun y => d3 a b (sho y))) (.list (ys.map fun y => d3 a b (sho y))) = true := by
    unfold PyData.eqv; exact eqvAll_d3 a b ys
  unfold pyEq
  rw [e1, e2]
  simp only [s, e3]
  cases neg <;> simp
theorem pyEq_at {neg : Bool} {l : Nat} {h : Mem} {xs ys : List CV} (hm : At h l xs) : pyEq neg (.ref l) (.lst ys) h = pyEq neg (.lst xs) (.lst ys) h := by
  have e : datM (.ref l) h = datM (.lst xs) h := by
    show (match memAt h l with | some xs => (dats xs).map PyData.list | none => none) = (dats xs).map PyData.list
    rw [rd_memAt, show h[l]? = some (.lst xs) from hm]
  unfold pyEq
  rw [e]
theorem eTup_ok {a : Sl → M (List CV)} {τ : Sl} {xs : List CV} {h h' : Mem} (e : a τ h = .ok xs h') (hl : xs.length ≤ 1000) : eTup a τ h = .ok (.tup xs) h' := by
  unfold eTup
  rw [rd_bnd, e]
  simp only
  rw [if_pos hl]; rfl
theorem eLst_ok {a : Sl → M (List CV)} {τ : Sl} {xs : List CV} {h h' : Mem} (e : a τ h = .ok xs h') (hl : xs.length ≤ 1000) : eLst a τ h = .ok (.lst xs) h' := by
  unfold eLst
  rw [rd_bnd, e]
  simp only
  rw [if_pos hl]; rfl
theorem eDyn_x {i k : Nat} {D : Disp} {ml : Sl → M (List CV)} {τ : Sl} {h : Mem} {d : Nat × (List CV → M CV)} {xs : List CV} {x : Exn} (e1 : τ[i]? = some (some (.fn k))) (e2 : dispAt D k = some d) (e3 : ml τ h = .ok xs h) (e4 : callF d.1 d.2 xs h = .exc x h) : eDyn i D ml τ h = .exc x h := by
  unfold eDyn
  simp only [sget_eq, e1, e2]
  rw [rd_bnd, e3]
  exact e4
/-- a list told again, each by f -/
theorem lcM_ok {l : Nat} {g : CV → Sl → M Sl} {te : Sl → M CV} {τ : Sl} {h : Mem} {xs : List CV} (f : CV → CV) (hm : At h l xs) (st : ∀ x ∈ xs, ∃ τ1, g x τ h = .ok τ1 h ∧ te τ1 h = .ok (f x) h) :
    ∀ (n i : Nat), i ≤ xs.length → xs.length < i + n → lcM false l g bYes te τ n i h = .ok ((xs.drop i).map f) h
  | 0, i, hi, hl => by omega
  | n + 1, i, hi, hl => by
    rw [lcM_s]
    unfold rdAt
    simp only [rd_memAt, sget_eq]
    rw [show h[l]? = some (.lst xs) from hm]
    simp only
    by_cases c : i < xs.length
    · rw [List.getElem?_eq_getElem c]
      obtain ⟨τ1, e1, e2⟩ := st xs[i] (List.getElem_mem c)
      have e1' : g (wr false i xs[i]) τ h = .ok τ1 h := e1
      simp only [e1']
      have y : (bYes τ1 h : Out Bool) = .ok true h := rfl
      simp only [y, e2]
      rw [lcM_ok f hm st n (i + 1) (by omega) (by omega)]
      simp only [frV_eq, frN_eq]
      rw [List.drop_eq_getElem_cons c, List.map_cons]
    · rw [List.getElem?_eq_none (by omega), List.drop_eq_nil_of_le (by omega)]
      rfl
/-- a list told again -/
theorem eLcA_ok {i l : Nat} {g : CV → Sl → M Sl} {te : Sl → M CV} {vs : List Nat} {τ : Sl} {h : Mem} {xs : List CV} (f : CV → CV) (ht : τ[i]? = some (some (.ref l))) (hm : At h l xs) (hx : xs.length < 1000000) (st : ∀ x ∈ xs, ∃ τ1, g x (wipeC τ vs) h = .ok τ1 h ∧ te τ1 h = .ok (f x) h) :
    eLcA (iSeqA (eVar i)) g bYes te vs τ h = .ok (.lst (xs.map f)) h := by
  unfold eLcA iSeqA
  rw [rd_bnd, rd_bnd, eVar_ok ht]
  have e1 : seqS (.ref l) h = .ok (.mem false l) h := by
    show memS false l h = _
    unfold memS
    rw [rd_memAt, show h[l]? = some (.lst xs) from hm]
  simp only [e1]
  have e2 := lcM_ok f hm st 1000000 0 (Nat.zero_le _) (by omega)
  show (match lcM false l g bYes te (wipeC τ vs) 1000000 0 h with | .ok ys h' => Out.ok (CV.lst ys) h' | _ => .bad) = _
  rw [e2, List.drop_zero]
end VE

noncomputable section
namespace VE
open PySem
theorem fit_of {i : Int} (k : Nat) (h : i.natAbs ≤ 2 ^ k) (hk : k ≤ 400000) : fit i = true := by
  unfold fit big
  exact Nat.ble_eq.mpr (Nat.le_trans h (Nat.pow_le_pow_right (by decide) hk))
theorem fmod_fit {x m : Int} (hm : 0 < m) (h : m.natAbs ≤ 2 ^ 400000) : fit (x.fmod m) = true := by
  have h1 := Int.fmod_nonneg_of_pos x hm
  have h2 := Int.fmod_lt_of_pos x hm
  unfold fit big
  exact Nat.ble_eq.mpr (by omega)
theorem pow_fit {c : Int} {k : Nat} (hc : c.natAbs ≤ 2 ^ 20) (hk : k ≤ 10000) : fit (c ^ k) = true := by
  refine fit_of (20 * k) ?_ (by omega)
  rw [Int.natAbs_pow, Nat.pow_mul]
  exact Nat.pow_le_pow_left hc k
theorem rng1_nat {n : Nat} (h : n < 2 ^ 60) {m : Mem} : rng1 [.int n] m = .ok ((List.range n).map fun (i : Nat) => CV.int (0 + (i : Int))) m := by
  unfold rng1
  simp only
  rw [if_pos (by omega)]
  rfl
theorem upto0_at {n i : Nat} {x : CV} (h : ((List.range n).map fun (i : Nat) => CV.int (0 + (i : Int)))[i]? = some x) : i < n ∧ x = .int i := by
  rw [List.getElem?_map] at h
  by_cases hi : i < n
  · rw [List.getElem?_range hi] at h
    simp only [Option.map_some, Option.some.injEq, Int.zero_add] at h
    exact ⟨hi, h.symm⟩
  · rw [List.getElem?_eq_none (by simpa using hi)] at h; cases h
theorem pyMul_int {a b : Int} {h : Mem} (fa : fit a = true) (fb : fit b = true) : pyMul (.int a) (.int b) h = .ok (.int (a * b)) h := by
  unfold pyMul
  simp only [fa, fb, Bool.and_true, if_true]
theorem nfit {n k : Nat} (h : n ≤ 2 ^ k) (hk : k ≤ 400000) : fit ((n : Nat) : Int) = true := fit_of k (by rw [Int.natAbs_natCast]; exact h) hk
theorem eIf_t {c : Sl → M Bool} {a b : Sl → M CV} {τ : Sl} {v : CV} {h h1 h2 : Mem} (q : c τ h = .ok true h1) (q2 : a τ h1 = .ok v h2) : eIf c a b τ h = .ok v h2 := by rw [rd_eIf, q]; exact q2
theorem eIf_f {c : Sl → M Bool} {a b : Sl → M CV} {τ : Sl} {v : CV} {h h1 h2 : Mem} (q : c τ h = .ok false h1) (q2 : b τ h1 = .ok v h2) : eIf c a b τ h = .ok v h2 := by rw [rd_eIf, q]; exact q2
theorem pow10 {k : Nat} {h : Mem} (hk : k ≤ 1000) : pyPow (.int 10) (.int k) h = .ok (.int (10 ^ k)) h := by
  unfold pyPow
  simp only [rd_ret]
  rw [if_pos ⟨by omega, by omega, by decide⟩]
  rfl
theorem fmodf {x m : Int} (hm : 0 < m) (h : m.natAbs ≤ 2 ^ 1000) : fit (x.fmod m) = true := fmod_fit hm (Nat.le_trans h (Nat.pow_le_pow_right (by decide) (by decide)))
theorem eLc_ok {it : Sl → M (List CV)} {g : CV → Sl → M Sl} {te : Sl → M CV} {vs : List Nat} {τ : Sl} {xs ys : List CV} {h : Mem} (e1 : it τ h = .ok xs h) (hl : xs.length ≤ 1000000) (e2 : lcL g bYes te (wipeC τ vs) xs h = .ok ys h) : eLc it g bYes te vs τ h = .ok (.lst ys) h := by
  unfold eLc
  rw [rd_bnd, e1]
  simp only [if_pos hl, e2]
theorem bAnd_f {a b : Sl → M Bool} {τ : Sl} {h h1 : Mem} (q : a τ h = .ok false h1) : bAnd a b τ h = .ok false h1 := by rw [rd_bAnd, q]
theorem bAnd_t {a b : Sl → M Bool} {τ : Sl} {h h1 h2 : Mem} {k : Bool} (q : a τ h = .ok true h1) (q2 : b τ h1 = .ok k h2) : bAnd a b τ h = .ok k h2 := by rw [rd_bAnd, q]; exact q2
theorem bOr_f {a b : Sl → M Bool} {τ : Sl} {h h1 h2 : Mem} {k : Bool} (q : a τ h = .ok false h1) (q2 : b τ h1 = .ok k h2) : bOr a b τ h = .ok k h2 := by rw [rd_bOr, q]; exact q2
theorem callF_m {np : Nat} {F : List CV → M CV} {xs : List CV} {v : CV} {h : Mem} (e : callF np F xs [] = .ok v []) (hn : noRefs xs = true) : callF np F xs h = .ok v h := by
  unfold callF at e ⊢
  by_cases hl : xs.length = np
  · rw [if_pos hl, if_pos hn] at e ⊢
    cases q : F xs [] with
    | ok w h' =>
      rw [q] at e
      simp only at e ⊢
      cases q2 : frzV 9 (lockM h') w with
      | none => rw [q2] at e; cases e
      | some w' => rw [q2] at e; cases e; rfl
    | exc x h' =>
      rw [q] at e
      simp only at e
      cases q2 : mapO (frzV 9 h') x.args with
      | none => rw [q2] at e; cases e
      | some w' => rw [q2] at e; cases e
    | bad => rw [q] at e; cases e
  · rw [if_neg hl] at e; cases e
theorem rd_pyTimes (a b : Int) : pyTimes (.int a) (.int b) = pyMul (.int a) (.int b) := rfl
theorem pyTimes_int {a b : Int} {h : Mem} (fa : fit a = true) (fb : fit b = true) : pyTimes (.int a) (.int b) h = .ok (.int (a * b)) h := by
  rw [rd_pyTimes]; exact pyMul_int fa fb
theorem callF_x {np : Nat} {F : List CV → M CV} {xs : List CV} {x : Exn} {h : Mem} (e : callF np F xs [] = .exc x []) (hn : noRefs xs = true) : callF np F xs h = .exc x h := by
  unfold callF at e ⊢
  by_cases hl : xs.length = np
  · rw [if_pos hl, if_pos hn] at e ⊢
    cases q : F xs [] with
    | ok w h' =>
      rw [q] at e
      simp only at e ⊢
      cases q2 : frzV 9 (lockM h') w with
      | none => rw [q2] at e; cases e
      | some w' => rw [q2] at e; cases e
    | exc x h' =>
      rw [q] at e
      simp only at e ⊢
      cases q2 : mapO (frzV 9 h') x.args with
      | none => rw [q2] at e; cases e
      | some w' => rw [q2] at e; cases e; rfl
    | bad => rw [q] at e; cases e
  · rw [if_neg hl] at e; cases e
/-- a call that ends well -/
def okC (o : Out CV) : Bool := match o with | .ok _ h => h.isEmpty | _ => false
theorem okC_at {np : Nat} {F : List CV → M CV} {xs : List CV} {h : Mem} (e : okC (callF np F xs []) = true) (hn : noRefs xs = true) : ∃ v, callF np F xs h = .ok v h := by
  unfold okC at e
  split at e
  · rename_i v h' q
    rw [List.isEmpty_iff.mp e] at q
    exact ⟨v, callF_m q hn⟩
  · cases e
/-- a call that raises: the class, what it keeps -/
def exC (k : Nat) (o : Out CV) : Option (List CV) := match o with | .exc x h => if (Nat.beq x.cls k && h.isEmpty) = true then some x.args else none | _ => none
theorem exC_at {k : Nat} {np : Nat} {F : List CV → M CV} {xs ys : List CV} {h : Mem} (e : exC k (callF np F xs []) = some ys) (hn : noRefs xs = true) : callF np F xs h = .exc ⟨k, ys⟩ h := by
  unfold exC at e
  split at e
  · rename_i x h' q
    split at e
    · rename_i c
      rw [Bool.and_eq_true] at c
      obtain ⟨cls, args⟩ := x
      cases Nat.eq_of_beq_eq_true c.1
      cases e
      rw [List.isEmpty_iff.mp c.2] at q
      exact callF_x q hn
    · cases e
  · cases e
mutual
/-- equal values, as the kernel sees it -/
def sameV : CV → CV → Bool
  | .non, .non => true
  | .bl a, .bl b => a == b
  | .int a, .int b => decide (a = b)
  | .str a, .str b => decide (a = b)
  | .tup xs, .tup ys => sameVs xs ys
  | .lst xs, .lst ys => sameVs xs ys
  | .dic b [] [], .dic c [] [] => b == c
  | _, _ => false
def sameVs : List CV → List CV → Bool
  | [], [] => true
  | x :: xs, y :: ys => sameV x y && sameVs xs ys
  | _, _ => false
end
mutual
theorem sameV_eq : ∀ {x y : CV}, sameV x y = true → x = y := fun {x y} e => by
  unfold sameV at e
  split at e
  · rfl
  · rw [beq_iff_eq.mp e]
  · rw [of_decide_eq_true e]
  · rw [of_decide_eq_true e]
  · rw [sameVs_eq e]
  · rw [sameVs_eq e]
  · rw [beq_iff_eq.mp e]
  · cases e
theorem sameVs_eq : ∀ {xs ys : List CV}, sameVs xs ys = true → xs = ys
  | [], [], _ => rfl
  | x :: xs, y :: ys, e => by
    unfold sameVs at e
    rw [Bool.and_eq_true] at e
    rw [sameV_eq e.1, sameVs_eq e.2]
  | [], _ :: _, e => by cases e
  | _ :: _, [], e => by cases e
end
/-- a call raises what it was given -/
def isX (k : Nat) (y : CV) (o : Out CV) : Bool := match exC k o with | some [z] => sameV z y | _ => false
theorem isX_at {k : Nat} {y : CV} {np : Nat} {F : List CV → M CV} {xs : List CV} {h : Mem} (e : isX k y (callF np F xs []) = true) (hn : noRefs xs = true) : callF np F xs h = .exc ⟨k, [y]⟩ h := by
  unfold isX at e
  split at e
  · rename_i z q
    rw [sameV_eq e] at q
    exact exC_at q hn
  · cases e
theorem lcV_ok {g : CV → Sl → M Sl} {te : Sl → M CV} {τ : Sl} {h : Mem} (f : CV → CV) : ∀ (xs : List CV), (∀ x ∈ xs, ∃ τ1, g x τ h = .ok τ1 h ∧ te τ1 h = .ok (f x) h) → lcL g bYes te τ xs h = .ok (xs.map f) h
  | [], _ => rfl
  | x :: xs, st => by
    obtain ⟨τ1, e1, e2⟩ := st x List.mem_cons_self
    have ih := lcV_ok (g := g) (te := te) (τ := τ) (h := h) f xs (fun y hy => st y (List.mem_cons_of_mem _ hy))
    rw [lcL_eq] at ih ⊢
    unfold lcR
    simp only [e1, bYes, rd_ret, e2, ih, List.map_cons]
/-- by cases over a list -/
def allV (xs : List CV) (p : CV → Bool) : Bool := List.rec true (fun x _ ih => Bool.rec false ih (p x)) xs
theorem allV_at {p : CV → Bool} : ∀ {xs : List CV}, allV xs p = true → ∀ x ∈ xs, p x = true
  | [], _, x, hx => by cases hx
  | y :: ys, e, x, hx => by
    have e' : (Bool.rec false (allV ys p) (p y) : Bool) = true := e
    cases q : p y with
    | false => rw [q] at e'; cases e'
    | true =>
      rw [q] at e'
      rcases List.mem_cons.mp hx with rfl | hx
      · exact q
      · exact allV_at e' x hx
end VE

noncomputable section
namespace VE
open PySem
/-- nothing but numbers, texts, truth values, tuples and lists; n bounds the depth -/
def safe : Nat → CV → Bool
  | _, .non => true
  | _, .bl _ => true
  | _, .int _ => true
  | _, .str a => PyData.strOk a
  | n + 1, .tup xs => xs.all (safe n)
  | n + 1, .lst xs => xs.all (safe n)
  | _, _ => false
structure Same (n : Nat) (v : CV) (d : PyData) : Prop where
  dt : dat v = some d
  c : d.canLay0 = true
  p : d.depth ≤ n
  e : PyData.eqv d d = true
theorem sames {n : Nat} (ih : ∀ v, safe n v = true → ∃ d, Same n v d) : ∀ xs : List CV, xs.all (safe n) = true → ∃ ds, dats xs = some ds ∧ PyData.canLayAll0 ds = true ∧ PyData.depthAll ds ≤ n ∧ PyData.eqvAll ds ds = true
  | [], _ => ⟨[], rfl, rfl, Nat.zero_le _, rfl⟩
  | x :: xs, h => by
    rw [List.all_cons, Bool.and_eq_true] at h
    obtain ⟨d, a⟩ := ih x h.1
    obtain ⟨ds, b1, b2, b3, b4⟩ := sames ih xs h.2
    refine ⟨d :: ds, ?_, ?_, ?_, ?_⟩
    · unfold dats; rw [a.dt, b1]
    · unfold PyData.canLayAll0; rw [a.c, b2]; rfl
    · unfold PyData.depthAll; have := a.p; omega
    · unfold PyData.eqvAll; rw [a.e, b4]; rfl
theorem safe_same : ∀ (n : Nat) (v : CV), safe n v = true → ∃ d, Same n v d
  | n, .non, _ => ⟨.none, rfl, rfl, Nat.zero_le _, rfl⟩
  | n, .bl b, _ => ⟨.bool b, rfl, rfl, Nat.zero_le _, by simp [PyData.eqv]⟩
  | n, .int i, _ => ⟨.int i, rfl, rfl, Nat.zero_le _, by simp [PyData.eqv]⟩
  | n, .str a, h => ⟨.str a, rfl, by unfold PyData.canLay0; unfold safe at h; exact h, Nat.zero_le _, by simp [PyData.eqv]⟩
  | 0, .tup xs, h => by cases h
  | 0, .lst xs, h => by cases h
  | n + 1, .tup xs, h => by
    unfold safe at h
    obtain ⟨ds, b1, b2, b3, b4⟩ := sames (safe_same n) xs h
    refine ⟨.tuple ds, ?_, ?_, ?_, ?_⟩
    · unfold dat; rw [b1]; rfl
    · unfold PyData.canLay0; exact b2
    · unfold PyData.depth; omega
    · unfold PyData.eqv; exact b4
  | n + 1, .lst xs, h => by
    unfold safe at h
    obtain ⟨ds, b1, b2, b3, b4⟩ := sames (safe_same n) xs h
    refine ⟨.list ds, ?_, ?_, ?_, ?_⟩
    · unfold dat; rw [b1]; rfl
    · unfold PyData.canLay0; exact b2
    · unfold PyData.depth; omega
    · unfold PyData.eqv; exact b4
  | 0, .frz _, h | 0, .ins _ _, h | 0, .dic _ _ _, h | 0, .ref _, h | 0, .fn _, h | 0, .cls _, h | 0, .ty _, h => by cases h
  | _ + 1, .frz _, h | _ + 1, .ins _ _, h | _ + 1, .dic _ _ _, h | _ + 1, .ref _, h | _ + 1, .fn _, h | _ + 1, .cls _, h | _ + 1, .ty _, h => by cases h
theorem datM_safe {n : Nat} {v : CV} {h : Mem} (s : safe n v = true) : datM v h = dat v := by
  cases v with
  | ref l => cases n <;> cases s
  | _ => rfl
theorem pyEq_same {n : Nat} {v : CV} {neg : Bool} {h : Mem} (hn : n ≤ 64) (s : safe n v = true) : pyEq neg v v h = .ok (.bl (!neg)) h := by
  obtain ⟨d, a⟩ := safe_same n v s
  unfold pyEq
  rw [datM_safe s, a.dt]
  have sh : SeqAt.shaped d = true := by
    unfold SeqAt.shaped
    rw [a.c, decide_eq_true (Nat.le_trans a.p hn)]
    rfl
  simp only [sh, a.e]
  cases neg <;> simp
/-- by another name -/
theorem pyEq_of {n : Nat} {v w : CV} {neg : Bool} {h : Mem} (e : v = w) (s : safe n v = true) (hn : n ≤ 64) : pyEq neg v w h = .ok (.bl (!neg)) h := by subst e; exact pyEq_same hn s
theorem pyEq_int {neg : Bool} {a b : Int} {h : Mem} : pyEq neg (.int a) (.int b) h = .ok (.bl (neg ^^ decide (a = b))) h := by
  show (if (SeqAt.shaped (.int a) && SeqAt.shaped (.int b)) = true then Out.ok (CV.bl (neg ^^ PyData.eqv (.int a) (.int b))) h else .bad) = _
  have s : ∀ i : Int, SeqAt.shaped (.int i) = true := fun i => rfl
  rw [s, s]
  have e : PyData.eqv (.int a) (.int b) = decide (a = b) := by
    unfold PyData.eqv
    by_cases c : a = b
    · subst c; simp
    · rw [decide_eq_false c]; simp [c]
  rw [e]
  rfl
end VE

noncomputable section
namespace VE
open PySem SX L2 PySem.NumText PySem.W.KIN
/-- the digits of a number -/
def Dg (n : Nat) : List Nat := (Nat.toDigits 10 n).map Char.toNat
theorem Dg_all (n : Nat) : ∀ c ∈ Dg n, 48 ≤ c ∧ c ≤ 57 := fun c hc => by
  obtain ⟨ch, hch, e⟩ := List.mem_map.mp hc
  have r := PyProof.Rows.digit_range (Nat.isDigit_of_mem_toDigits (by decide) (by decide) hch)
  rw [← e]
  exact r
theorem Dg_ne (n : Nat) : Dg n ≠ [] := fun e => by
  have h := PySem.toDigits_len_ge 10 n
  rw [List.map_eq_nil_iff.mp e] at h
  exact absurd h (by decide)
theorem Dg_len {n k : Nat} (hk : 1 ≤ k) (h : n < 10 ^ k) : (Dg n).length ≤ k := by
  unfold Dg
  rw [List.length_map]
  exact PyProof.Rows.digits10_le hk h
theorem tn_nat (n : Nat) : Str.ofString (toString ((n : Nat) : Int)) = S (Dg n) := TL.ext_tl (PySem.W.KIN.signs_num n)
theorem tn_neg (n : Nat) : Str.ofString (toString (Int.negSucc n)) = S (45 :: Dg (n + 1)) := by
  refine TL.ext_tl ?_
  show (Str.ofString (toString (Int.negSucc n))).cps.toList = 45 :: Dg (n + 1)
  rw [PyProof.Rows.signs_ofString]
  show (("-" ++ Nat.repr (n + 1) : String)).toList.map Char.toNat = _
  rw [String.toList_append, List.map_append, Nat.toList_repr]
  rfl
def sgL (a : Int) : List Nat := if a < 0 then [45] else []
def txL (a : Int) : List Nat := sgL a ++ Dg a.natAbs
theorem tn_int (a : Int) : Str.ofString (toString a) = S (txL a) := by
  unfold txL sgL
  cases a with
  | ofNat n =>
    rw [if_neg (show ¬ (Int.ofNat n < 0) from Int.not_lt.mpr (Int.natCast_nonneg n))]
    exact tn_nat n
  | negSucc n =>
    rw [if_pos (Int.negSucc_lt_zero n)]
    exact tn_neg n
theorem strOk_S {l : List Nat} (h : ∀ c ∈ l, c < 256) : PyData.strOk (S l) = true := by
  unfold PyData.strOk
  rw [← Array.all_toList, List.all_eq_true]
  intro c hc
  have := h c hc
  exact decide_eq_true (by omega)
theorem pyEq_s {neg : Bool} {a b : Str} {h : Mem} (ha : PyData.strOk a = true) (hb : PyData.strOk b = true) : pyEq neg (.str a) (.str b) h = .ok (.bl (neg ^^ (a == b))) h := by
  have sa : SeqAt.shaped (.str a) = true := by unfold SeqAt.shaped; simp [PyData.canLay0, ha, PyData.depth]
  have sb : SeqAt.shaped (.str b) = true := by unfold SeqAt.shaped; simp [PyData.canLay0, hb, PyData.depth]
  show (if SeqAt.shaped (.str a) && SeqAt.shaped (.str b) then Out.ok (CV.bl (neg ^^ PyData.eqv (.str a) (.str b))) h else .bad) = _
  rw [sa, sb]
  unfold PyData.eqv
  rfl
theorem pyEq_S {neg : Bool} {a b : List Nat} {h : Mem} (ha : ∀ c ∈ a, c < 256) (hb : ∀ c ∈ b, c < 256) : pyEq neg (.str (S a)) (.str (S b)) h = .ok (.bl (neg ^^ decide (a = b))) h := by
  rw [pyEq_s (strOk_S ha) (strOk_S hb), S_beq_eq]
theorem pyStr_int {a : Int} (h : a.natAbs ≤ 2 ^ 250) {m : Mem} : pyStr (.int a) m = .ok (.str (S (txL a))) m := by
  have l : a.natAbs.log2 ≤ 250 := log2_of (Nat.ble_eq.mpr h)
  unfold pyStr
  simp only
  rw [if_pos (by omega), tn_int]
  rfl
theorem eFmt_int {a : Int} (h : a.natAbs ≤ 2 ^ 250) {e : Sl → M CV} {τ : Sl} {m m1 : Mem} (q : e τ m = .ok (.int a) m1) : eFmt e τ m = .ok (.str (S (txL a))) m1 := by
  have l : a.natAbs.log2 ≤ 250 := log2_of (Nat.ble_eq.mpr h)
  unfold eFmt
  rw [rd_bnd, q]
  have f : fmtS (.int a) = some (S (txL a)) := by
    unfold fmtS
    simp only
    rw [if_pos (by omega), tn_int]
  simp only [f]
theorem eJs_nil {acc : Str} {τ : Sl} {m : Mem} : eJs [] acc τ m = .ok (.str acc) m := rfl
theorem eJs_cons {e : Sl → M CV} {es : List (Sl → M CV)} {acc y z : Str} {τ : Sl} {m m1 m2 : Mem} (q : e τ m = .ok (.str y) m1) (hl : (acc ++ y).length ≤ 1000000) (r : eJs es (acc ++ y) τ m1 = .ok (.str z) m2) : eJs (e :: es) acc τ m = .ok (.str z) m2 := by
  unfold eJs
  rw [rd_bnd, q]
  simp only
  rw [if_pos hl]
  exact r
theorem pyAdd_S {a b : List Nat} {h : Mem} (hl : a.length + b.length ≤ 1000000) : pyAdd (.str (S a)) (.str (S b)) h = .ok (.str (S (a ++ b))) h := by
  show (if (S a).length + (S b).length ≤ 1000000 then Out.ok (CV.str (S a ++ S b)) h else .bad) = _
  rw [S_len, S_len, if_pos hl, S_cat]
theorem len_S {a : List Nat} {h : Mem} (hl : a.length ≤ 1000000) : pyLen [.str (S a)] h = .ok (.int (a.length : Nat)) h := by
  unfold pyLen
  simp only
  rw [S_len, if_pos hl]
theorem cut1 {c : Nat} {r : List Nat} : cutS (S (c :: r)) none (some 1) = S [c] := by
  unfold cutS
  have l : (S (c :: r)).length = r.length + 1 := S_len _
  rw [l]
  have e1 : HT.sIx (r.length + 1) 0 none = 0 := rfl
  have e2 : HT.sIx (r.length + 1) (r.length + 1) (some 1) = 1 := by
    unfold HT.sIx
    simp
  rw [e1, e2]
  simp
theorem cutR {c : Nat} {r : List Nat} : cutS (S (c :: r)) (some 1) none = S r := by
  unfold cutS
  have l : (S (c :: r)).length = r.length + 1 := S_len _
  rw [l]
  have e1 : HT.sIx (r.length + 1) (r.length + 1) none = r.length + 1 := rfl
  have e2 : HT.sIx (r.length + 1) 0 (some 1) = 1 := by
    unfold HT.sIx
    simp
  rw [e1, e2]
  simp
theorem slice_S {z : Str} {lo hi : Option Int} {h : Mem} (hl : z.length ≤ 1000000) : pySlice lo hi (.str z) h = .ok (.str (cutS z lo hi)) h := by
  unfold pySlice
  simp only [txtOf]
  rw [if_pos hl]
theorem split1 {a : List Nat} (h : 47 ∉ a) : Txt.split (S a) (Str.ofString "/") = [S a] := by
  have e : Str.ofString "/" = S [47] := by decide
  rw [e, split_S (by simp) (by decide), TL.spl_last1 h]
  rfl
theorem split2 {a b : List Nat} (h : 47 ∉ a) (h2 : 47 ∉ b) : Txt.split (S (a ++ 47 :: b)) (Str.ofString "/") = [S a, S b] := by
  have e : Str.ofString "/" = S [47] := by decide
  rw [e, split_S (by simp) (by decide)]
  have q := TL.spl_part1 (S := []) (rest := b) (acc := []) h
  rw [show a ++ 47 :: b = a ++ (47 :: [] ++ b) by simp, q, TL.spl_last1 h2]
  rfl
theorem txt_Dg {n : Nat} (hl : n < 10 ^ 80) : PySem.intText? (S (Dg n)) = some ((n : Nat) : Int) := by
  have l : (Dg n).length ≤ 80 := Dg_len (by decide) hl
  rw [intText_digits (x := S (Dg n)) (Dg_all n) (Dg_ne n) (by rw [S_len]; omega)]
  show some ((digitsVal (Dg n) : Nat) : Int) = _
  unfold Dg
  rw [PySem.W.KIN.val_back]
theorem intT_Dg {n : Nat} {h : Mem} (hl : n < 10 ^ 80) : pyIntT (.str (S (Dg n))) h = .ok (.int (n : Nat)) h := by
  have l : (Dg n).length ≤ 80 := Dg_len (by decide) hl
  unfold pyIntT
  simp only [txt_Dg hl]
  rw [S_len, if_pos (by omega)]
  rfl
end VE

noncomputable section
namespace VE
open PySem
def WP (b : MS) (τ : Sl) (m : Mem) (N : Sl → Mem → Prop) (R : CV → Mem → Prop) : Prop := match b τ m with
  | .mk (.nx τ') m' => N τ' m'
  | .mk (.rt v) m' => R v m'
  | _ => False
def WE (e : Sl → M CV) (τ : Sl) (m : Mem) (Q : CV → Mem → Prop) : Prop := match e τ m with
  | .ok v m' => Q v m'
  | _ => False
/-- the objects stay, but for those of S; there may be more -/
structure Kp (S : List Nat) (m m' : Mem) : Prop where
  len : m.length ≤ m'.length
  at_ : ∀ k, k < m.length → k ∉ S → m'[k]? = m[k]?
section
variable {a b : MS} {τ τ1 : Sl} {m m1 m' : Mem} {N : Sl → Mem → Prop} {R : CV → Mem → Prop} {Q : CV → Mem → Prop} {e x y z : Sl → M CV} {i j l t k : Nat} {v : CV} {c : Sl → M Bool} {g : CV → Sl → M Sl} {ml : Sl → M (List CV)} {vs xs zs : List CV} {S : List Nat}
theorem At.kp (A : At m t xs) (K : Kp S m m') (n : t ∉ S) : At m' t xs := (K.at_ t A.lt n).trans A
theorem At.kp0 (A : At m t xs) (K : Kp [] m m') : At m' t xs := A.kp K List.not_mem_nil
theorem At.kp1 (A : At m t xs) (K : Kp [k] m m') (n : t ≠ k) : At m' t xs := A.kp K (by simpa using n)
theorem wp_seq (h : WP a τ m (fun τ m => WP b τ m N R) R) : WP (mSeq a b) τ m N R := by
  unfold WP at h ⊢
  rw [rd_mSeq]
  rcases q : a τ m with ⟨f, m'⟩ | _
  · rw [q] at h
    cases f with
    | nx τ' => exact h
    | rt v => exact h
    | _ => exact h.elim
  · rw [q] at h; exact h.elim
theorem wp_asg (h : WE e τ m fun v m' => N (τ.set i (some v)) m') : WP (mAsg (gSet i) e) τ m N R := by
  unfold WE at h
  unfold WP
  rw [rd_mAsg]
  cases q : e τ m with
  | ok v m' => rw [q] at h; simp only [rd_gSet]; exact h
  | _ => rw [q] at h; exact h.elim
theorem wp_expr (h : WE e τ m fun _ m' => N τ m') : WP (mExpr e) τ m N R := by
  unfold WE at h
  unfold WP
  rw [rd_mExpr]
  cases q : e τ m with
  | ok v m' => rw [q] at h; exact h
  | _ => rw [q] at h; exact h.elim
theorem wp_par (h : WE x τ m fun v m1 => WE y τ m1 fun w m2 => N ((τ.set i (some v)).set j (some w)) m2) : WP (mPar i j (eConsA x (eConsA y eNilA))) τ m N R := by
  unfold WE at h
  unfold WP
  cases q : x τ m with
  | ok v m1 =>
    rw [q] at h
    simp only at h
    cases q2 : y τ m1 with
    | ok w m2 =>
      rw [q2] at h
      rw [mPar_ok (eCons_ok q (eCons_ok q2 eNil_ok))]
      exact h
    | _ => rw [q2] at h; exact h.elim
  | _ => rw [q] at h; exact h.elim
theorem wp_par3 (h : WE x τ m fun v m1 => WE y τ m1 fun w m2 => WE z τ m2 fun u m3 => N (((τ.set i (some v)).set j (some w)).set l (some u)) m3) : WP (mPar3 i j l (eConsA x (eConsA y (eConsA z eNilA)))) τ m N R := by
  unfold WE at h
  unfold WP
  cases q : x τ m with
  | ok v m1 =>
    rw [q] at h
    simp only at h
    cases q2 : y τ m1 with
    | ok w m2 =>
      rw [q2] at h
      simp only at h
      cases q3 : z τ m2 with
      | ok u m3 =>
        rw [q3] at h
        rw [mPar3_ok (eCons_ok q (eCons_ok q2 (eCons_ok q3 eNil_ok)))]
        exact h
      | _ => rw [q3] at h; exact h.elim
    | _ => rw [q2] at h; exact h.elim
  | _ => rw [q] at h; exact h.elim
theorem wp_unp2 (h : WE x τ m fun v m1 => WE y τ m1 fun w m2 => N ((τ.set i (some v)).set j (some w)) m2) : WP (mAsg (gUnp 2 (gConsT (gSet i) (gConsT (gSet j) gNilT))) (eTup (eConsA x (eConsA y eNilA)))) τ m N R := by
  unfold WE at h
  unfold WP
  cases q : x τ m with
  | ok v m1 =>
    rw [q] at h
    simp only at h
    cases q2 : y τ m1 with
    | ok w m2 =>
      rw [q2] at h
      rw [rd_mAsg, eTup_ok (eCons_ok q (eCons_ok q2 eNil_ok)) (by simp)]
      have e : gUnp 2 (gConsT (gSet i) (gConsT (gSet j) gNilT)) (.tup [v, w]) τ m2 = .ok ((τ.set i (some v)).set j (some w)) m2 := by
        show bnd (gSet i v τ) (gConsT (gSet j) gNilT [w]) m2 = _
        rw [rd_bnd, rd_gSet]
        show bnd (gSet j w (τ.set i (some v))) (gNilT []) m2 = _
        rw [rd_bnd, rd_gSet]
        rfl
      simp only [e]
      exact h
    | _ => rw [q2] at h; exact h.elim
  | _ => rw [q] at h; exact h.elim
theorem wp_iff (q : c τ m = .ok false m1) (h : WP b τ m1 N R) : WP (mIf c a b) τ m N R := by unfold WP at h ⊢; rw [mIf_f q]; exact h
theorem wp_ift (q : c τ m = .ok true m1) (h : WP a τ m1 N R) : WP (mIf c a b) τ m N R := by unfold WP at h ⊢; rw [mIf_t q]; exact h
theorem wp_nil (h : N τ m) : WP mNil τ m N R := h
theorem wp_ret (h : WE e τ m R) : WP (mRet e) τ m N R := by
  unfold WE at h
  unfold WP
  rw [rd_mRet]
  cases q : e τ m with
  | ok v m' => rw [q] at h; exact h
  | _ => rw [q] at h; exact h.elim
theorem wp_for (q : ml τ m = .ok xs m1) (h : WP (mForL g b xs) τ m1 N R) : WP (mFor ml g b) τ m N R := by unfold WP at h ⊢; rw [mFor_nx q]; exact h
theorem wp_for0 (q : ml τ m = .ok xs m) (h : WP (mForL g b xs) τ m N R) : WP (mFor ml g b) τ m N R := wp_for q h
theorem eOp_p {f : CV → CV → M CV} {u w r : CV} (e1 : x τ m = .ok u m) (e2 : y τ m = .ok w m) (e3 : f u w m = .ok r m) : eOp f x y τ m = .ok r m := eOp_ok e1 e2 e3
theorem wl_nil (h : N τ m) : WP (mForL g b []) τ m N R := h
theorem wl_cons (q : g v τ m = .ok τ1 m1) (h : WP b τ1 m1 (fun τ2 m2 => WP (mForL g b xs) τ2 m2 N R) R) : WP (mForL g b (v :: xs)) τ m N R := by
  unfold WP at h ⊢
  rw [mForL_cons]
  simp only [q]
  rcases q2 : b τ1 m1 with ⟨f, m'⟩ | _
  · rw [q2] at h
    cases f with
    | nx τ' => exact h
    | rt v => exact h
    | _ => exact h.elim
  · rw [q2] at h; exact h.elim
theorem wl_set (h : WP b (τ.set i (some v)) m (fun τ2 m2 => WP (mForL (gSet i) b xs) τ2 m2 N R) R) : WP (mForL (gSet i) b (v :: xs)) τ m N R := wl_cons (rd_gSet i v) h
theorem wl_inv (I : Sl → Mem → Prop) : ∀ (xs : List CV) {τ : Sl} {m : Mem}, I τ m → (∀ x ∈ xs, ∀ τ m, I τ m → WP b (τ.set i (some x)) m I R) → (∀ τ m, I τ m → N τ m) → WP (mForL (gSet i) b xs) τ m N R
  | [], τ, m, h0, _, hN => hN τ m h0
  | x :: xs, τ, m, h0, st, hN => by
    refine wl_set ?_
    have h := st x List.mem_cons_self τ m h0
    unfold WP at h ⊢
    rcases q : b (τ.set i (some x)) m with ⟨f, m'⟩ | _
    · rw [q] at h
      cases f with
      | nx τ' => exact wl_inv I xs h (fun y hy => st y (List.mem_cons_of_mem _ hy)) hN
      | rt v => exact h
      | _ => exact h.elim
    · rw [q] at h; exact h.elim
theorem wp_run {np nl : Nat} (hl : xs.length = np) (h : WP b (startC nl xs) m (fun _ _ => False) R) : ∃ v m', runB np nl b xs m = .ok v m' ∧ R v m' := by
  unfold WP at h
  rcases q : b (startC nl xs) m with ⟨f, m'⟩ | _
  · rw [q] at h
    cases f with
    | rt v => exact ⟨v, m', run_rt hl q, h⟩
    | _ => exact h.elim
  · rw [q] at h; exact h.elim
theorem we_ok (q : e τ m = .ok v m1) (h : Q v m1) : WE e τ m Q := by unfold WE; rw [q]; exact h
theorem we_new (q : ml τ m = .ok vs m) (hl : vs.length ≤ 1000) (h : ∀ t m', t = m.length → At m' t vs → Kp [] m m' → Q (.ref t) m') : WE (eNew ml) τ m Q := by
  unfold WE
  rw [rd_eNew, q]
  simp only
  rw [if_pos hl]
  exact h _ _ rfl At.last ⟨by simp, fun k hk _ => List.getElem?_append_left hk⟩
theorem At.wr {ys : List CV} (A : At m t xs) : At (m.set t (.lst ys)) t ys ∧ Kp [t] m (m.set t (.lst ys)) :=
  ⟨A.set_self, ⟨by simp, fun k hk n => List.getElem?_set_ne (by simpa [eq_comm] using n)⟩⟩
theorem we_app (ht : τ[i]? = some (some (.ref t))) (q : e τ m = .ok v m) (A : At m t xs) (hl : xs.length < 1000000) (h : ∀ m', At m' t (xs ++ [v]) → Kp [t] m m' → Q .non m') : WE (eMt isLis pyAppend (eVar i) (eConsA e eNilA)) τ m Q := by
  unfold WE eMt
  rw [rd_bnd, eVar_ok ht]
  simp only
  rw [if_pos (isLis_at A), rd_bnd, eCons_ok q eNil_ok]
  simp only
  unfold pyAppend
  simp only [rd_memAt]
  rw [show m[t]? = some (.lst xs) from A]
  simp only
  rw [if_pos hl, frV_eq, sapp_eq, sset_eq]
  exact h _ A.wr.1 A.wr.2
theorem we_ext (ht : τ[i]? = some (some (.ref t))) (q : e τ m = .ok v m) (hv : lstOf v m = some zs) (A : At m t xs) (hl : xs.length + zs.length < 1000000) (h : ∀ m', At m' t (xs ++ zs) → Kp [t] m m' → Q .non m') : WE (eMt isLis pyExtend (eVar i) (eConsA e eNilA)) τ m Q := by
  unfold WE eMt
  rw [rd_bnd, eVar_ok ht]
  simp only
  rw [if_pos (isLis_at A), rd_bnd, eCons_ok q eNil_ok]
  simp only
  unfold pyExtend
  simp only [rd_memAt, hv]
  rw [show m[t]? = some (.lst xs) from A]
  simp only
  rw [if_pos hl, sapp_eq, sset_eq]
  exact h _ A.wr.1 A.wr.2
theorem strOk_app {a b : Str} (ha : PyData.strOk a = true) (hb : PyData.strOk b = true) : PyData.strOk (a ++ b) = true := by
  unfold PyData.strOk at *
  show (a.cps ++ b.cps).all _ = true
  rw [Array.all_append, ha, hb]
  rfl
theorem okR_len {y : CV} (q : okR y = true) : (sho y).length ≤ 1000000 := by
  unfold okR at q
  unfold sho
  rw [Bool.and_eq_true] at q
  have q2 := q.2
  cases e : shoD y [] with
  | none => rw [e] at q2; cases q2
  | some d =>
    rw [e] at q2
    simp only [Bool.and_eq_true] at q2 ⊢
    exact Nat.ble_eq.mp q2.1.1.2
theorem pyAdd_str {a b : Str} (h : a.length + b.length ≤ 1000000) : pyAdd (.str a) (.str b) m = .ok (.str (a ++ b)) m := by
  unfold pyAdd
  simp only
  rw [if_pos h]
theorem pyAdd_refL {ys : List CV} (A : At m t xs) (h : xs.length + ys.length ≤ 1000000) : pyAdd (.ref t) (.lst ys) m = .ok (.lst (xs ++ ys)) m := by
  unfold pyAdd
  simp only [lstOf, rd_memAt]
  rw [show m[t]? = some (.lst xs) from A]
  simp only
  rw [if_pos h]
/-- a value that may be shown, not too long -/
def okW (y : CV) : Bool := okR y && Nat.ble (sho y).length 1000
theorem okW_R {y : CV} (h : okW y = true) : okR y = true := by unfold okW at h; rw [Bool.and_eq_true] at h; exact h.1
theorem okW_l {y : CV} (h : okW y = true) : (sho y).length ≤ 1000 := by unfold okW at h; rw [Bool.and_eq_true] at h; exact Nat.ble_eq.mp h.2
theorem oa_nil : ∀ y ∈ ([] : List CV), okW y = true := fun _ h => nomatch h
theorem oa_cons (h : okW v = true) (h2 : ∀ y ∈ xs, okW y = true) : ∀ y ∈ v :: xs, okW y = true := List.forall_mem_cons.mpr ⟨h, h2⟩
/-- a text and what a value is shown as -/
theorem addRepr {s : Str} {y : CV} {τ : Sl} {e : Sl → M CV} (hs : s.length ≤ 1000) (q : e τ m = .ok y m) (o : okW y = true) : eOp pyAdd (eC (.str s)) (eB (one pyRepr) (eConsA e eNilA)) τ m = .ok (.str (s ++ sho y)) m :=
  eOp_ok eC_ok (eB_ok (eCons_ok q eNil_ok) (repr_okR (okW_R o))) (pyAdd_str (by have := okW_l o; omega))
/-- a call that raises class c, keeping v -/
def xT (c : Nat) (v : CV) (np : Nat) (F : List CV → M CV) (xs : List CV) : Bool := noRefs xs && isX c v (callF np F xs [])
theorem xT_at {c : Nat} {np : Nat} {F : List CV → M CV} (h : xT c v np F xs = true) : callF np F xs m = .exc ⟨c, [v]⟩ m := by
  unfold xT at h
  rw [Bool.and_eq_true] at h
  exact isX_at h.2 h.1
/-- .. keeping nothing -/
def xT0 (c : Nat) (np : Nat) (F : List CV → M CV) (xs : List CV) : Bool := noRefs xs && (match exC c (callF np F xs []) with | some [] => true | _ => false)
theorem xT0_at {c : Nat} {np : Nat} {F : List CV → M CV} (h : xT0 c np F xs = true) : callF np F xs m = .exc ⟨c, []⟩ m := by
  unfold xT0 at h
  rw [Bool.and_eq_true] at h
  have h2 := h.2
  split at h2
  · rename_i q; exact exC_at q h.1
  · cases h2
/-- a call that ends well -/
def fT (np : Nat) (F : List CV → M CV) (xs : List CV) : Bool := noRefs xs && okC (callF np F xs [])
theorem fT_at {np : Nat} {F : List CV → M CV} (h : fT np F xs = true) : ∃ v, callF np F xs m = .ok v m := by
  unfold fT at h
  rw [Bool.and_eq_true] at h
  exact okC_at h.2 h.1
theorem eDyn_ok {D : Disp} {d : Nat × (List CV → M CV)} (e1 : τ[i]? = some (some (.fn k))) (e2 : dispAt D k = some d) (e3 : ml τ m = .ok xs m) (e4 : callF d.1 d.2 xs m = .ok v m) : eDyn i D ml τ m = .ok v m := by
  unfold eDyn
  simp only [sget_eq, e1, e2]
  rw [rd_bnd, e3]
  exact e4
def ix0 : CV → CV | .tup (a :: _) => a | _ => .non
def ix1 : CV → CV | .tup (_ :: a :: _) => a | _ => .non
def ix2 : CV → CV | .tup (_ :: _ :: a :: _) => a | _ => .non
theorem same_eq {x y : CV} (h : sameV x y = true) : x = y := sameV_eq h
theorem sl_nil {n : Nat} : ([] : List CV).all (safe n) = true := rfl
theorem sl_cons {n : Nat} (h : safe n v = true) (h2 : xs.all (safe n) = true) : (v :: xs).all (safe n) = true := by rw [List.all_cons, h, h2]; rfl
theorem safe_tup {n : Nat} (h : xs.all (safe n) = true) : safe (n + 1) (.tup xs) = true := by unfold safe; exact h
theorem safe_lst {n : Nat} (h : xs.all (safe n) = true) : safe (n + 1) (.lst xs) = true := by unfold safe; exact h
theorem safe_str {n : Nat} {s : Str} (h : PyData.strOk s = true) : safe n (.str s) = true := by cases n <;> (unfold safe; exact h)
end
end VE


noncomputable section
namespace VE
open PySem
section
variable {τ : Sl} {m m1 m2 : Mem} {ml : Sl → M (List CV)} {xs : List CV} {e o c a : Sl → M CV} {x v : CV}
theorem eB_eq {F : List CV → M CV} (A : ml τ m = .ok xs m1) : eB F ml τ m = F xs m1 := by
  unfold eB; rw [rd_bnd, A]
theorem eDyn_eq {i k : Nat} {D : Disp} {d : Nat × (List CV → M CV)} (e1 : τ[i]? = some (some (.fn k))) (e2 : dispAt D k = some d) (A : ml τ m = .ok xs m1) : eDyn i D ml τ m = callF d.1 d.2 xs m1 := by
  unfold eDyn
  simp only [sget_eq, e1, e2]
  rw [rd_bnd, A]
theorem eMkF_eq {D : MDisp} {k : Nat} {d : Nat × Nat × (List CV → M CV)} (hc : c τ m = .ok (.cls k) m) (hd : mdispAt D k = some d) (A : ml τ m = .ok xs m1) : eMkF D c ml τ m = callF d.2.1 (mkI k d.1 d.2.2) xs m1 := by
  unfold eMkF
  rw [rd_bnd, hc]
  simp only [hd]
  rw [rd_bnd, A]
theorem eCm_eq {k np : Nat} {F : List CV → M CV} (hc : c τ m = .ok (.cls k) m) (A : ml τ m = .ok xs m1) : eCm k np F c ml τ m = callF np F (.cls k :: xs) m1 := by
  unfold eCm
  rw [rd_bnd, hc]
  simp only [Nat.beq_eq_true_eq, if_true, Nat.beq_refl]
  rw [rd_bnd, A]
theorem eMth_eq {D : Disp} {i : Nat} {d : Nat × (List CV → M CV)} (ho : o τ m = .ok x m) (hi : clsAt x m = some i) (hd : dispAt D i = some d) (A : ml τ m = .ok xs m1) : eMth D o ml τ m = callF d.1 d.2 (x :: xs) m1 := by
  unfold eMth
  rw [rd_bnd, ho]
  simp only [hi, hd]
  rw [rd_bnd, A]
theorem eProp_eq {D : Disp} {i : Nat} {d : Nat × (List CV → M CV)} (ho : o τ m = .ok x m) (hi : clsAt x m = some i) (hd : dispAt D i = some d) : eProp D o τ m = callF d.1 (noX d.2) [x] m := by
  unfold eProp
  rw [rd_bnd, ho]
  simp only [hi, hd]
theorem eConsM_ok {r : Sl → M (List CV)} (h1 : a τ m = .ok v m1) (h2 : r τ m1 = .ok xs m2) : eConsA a r τ m = .ok (v :: xs) m2 := by
  unfold eConsA
  rw [rd_bnd, h1]
  show bnd (r τ) _ m1 = _
  rw [rd_bnd, h2]
  rfl
theorem we_okS {Q : CV → Mem → Prop} (q : e τ m = .ok v m) (h : Q v m) : WE e τ m Q := we_ok q h
theorem eAnd_t {b : Sl → M CV} (h1 : a τ m = .ok (.bl true) m) (h2 : b τ m = .ok v m) : eAnd a b τ m = .ok v m := by
  unfold eAnd; rw [rd_bnd, h1]; exact h2
theorem eNot_f (h1 : a τ m = .ok (.bl false) m) : eNot a τ m = .ok (.bl true) m := by
  unfold eNot; rw [rd_bnd, h1]; rfl
theorem eConsS_ok {r : Sl → M (List CV)} (h1 : a τ m = .ok v m) (h2 : r τ m = .ok xs m) : eConsA a r τ m = .ok (v :: xs) m := eConsM_ok h1 h2
/-- a call with a told value -/
def vT (v : CV) (np : Nat) (F : List CV → M CV) (xs : List CV) : Bool := noRefs xs && (match callF np F xs [] with
  | .ok w [] => sameV w v
  | _ => false)
theorem vT_at {np : Nat} {F : List CV → M CV} (h : vT v np F xs = true) : callF np F xs m = .ok v m := by
  unfold vT at h
  rw [Bool.and_eq_true] at h
  obtain ⟨h1, h2⟩ := h
  split at h2
  · rename_i w q
    rw [sameV_eq h2] at q
    exact callF_m q h1
  · cases h2
/-- told.append(..), the item's working out moves the memory -/
theorem we_appM {i t : Nat} {ys : List CV} {Q : CV → Mem → Prop} (ht : τ[i]? = some (some (.ref t))) (q : e τ m = .ok v m1) (A0 : At m t ys) (A : At m1 t xs) (hl : xs.length < 1000000) (h : ∀ m', At m' t (xs ++ [v]) → Kp [t] m1 m' → Q .non m') : WE (eMt isLis pyAppend (eVar i) (eConsA e eNilA)) τ m Q := by
  have h0 := we_app (τ := [some (.ref t), some v]) (i := 0) (t := t) (e := eVar 1) (v := v) (Q := Q) rfl (eVar_ok rfl) A hl h
  unfold WE at h0 ⊢
  have e1 : eMt isLis pyAppend (eVar 0) (eConsA (eVar 1) eNilA) [some (.ref t), some v] m1 = pyAppend (.ref t) [v] m1 := by
    unfold eMt
    rw [rd_bnd, eVar_ok (v := .ref t) rfl]
    have c : isLis (.ref t) m1 = true := by unfold isLis; simp only [sget_eq]; rw [show m1[t]? = _ from A]
    simp only [c, if_true]
    rw [rd_bnd, eCons_ok (eVar_ok (v := v) rfl) eNil_ok]
  have e2 : eMt isLis pyAppend (eVar i) (eConsA e eNilA) τ m = pyAppend (.ref t) [v] m1 := by
    unfold eMt
    rw [rd_bnd, eVar_ok ht]
    have c : isLis (.ref t) m = true := by unfold isLis; simp only [sget_eq]; rw [show m[t]? = _ from A0]
    simp only [c, if_true]
    rw [rd_bnd, eConsM_ok q (show eNilA τ m1 = .ok [] m1 from rfl)]
  rw [e1] at h0
  rw [e2]
  exact h0
end
end VE

noncomputable section
namespace Lw
open PySem PySem.Spec PyProof.Rows L2 LamX VE
def top (i : Nat) : Stmt := PySem.Challenge.pw_bandrims_k52_errors_of_tau_numbers.main.body.getD i (.Pass ⟨0, 0, 0, 0⟩)
abbrev GG (P : Program) (w : World) (K : PySem.W.Frag) (fa ca pp : Nat → Addr) : Cfg := { P := P, w := w, K := K, cls := ca, fn := fa, fld := fun k => ([[], [], ["given"], ["limit"], ["reason"]] : List (List Str)).getD k [], T := [(pp 37, ((Str.ofString "_law_right" ++ Str.ofString ".<locals>.") ++ Str.ofString "<lambda>")), (pp 38, ((Str.ofString "law" ++ Str.ofString ".<locals>.") ++ Str.ofString "<lambda>"))] }
abbrev s_is_whole : Stmt := top 10
abbrev s_is_integer : Stmt := top 11
abbrev s_fraction_in : Stmt := top 12
abbrev s_sum_in : Stmt := top 13
abbrev s_product_in : Stmt := top 14
abbrev s_total_in : Stmt := top 15
abbrev s_product_from : Stmt := top 17
abbrev s_handles_in : Stmt := top 28
abbrev s_odd_of : Stmt := top 29
abbrev s_falling : Stmt := top 30
abbrev s_shared : Stmt := top 32
abbrev s_joined_terms_of : Stmt := top 33
abbrev s_parted_terms_of : Stmt := top 34
abbrev s_is_start : Stmt := top 35
abbrev s_terms_in : Stmt := top 36
abbrev s_start_number : Stmt := top 37
abbrev s_tau_kept : Stmt := top 38
abbrev s_tau_in : Stmt := top 39
abbrev s_partings : Stmt := top 40
abbrev s_tau_row_in : Stmt := top 41
abbrev s_by_rules : Stmt := top 45
abbrev s_require_exponents : Stmt := top 46
abbrev s_require_pair : Stmt := top 47
abbrev s_handles_of : Stmt := top 48
abbrev s_tau_number : Stmt := top 49
abbrev s_tau_terms : Stmt := top 50
abbrev s_tau_row : Stmt := top 51
abbrev s_tau_by_rules : Stmt := top 52
abbrev s_law_dice : Stmt := top 54
abbrev s_law_roll : Stmt := top 55
abbrev s_law_pick : Stmt := top 56
abbrev s_law_met : Stmt := top 57
abbrev s_law_right : Stmt := top 58
abbrev s_law : Stmt := top 59
structure Txt (P : Program) (w : World) (K : PySem.W.Frag) (mg : Str → Option Value) (base : Heap) (fa ca cc pp : Nat → Addr) (fd : Nat → FuncData) : Prop where
  d_is_whole : mg "is_whole" = some (.ref (fa 0))
  f_is_whole : Fun K "is_whole" "is_whole" s_is_whole (fa 0) (fd 0)
  fc_is_whole : FunC K "is_whole" "is_whole" s_is_whole (fa 0) (fd 0) (cc 0)
  d_is_integer : mg "is_integer" = some (.ref (fa 1))
  f_is_integer : Fun K "is_integer" "is_integer" s_is_integer (fa 1) (fd 1)
  fc_is_integer : FunC K "is_integer" "is_integer" s_is_integer (fa 1) (fd 1) (cc 1)
  d_fraction_in : mg "fraction_in" = some (.ref (fa 2))
  f_fraction_in : Fun K "fraction_in" "fraction_in" s_fraction_in (fa 2) (fd 2)
  fc_fraction_in : FunC K "fraction_in" "fraction_in" s_fraction_in (fa 2) (fd 2) (cc 2)
  d_sum_in : mg "sum_in" = some (.ref (fa 3))
  f_sum_in : Fun K "sum_in" "sum_in" s_sum_in (fa 3) (fd 3)
  fc_sum_in : FunC K "sum_in" "sum_in" s_sum_in (fa 3) (fd 3) (cc 3)
  d_product_in : mg "product_in" = some (.ref (fa 4))
  f_product_in : Fun K "product_in" "product_in" s_product_in (fa 4) (fd 4)
  fc_product_in : FunC K "product_in" "product_in" s_product_in (fa 4) (fd 4) (cc 4)
  d_total_in : mg "total_in" = some (.ref (fa 5))
  f_total_in : Fun K "total_in" "total_in" s_total_in (fa 5) (fd 5)
  fc_total_in : FunC K "total_in" "total_in" s_total_in (fa 5) (fd 5) (cc 5)
  d_product_from : mg "product_from" = some (.ref (fa 7))
  f_product_from : Fun K "product_from" "product_from" s_product_from (fa 7) (fd 7)
  fc_product_from : FunC K "product_from" "product_from" s_product_from (fa 7) (fd 7) (cc 7)
  d_handles_in : mg "handles_in" = some (.ref (fa 8))
  f_handles_in : Fun K "handles_in" "handles_in" s_handles_in (fa 8) (fd 8)
  fc_handles_in : FunC K "handles_in" "handles_in" s_handles_in (fa 8) (fd 8) (cc 8)
  d_odd_of : mg "odd_of" = some (.ref (fa 9))
  f_odd_of : Fun K "odd_of" "odd_of" s_odd_of (fa 9) (fd 9)
  fc_odd_of : FunC K "odd_of" "odd_of" s_odd_of (fa 9) (fd 9) (cc 9)
  d_falling : mg "falling" = some (.ref (fa 10))
  f_falling : Fun K "falling" "falling" s_falling (fa 10) (fd 10)
  fc_falling : FunC K "falling" "falling" s_falling (fa 10) (fd 10) (cc 10)
  d_shared : mg "shared" = some (.ref (fa 12))
  f_shared : Fun K "shared" "shared" s_shared (fa 12) (fd 12)
  fc_shared : FunC K "shared" "shared" s_shared (fa 12) (fd 12) (cc 12)
  d_joined_terms_of : mg "joined_terms_of" = some (.ref (fa 13))
  f_joined_terms_of : Fun K "joined_terms_of" "joined_terms_of" s_joined_terms_of (fa 13) (fd 13)
  fc_joined_terms_of : FunC K "joined_terms_of" "joined_terms_of" s_joined_terms_of (fa 13) (fd 13) (cc 13)
  d_parted_terms_of : mg "parted_terms_of" = some (.ref (fa 14))
  f_parted_terms_of : Fun K "parted_terms_of" "parted_terms_of" s_parted_terms_of (fa 14) (fd 14)
  fc_parted_terms_of : FunC K "parted_terms_of" "parted_terms_of" s_parted_terms_of (fa 14) (fd 14) (cc 14)
  d_is_start : mg "is_start" = some (.ref (fa 15))
  f_is_start : Fun K "is_start" "is_start" s_is_start (fa 15) (fd 15)
  fc_is_start : FunC K "is_start" "is_start" s_is_start (fa 15) (fd 15) (cc 15)
  d_terms_in : mg "terms_in" = some (.ref (fa 16))
  f_terms_in : Fun K "terms_in" "terms_in" s_terms_in (fa 16) (fd 16)
  fc_terms_in : FunC K "terms_in" "terms_in" s_terms_in (fa 16) (fd 16) (cc 16)
  d_start_number : mg "start_number" = some (.ref (fa 17))
  f_start_number : Fun K "start_number" "start_number" s_start_number (fa 17) (fd 17)
  fc_start_number : FunC K "start_number" "start_number" s_start_number (fa 17) (fd 17) (cc 17)
  d_tau_kept : mg "tau_kept" = some (.ref (fa 18))
  f_tau_kept : Fun K "tau_kept" "tau_kept" s_tau_kept (fa 18) (fd 18)
  fc_tau_kept : FunC K "tau_kept" "tau_kept" s_tau_kept (fa 18) (fd 18) (cc 18)
  d_tau_in : mg "tau_in" = some (.ref (fa 19))
  f_tau_in : Fun K "tau_in" "tau_in" s_tau_in (fa 19) (fd 19)
  fc_tau_in : FunC K "tau_in" "tau_in" s_tau_in (fa 19) (fd 19) (cc 19)
  d_partings : mg "partings" = some (.ref (fa 20))
  f_partings : Fun K "partings" "partings" s_partings (fa 20) (fd 20)
  fc_partings : FunC K "partings" "partings" s_partings (fa 20) (fd 20) (cc 20)
  d_tau_row_in : mg "tau_row_in" = some (.ref (fa 21))
  f_tau_row_in : Fun K "tau_row_in" "tau_row_in" s_tau_row_in (fa 21) (fd 21)
  fc_tau_row_in : FunC K "tau_row_in" "tau_row_in" s_tau_row_in (fa 21) (fd 21) (cc 21)
  d_by_rules : mg "by_rules" = some (.ref (fa 25))
  f_by_rules : Fun K "by_rules" "by_rules" s_by_rules (fa 25) (fd 25)
  fc_by_rules : FunC K "by_rules" "by_rules" s_by_rules (fa 25) (fd 25) (cc 25)
  d_require_exponents : mg "require_exponents" = some (.ref (fa 26))
  f_require_exponents : Fun K "require_exponents" "require_exponents" s_require_exponents (fa 26) (fd 26)
  fc_require_exponents : FunC K "require_exponents" "require_exponents" s_require_exponents (fa 26) (fd 26) (cc 26)
  d_require_pair : mg "require_pair" = some (.ref (fa 27))
  f_require_pair : Fun K "require_pair" "require_pair" s_require_pair (fa 27) (fd 27)
  fc_require_pair : FunC K "require_pair" "require_pair" s_require_pair (fa 27) (fd 27) (cc 27)
  d_handles_of : mg "handles_of" = some (.ref (fa 28))
  f_handles_of : Fun K "handles_of" "handles_of" s_handles_of (fa 28) (fd 28)
  fc_handles_of : FunC K "handles_of" "handles_of" s_handles_of (fa 28) (fd 28) (cc 28)
  d_tau_number : mg "tau_number" = some (.ref (fa 29))
  f_tau_number : Fun K "tau_number" "tau_number" s_tau_number (fa 29) (fd 29)
  fc_tau_number : FunC K "tau_number" "tau_number" s_tau_number (fa 29) (fd 29) (cc 29)
  d_tau_terms : mg "tau_terms" = some (.ref (fa 30))
  f_tau_terms : Fun K "tau_terms" "tau_terms" s_tau_terms (fa 30) (fd 30)
  fc_tau_terms : FunC K "tau_terms" "tau_terms" s_tau_terms (fa 30) (fd 30) (cc 30)
  d_tau_row : mg "tau_row" = some (.ref (fa 31))
  f_tau_row : Fun K "tau_row" "tau_row" s_tau_row (fa 31) (fd 31)
  fc_tau_row : FunC K "tau_row" "tau_row" s_tau_row (fa 31) (fd 31) (cc 31)
  d_tau_by_rules : mg "tau_by_rules" = some (.ref (fa 32))
  f_tau_by_rules : Fun K "tau_by_rules" "tau_by_rules" s_tau_by_rules (fa 32) (fd 32)
  fc_tau_by_rules : FunC K "tau_by_rules" "tau_by_rules" s_tau_by_rules (fa 32) (fd 32) (cc 32)
  d_law_dice : mg "_law_dice" = some (.ref (fa 33))
  f_law_dice : Fun K "_law_dice" "_law_dice" s_law_dice (fa 33) (fd 33)
  fc_law_dice : FunC K "_law_dice" "_law_dice" s_law_dice (fa 33) (fd 33) (cc 33)
  d_law_roll : mg "_law_roll" = some (.ref (fa 34))
  f_law_roll : Fun K "_law_roll" "_law_roll" s_law_roll (fa 34) (fd 34)
  fc_law_roll : FunC K "_law_roll" "_law_roll" s_law_roll (fa 34) (fd 34) (cc 34)
  d_law_pick : mg "_law_pick" = some (.ref (fa 35))
  f_law_pick : Fun K "_law_pick" "_law_pick" s_law_pick (fa 35) (fd 35)
  fc_law_pick : FunC K "_law_pick" "_law_pick" s_law_pick (fa 35) (fd 35) (cc 35)
  d_law_met : mg "_law_met" = some (.ref (fa 36))
  f_law_met : Fun K "_law_met" "_law_met" s_law_met (fa 36) (fd 36)
  fc_law_met : FunC K "_law_met" "_law_met" s_law_met (fa 36) (fd 36) (cc 36)
  d_law_right : mg "_law_right" = some (.ref (fa 37))
  f_law_right : Fun K "_law_right" "_law_right" s_law_right (fa 37) (fd 37)
  fc_law_right : FunC K "_law_right" "_law_right" s_law_right (fa 37) (fd 37) (cc 37)
  d_law : mg "law" = some (.ref (fa 38))
  f_law : Fun K "law" "law" s_law (fa 38) (fd 38)
  fc_law : FunC K "law" "law" s_law (fa 38) (fd 38) (cc 38)
  t_law_right : LamX.TabB base mg (cc 37) (pp 37)
  v_law_right : (pp 37, ((Str.ofString "_law_right" ++ Str.ofString ".<locals>.") ++ Str.ofString "<lambda>")) ∈ (GG P w K fa ca pp).T
  u_law_right : ∀ p ∈ (GG P w K fa ca pp).T, p.1 = pp 37 → p.2 = ((Str.ofString "_law_right" ++ Str.ofString ".<locals>.") ++ Str.ofString "<lambda>")
  t_law : LamX.TabB base mg (cc 38) (pp 38)
  v_law : (pp 38, ((Str.ofString "law" ++ Str.ofString ".<locals>.") ++ Str.ofString "<lambda>")) ∈ (GG P w K fa ca pp).T
  u_law : ∀ p ∈ (GG P w K fa ca pp).T, p.1 = pp 38 → p.2 = ((Str.ofString "law" ++ Str.ofString ".<locals>.") ++ Str.ofString "<lambda>")
  x_InvalidOperation : PlainX K mg (ca 1) "InvalidOperation"
  x_InvalidNumber : KeepX P K mg (ca 2) "InvalidNumber" "given"
  x_TooMany : KeepX P K mg (ca 3) "TooMany" "limit"
  x_Refused : KeepX P K mg (ca 4) "Refused" "reason"
  m_1_1 : PySem.W.exmOne K (.ref (ca 1)) (.ref (ca 1)) = some true
  m_2_1 : PySem.W.exmOne K (.ref (ca 2)) (.ref (ca 1)) = some false
  m_3_1 : PySem.W.exmOne K (.ref (ca 3)) (.ref (ca 1)) = some false
  m_4_1 : PySem.W.exmOne K (.ref (ca 4)) (.ref (ca 1)) = some false
  m_1_2 : PySem.W.exmOne K (.ref (ca 1)) (.ref (ca 2)) = some false
  m_2_2 : PySem.W.exmOne K (.ref (ca 2)) (.ref (ca 2)) = some true
  m_3_2 : PySem.W.exmOne K (.ref (ca 3)) (.ref (ca 2)) = some false
  m_4_2 : PySem.W.exmOne K (.ref (ca 4)) (.ref (ca 2)) = some false
  m_1_3 : PySem.W.exmOne K (.ref (ca 1)) (.ref (ca 3)) = some false
  m_2_3 : PySem.W.exmOne K (.ref (ca 2)) (.ref (ca 3)) = some false
  m_3_3 : PySem.W.exmOne K (.ref (ca 3)) (.ref (ca 3)) = some true
  m_4_3 : PySem.W.exmOne K (.ref (ca 4)) (.ref (ca 3)) = some false
  m_1_4 : PySem.W.exmOne K (.ref (ca 1)) (.ref (ca 4)) = some false
  m_2_4 : PySem.W.exmOne K (.ref (ca 2)) (.ref (ca 4)) = some false
  m_3_4 : PySem.W.exmOne K (.ref (ca 3)) (.ref (ca 4)) = some false
  m_4_4 : PySem.W.exmOne K (.ref (ca 4)) (.ref (ca 4)) = some true
  z_abs : mg "abs" = none
  z_all : mg "all" = none
  z_bool : mg "bool" = none
  z_enumerate : mg "enumerate" = none
  z_int : mg "int" = none
  z_isinstance : mg "isinstance" = none
  z_len : mg "len" = none
  z_list : mg "list" = none
  z_max : mg "max" = none
  z_min : mg "min" = none
  z_range : mg "range" = none
  z_repr : mg "repr" = none
  z_sorted : mg "sorted" = none
  z_sum : mg "sum" = none
  z_tuple : mg "tuple" = none
  i_gcd : mg "gcd" = some (.builtin "math.gcd")
  c_BOUND : ∃ t, mg "BOUND" = some (.int 1000000000000000000000000000000000000000000000000000000000000 t)
  c_LONE : ∃ t, mg "LONE" = some (.int 24 t)
  c_MAX_DEPTH : ∃ t, mg "MAX_DEPTH" = some (.int 5 t)
  c_MOST_EXPONENTS : ∃ t, mg "MOST_EXPONENTS" = some (.int 8 t)
  c_MOST_MANY : ∃ t, mg "MOST_MANY" = some (.int 8 t)
  c_MOST_RIMS : ∃ t, mg "MOST_RIMS" = some (.int 6 t)
  c_MOST_SUM : ∃ t, mg "MOST_SUM" = some (.int 20 t)
  c_ONE : ∃ v, mg "ONE" = some v ∧ KV K (.tup [(.int 1), (.int 1)]) v
  c_PAIR : ∃ t, mg "PAIR" = some (.str (Str.ofString "pair") t)
  c_ZERO_numbers : ∃ v, mg "ZERO_numbers" = some v ∧ KV K (.tup [(.int 0), (.int 1)]) v
  c_ZERO_tau : ∃ v, mg "ZERO_tau" = some v ∧ KV K (.tup [(.int 0), (.int 1)]) v
section
variable {P : Program} {w : World} {K : PySem.W.Frag} {mg : Str → Option Value} {base : Heap} {fa ca cc pp : Nat → Addr} {fd : Nat → FuncData}
def cm_InvalidOperation : Nat → Option Bool := fun k => match k with
  | 1 => some true
  | 2 => some false
  | 3 => some false
  | 4 => some false
  | _ => none
theorem cm_InvalidOperation_ok (T : Txt P w K mg base fa ca cc pp fd) (k : Nat) (b : Bool) (e : cm_InvalidOperation k = some b) : PySem.W.exmOne K (.ref (ca k)) (.ref (ca 1)) = some b := by
  unfold cm_InvalidOperation at e
  split at e
  · cases e; exact T.m_1_1
  · cases e; exact T.m_2_1
  · cases e; exact T.m_3_1
  · cases e; exact T.m_4_1
  · cases e
def cm_InvalidNumber : Nat → Option Bool := fun k => match k with
  | 1 => some false
  | 2 => some true
  | 3 => some false
  | 4 => some false
  | _ => none
theorem cm_InvalidNumber_ok (T : Txt P w K mg base fa ca cc pp fd) (k : Nat) (b : Bool) (e : cm_InvalidNumber k = some b) : PySem.W.exmOne K (.ref (ca k)) (.ref (ca 2)) = some b := by
  unfold cm_InvalidNumber at e
  split at e
  · cases e; exact T.m_1_2
  · cases e; exact T.m_2_2
  · cases e; exact T.m_3_2
  · cases e; exact T.m_4_2
  · cases e
def cm_TooMany : Nat → Option Bool := fun k => match k with
  | 1 => some false
  | 2 => some false
  | 3 => some true
  | 4 => some false
  | _ => none
theorem cm_TooMany_ok (T : Txt P w K mg base fa ca cc pp fd) (k : Nat) (b : Bool) (e : cm_TooMany k = some b) : PySem.W.exmOne K (.ref (ca k)) (.ref (ca 3)) = some b := by
  unfold cm_TooMany at e
  split at e
  · cases e; exact T.m_1_3
  · cases e; exact T.m_2_3
  · cases e; exact T.m_3_3
  · cases e; exact T.m_4_3
  · cases e
def cm_Refused : Nat → Option Bool := fun k => match k with
  | 1 => some false
  | 2 => some false
  | 3 => some false
  | 4 => some true
  | _ => none
theorem cm_Refused_ok (T : Txt P w K mg base fa ca cc pp fd) (k : Nat) (b : Bool) (e : cm_Refused k = some b) : PySem.W.exmOne K (.ref (ca k)) (.ref (ca 4)) = some b := by
  unfold cm_Refused at e
  split at e
  · cases e; exact T.m_1_4
  · cases e; exact T.m_2_4
  · cases e; exact T.m_3_4
  · cases e; exact T.m_4_4
  · cases e
def tt_bool : Nat → Option Bool := fun k => match k with
  | _ => none
theorem is_bool (T : Txt P w K mg base fa ca cc pp fd) : IsiT (GG P w K fa ca pp) (.ty "bool") (.type "bool") isBool tt_bool := ⟨.ty "bool", fun k => kit_ty (isBool_ok k), fun k b e => by
  unfold tt_bool at e
  split at e
  · cases e⟩
def tt_int : Nat → Option Bool := fun k => match k with
  | _ => none
theorem is_int (T : Txt P w K mg base fa ca cc pp fd) : IsiT (GG P w K fa ca pp) (.ty "int") (.type "int") isInt tt_int := ⟨.ty "int", fun k => kit_ty (isInt_ok k), fun k b e => by
  unfold tt_int at e
  split at e
  · cases e⟩
def tt_tuple : Nat → Option Bool := fun k => match k with
  | _ => none
theorem is_tuple (T : Txt P w K mg base fa ca cc pp fd) : IsiT (GG P w K fa ca pp) (.ty "tuple") (.type "tuple") isTupK tt_tuple := ⟨.ty "tuple", fun k => kit_ty (isTup_ok k), fun k b e => by
  unfold tt_tuple at e
  split at e
  · cases e⟩
def b_is_whole : MS := (mRet (eAnd (eUn (isTy isInt tt_int) (eVar 0)) (eNot (eUn (isTy isBool tt_bool) (eVar 0)))))
def F_is_whole : List CV → M CV := runB 1 1 b_is_whole
theorem sc_is_whole : FnScope ["value"] ["value"] (defScope s_is_whole) := ⟨rfl, rfl, rfl, by decide +kernel, rfl, by decide +kernel, by decide +kernel⟩
theorem bn_is_whole (T : Txt P w K mg base fa ca cc pp fd) : Binds K (fd 0) ["value"] [] := T.f_is_whole.binds fun _ _ _ _ _ _ us hl => match us, hl with | [_], _ => rfl
theorem ok_is_whole (T : Txt P w K mg base fa ca cc pp fd) : FnG P w K mg base 1 (fa 0) (fd 0) ["value"] (spH (GG P w K fa ca pp) 1 F_is_whole) :=
  have nd := sc_is_whole.nd
  fnG (G := GG P w K fa ca pp) 1 1 (mb := b_is_whole) (by rfl) T.fc_is_whole sc_is_whole (by rfl) (by rfl) (by rfl) (by rfl) (by rfl) (by rfl) (by rfl) fun A outer s H E hrG B po =>
    have hr := hrG.r
    (sss_one (ss_ret (se_and (se_isY (by rfl) (by rfl) T.z_isinstance (is_int T) (pe_bltn (v := .ty "int") (by rfl) T.z_int (by decide +kernel) rfl (by decide) (by decide)) (se_var 0)) (se_and1 (se_not (se_isY (by rfl) (by rfl) T.z_isinstance (is_bool T) (pe_bltn (v := .ty "bool") (by rfl) T.z_bool (by decide +kernel) rfl (by decide) (by decide)) (se_var 0)))))))
def b_is_integer : MS := (mRet (eAnd (eB (callF 1 F_is_whole) (eConsA (eVar 0) eNilA)) (eOp pyLt (eB pyAbs (eConsA (eVar 0) eNilA)) (eC (.int 1000000000000000000000000000000000000000000000000000000000000)))))
def F_is_integer : List CV → M CV := runB 1 1 b_is_integer
theorem sc_is_integer : FnScope ["value"] ["value"] (defScope s_is_integer) := ⟨rfl, rfl, rfl, by decide +kernel, rfl, by decide +kernel, by decide +kernel⟩
theorem bn_is_integer (T : Txt P w K mg base fa ca cc pp fd) : Binds K (fd 1) ["value"] [] := T.f_is_integer.binds fun _ _ _ _ _ _ us hl => match us, hl with | [_], _ => rfl
theorem ok_is_integer (T : Txt P w K mg base fa ca cc pp fd) : FnG P w K mg base 2 (fa 1) (fd 1) ["value"] (spH (GG P w K fa ca pp) 1 F_is_integer) :=
  have nd := sc_is_integer.nd
  fnG (G := GG P w K fa ca pp) 1 1 (mb := b_is_integer) (by rfl) T.fc_is_integer sc_is_integer (by rfl) (by rfl) (by rfl) (by rfl) (by rfl) (by rfl) (by rfl) fun A outer s H E hrG B po =>
    have hr := hrG.r
    (sss_one (ss_ret (se_and (se_callFG B (by rfl) (by rfl) (ok_is_whole T) (hrG.mono (by decide)) (by rfl) T.d_is_whole T.f_is_whole.kp (bn_is_whole T) (sa_cons (se_var 0) sa_nil)) (se_and1 (se_cmp op_lt cmp_ok (se_callB call_abs abs_ok (by rfl) T.z_abs (by decide +kernel) (sa_cons (se_var 0) sa_nil)) (se_gint (by rfl) T.c_BOUND.choose_spec))))))
def b_fraction_in : MS := (mSeq (mAsg (gSet 2) (eIf (bOf (eOp pyGt (eVar 1) (eC (.int 0)))) (eB pyGcd (eConsA (eVar 0) (eConsA (eVar 1) eNilA))) (eUn pyNeg (eB pyGcd (eConsA (eVar 0) (eConsA (eVar 1) eNilA))))))
    (mRet (eTup (eConsA (eOp pyFdiv (eVar 0) (eVar 2)) (eConsA (eOp pyFdiv (eVar 1) (eVar 2)) eNilA)))))
def F_fraction_in : List CV → M CV := runB 2 3 b_fraction_in
theorem sc_fraction_in : FnScope ["top", "bottom", "share"] ["top", "bottom"] (defScope s_fraction_in) := ⟨rfl, rfl, rfl, by decide +kernel, rfl, by decide +kernel, by decide +kernel⟩
theorem bn_fraction_in (T : Txt P w K mg base fa ca cc pp fd) : Binds K (fd 2) ["top", "bottom"] [] := T.f_fraction_in.binds fun _ _ _ _ _ _ us hl => match us, hl with | [_, _], _ => rfl
theorem ok_fraction_in (T : Txt P w K mg base fa ca cc pp fd) : FnG P w K mg base 1 (fa 2) (fd 2) ["top", "bottom"] (spH (GG P w K fa ca pp) 2 F_fraction_in) :=
  have nd := sc_fraction_in.nd
  fnG (G := GG P w K fa ca pp) 2 3 (mb := b_fraction_in) (by rfl) T.fc_fraction_in sc_fraction_in (by rfl) (by rfl) (by rfl) (by rfl) (by rfl) (by rfl) (by rfl) fun A outer s H E hrG B po =>
    have hr := hrG.r
    (sss_cons (ss_asg (sg_set (i := 2) nd rfl (.inl rfl)) (se_if (st_cmp op_gt cmp_ok (se_var 1) se_int) (se_callBf cr_gcd pyGcd_ok (by rfl) T.i_gcd (sa_cons (se_var 0) (sa_cons (se_var 1) sa_nil))) (se_un un_neg neg_ok (se_callBf cr_gcd pyGcd_ok (by rfl) T.i_gcd (sa_cons (se_var 0) (sa_cons (se_var 1) sa_nil))))))
    (sss_one (ss_ret (se_tup (sa_cons (se_op op_fdivG fdiv_ok (se_var 0) (se_var 2)) (sa_cons (se_op op_fdivG fdiv_ok (se_var 1) (se_var 2)) sa_nil))))))
def b_sum_in : MS := (mRet (eB (callF 2 F_fraction_in) (eConsA (eOp pyAdd (eOp pyTimes (eOp pyIx (eVar 0) (eC (.int 0))) (eOp pyIx (eVar 1) (eC (.int 1)))) (eOp pyTimes (eOp pyIx (eVar 1) (eC (.int 0))) (eOp pyIx (eVar 0) (eC (.int 1))))) (eConsA (eOp pyTimes (eOp pyIx (eVar 0) (eC (.int 1))) (eOp pyIx (eVar 1) (eC (.int 1)))) eNilA))))
def F_sum_in : List CV → M CV := runB 2 2 b_sum_in
theorem sc_sum_in : FnScope ["one", "other"] ["one", "other"] (defScope s_sum_in) := ⟨rfl, rfl, rfl, by decide +kernel, rfl, by decide +kernel, by decide +kernel⟩
theorem bn_sum_in (T : Txt P w K mg base fa ca cc pp fd) : Binds K (fd 3) ["one", "other"] [] := T.f_sum_in.binds fun _ _ _ _ _ _ us hl => match us, hl with | [_, _], _ => rfl
theorem ok_sum_in (T : Txt P w K mg base fa ca cc pp fd) : FnG P w K mg base 2 (fa 3) (fd 3) ["one", "other"] (spH (GG P w K fa ca pp) 2 F_sum_in) :=
  have nd := sc_sum_in.nd
  fnG (G := GG P w K fa ca pp) 2 2 (mb := b_sum_in) (by rfl) T.fc_sum_in sc_sum_in (by rfl) (by rfl) (by rfl) (by rfl) (by rfl) (by rfl) (by rfl) fun A outer s H E hrG B po =>
    have hr := hrG.r
    (sss_one (ss_ret (se_callFG B (by rfl) (by rfl) (ok_fraction_in T) (hrG.mono (by decide)) (by rfl) T.d_fraction_in T.f_fraction_in.kp (bn_fraction_in T) (sa_cons (se_op op_plus plus_ok (se_op op_timesS timesS_ok (se_ix (by rfl) (se_var 0) se_int) (se_ix (by rfl) (se_var 1) se_int)) (se_op op_timesS timesS_ok (se_ix (by rfl) (se_var 1) se_int) (se_ix (by rfl) (se_var 0) se_int))) (sa_cons (se_op op_timesS timesS_ok (se_ix (by rfl) (se_var 0) se_int) (se_ix (by rfl) (se_var 1) se_int)) sa_nil)))))
def b_product_in : MS := (mRet (eB (callF 2 F_fraction_in) (eConsA (eOp pyTimes (eOp pyIx (eVar 0) (eC (.int 0))) (eOp pyIx (eVar 1) (eC (.int 0)))) (eConsA (eOp pyTimes (eOp pyIx (eVar 0) (eC (.int 1))) (eOp pyIx (eVar 1) (eC (.int 1)))) eNilA))))
def F_product_in : List CV → M CV := runB 2 2 b_product_in
theorem sc_product_in : FnScope ["one", "other"] ["one", "other"] (defScope s_product_in) := ⟨rfl, rfl, rfl, by decide +kernel, rfl, by decide +kernel, by decide +kernel⟩
theorem bn_product_in (T : Txt P w K mg base fa ca cc pp fd) : Binds K (fd 4) ["one", "other"] [] := T.f_product_in.binds fun _ _ _ _ _ _ us hl => match us, hl with | [_, _], _ => rfl
theorem ok_product_in (T : Txt P w K mg base fa ca cc pp fd) : FnG P w K mg base 2 (fa 4) (fd 4) ["one", "other"] (spH (GG P w K fa ca pp) 2 F_product_in) :=
  have nd := sc_product_in.nd
  fnG (G := GG P w K fa ca pp) 2 2 (mb := b_product_in) (by rfl) T.fc_product_in sc_product_in (by rfl) (by rfl) (by rfl) (by rfl) (by rfl) (by rfl) (by rfl) fun A outer s H E hrG B po =>
    have hr := hrG.r
    (sss_one (ss_ret (se_callFG B (by rfl) (by rfl) (ok_fraction_in T) (hrG.mono (by decide)) (by rfl) T.d_fraction_in T.f_fraction_in.kp (bn_fraction_in T) (sa_cons (se_op op_timesS timesS_ok (se_ix (by rfl) (se_var 0) se_int) (se_ix (by rfl) (se_var 1) se_int)) (sa_cons (se_op op_timesS timesS_ok (se_ix (by rfl) (se_var 0) se_int) (se_ix (by rfl) (se_var 1) se_int)) sa_nil)))))
def l_total_in_0 : MS := (mAsg (gSet 1) (eB (callF 2 F_sum_in) (eConsA (eVar 1) (eConsA (eVar 2) eNilA))))
def b_total_in : MS := (mSeq (mAsg (gSet 1) (eC (.tup [(.int 0), (.int 1)])))
    (mSeq (mFor (iSeq (eVar 0)) (gSet 2) l_total_in_0)
    (mRet (eVar 1))))
def F_total_in : List CV → M CV := runB 1 3 b_total_in
theorem sc_total_in : FnScope ["fractions", "found", "one"] ["fractions"] (defScope s_total_in) := ⟨rfl, rfl, rfl, by decide +kernel, rfl, by decide +kernel, by decide +kernel⟩
theorem bn_total_in (T : Txt P w K mg base fa ca cc pp fd) : Binds K (fd 5) ["fractions"] [] := T.f_total_in.binds fun _ _ _ _ _ _ us hl => match us, hl with | [_], _ => rfl
theorem ok_total_in (T : Txt P w K mg base fa ca cc pp fd) : FnG P w K mg base 3 (fa 5) (fd 5) ["fractions"] (spH (GG P w K fa ca pp) 1 F_total_in) :=
  have nd := sc_total_in.nd
  fnG (G := GG P w K fa ca pp) 1 3 (mb := b_total_in) (by rfl) T.fc_total_in sc_total_in (by rfl) (by rfl) (by rfl) (by rfl) (by rfl) (by rfl) (by rfl) fun A outer s H E hrG B po =>
    have hr := hrG.r
    (sss_cons (ss_asg (sg_set (i := 1) nd rfl (.inl rfl)) (se_gk (by rfl) T.c_ZERO_numbers))
    (sss_cons (ss_for po rfl (si_seq (by rfl) (se_var 0)) (sg_set (i := 2) nd rfl (.inl rfl)) (sss_one (ss_asg (sg_set (i := 1) nd rfl (.inl rfl)) (se_callFG B (by rfl) (by rfl) (ok_sum_in T) (hrG.mono (by decide)) (by rfl) T.d_sum_in T.f_sum_in.kp (bn_sum_in T) (sa_cons (se_var 1) (sa_cons (se_var 2) sa_nil))))))
    (sss_one (ss_ret (se_var 1)))))
def l_product_from_0 : MS := (mAug 3 pyIMul (eVar 4))
def b_product_from : MS := (mSeq (mAsg (gSet 3) (eC (.int 1)))
    (mSeq (mFor (iArgs rng3 (eConsA (eVar 0) (eConsA (eOp pyAdd (eVar 1) (eC (.int 1))) (eConsA (eVar 2) eNilA)))) (gSet 4) l_product_from_0)
    (mRet (eVar 3))))
def F_product_from : List CV → M CV := runB 3 5 b_product_from
theorem sc_product_from : FnScope ["least", "most", "step", "found", "number"] ["least", "most", "step"] (defScope s_product_from) := ⟨rfl, rfl, rfl, by decide +kernel, rfl, by decide +kernel, by decide +kernel⟩
theorem bn_product_from (T : Txt P w K mg base fa ca cc pp fd) : Binds K (fd 7) ["least", "most", "step"] [] := T.f_product_from.binds fun _ _ _ _ _ _ us hl => match us, hl with | [_, _, _], _ => rfl
theorem ok_product_from (T : Txt P w K mg base fa ca cc pp fd) : FnG P w K mg base 1 (fa 7) (fd 7) ["least", "most", "step"] (spH (GG P w K fa ca pp) 3 F_product_from) :=
  have nd := sc_product_from.nd
  fnG (G := GG P w K fa ca pp) 3 5 (mb := b_product_from) (by rfl) T.fc_product_from sc_product_from (by rfl) (by rfl) (by rfl) (by rfl) (by rfl) (by rfl) (by rfl) fun A outer s H E hrG B po =>
    have hr := hrG.r
    (sss_cons (ss_asg (sg_set (i := 3) nd rfl (.inl rfl)) se_int)
    (sss_cons (ss_for po rfl (si_rng3 (by rfl) T.z_range (sa_cons (se_var 0) (sa_cons (se_op op_plus plus_ok (se_var 1) se_int) (sa_cons (se_var 2) sa_nil)))) (sg_set (i := 4) nd rfl (.inl rfl)) (sss_one (ss_aug (i := 3) iop_mulW imul_ok nd rfl (.inl rfl) (se_var 4))))
    (sss_one (ss_ret (se_var 3)))))
def b_handles_in : MS := (mSeq (mAsg (gSet 1) (eOp pySub (eOp pyAdd (eB (one pySum2) (eConsA (eVar 0) eNilA)) (eC (.int 3))) (eB pyLen (eConsA (eVar 0) eNilA))))
    (mSeq (mIf (bOr (bOf (eOp pyLt (eVar 1) (eC (.int 0)))) (bOf (eOp (pyEq true) (eOp pyMod (eVar 1) (eC (.int 3))) (eC (.int 0))))) (mRet (eC .non)) mNil)
    (mRet (eIf (bOf (eOp pyGe (eOp pyAdd (eOp pySub (eOp pyTimes (eC (.int 2)) (eOp pyFdiv (eVar 1) (eC (.int 3)))) (eC (.int 2))) (eB pyLen (eConsA (eVar 0) eNilA))) (eC (.int 1)))) (eOp pyFdiv (eVar 1) (eC (.int 3))) (eC .non)))))
def F_handles_in : List CV → M CV := runB 1 2 b_handles_in
theorem sc_handles_in : FnScope ["exponents", "whole"] ["exponents"] (defScope s_handles_in) := ⟨rfl, rfl, rfl, by decide +kernel, rfl, by decide +kernel, by decide +kernel⟩
theorem bn_handles_in (T : Txt P w K mg base fa ca cc pp fd) : Binds K (fd 8) ["exponents"] [] := T.f_handles_in.binds fun _ _ _ _ _ _ us hl => match us, hl with | [_], _ => rfl
theorem ok_handles_in (T : Txt P w K mg base fa ca cc pp fd) : FnG P w K mg base 1 (fa 8) (fd 8) ["exponents"] (spH (GG P w K fa ca pp) 1 F_handles_in) :=
  have nd := sc_handles_in.nd
  fnG (G := GG P w K fa ca pp) 1 2 (mb := b_handles_in) (by rfl) T.fc_handles_in sc_handles_in (by rfl) (by rfl) (by rfl) (by rfl) (by rfl) (by rfl) (by rfl) fun A outer s H E hrG B po =>
    have hr := hrG.r
    (sss_cons (ss_asg (sg_set (i := 1) nd rfl (.inl rfl)) (se_op op_sub sub_ok (se_op op_plus plus_ok (se_callB (cr_sum2 rfl) sum2_ok (by rfl) T.z_sum (by decide +kernel) (sa_cons (se_var 0) sa_nil)) se_int) (se_callB call_len len_ok (by rfl) T.z_len (by decide +kernel) (sa_cons (se_var 0) sa_nil))))
    (sss_cons (ss_if (st_bool (sw_or (st_cmp op_lt cmp_ok (se_var 1) se_int) (sw_or1 (st_cmp (op_neD hr.units) ne_ok (se_op op_modN mod_ok (se_var 1) se_int) se_int)))) (sss_one (ss_ret se_non)) sss_nil)
    (sss_one (ss_ret (se_if (st_cmp op_ge cmp_ok (se_op op_plus plus_ok (se_op op_sub sub_ok (se_op op_timesS timesS_ok se_int (se_op op_fdivG fdiv_ok (se_var 1) se_int)) se_int) (se_callB call_len len_ok (by rfl) T.z_len (by decide +kernel) (sa_cons (se_var 0) sa_nil))) se_int) (se_op op_fdivG fdiv_ok (se_var 1) se_int) se_non)))))
def b_odd_of : MS := (mRet (eB (callF 3 F_product_from) (eConsA (eC (.int 1)) (eConsA (eVar 0) (eConsA (eC (.int 2)) eNilA)))))
def F_odd_of : List CV → M CV := runB 1 1 b_odd_of
theorem sc_odd_of : FnScope ["number"] ["number"] (defScope s_odd_of) := ⟨rfl, rfl, rfl, by decide +kernel, rfl, by decide +kernel, by decide +kernel⟩
theorem bn_odd_of (T : Txt P w K mg base fa ca cc pp fd) : Binds K (fd 9) ["number"] [] := T.f_odd_of.binds fun _ _ _ _ _ _ us hl => match us, hl with | [_], _ => rfl
theorem ok_odd_of (T : Txt P w K mg base fa ca cc pp fd) : FnG P w K mg base 2 (fa 9) (fd 9) ["number"] (spH (GG P w K fa ca pp) 1 F_odd_of) :=
  have nd := sc_odd_of.nd
  fnG (G := GG P w K fa ca pp) 1 1 (mb := b_odd_of) (by rfl) T.fc_odd_of sc_odd_of (by rfl) (by rfl) (by rfl) (by rfl) (by rfl) (by rfl) (by rfl) fun A outer s H E hrG B po =>
    have hr := hrG.r
    (sss_one (ss_ret (se_callFG B (by rfl) (by rfl) (ok_product_from T) (hrG.mono (by decide)) (by rfl) T.d_product_from T.f_product_from.kp (bn_product_from T) (sa_cons se_int (sa_cons (se_var 0) (sa_cons se_int sa_nil))))))
def b_falling : MS := (mRet (eB (one pyTuple) (eConsA (eRev (eB (one pySrtA) (eConsA (eVar 0) eNilA)) (eUn pyNeg (eC (.int 1)))) eNilA)))
def F_falling : List CV → M CV := runB 1 1 b_falling
theorem sc_falling : FnScope ["exponents"] ["exponents"] (defScope s_falling) := ⟨rfl, rfl, rfl, by decide +kernel, rfl, by decide +kernel, by decide +kernel⟩
theorem bn_falling (T : Txt P w K mg base fa ca cc pp fd) : Binds K (fd 10) ["exponents"] [] := T.f_falling.binds fun _ _ _ _ _ _ us hl => match us, hl with | [_], _ => rfl
theorem ok_falling (T : Txt P w K mg base fa ca cc pp fd) : FnG P w K mg base 1 (fa 10) (fd 10) ["exponents"] (spH (GG P w K fa ca pp) 1 F_falling) :=
  have nd := sc_falling.nd
  fnG (G := GG P w K fa ca pp) 1 1 (mb := b_falling) (by rfl) T.fc_falling sc_falling (by rfl) (by rfl) (by rfl) (by rfl) (by rfl) (by rfl) (by rfl) fun A outer s H E hrG B po =>
    have hr := hrG.r
    (sss_one (ss_ret (se_callTy call_tuple_of tuple_ok (by rfl) T.z_tuple (by decide +kernel) (sa_cons (se_rev (by rfl) (se_callB (cr_srtA (u64 hr)) srtA_ok (by rfl) T.z_sorted (by decide +kernel) (sa_cons (se_var 0) sa_nil)) (se_un un_neg neg_ok se_int)) sa_nil))))
def l_shared_0 : Sl → M CV := (eTup (eConsA (eTup (eStarA (eVar 4) (eConsA (eVar 2) eNilA))) (eConsA (eVar 5) eNilA)))
def l_shared_1 : Sl → M CV := (eTup (eConsA (eVar 4) (eConsA (eTup (eStarA (eVar 5) (eConsA (eVar 2) eNilA))) eNilA)))
def l_shared_2 : MS := (mSeq (mAsg (gSet 3) (eLc (iSeq (eVar 1)) (gUnp 2 (gConsT (gSet 4) (gConsT (gSet 5) gNilT))) bYes l_shared_0 [4, 5]))
    (mAsg (gSet 1) (eLst (eStarA (eVar 3) (eStarA (eLc (iSeq (eVar 1)) (gUnp 2 (gConsT (gSet 4) (gConsT (gSet 5) gNilT))) bYes l_shared_1 [4, 5]) eNilA)))))
def b_shared : MS := (mSeq (mAsg (gSet 1) (eLst (eConsA (eTup (eConsA (eTup eNilA) (eConsA (eTup eNilA) eNilA))) eNilA)))
    (mSeq (mFor (iSeq (eVar 0)) (gSet 2) l_shared_2)
    (mRet (eVar 1))))
def F_shared : List CV → M CV := runB 1 6 b_shared
theorem sc_shared : FnScope ["rest", "found", "one", "left", "first", "second"] ["rest"] (defScope s_shared) := ⟨rfl, rfl, rfl, by decide +kernel, rfl, by decide +kernel, by decide +kernel⟩
theorem bn_shared (T : Txt P w K mg base fa ca cc pp fd) : Binds K (fd 12) ["rest"] [] := T.f_shared.binds fun _ _ _ _ _ _ us hl => match us, hl with | [_], _ => rfl
theorem ok_shared (T : Txt P w K mg base fa ca cc pp fd) : FnG P w K mg base 1 (fa 12) (fd 12) ["rest"] (spH (GG P w K fa ca pp) 1 F_shared) :=
  have nd := sc_shared.nd
  fnG (G := GG P w K fa ca pp) 1 6 (mb := b_shared) (by rfl) T.fc_shared sc_shared (by rfl) (by rfl) (by rfl) (by rfl) (by rfl) (by rfl) (by rfl) fun A outer s H E hrG B po =>
    have hr := hrG.r
    (sss_cons (ss_asg (sg_set (i := 1) nd rfl (.inl rfl)) (se_lst (sa_cons (se_tup (sa_cons (se_tup sa_nil) (sa_cons (se_tup sa_nil) sa_nil))) sa_nil)))
    (sss_cons (ss_for po rfl (si_seq (by rfl) (se_var 0)) (sg_set (i := 2) nd rfl (.inr rfl)) (sss_cons (ss_setLc (i := 3) (own := [("first", 4), ("second", 5)]) (g := (gTup K 2 (gCons (gName 4) (gCons (gName 5) gNil)))) rfl nd rfl rfl (sw_true rfl rfl rfl (by decide +kernel)) (si_seq (by rfl) (se_var 1)) (blkOk_by (N := ["rest", "found", "one", "left", "first", "second"]) (sc := defScope s_shared) (by decide +kernel)) (lcg_unp (lcg_cons (lcg_set (by decide)) (lcg_cons (lcg_set (by decide)) lcg_nil))) (fun _ _ _ _ _ => (pg_tup rfl (pgs_cons (pg_name (i := 4) nd rfl (by first | exact .inl rfl | exact .inr rfl)) (pgs_cons (pg_name (i := 5) nd rfl (by first | exact .inl rfl | exact .inr rfl)) pgs_nil)))) (fun _ _ _ _ _ => sts_nil) (fun _ _ _ _ _ => (se_tup (sa_cons (se_tup (sa_star (by rfl) (se_var 4) (sa_cons (se_var 2) sa_nil))) (sa_cons (se_var 5) sa_nil)))))
    (sss_one (ss_asg (sg_set (i := 1) nd rfl (.inl rfl)) (se_lst (sa_star (by rfl) (se_var 3) (sa_star (by rfl) (se_lc (own := [("first", 4), ("second", 5)]) (g := (gTup K 2 (gCons (gName 4) (gCons (gName 5) gNil)))) rfl nd (si_seq (by rfl) (se_var 1)) (blkOk_by (N := ["rest", "found", "one", "left", "first", "second"]) (sc := defScope s_shared) (by decide +kernel)) (lcg_unp (lcg_cons (lcg_set (by decide)) (lcg_cons (lcg_set (by decide)) lcg_nil))) (fun _ _ _ _ _ => (pg_tup rfl (pgs_cons (pg_name (i := 4) nd rfl (by first | exact .inl rfl | exact .inr rfl)) (pgs_cons (pg_name (i := 5) nd rfl (by first | exact .inl rfl | exact .inr rfl)) pgs_nil)))) (fun _ _ _ _ _ => sts_nil) (fun _ _ _ _ _ => (se_tup (sa_cons (se_var 4) (sa_cons (se_tup (sa_star (by rfl) (se_var 5) (sa_cons (se_var 2) sa_nil))) sa_nil))))) sa_nil)))))))
    (sss_one (ss_ret (se_var 1)))))
def l_joined_terms_of_0 : MS := (mIf (bOf (eOp pyGe (eOp pyAdd (eVar 0) (eVar 4)) (eC (.int 1)))) (mSeq (mAsg (gSet 5) (eTup (eStarA (eSlice (eVar 1) none (some (eVar 3))) (eStarA (eSlice (eVar 1) (some (eOp pyAdd (eVar 3) (eC (.int 1)))) none) eNilA))))
    (mSeq (mAsg (gSet 6) (eTup (eConsA (eB (callF 1 F_falling) (eConsA (eTup (eConsA (eOp pySub (eOp pyAdd (eVar 0) (eVar 4)) (eC (.int 1))) (eStarA (eVar 5) eNilA))) eNilA)) eNilA)))
    (mExpr (eMt isLis pyAppend (eVar 2) (eConsA (eTup (eConsA (eVar 6) (eConsA (eB (callF 2 F_fraction_in) (eConsA (eB (callF 1 F_odd_of) (eConsA (eOp pySub (eOp pyAdd (eOp pyTimes (eC (.int 2)) (eVar 0)) (eOp pyTimes (eC (.int 2)) (eVar 4))) (eC (.int 1))) eNilA)) (eConsA (eB (callF 1 F_odd_of) (eConsA (eOp pySub (eOp pyTimes (eC (.int 2)) (eVar 4)) (eC (.int 1))) eNilA)) eNilA))) eNilA))) eNilA))))) mNil)
def b_joined_terms_of : MS := (mSeq (mAsg (gSet 2) (eNew eNilA))
    (mSeq (mFor (iArgs enumOf2 (eConsA (eVar 1) eNilA)) (gUnp 2 (gConsT (gSet 3) (gConsT (gSet 4) gNilT))) l_joined_terms_of_0)
    (mRet (eVar 2))))
def F_joined_terms_of : List CV → M CV := runB 2 7 b_joined_terms_of
theorem sc_joined_terms_of : FnScope ["first", "rest", "found", "place", "one", "others", "parts"] ["first", "rest"] (defScope s_joined_terms_of) := ⟨rfl, rfl, rfl, by decide +kernel, rfl, by decide +kernel, by decide +kernel⟩
theorem bn_joined_terms_of (T : Txt P w K mg base fa ca cc pp fd) : Binds K (fd 13) ["first", "rest"] [] := T.f_joined_terms_of.binds fun _ _ _ _ _ _ us hl => match us, hl with | [_, _], _ => rfl
theorem ok_joined_terms_of (T : Txt P w K mg base fa ca cc pp fd) : FnG P w K mg base 3 (fa 13) (fd 13) ["first", "rest"] (spH (GG P w K fa ca pp) 2 F_joined_terms_of) :=
  have nd := sc_joined_terms_of.nd
  fnG (G := GG P w K fa ca pp) 2 7 (mb := b_joined_terms_of) (by rfl) T.fc_joined_terms_of sc_joined_terms_of (by rfl) (by rfl) (by rfl) (by rfl) (by rfl) (by rfl) (by rfl) fun A outer s H E hrG B po =>
    have hr := hrG.r
    (sss_cons (ss_asg (sg_set (i := 2) nd rfl (.inl rfl)) (se_new sa_nil))
    (sss_cons (ss_for po rfl (si_enum2 (by rfl) (by rfl) T.z_enumerate (sa_cons (se_var 1) sa_nil)) (sg_unp rfl rfl (sgs_cons (sg_set (i := 3) nd rfl (.inl rfl)) (sgs_cons (sg_set (i := 4) nd rfl (.inl rfl)) sgs_nil))) (sss_one (ss_if (st_cmp op_ge cmp_ok (se_op op_plus plus_ok (se_var 0) (se_var 4)) se_int) (sss_cons (ss_asg (sg_set (i := 5) nd rfl (.inl rfl)) (se_tup (sa_star (by rfl) (se_slice (by rfl) (se_var 1) so_none (so_some (se_var 3))) (sa_star (by rfl) (se_slice (by rfl) (se_var 1) (so_some (se_op op_plus plus_ok (se_var 3) se_int)) so_none) sa_nil))))
    (sss_cons (ss_asg (sg_set (i := 6) nd rfl (.inl rfl)) (se_tup (sa_cons (se_callFG B (by rfl) (by rfl) (ok_falling T) (hrG.mono (by decide)) (by rfl) T.d_falling T.f_falling.kp (bn_falling T) (sa_cons (se_tup (sa_cons (se_op op_sub sub_ok (se_op op_plus plus_ok (se_var 0) (se_var 4)) se_int) (sa_star (by rfl) (se_var 5) sa_nil))) sa_nil)) sa_nil)))
    (sss_one (ss_expr (se_mt isLis_ty PySem.F.plainAttrs_list PySem.F.slot_list_append PySem.F.type_list_append mt_append append_ok (se_var 2) (sa_cons (se_tup (sa_cons (se_var 6) (sa_cons (se_callFG B (by rfl) (by rfl) (ok_fraction_in T) (hrG.mono (by decide)) (by rfl) T.d_fraction_in T.f_fraction_in.kp (bn_fraction_in T) (sa_cons (se_callFG B (by rfl) (by rfl) (ok_odd_of T) (hrG.mono (by decide)) (by rfl) T.d_odd_of T.f_odd_of.kp (bn_odd_of T) (sa_cons (se_op op_sub sub_ok (se_op op_plus plus_ok (se_op op_timesS timesS_ok se_int (se_var 0)) (se_op op_timesS timesS_ok se_int (se_var 4))) se_int) sa_nil)) (sa_cons (se_callFG B (by rfl) (by rfl) (ok_odd_of T) (hrG.mono (by decide)) (by rfl) T.d_odd_of T.f_odd_of.kp (bn_odd_of T) (sa_cons (se_op op_sub sub_ok (se_op op_timesS timesS_ok se_int (se_var 4)) se_int) sa_nil)) sa_nil))) sa_nil))) sa_nil)))))) sss_nil)))
    (sss_one (ss_ret (se_var 2)))))
def l_parted_terms_of_0 : MS := (mExpr (eMt isLis pyAppend (eVar 2) (eConsA (eTup (eConsA (eB (one pyTuple) (eConsA (eB (one pySrtA) (eConsA (eLst (eConsA (eB (callF 1 F_falling) (eConsA (eTup (eConsA (eVar 3) (eStarA (eVar 6) eNilA))) eNilA)) (eConsA (eB (callF 1 F_falling) (eConsA (eTup (eConsA (eVar 4) (eStarA (eVar 7) eNilA))) eNilA)) eNilA))) eNilA)) eNilA)) (eConsA (eVar 5) eNilA))) eNilA)))
def l_parted_terms_of_1 : MS := (mSeq (mAsg (gSet 4) (eOp pySub (eOp pySub (eVar 0) (eC (.int 2))) (eVar 3)))
    (mSeq (mAsg (gSet 5) (eB (callF 2 F_fraction_in) (eConsA (eOp pyTimes (eB (callF 1 F_odd_of) (eConsA (eOp pyAdd (eOp pyTimes (eC (.int 2)) (eVar 3)) (eC (.int 1))) eNilA)) (eB (callF 1 F_odd_of) (eConsA (eOp pyAdd (eOp pyTimes (eC (.int 2)) (eVar 4)) (eC (.int 1))) eNilA))) (eConsA (eC (.int 2)) eNilA))))
    (mSeq (mExpr (eMt isLis pyAppend (eVar 2) (eConsA (eTup (eConsA (eTup (eConsA (eB (callF 1 F_falling) (eConsA (eTup (eConsA (eVar 3) (eConsA (eVar 4) (eStarA (eVar 1) eNilA)))) eNilA)) eNilA)) (eConsA (eVar 5) eNilA))) eNilA)))
    (mFor (iSeq (eB (callF 1 F_shared) (eConsA (eVar 1) eNilA))) (gUnp 2 (gConsT (gSet 6) (gConsT (gSet 7) gNilT))) l_parted_terms_of_0))))
def b_parted_terms_of : MS := (mSeq (mAsg (gSet 2) (eNew eNilA))
    (mSeq (mFor (iArgs rng1 (eConsA (eOp pySub (eVar 0) (eC (.int 1))) eNilA)) (gSet 3) l_parted_terms_of_1)
    (mRet (eVar 2))))
def F_parted_terms_of : List CV → M CV := runB 2 8 b_parted_terms_of
theorem sc_parted_terms_of : FnScope ["first", "rest", "found", "one", "other", "factor", "left", "right"] ["first", "rest"] (defScope s_parted_terms_of) := ⟨rfl, rfl, rfl, by decide +kernel, rfl, by decide +kernel, by decide +kernel⟩
theorem bn_parted_terms_of (T : Txt P w K mg base fa ca cc pp fd) : Binds K (fd 14) ["first", "rest"] [] := T.f_parted_terms_of.binds fun _ _ _ _ _ _ us hl => match us, hl with | [_, _], _ => rfl
theorem ok_parted_terms_of (T : Txt P w K mg base fa ca cc pp fd) : FnG P w K mg base 3 (fa 14) (fd 14) ["first", "rest"] (spH (GG P w K fa ca pp) 2 F_parted_terms_of) :=
  have nd := sc_parted_terms_of.nd
  fnG (G := GG P w K fa ca pp) 2 8 (mb := b_parted_terms_of) (by rfl) T.fc_parted_terms_of sc_parted_terms_of (by rfl) (by rfl) (by rfl) (by rfl) (by rfl) (by rfl) (by rfl) fun A outer s H E hrG B po =>
    have hr := hrG.r
    (sss_cons (ss_asg (sg_set (i := 2) nd rfl (.inl rfl)) (se_new sa_nil))
    (sss_cons (ss_for po rfl (si_rng1 (by rfl) T.z_range (sa_cons (se_op op_sub sub_ok (se_var 0) se_int) sa_nil)) (sg_set (i := 3) nd rfl (.inl rfl)) (sss_cons (ss_asg (sg_set (i := 4) nd rfl (.inl rfl)) (se_op op_sub sub_ok (se_op op_sub sub_ok (se_var 0) se_int) (se_var 3)))
    (sss_cons (ss_asg (sg_set (i := 5) nd rfl (.inl rfl)) (se_callFG B (by rfl) (by rfl) (ok_fraction_in T) (hrG.mono (by decide)) (by rfl) T.d_fraction_in T.f_fraction_in.kp (bn_fraction_in T) (sa_cons (se_op op_timesS timesS_ok (se_callFG B (by rfl) (by rfl) (ok_odd_of T) (hrG.mono (by decide)) (by rfl) T.d_odd_of T.f_odd_of.kp (bn_odd_of T) (sa_cons (se_op op_plus plus_ok (se_op op_timesS timesS_ok se_int (se_var 3)) se_int) sa_nil)) (se_callFG B (by rfl) (by rfl) (ok_odd_of T) (hrG.mono (by decide)) (by rfl) T.d_odd_of T.f_odd_of.kp (bn_odd_of T) (sa_cons (se_op op_plus plus_ok (se_op op_timesS timesS_ok se_int (se_var 4)) se_int) sa_nil))) (sa_cons se_int sa_nil))))
    (sss_cons (ss_expr (se_mt isLis_ty PySem.F.plainAttrs_list PySem.F.slot_list_append PySem.F.type_list_append mt_append append_ok (se_var 2) (sa_cons (se_tup (sa_cons (se_tup (sa_cons (se_callFG B (by rfl) (by rfl) (ok_falling T) (hrG.mono (by decide)) (by rfl) T.d_falling T.f_falling.kp (bn_falling T) (sa_cons (se_tup (sa_cons (se_var 3) (sa_cons (se_var 4) (sa_star (by rfl) (se_var 1) sa_nil)))) sa_nil)) sa_nil)) (sa_cons (se_var 5) sa_nil))) sa_nil)))
    (sss_one (ss_for po rfl (si_seq (by rfl) (se_callFG B (by rfl) (by rfl) (ok_shared T) (hrG.mono (by decide)) (by rfl) T.d_shared T.f_shared.kp (bn_shared T) (sa_cons (se_var 1) sa_nil))) (sg_unp rfl rfl (sgs_cons (sg_set (i := 6) nd rfl (.inl rfl)) (sgs_cons (sg_set (i := 7) nd rfl (.inl rfl)) sgs_nil))) (sss_one (ss_expr (se_mt isLis_ty PySem.F.plainAttrs_list PySem.F.slot_list_append PySem.F.type_list_append mt_append append_ok (se_var 2) (sa_cons (se_tup (sa_cons (se_callTy call_tuple_of tuple_ok (by rfl) T.z_tuple (by decide +kernel) (sa_cons (se_callB (cr_srtA (u64 hr)) srtA_ok (by rfl) T.z_sorted (by decide +kernel) (sa_cons (se_lst (sa_cons (se_callFG B (by rfl) (by rfl) (ok_falling T) (hrG.mono (by decide)) (by rfl) T.d_falling T.f_falling.kp (bn_falling T) (sa_cons (se_tup (sa_cons (se_var 3) (sa_star (by rfl) (se_var 6) sa_nil))) sa_nil)) (sa_cons (se_callFG B (by rfl) (by rfl) (ok_falling T) (hrG.mono (by decide)) (by rfl) T.d_falling T.f_falling.kp (bn_falling T) (sa_cons (se_tup (sa_cons (se_var 4) (sa_star (by rfl) (se_var 7) sa_nil))) sa_nil)) sa_nil))) sa_nil)) sa_nil)) (sa_cons (se_var 5) sa_nil))) sa_nil))))))))))
    (sss_one (ss_ret (se_var 2)))))
def b_is_start : MS := (mRet (eOp (pyIn false) (eVar 0) (eTup (eConsA (eTup (eConsA (eC (.int 0)) (eConsA (eC (.int 0)) (eConsA (eC (.int 0)) eNilA)))) (eConsA (eTup (eConsA (eC (.int 1)) eNilA)) eNilA)))))
def F_is_start : List CV → M CV := runB 1 1 b_is_start
theorem sc_is_start : FnScope ["exponents"] ["exponents"] (defScope s_is_start) := ⟨rfl, rfl, rfl, by decide +kernel, rfl, by decide +kernel, by decide +kernel⟩
theorem bn_is_start (T : Txt P w K mg base fa ca cc pp fd) : Binds K (fd 15) ["exponents"] [] := T.f_is_start.binds fun _ _ _ _ _ _ us hl => match us, hl with | [_], _ => rfl
theorem ok_is_start (T : Txt P w K mg base fa ca cc pp fd) : FnG P w K mg base 1 (fa 15) (fd 15) ["exponents"] (spH (GG P w K fa ca pp) 1 F_is_start) :=
  have nd := sc_is_start.nd
  fnG (G := GG P w K fa ca pp) 1 1 (mb := b_is_start) (by rfl) T.fc_is_start sc_is_start (by rfl) (by rfl) (by rfl) (by rfl) (by rfl) (by rfl) (by rfl) fun A outer s H E hrG B po =>
    have hr := hrG.r
    (sss_one (ss_ret (se_cmp (op_inA hr) in_ok (se_var 0) (se_tup (sa_cons (se_tup (sa_cons se_int (sa_cons se_int (sa_cons se_int sa_nil)))) (sa_cons (se_tup (sa_cons se_int sa_nil)) sa_nil))))))
def l_terms_in_0 : Sl → M CV := (eOp (pyIs true) (eB (callF 1 F_handles_in) (eConsA (eVar 7) eNilA)) (eC .non))
def l_terms_in_1 : MS := (mIf (bOf (eB (one pyAll) (eConsA (eLc (iSeq (eVar 5)) (gSet 7) bYes l_terms_in_0 [7]) eNilA))) (mDPutU (eVar 3) (eVar 5) (eB (callF 2 F_sum_in) (eConsA (eMt isDicV pyDGetD (eVar 3) (eConsA (eVar 5) (eConsA (eC (.tup [(.int 0), (.int 1)])) eNilA))) (eConsA (eB (callF 2 F_product_in) (eConsA (eVar 6) (eConsA (eVar 4) eNilA))) eNilA)))) mNil)
def l_terms_in_2 : Sl → M CV := (eVar 5)
def l_terms_in_3 : Sl → M CV := (eOp pyDGetU (eVar 3) (eVar 5))
def b_terms_in : MS := (mSeq (mIf (bOr (bOf (eOp (pyIs false) (eB (callF 1 F_handles_in) (eConsA (eVar 0) eNilA)) (eC .non))) (bOf (eB (callF 1 F_is_start) (eConsA (eVar 0) eNilA)))) (mRet (eC (.dic false [] []))) mNil)
    (mSeq (mPar 1 2 (eConsA (eOp pyIx (eVar 0) (eC (.int 0))) (eConsA (eSlice (eVar 0) (some (eC (.int 1))) none) eNilA)))
    (mSeq (mAsg (gUnp 2 (gConsT (gSet 3) (gConsT (gSet 4) gNilT))) (eTup (eConsA eDNew (eConsA (eTup (eConsA (eC (.int 1)) (eConsA (eB (callF 1 F_odd_of) (eConsA (eOp pyAdd (eOp pyTimes (eC (.int 2)) (eVar 1)) (eC (.int 1))) eNilA)) eNilA))) eNilA))))
    (mSeq (mFor (iSeq (eLst (eStarA (eB (callF 2 F_joined_terms_of) (eConsA (eVar 1) (eConsA (eVar 2) eNilA))) (eStarA (eB (callF 2 F_parted_terms_of) (eConsA (eVar 1) (eConsA (eVar 2) eNilA))) eNilA)))) (gUnp 2 (gConsT (gSet 5) (gConsT (gSet 6) gNilT))) l_terms_in_1)
    (mRet (eDcU (iSeq (eB (one pySrtK) (eConsA (eVar 3) eNilA))) (gSet 5) bYes l_terms_in_2 l_terms_in_3 [5]))))))
def F_terms_in : List CV → M CV := runB 1 8 b_terms_in
theorem sc_terms_in : FnScope ["exponents", "first", "rest", "found", "scale", "parts", "factor", "part"] ["exponents"] (defScope s_terms_in) := ⟨rfl, rfl, rfl, by decide +kernel, rfl, by decide +kernel, by decide +kernel⟩
theorem bn_terms_in (T : Txt P w K mg base fa ca cc pp fd) : Binds K (fd 16) ["exponents"] [] := T.f_terms_in.binds fun _ _ _ _ _ _ us hl => match us, hl with | [_], _ => rfl
theorem ok_terms_in (T : Txt P w K mg base fa ca cc pp fd) : FnG P w K mg base 4 (fa 16) (fd 16) ["exponents"] (spH (GG P w K fa ca pp) 1 F_terms_in) :=
  have nd := sc_terms_in.nd
  fnG (G := GG P w K fa ca pp) 1 8 (mb := b_terms_in) (by rfl) T.fc_terms_in sc_terms_in (by rfl) (by rfl) (by rfl) (by rfl) (by rfl) (by rfl) (by rfl) fun A outer s H E hrG B po =>
    have hr := hrG.r
    (sss_cons (ss_if (st_bool (sw_or (st_cmp op_isN is_ok (se_callFG B (by rfl) (by rfl) (ok_handles_in T) (hrG.mono (by decide)) (by rfl) T.d_handles_in T.f_handles_in.kp (bn_handles_in T) (sa_cons (se_var 0) sa_nil)) se_non) (sw_or1 (st_val (se_callFG B (by rfl) (by rfl) (ok_is_start T) (hrG.mono (by decide)) (by rfl) T.d_is_start T.f_is_start.kp (bn_is_start T) (sa_cons (se_var 0) sa_nil)))))) (sss_one (ss_ret se_dict0)) sss_nil)
    (sss_cons (ss_par (i := 1) (j := 2) rfl nd rfl rfl (by decide) rfl rfl (sa_cons (se_ix (by rfl) (se_var 0) se_int) (sa_cons (se_slice (by rfl) (se_var 0) (so_some se_int) so_none) sa_nil)) (by rfl))
    (sss_cons (ss_asg (sg_unp rfl rfl (sgs_cons (sg_set (i := 3) nd rfl (.inr rfl)) (sgs_cons (sg_set (i := 4) nd rfl (.inl rfl)) sgs_nil))) (se_tup (sa_cons se_dnew (sa_cons (se_tup (sa_cons se_int (sa_cons (se_callFG B (by rfl) (by rfl) (ok_odd_of T) (hrG.mono (by decide)) (by rfl) T.d_odd_of T.f_odd_of.kp (bn_odd_of T) (sa_cons (se_op op_plus plus_ok (se_op op_timesS timesS_ok se_int (se_var 1)) se_int) sa_nil)) sa_nil))) sa_nil))))
    (sss_cons (ss_for po rfl (si_seq (by rfl) (se_lst (sa_star (by rfl) (se_callFG B (by rfl) (by rfl) (ok_joined_terms_of T) (hrG.mono (by decide)) (by rfl) T.d_joined_terms_of T.f_joined_terms_of.kp (bn_joined_terms_of T) (sa_cons (se_var 1) (sa_cons (se_var 2) sa_nil))) (sa_star (by rfl) (se_callFG B (by rfl) (by rfl) (ok_parted_terms_of T) (hrG.mono (by decide)) (by rfl) T.d_parted_terms_of T.f_parted_terms_of.kp (bn_parted_terms_of T) (sa_cons (se_var 1) (sa_cons (se_var 2) sa_nil))) sa_nil)))) (sg_unp rfl rfl (sgs_cons (sg_set (i := 5) nd rfl (.inl rfl)) (sgs_cons (sg_set (i := 6) nd rfl (.inl rfl)) sgs_nil))) (sss_one (ss_if (st_val (se_callB (cr_all rfl) all_ok (by rfl) T.z_all (by decide +kernel) (sa_cons (se_lc (own := [("part", 7)]) (g := (gName 7)) rfl nd (si_seq (by rfl) (se_var 5)) (blkOk_by (N := ["exponents", "first", "rest", "found", "scale", "parts", "factor", "part"]) (sc := defScope s_terms_in) (by decide +kernel)) (lcg_set (by decide)) (fun _ _ _ _ _ => (pg_name (i := 7) nd rfl (by first | exact .inl rfl | exact .inr rfl))) (fun _ _ _ _ _ => sts_nil) (fun _ _ _ _ _ => (se_cmp op_notN isnot_ok (se_callFG ⟨by rfl, by rfl, by rfl, L2.takes0⟩ (by rfl) (by rfl) (ok_handles_in T) (hrG.mono (by decide)) (by rfl) T.d_handles_in T.f_handles_in.kp (bn_handles_in T) (sa_cons (se_var 7) sa_nil)) se_non))) sa_nil))) (sss_one (ss_putU ⟨by rfl, by rfl, by rfl⟩ hr (se_var 3) (se_var 5) (se_callFG B (by rfl) (by rfl) (ok_sum_in T) (hrG.mono (by decide)) (by rfl) T.d_sum_in T.f_sum_in.kp (bn_sum_in T) (sa_cons (se_mtD ⟨by rfl, by rfl, by rfl⟩ PySem.F.slot_dict_get PySem.F.type_dict_get (mt_getU ⟨by rfl, by rfl, by rfl⟩ hr) getD_ok (se_var 3) (sa_cons (se_var 5) (sa_cons (se_gk (by rfl) T.c_ZERO_tau) sa_nil))) (sa_cons (se_callFG B (by rfl) (by rfl) (ok_product_in T) (hrG.mono (by decide)) (by rfl) T.d_product_in T.f_product_in.kp (bn_product_in T) (sa_cons (se_var 6) (sa_cons (se_var 4) sa_nil))) sa_nil))))) sss_nil)))
    (sss_one (ss_ret (se_dcU (own := [("parts", 5)]) (g := (gName 5)) ⟨by rfl, by rfl, by rfl⟩ hr rfl nd (si_seq (by rfl) (se_callB (cr_srtK ⟨by rfl, by rfl, by rfl⟩ rfl (u64 hr)) srtK_ok (by rfl) T.z_sorted (by decide +kernel) (sa_cons (se_var 3) sa_nil))) (blkOk_by (N := ["exponents", "first", "rest", "found", "scale", "parts", "factor", "part"]) (sc := defScope s_terms_in) (by decide +kernel)) (lcg_set (by decide)) (fun _ _ _ _ _ => (pg_name (i := 5) nd rfl (by first | exact .inl rfl | exact .inr rfl))) (fun _ _ _ _ _ => sts_nil) (fun _ _ _ _ _ => (se_var 5)) (fun _ _ _ _ _ => (se_getU ⟨by rfl, by rfl, by rfl⟩ hr (se_var 3) (se_var 5))))))))))
def b_start_number : MS := (mSeq (mIf (bOf (eOp (pyIs false) (eB (callF 1 F_handles_in) (eConsA (eVar 0) eNilA)) (eC .non))) (mRet (eC (.tup [(.int 0), (.int 1)]))) mNil)
    (mSeq (mIf (bOf (eOp (pyEq false) (eVar 0) (eTup (eConsA (eC (.int 0)) (eConsA (eC (.int 0)) (eConsA (eC (.int 0)) eNilA)))))) (mRet (eC (.tup [(.int 1), (.int 1)]))) mNil)
    (mRet (eIf (bOf (eOp (pyEq false) (eVar 0) (eTup (eConsA (eC (.int 1)) eNilA)))) (eTup (eConsA (eC (.int 1)) (eConsA (eC (.int 24)) eNilA))) (eC .non)))))
def F_start_number : List CV → M CV := runB 1 1 b_start_number
theorem sc_start_number : FnScope ["exponents"] ["exponents"] (defScope s_start_number) := ⟨rfl, rfl, rfl, by decide +kernel, rfl, by decide +kernel, by decide +kernel⟩
theorem bn_start_number (T : Txt P w K mg base fa ca cc pp fd) : Binds K (fd 17) ["exponents"] [] := T.f_start_number.binds fun _ _ _ _ _ _ us hl => match us, hl with | [_], _ => rfl
theorem ok_start_number (T : Txt P w K mg base fa ca cc pp fd) : FnG P w K mg base 2 (fa 17) (fd 17) ["exponents"] (spH (GG P w K fa ca pp) 1 F_start_number) :=
  have nd := sc_start_number.nd
  fnG (G := GG P w K fa ca pp) 1 1 (mb := b_start_number) (by rfl) T.fc_start_number sc_start_number (by rfl) (by rfl) (by rfl) (by rfl) (by rfl) (by rfl) (by rfl) fun A outer s H E hrG B po =>
    have hr := hrG.r
    (sss_cons (ss_if (st_cmp op_isN is_ok (se_callFG B (by rfl) (by rfl) (ok_handles_in T) (hrG.mono (by decide)) (by rfl) T.d_handles_in T.f_handles_in.kp (bn_handles_in T) (sa_cons (se_var 0) sa_nil)) se_non) (sss_one (ss_ret (se_gk (by rfl) T.c_ZERO_tau))) sss_nil)
    (sss_cons (ss_if (st_cmp (op_eqD hr.units) eq_ok (se_var 0) (se_tup (sa_cons se_int (sa_cons se_int (sa_cons se_int sa_nil))))) (sss_one (ss_ret (se_gk (by rfl) T.c_ONE))) sss_nil)
    (sss_one (ss_ret (se_if (st_cmp (op_eqD hr.units) eq_ok (se_var 0) (se_tup (sa_cons se_int sa_nil))) (se_tup (sa_cons se_int (sa_cons (se_gint (by rfl) T.c_LONE.choose_spec) sa_nil))) se_non)))))
def l_tau_kept_0 (r0 : List CV → M CV) : MS := (mAsg (gSet 6) (eB (callF 2 F_product_in) (eConsA (eVar 6) (eConsA (eCall 2 r0 (eConsA (eVar 7) (eConsA (eVar 1) eNilA))) eNilA))))
def l_tau_kept_1 (r0 : List CV → M CV) : MS := (mSeq (mAsg (gSet 6) (eVar 5))
    (mSeq (mFor (iSeq (eVar 4)) (gSet 7) (l_tau_kept_0 r0))
    (mExpr (eMt isLis pyAppend (eVar 3) (eConsA (eVar 6) eNilA)))))
def b_tau_kept (r0 : List CV → M CV) : MS := (mSeq (mIf (bOf (eOp (pyInU true) (eVar 0) (eVar 1))) (mSeq (mAsg (gSet 2) (eB (callF 1 F_start_number) (eConsA (eVar 0) eNilA)))
    (mSeq (mIf (bOf (eOp (pyIs false) (eVar 2) (eC .non))) (mSeq (mAsg (gSet 3) (eNew eNilA))
    (mSeq (mFor (iDic pairL (eB (callF 1 F_terms_in) (eConsA (eVar 0) eNilA))) (gUnp 2 (gConsT (gSet 4) (gConsT (gSet 5) gNilT))) (l_tau_kept_1 r0))
    (mAsg (gSet 2) (eB (callF 1 F_total_in) (eConsA (eLst (eConsA (eC (.tup [(.int 0), (.int 1)])) (eStarA (eVar 3) eNilA))) eNilA))))) mNil)
    (mDPutU (eVar 1) (eVar 0) (eVar 2)))) mNil)
    (mRet (eOp pyDGetU (eVar 1) (eVar 0))))
theorem sc_tau_kept : FnScope ["exponents", "kept", "found", "some", "parts", "factor", "here", "part"] ["exponents", "kept"] (defScope s_tau_kept) := ⟨rfl, rfl, rfl, by decide +kernel, rfl, by decide +kernel, by decide +kernel⟩
theorem bn_tau_kept (T : Txt P w K mg base fa ca cc pp fd) : Binds K (fd 18) ["exponents", "kept"] [] := T.f_tau_kept.binds fun _ _ _ _ _ _ us hl => match us, hl with | [_, _], _ => rfl
def R_tau_kept : Nat → (List CV → M CV) := fun n => Nat.rec ((fun _ => stuck)) (fun _ ih => (runB 2 8 (b_tau_kept (ih)))) n
def F_tau_kept (n : Nat) : List CV → M CV := (R_tau_kept n)
theorem ok_R_tau_kept (T : Txt P w K mg base fa ca cc pp fd) : ∀ n : Nat, (FnG P w K mg base (5 + n) (fa 18) (fd 18) ["exponents", "kept"] (spH (GG P w K fa ca pp) 2 (F_tau_kept n)))
  | 0 => (FnG.of fn_bad)
  | n + 1 => by
    have ih0 := (ok_R_tau_kept T n)
    exact (have nd := sc_tau_kept.nd
  fnG (G := GG P w K fa ca pp) 2 8 (mb := b_tau_kept (F_tau_kept n)) (by rfl) T.fc_tau_kept sc_tau_kept (by rfl) (by rfl) (by rfl) (by rfl) (by rfl) (by rfl) (by rfl) fun A outer s H E hrG B po =>
    have hr := hrG.r
    (sss_cons (ss_if (st_cmp (op_ninU ⟨by rfl, by rfl, by rfl⟩ hr) inU_ok (se_var 0) (se_var 1)) (sss_cons (ss_asg (sg_set (i := 2) nd rfl (.inl rfl)) (se_callFG B (by rfl) (by rfl) (ok_start_number T) (hrG.mono (by first | exact Nat.le_refl _ | exact Nat.le_trans (m := 5) (by decide) (Nat.le_add_right _ _))) (by rfl) T.d_start_number T.f_start_number.kp (bn_start_number T) (sa_cons (se_var 0) sa_nil)))
    (sss_cons (ss_if (st_cmp op_isN is_ok (se_var 2) se_non) (sss_cons (ss_asg (sg_set (i := 3) nd rfl (.inl rfl)) (se_new sa_nil))
    (sss_cons (ss_for po rfl (si_ditems ⟨by rfl, by rfl, by rfl⟩ (se_callFG B (by rfl) (by rfl) (ok_terms_in T) (hrG.mono (by first | exact Nat.le_refl _ | exact Nat.le_trans (m := 5) (by decide) (Nat.le_add_right _ _))) (by rfl) T.d_terms_in T.f_terms_in.kp (bn_terms_in T) (sa_cons (se_var 0) sa_nil))) (sg_unp rfl rfl (sgs_cons (sg_set (i := 4) nd rfl (.inl rfl)) (sgs_cons (sg_set (i := 5) nd rfl (.inl rfl)) sgs_nil))) (sss_cons (ss_asg (sg_set (i := 6) nd rfl (.inl rfl)) (se_var 5))
    (sss_cons (ss_for po rfl (si_seq (by rfl) (se_var 4)) (sg_set (i := 7) nd rfl (.inl rfl)) (sss_one (ss_asg (sg_set (i := 6) nd rfl (.inl rfl)) (se_callFG B (by rfl) (by rfl) (ok_product_in T) (hrG.mono (by first | exact Nat.le_refl _ | exact Nat.le_trans (m := 5) (by decide) (Nat.le_add_right _ _))) (by rfl) T.d_product_in T.f_product_in.kp (bn_product_in T) (sa_cons (se_var 6) (sa_cons (se_callG B ih0 (hrG.mono (by first | exact Nat.le_refl _ | exact Nat.le_trans (m := 5) (by decide) (Nat.le_add_right _ _))) (by rfl) T.d_tau_kept T.f_tau_kept.kp (bn_tau_kept T) (sa_cons (se_var 7) (sa_cons (se_var 1) sa_nil))) sa_nil))))))
    (sss_one (ss_expr (se_mt isLis_ty PySem.F.plainAttrs_list PySem.F.slot_list_append PySem.F.type_list_append mt_append append_ok (se_var 3) (sa_cons (se_var 6) sa_nil)))))))
    (sss_one (ss_asg (sg_set (i := 2) nd rfl (.inl rfl)) (se_callFG B (by rfl) (by rfl) (ok_total_in T) (hrG.mono (by first | exact Nat.le_refl _ | exact Nat.le_trans (m := 5) (by decide) (Nat.le_add_right _ _))) (by rfl) T.d_total_in T.f_total_in.kp (bn_total_in T) (sa_cons (se_lst (sa_cons (se_gk (by rfl) T.c_ZERO_tau) (sa_star (by rfl) (se_var 3) sa_nil))) sa_nil)))))) sss_nil)
    (sss_one (ss_putU ⟨by rfl, by rfl, by rfl⟩ hr (se_var 1) (se_var 0) (se_var 2))))) sss_nil)
    (sss_one (ss_ret (se_getU ⟨by rfl, by rfl, by rfl⟩ hr (se_var 1) (se_var 0))))))
theorem ok_tau_kept (T : Txt P w K mg base fa ca cc pp fd) (n : Nat) : FnG P w K mg base (5 + n) (fa 18) (fd 18) ["exponents", "kept"] (spH (GG P w K fa ca pp) 2 (F_tau_kept n)) := (ok_R_tau_kept T n)
def b_tau_in : MS := (mRet (eCall 2 (F_tau_kept 12) (eConsA (eB (callF 1 F_falling) (eConsA (eVar 0) eNilA)) (eConsA eDNew eNilA))))
def F_tau_in : List CV → M CV := runB 1 1 b_tau_in
theorem sc_tau_in : FnScope ["exponents"] ["exponents"] (defScope s_tau_in) := ⟨rfl, rfl, rfl, by decide +kernel, rfl, by decide +kernel, by decide +kernel⟩
theorem bn_tau_in (T : Txt P w K mg base fa ca cc pp fd) : Binds K (fd 19) ["exponents"] [] := T.f_tau_in.binds fun _ _ _ _ _ _ us hl => match us, hl with | [_], _ => rfl
theorem ok_tau_in (T : Txt P w K mg base fa ca cc pp fd) : FnG P w K mg base 18 (fa 19) (fd 19) ["exponents"] (spH (GG P w K fa ca pp) 1 F_tau_in) :=
  have nd := sc_tau_in.nd
  fnG (G := GG P w K fa ca pp) 1 1 (mb := b_tau_in) (by rfl) T.fc_tau_in sc_tau_in (by rfl) (by rfl) (by rfl) (by rfl) (by rfl) (by rfl) (by rfl) fun A outer s H E hrG B po =>
    have hr := hrG.r
    (sss_one (ss_ret (se_callG B (ok_tau_kept T 12) (hrG.mono (by decide)) (by rfl) T.d_tau_kept T.f_tau_kept.kp (bn_tau_kept T) (sa_cons (se_callFG B (by rfl) (by rfl) (ok_falling T) (hrG.mono (by decide)) (by rfl) T.d_falling T.f_falling.kp (bn_falling T) (sa_cons (se_var 0) sa_nil)) (sa_cons se_dnew sa_nil)))))
def l_partings_0 (r0 : List CV → M CV) : Sl → M CV := (eTup (eConsA (eVar 4) (eStarA (eVar 5) eNilA)))
def l_partings_1 (r0 : List CV → M CV) : MS := (mExpr (eMt isLis pyExtend (eVar 3) (eConsA (eLc (iSeq (eB (callF 3 r0) (eConsA (eOp pySub (eVar 0) (eC (.int 1))) (eConsA (eOp pySub (eVar 1) (eVar 4)) (eConsA (eVar 4) eNilA))))) (gSet 5) bYes (l_partings_0 r0) [5]) eNilA)))
def b_partings (r0 : List CV → M CV) : MS := (mSeq (mIf (bOf (eOp (pyEq false) (eVar 0) (eC (.int 0)))) (mRet (eIf (bOf (eOp (pyEq false) (eVar 1) (eC (.int 0)))) (eLst (eConsA (eTup eNilA) eNilA)) (eLst eNilA))) mNil)
    (mSeq (mAsg (gSet 3) (eNew eNilA))
    (mSeq (mFor (iArgs rng1 (eConsA (eOp pyAdd (eB pyMin (eConsA (eVar 2) (eConsA (eVar 1) eNilA))) (eC (.int 1))) eNilA)) (gSet 4) (l_partings_1 r0))
    (mRet (eVar 3)))))
theorem sc_partings : FnScope ["many", "whole", "most", "found", "first", "rest"] ["many", "whole", "most"] (defScope s_partings) := ⟨rfl, rfl, rfl, by decide +kernel, rfl, by decide +kernel, by decide +kernel⟩
theorem bn_partings (T : Txt P w K mg base fa ca cc pp fd) : Binds K (fd 20) ["many", "whole", "most"] [] := T.f_partings.binds fun _ _ _ _ _ _ us hl => match us, hl with | [_, _, _], _ => rfl
def R_partings : Nat → (List CV → M CV) := fun n => Nat.rec ((fun _ => stuck)) (fun _ ih => (runB 3 6 (b_partings (ih)))) n
def F_partings (n : Nat) : List CV → M CV := (R_partings n)
theorem ok_R_partings (T : Txt P w K mg base fa ca cc pp fd) : ∀ n : Nat, (FnG P w K mg base (1 + n) (fa 20) (fd 20) ["many", "whole", "most"] (spH (GG P w K fa ca pp) 3 (F_partings n)))
  | 0 => (FnG.of fn_bad)
  | n + 1 => by
    have ih0 := (ok_R_partings T n)
    exact (have nd := sc_partings.nd
  fnG (G := GG P w K fa ca pp) 3 6 (mb := b_partings (F_partings n)) (by rfl) T.fc_partings sc_partings (by rfl) (by rfl) (by rfl) (by rfl) (by rfl) (by rfl) (by rfl) fun A outer s H E hrG B po =>
    have hr := hrG.r
    (sss_cons (ss_if (st_cmp (op_eqD hr.units) eq_ok (se_var 0) se_int) (sss_one (ss_ret (se_if (st_cmp (op_eqD hr.units) eq_ok (se_var 1) se_int) (se_lst (sa_cons (se_tup sa_nil) sa_nil)) (se_lst sa_nil)))) sss_nil)
    (sss_cons (ss_asg (sg_set (i := 3) nd rfl (.inl rfl)) (se_new sa_nil))
    (sss_cons (ss_for po rfl (si_rng1 (by rfl) T.z_range (sa_cons (se_op op_plus plus_ok (se_callB (call_min2 rfl) min_ok (by rfl) T.z_min (by decide +kernel) (sa_cons (se_var 2) (sa_cons (se_var 1) sa_nil))) se_int) sa_nil)) (sg_set (i := 4) nd rfl (.inr rfl)) (sss_one (ss_expr (se_mt isLis_ty PySem.F.plainAttrs_list PySem.F.slot_list_extend PySem.F.type_list_extend mt_extend extend_ok (se_var 3) (sa_cons (se_lc (own := [("rest", 5)]) (g := (gName 5)) rfl nd (si_seq (by rfl) (se_callFG B (by rfl) (by rfl) ih0 (hrG.mono (by first | exact Nat.le_refl _ | exact Nat.le_trans (m := 1) (by decide) (Nat.le_add_right _ _))) (by rfl) T.d_partings T.f_partings.kp (bn_partings T) (sa_cons (se_op op_sub sub_ok (se_var 0) se_int) (sa_cons (se_op op_sub sub_ok (se_var 1) (se_var 4)) (sa_cons (se_var 4) sa_nil))))) (blkOk_by (N := ["many", "whole", "most", "found", "first", "rest"]) (sc := defScope s_partings) (by decide +kernel)) (lcg_set (by decide)) (fun _ _ _ _ _ => (pg_name (i := 5) nd rfl (by first | exact .inl rfl | exact .inr rfl))) (fun _ _ _ _ _ => sts_nil) (fun _ _ _ _ _ => (se_tup (sa_cons (se_var 4) (sa_star (by rfl) (se_var 5) sa_nil))))) sa_nil)))))
    (sss_one (ss_ret (se_var 3)))))))
theorem ok_partings (T : Txt P w K mg base fa ca cc pp fd) (n : Nat) : FnG P w K mg base (1 + n) (fa 20) (fd 20) ["many", "whole", "most"] (spH (GG P w K fa ca pp) 3 (F_partings n)) := (ok_R_partings T n)
def l_tau_row_in_0 : Sl → M CV := (eVar 4)
def l_tau_row_in_1 : Sl → M CV := (eCall 2 (F_tau_kept 12) (eConsA (eVar 4) (eConsA (eVar 3) eNilA)))
def b_tau_row_in : MS := (mSeq (mAsg (gUnp 2 (gConsT (gSet 2) (gConsT (gSet 3) gNilT))) (eTup (eConsA (eOp pyAdd (eOp pySub (eOp pyTimes (eC (.int 3)) (eVar 0)) (eC (.int 3))) (eVar 1)) (eConsA eDNew eNilA))))
    (mRet (eDcU (iSeq (eB (one pySrtA) (eConsA (eB (callF 3 (F_partings 12)) (eConsA (eVar 1) (eConsA (eVar 2) (eConsA (eVar 2) eNilA)))) eNilA))) (gSet 4) bYes l_tau_row_in_0 l_tau_row_in_1 [4])))
def F_tau_row_in : List CV → M CV := runB 2 5 b_tau_row_in
theorem sc_tau_row_in : FnScope ["handles", "many", "depth", "kept", "exponents"] ["handles", "many"] (defScope s_tau_row_in) := ⟨rfl, rfl, rfl, by decide +kernel, rfl, by decide +kernel, by decide +kernel⟩
theorem bn_tau_row_in (T : Txt P w K mg base fa ca cc pp fd) : Binds K (fd 21) ["handles", "many"] [] := T.f_tau_row_in.binds fun _ _ _ _ _ _ us hl => match us, hl with | [_, _], _ => rfl
theorem ok_tau_row_in (T : Txt P w K mg base fa ca cc pp fd) : FnG P w K mg base 18 (fa 21) (fd 21) ["handles", "many"] (spH (GG P w K fa ca pp) 2 F_tau_row_in) :=
  have nd := sc_tau_row_in.nd
  fnG (G := GG P w K fa ca pp) 2 5 (mb := b_tau_row_in) (by rfl) T.fc_tau_row_in sc_tau_row_in (by rfl) (by rfl) (by rfl) (by rfl) (by rfl) (by rfl) (by rfl) fun A outer s H E hrG B po =>
    have hr := hrG.r
    (sss_cons (ss_asg (sg_unp rfl rfl (sgs_cons (sg_set (i := 2) nd rfl (.inl rfl)) (sgs_cons (sg_set (i := 3) nd rfl (.inr rfl)) sgs_nil))) (se_tup (sa_cons (se_op op_plus plus_ok (se_op op_sub sub_ok (se_op op_timesS timesS_ok se_int (se_var 0)) se_int) (se_var 1)) (sa_cons se_dnew sa_nil))))
    (sss_one (ss_ret (se_dcU (own := [("exponents", 4)]) (g := (gName 4)) ⟨by rfl, by rfl, by rfl⟩ hr rfl nd (si_seq (by rfl) (se_callB (cr_srtA (u64 hr)) srtA_ok (by rfl) T.z_sorted (by decide +kernel) (sa_cons (se_callFG B (by rfl) (by rfl) (ok_partings T 12) (hrG.mono (by decide)) (by rfl) T.d_partings T.f_partings.kp (bn_partings T) (sa_cons (se_var 1) (sa_cons (se_var 2) (sa_cons (se_var 2) sa_nil)))) sa_nil))) (blkOk_by (N := ["handles", "many", "depth", "kept", "exponents"]) (sc := defScope s_tau_row_in) (by decide +kernel)) (lcg_set (by decide)) (fun _ _ _ _ _ => (pg_name (i := 4) nd rfl (by first | exact .inl rfl | exact .inr rfl))) (fun _ _ _ _ _ => sts_nil) (fun _ _ _ _ _ => (se_var 4)) (fun _ _ _ _ _ => (se_callG ⟨by rfl, by rfl, by rfl, L2.takes0⟩ (ok_tau_kept T 12) (hrG.mono (by decide)) (by rfl) T.d_tau_kept T.f_tau_kept.kp (bn_tau_kept T) (sa_cons (se_var 4) (sa_cons (se_var 3) sa_nil))))))))
def F_by_rules : List CV → M CV := fun _ => stuck
theorem bn_by_rules (T : Txt P w K mg base fa ca cc pp fd) : Binds K (fd 25) ["exponents"] [] := T.f_by_rules.binds fun _ _ _ _ _ _ us hl => match us, hl with | [_], _ => rfl
theorem ok_by_rules (T : Txt P w K mg base fa ca cc pp fd) : FnG P w K mg base 1 (fa 25) (fd 25) ["exponents"] (spH (GG P w K fa ca pp) 1 F_by_rules) := FnG.of fn_bad
def l_require_exponents_0 : Sl → M CV := (eAnd (eB (callF 1 F_is_integer) (eConsA (eVar 1) eNilA)) (eOp pyGe (eVar 1) (eC (.int 0))))
def b_require_exponents : MS := (mSeq (mIf (bOr (bNot (bOf (eUn (isTy isTupK tt_tuple) (eVar 0)))) (bNot (bOf (eChain pyLe pyLe (eC (.int 1)) (eB pyLen (eConsA (eVar 0) eNilA)) (eC (.int 8)))))) (mRaise (xMsg 1)) mNil)
    (mSeq (mIf (bNot (bOf (eB (one pyAll) (eConsA (eLc (iSeq (eVar 0)) (gSet 1) bYes l_require_exponents_0 [1]) eNilA)))) (mRaise (xMsg 1)) mNil)
    (mIf (bOf (eOp pyGt (eB (one pySum2) (eConsA (eVar 0) eNilA)) (eC (.int 20)))) (mRaise (xArg 3 (eC (.int 20)))) mNil)))
def F_require_exponents : List CV → M CV := runB 1 2 b_require_exponents
theorem sc_require_exponents : FnScope ["value", "one"] ["value"] (defScope s_require_exponents) := ⟨rfl, rfl, rfl, by decide +kernel, rfl, by decide +kernel, by decide +kernel⟩
theorem bn_require_exponents (T : Txt P w K mg base fa ca cc pp fd) : Binds K (fd 26) ["value"] [] := T.f_require_exponents.binds fun _ _ _ _ _ _ us hl => match us, hl with | [_], _ => rfl
theorem ok_require_exponents (T : Txt P w K mg base fa ca cc pp fd) : FnG P w K mg base 3 (fa 26) (fd 26) ["value"] (spH (GG P w K fa ca pp) 1 F_require_exponents) :=
  have nd := sc_require_exponents.nd
  fnG (G := GG P w K fa ca pp) 1 2 (mb := b_require_exponents) (by rfl) T.fc_require_exponents sc_require_exponents (by rfl) (by rfl) (by rfl) (by rfl) (by rfl) (by rfl) (by rfl) fun A outer s H E hrG B po =>
    have hr := hrG.r
    (sss_cons (ss_if (st_bool (sw_or (st_not (st_val (se_isY (by rfl) (by rfl) T.z_isinstance (is_tuple T) (pe_bltn (v := .ty "tuple") (by rfl) T.z_tuple (by decide +kernel) rfl (by decide) (by decide)) (se_var 0)))) (sw_or1 (st_not (st_chain op_le cmp_ok op_le cmp_ok se_int (se_callB call_len len_ok (by rfl) T.z_len (by decide +kernel) (sa_cons (se_var 0) sa_nil)) (se_gint (by rfl) T.c_MOST_EXPONENTS.choose_spec)))))) (sss_one (ss_raise B rfl (sx_plain T.x_InvalidOperation (by rfl) rfl))) sss_nil)
    (sss_cons (ss_if (st_not (st_val (se_callB (cr_all rfl) all_ok (by rfl) T.z_all (by decide +kernel) (sa_cons (se_lc (own := [("one", 1)]) (g := (gName 1)) rfl nd (si_seq (by rfl) (se_var 0)) (blkOk_by (N := ["value", "one"]) (sc := defScope s_require_exponents) (by decide +kernel)) (lcg_set (by decide)) (fun _ _ _ _ _ => (pg_name (i := 1) nd rfl (by first | exact .inl rfl | exact .inr rfl))) (fun _ _ _ _ _ => sts_nil) (fun _ _ _ _ _ => (se_and (se_callFG ⟨by rfl, by rfl, by rfl, L2.takes0⟩ (by rfl) (by rfl) (ok_is_integer T) (hrG.mono (by decide)) (by rfl) T.d_is_integer T.f_is_integer.kp (bn_is_integer T) (sa_cons (se_var 1) sa_nil)) (se_and1 (se_cmp op_ge cmp_ok (se_var 1) se_int))))) sa_nil)))) (sss_one (ss_raise B rfl (sx_plain T.x_InvalidOperation (by rfl) rfl))) sss_nil)
    (sss_one (ss_if (st_cmp op_gt cmp_ok (se_callB (cr_sum2 rfl) sum2_ok (by rfl) T.z_sum (by decide +kernel) (sa_cons (se_var 0) sa_nil)) (se_gint (by rfl) T.c_MOST_SUM.choose_spec)) (sss_one (ss_raise B rfl (sx_keep T.x_TooMany hr rfl rfl (se_gint (by rfl) T.c_MOST_SUM.choose_spec) (by rfl)))) sss_nil))))
def b_require_pair : MS := (mSeq (mIf (bOr (bNot (bOf (eB (callF 1 F_is_integer) (eConsA (eVar 0) eNilA)))) (bOf (eOp pyLt (eVar 0) (eC (.int 0))))) (mRaise (xArg 2 (eVar 0))) mNil)
    (mSeq (mIf (bOr (bNot (bOf (eB (callF 1 F_is_integer) (eConsA (eVar 1) eNilA)))) (bNot (bOf (eChain pyLe pyLe (eC (.int 1)) (eVar 1) (eC (.int 8)))))) (mRaise (xArg 2 (eVar 1))) mNil)
    (mSeq (mIf (bOf (eOp pyLt (eOp pyAdd (eOp pySub (eOp pyTimes (eC (.int 2)) (eVar 0)) (eC (.int 2))) (eVar 1)) (eC (.int 1)))) (mRaise (xArg 4 (eTup (eConsA (eC (.str (Str.ofString "pair"))) eNilA)))) mNil)
    (mIf (bOr (bOf (eOp pyGt (eOp pyAdd (eOp pySub (eOp pyTimes (eC (.int 3)) (eVar 0)) (eC (.int 3))) (eVar 1)) (eC (.int 5)))) (bOf (eOp pyGt (eVar 1) (eC (.int 6))))) (mRaise (xArg 3 (eC (.int 5)))) mNil))))
def F_require_pair : List CV → M CV := runB 2 2 b_require_pair
theorem sc_require_pair : FnScope ["handles", "many"] ["handles", "many"] (defScope s_require_pair) := ⟨rfl, rfl, rfl, by decide +kernel, rfl, by decide +kernel, by decide +kernel⟩
theorem bn_require_pair (T : Txt P w K mg base fa ca cc pp fd) : Binds K (fd 27) ["handles", "many"] [] := T.f_require_pair.binds fun _ _ _ _ _ _ us hl => match us, hl with | [_, _], _ => rfl
theorem ok_require_pair (T : Txt P w K mg base fa ca cc pp fd) : FnG P w K mg base 3 (fa 27) (fd 27) ["handles", "many"] (spH (GG P w K fa ca pp) 2 F_require_pair) :=
  have nd := sc_require_pair.nd
  fnG (G := GG P w K fa ca pp) 2 2 (mb := b_require_pair) (by rfl) T.fc_require_pair sc_require_pair (by rfl) (by rfl) (by rfl) (by rfl) (by rfl) (by rfl) (by rfl) fun A outer s H E hrG B po =>
    have hr := hrG.r
    (sss_cons (ss_if (st_bool (sw_or (st_not (st_val (se_callFG B (by rfl) (by rfl) (ok_is_integer T) (hrG.mono (by decide)) (by rfl) T.d_is_integer T.f_is_integer.kp (bn_is_integer T) (sa_cons (se_var 0) sa_nil)))) (sw_or1 (st_cmp op_lt cmp_ok (se_var 0) se_int)))) (sss_one (ss_raise B rfl (sx_keep T.x_InvalidNumber hr rfl rfl (se_var 0) (by rfl)))) sss_nil)
    (sss_cons (ss_if (st_bool (sw_or (st_not (st_val (se_callFG B (by rfl) (by rfl) (ok_is_integer T) (hrG.mono (by decide)) (by rfl) T.d_is_integer T.f_is_integer.kp (bn_is_integer T) (sa_cons (se_var 1) sa_nil)))) (sw_or1 (st_not (st_chain op_le cmp_ok op_le cmp_ok se_int (se_var 1) (se_gint (by rfl) T.c_MOST_MANY.choose_spec)))))) (sss_one (ss_raise B rfl (sx_keep T.x_InvalidNumber hr rfl rfl (se_var 1) (by rfl)))) sss_nil)
    (sss_cons (ss_if (st_cmp op_lt cmp_ok (se_op op_plus plus_ok (se_op op_sub sub_ok (se_op op_timesS timesS_ok se_int (se_var 0)) se_int) (se_var 1)) se_int) (sss_one (ss_raise B rfl (sx_keep T.x_Refused hr rfl rfl (se_tup (sa_cons (se_gstr (by rfl) T.c_PAIR.choose_spec) sa_nil)) (by rfl)))) sss_nil)
    (sss_one (ss_if (st_bool (sw_or (st_cmp op_gt cmp_ok (se_op op_plus plus_ok (se_op op_sub sub_ok (se_op op_timesS timesS_ok se_int (se_var 0)) se_int) (se_var 1)) (se_gint (by rfl) T.c_MAX_DEPTH.choose_spec)) (sw_or1 (st_cmp op_gt cmp_ok (se_var 1) (se_gint (by rfl) T.c_MOST_RIMS.choose_spec))))) (sss_one (ss_raise B rfl (sx_keep T.x_TooMany hr rfl rfl (se_gint (by rfl) T.c_MAX_DEPTH.choose_spec) (by rfl)))) sss_nil)))))
def b_handles_of : MS := (mSeq (mExpr (eB (callF 1 F_require_exponents) (eConsA (eVar 0) eNilA)))
    (mRet (eB (callF 1 F_handles_in) (eConsA (eVar 0) eNilA))))
def F_handles_of : List CV → M CV := runB 1 1 b_handles_of
theorem sc_handles_of : FnScope ["exponents"] ["exponents"] (defScope s_handles_of) := ⟨rfl, rfl, rfl, by decide +kernel, rfl, by decide +kernel, by decide +kernel⟩
theorem bn_handles_of (T : Txt P w K mg base fa ca cc pp fd) : Binds K (fd 28) ["exponents"] [] := T.f_handles_of.binds fun _ _ _ _ _ _ us hl => match us, hl with | [_], _ => rfl
theorem ok_handles_of (T : Txt P w K mg base fa ca cc pp fd) : FnG P w K mg base 4 (fa 28) (fd 28) ["exponents"] (spH (GG P w K fa ca pp) 1 F_handles_of) :=
  have nd := sc_handles_of.nd
  fnG (G := GG P w K fa ca pp) 1 1 (mb := b_handles_of) (by rfl) T.fc_handles_of sc_handles_of (by rfl) (by rfl) (by rfl) (by rfl) (by rfl) (by rfl) (by rfl) fun A outer s H E hrG B po =>
    have hr := hrG.r
    (sss_cons (ss_expr (se_callFG B (by rfl) (by rfl) (ok_require_exponents T) (hrG.mono (by decide)) (by rfl) T.d_require_exponents T.f_require_exponents.kp (bn_require_exponents T) (sa_cons (se_var 0) sa_nil)))
    (sss_one (ss_ret (se_callFG B (by rfl) (by rfl) (ok_handles_in T) (hrG.mono (by decide)) (by rfl) T.d_handles_in T.f_handles_in.kp (bn_handles_in T) (sa_cons (se_var 0) sa_nil)))))
def b_tau_number : MS := (mSeq (mExpr (eB (callF 1 F_require_exponents) (eConsA (eVar 0) eNilA)))
    (mRet (eB (callF 1 F_tau_in) (eConsA (eVar 0) eNilA))))
def F_tau_number : List CV → M CV := runB 1 1 b_tau_number
theorem sc_tau_number : FnScope ["exponents"] ["exponents"] (defScope s_tau_number) := ⟨rfl, rfl, rfl, by decide +kernel, rfl, by decide +kernel, by decide +kernel⟩
theorem bn_tau_number (T : Txt P w K mg base fa ca cc pp fd) : Binds K (fd 29) ["exponents"] [] := T.f_tau_number.binds fun _ _ _ _ _ _ us hl => match us, hl with | [_], _ => rfl
theorem ok_tau_number (T : Txt P w K mg base fa ca cc pp fd) : FnG P w K mg base 19 (fa 29) (fd 29) ["exponents"] (spH (GG P w K fa ca pp) 1 F_tau_number) :=
  have nd := sc_tau_number.nd
  fnG (G := GG P w K fa ca pp) 1 1 (mb := b_tau_number) (by rfl) T.fc_tau_number sc_tau_number (by rfl) (by rfl) (by rfl) (by rfl) (by rfl) (by rfl) (by rfl) fun A outer s H E hrG B po =>
    have hr := hrG.r
    (sss_cons (ss_expr (se_callFG B (by rfl) (by rfl) (ok_require_exponents T) (hrG.mono (by decide)) (by rfl) T.d_require_exponents T.f_require_exponents.kp (bn_require_exponents T) (sa_cons (se_var 0) sa_nil)))
    (sss_one (ss_ret (se_callFG B (by rfl) (by rfl) (ok_tau_in T) (hrG.mono (by decide)) (by rfl) T.d_tau_in T.f_tau_in.kp (bn_tau_in T) (sa_cons (se_var 0) sa_nil)))))
def b_tau_terms : MS := (mSeq (mExpr (eB (callF 1 F_require_exponents) (eConsA (eVar 0) eNilA)))
    (mRet (eB (one pyTuple) (eConsA (eLstItems (eB (callF 1 F_terms_in) (eConsA (eVar 0) eNilA))) eNilA))))
def F_tau_terms : List CV → M CV := runB 1 1 b_tau_terms
theorem sc_tau_terms : FnScope ["exponents"] ["exponents"] (defScope s_tau_terms) := ⟨rfl, rfl, rfl, by decide +kernel, rfl, by decide +kernel, by decide +kernel⟩
theorem bn_tau_terms (T : Txt P w K mg base fa ca cc pp fd) : Binds K (fd 30) ["exponents"] [] := T.f_tau_terms.binds fun _ _ _ _ _ _ us hl => match us, hl with | [_], _ => rfl
theorem ok_tau_terms (T : Txt P w K mg base fa ca cc pp fd) : FnG P w K mg base 5 (fa 30) (fd 30) ["exponents"] (spH (GG P w K fa ca pp) 1 F_tau_terms) :=
  have nd := sc_tau_terms.nd
  fnG (G := GG P w K fa ca pp) 1 1 (mb := b_tau_terms) (by rfl) T.fc_tau_terms sc_tau_terms (by rfl) (by rfl) (by rfl) (by rfl) (by rfl) (by rfl) (by rfl) fun A outer s H E hrG B po =>
    have hr := hrG.r
    (sss_cons (ss_expr (se_callFG B (by rfl) (by rfl) (ok_require_exponents T) (hrG.mono (by decide)) (by rfl) T.d_require_exponents T.f_require_exponents.kp (bn_require_exponents T) (sa_cons (se_var 0) sa_nil)))
    (sss_one (ss_ret (se_callTy call_tuple_of tuple_ok (by rfl) T.z_tuple (by decide +kernel) (sa_cons (se_lstItems ⟨by rfl, by rfl, by rfl⟩ rfl (by rfl) T.z_list (se_callFG B (by rfl) (by rfl) (ok_terms_in T) (hrG.mono (by decide)) (by rfl) T.d_terms_in T.f_terms_in.kp (bn_terms_in T) (sa_cons (se_var 0) sa_nil))) sa_nil)))))
def b_tau_row : MS := (mSeq (mExpr (eB (callF 2 F_require_pair) (eConsA (eVar 0) (eConsA (eVar 1) eNilA))))
    (mRet (eB (callF 2 F_tau_row_in) (eConsA (eVar 0) (eConsA (eVar 1) eNilA)))))
def F_tau_row : List CV → M CV := runB 2 2 b_tau_row
theorem sc_tau_row : FnScope ["handles", "many"] ["handles", "many"] (defScope s_tau_row) := ⟨rfl, rfl, rfl, by decide +kernel, rfl, by decide +kernel, by decide +kernel⟩
theorem bn_tau_row (T : Txt P w K mg base fa ca cc pp fd) : Binds K (fd 31) ["handles", "many"] [] := T.f_tau_row.binds fun _ _ _ _ _ _ us hl => match us, hl with | [_, _], _ => rfl
theorem ok_tau_row (T : Txt P w K mg base fa ca cc pp fd) : FnG P w K mg base 19 (fa 31) (fd 31) ["handles", "many"] (spH (GG P w K fa ca pp) 2 F_tau_row) :=
  have nd := sc_tau_row.nd
  fnG (G := GG P w K fa ca pp) 2 2 (mb := b_tau_row) (by rfl) T.fc_tau_row sc_tau_row (by rfl) (by rfl) (by rfl) (by rfl) (by rfl) (by rfl) (by rfl) fun A outer s H E hrG B po =>
    have hr := hrG.r
    (sss_cons (ss_expr (se_callFG B (by rfl) (by rfl) (ok_require_pair T) (hrG.mono (by decide)) (by rfl) T.d_require_pair T.f_require_pair.kp (bn_require_pair T) (sa_cons (se_var 0) (sa_cons (se_var 1) sa_nil))))
    (sss_one (ss_ret (se_callFG B (by rfl) (by rfl) (ok_tau_row_in T) (hrG.mono (by decide)) (by rfl) T.d_tau_row_in T.f_tau_row_in.kp (bn_tau_row_in T) (sa_cons (se_var 0) (sa_cons (se_var 1) sa_nil))))))
def b_tau_by_rules : MS := (mSeq (mExpr (eB (callF 1 F_require_exponents) (eConsA (eVar 0) eNilA)))
    (mRet (eB (callF 1 F_by_rules) (eConsA (eVar 0) eNilA))))
def F_tau_by_rules : List CV → M CV := runB 1 1 b_tau_by_rules
theorem sc_tau_by_rules : FnScope ["exponents"] ["exponents"] (defScope s_tau_by_rules) := ⟨rfl, rfl, rfl, by decide +kernel, rfl, by decide +kernel, by decide +kernel⟩
theorem bn_tau_by_rules (T : Txt P w K mg base fa ca cc pp fd) : Binds K (fd 32) ["exponents"] [] := T.f_tau_by_rules.binds fun _ _ _ _ _ _ us hl => match us, hl with | [_], _ => rfl
theorem ok_tau_by_rules (T : Txt P w K mg base fa ca cc pp fd) : FnG P w K mg base 4 (fa 32) (fd 32) ["exponents"] (spH (GG P w K fa ca pp) 1 F_tau_by_rules) :=
  have nd := sc_tau_by_rules.nd
  fnG (G := GG P w K fa ca pp) 1 1 (mb := b_tau_by_rules) (by rfl) T.fc_tau_by_rules sc_tau_by_rules (by rfl) (by rfl) (by rfl) (by rfl) (by rfl) (by rfl) (by rfl) fun A outer s H E hrG B po =>
    have hr := hrG.r
    (sss_cons (ss_expr (se_callFG B (by rfl) (by rfl) (ok_require_exponents T) (hrG.mono (by decide)) (by rfl) T.d_require_exponents T.f_require_exponents.kp (bn_require_exponents T) (sa_cons (se_var 0) sa_nil)))
    (sss_one (ss_ret (se_callFG B (by rfl) (by rfl) (ok_by_rules T) (hrG.mono (by decide)) (by rfl) T.d_by_rules T.f_by_rules.kp (bn_by_rules T) (sa_cons (se_var 0) sa_nil)))))
def b_law_dice : MS := (mSeq (mAsg (gSet 2) (eIf (bOf (eOp pyLt (eVar 1) (eB pyLen (eConsA (eVar 0) eNilA)))) (eB pyInt (eConsA (eOp pyIx (eVar 0) (eVar 1)) eNilA)) (eOp pyAdd (eOp pyTimes (eC (.int 89)) (eVar 1)) (eC (.int 53)))))
    (mSeq (mAsg (gSet 3) (eOp pyMod (eB pyMax (eConsA (eC (.int 0)) (eConsA (eOp pySub (eB pyAbs (eConsA (eVar 2) eNilA)) (eOp pyPow (eC (.int 10)) (eC (.int 16)))) eNilA))) (eOp pyTimes (eOp pyPow (eC (.int 10)) (eC (.int 56))) (eOp pyPow (eC (.int 10)) (eC (.int 60))))))
    (mRet (eNew (eConsA (eVar 3) (eConsA (eOp pyAdd (eOp pyAdd (eOp pyAdd (eOp pyTimes (eOp pyMod (eB pyAbs (eConsA (eVar 2) eNilA)) (eC (.int 1152921504606846869))) (eC (.int 61))) (eOp pyTimes (eC (.int 1009)) (eVar 1))) (eOp pyTimes (eC (.int 43)) (eB pyInt (eConsA (eOp pyLt (eVar 2) (eC (.int 0))) eNilA)))) (eC (.int 17))) (eConsA (eC (.int 0)) eNilA)))))))
def F_law_dice : List CV → M CV := runB 2 4 b_law_dice
theorem sc_law_dice : FnScope ["script", "spot", "cell", "left"] ["script", "spot"] (defScope s_law_dice) := ⟨rfl, rfl, rfl, by decide +kernel, rfl, by decide +kernel, by decide +kernel⟩
theorem bn_law_dice (T : Txt P w K mg base fa ca cc pp fd) : Binds K (fd 33) ["script", "spot"] [] := T.f_law_dice.binds fun _ _ _ _ _ _ us hl => match us, hl with | [_, _], _ => rfl
theorem ok_law_dice (T : Txt P w K mg base fa ca cc pp fd) : FnG P w K mg base 1 (fa 33) (fd 33) ["script", "spot"] (spH (GG P w K fa ca pp) 2 F_law_dice) :=
  have nd := sc_law_dice.nd
  fnG (G := GG P w K fa ca pp) 2 4 (mb := b_law_dice) (by rfl) T.fc_law_dice sc_law_dice (by rfl) (by rfl) (by rfl) (by rfl) (by rfl) (by rfl) (by rfl) fun A outer s H E hrG B po =>
    have hr := hrG.r
    (sss_cons (ss_asg (sg_set (i := 2) nd rfl (.inl rfl)) (se_if (st_cmp op_lt cmp_ok (se_var 1) (se_callB call_len len_ok (by rfl) T.z_len (by decide +kernel) (sa_cons (se_var 0) sa_nil))) (se_callTy call_int1 int_ok (by rfl) T.z_int (by decide +kernel) (sa_cons (se_ix (by rfl) (se_var 0) (se_var 1)) sa_nil)) (se_op op_plus plus_ok (se_op op_timesS timesS_ok se_int (se_var 1)) se_int)))
    (sss_cons (ss_asg (sg_set (i := 3) nd rfl (.inl rfl)) (se_op op_modN mod_ok (se_callB (call_max2 rfl) max_ok (by rfl) T.z_max (by decide +kernel) (sa_cons se_int (sa_cons (se_op op_sub sub_ok (se_callB call_abs abs_ok (by rfl) T.z_abs (by decide +kernel) (sa_cons (se_var 2) sa_nil)) (se_op op_pow pow_ok se_int se_int)) sa_nil))) (se_op op_timesS timesS_ok (se_op op_pow pow_ok se_int se_int) (se_op op_pow pow_ok se_int se_int))))
    (sss_one (ss_ret (se_new (sa_cons (se_var 3) (sa_cons (se_op op_plus plus_ok (se_op op_plus plus_ok (se_op op_plus plus_ok (se_op op_timesS timesS_ok (se_op op_modN mod_ok (se_callB call_abs abs_ok (by rfl) T.z_abs (by decide +kernel) (sa_cons (se_var 2) sa_nil)) se_int) se_int) (se_op op_timesS timesS_ok se_int (se_var 1))) (se_op op_timesS timesS_ok se_int (se_callTy call_int1 int_ok (by rfl) T.z_int (by decide +kernel) (sa_cons (se_cmp op_lt cmp_ok (se_var 2) se_int) sa_nil)))) se_int) (sa_cons se_int sa_nil))))))))
def b_law_roll : MS := (mSeq (mIf (bOf (eOp pyGt (eOp pyIx (eVar 0) (eC (.int 0))) (eC (.int 0)))) (mSeq (mAsg (gSet 2) (eOp pyMod (eB pyInt (eConsA (eOp pyIx (eVar 0) (eC (.int 0))) eNilA)) (eVar 1)))
    (mSeq (mAsg (gSub (eVar 0) (eC (.int 0))) (eOp pyFdiv (eOp pyIx (eVar 0) (eC (.int 0))) (eVar 1)))
    (mRet (eVar 2)))) mNil)
    (mSeq (mAsg (gSub (eVar 0) (eC (.int 2))) (eOp pyAdd (eOp pyIx (eVar 0) (eC (.int 2))) (eC (.int 1))))
    (mSeq (mAsg (gSet 3) (eOp pyMod (eB pyInt (eConsA (eOp pyAdd (eOp pyIx (eVar 0) (eC (.int 1))) (eOp pyTimes (eC (.int 99990067)) (eOp pyIx (eVar 0) (eC (.int 2))))) eNilA)) (eC (.int 2305843009213693381))))
    (mSeq (mAsg (gSet 4) (eOp pyAdd (eOp pyTimes (eOp pyMod (eB pyInt (eConsA (eOp pyAdd (eOp pyTimes (eVar 3) (eVar 3)) (eOp pyTimes (eC (.int 89)) (eOp pyIx (eVar 0) (eC (.int 2))))) eNilA)) (eC (.int 2305843009213693343))) (eC (.int 8675309))) (eVar 3)))
    (mRet (eOp pyMod (eB pyInt (eConsA (eOp pyFdiv (eVar 4) (eC (.int 65551))) eNilA)) (eVar 1)))))))
def F_law_roll : List CV → M CV := runB 2 5 b_law_roll
theorem sc_law_roll : FnScope ["dice", "total", "found", "one", "two"] ["dice", "total"] (defScope s_law_roll) := ⟨rfl, rfl, rfl, by decide +kernel, rfl, by decide +kernel, by decide +kernel⟩
theorem bn_law_roll (T : Txt P w K mg base fa ca cc pp fd) : Binds K (fd 34) ["dice", "total"] [] := T.f_law_roll.binds fun _ _ _ _ _ _ us hl => match us, hl with | [_, _], _ => rfl
theorem ok_law_roll (T : Txt P w K mg base fa ca cc pp fd) : FnG P w K mg base 1 (fa 34) (fd 34) ["dice", "total"] (spH (GG P w K fa ca pp) 2 F_law_roll) :=
  have nd := sc_law_roll.nd
  fnG (G := GG P w K fa ca pp) 2 5 (mb := b_law_roll) (by rfl) T.fc_law_roll sc_law_roll (by rfl) (by rfl) (by rfl) (by rfl) (by rfl) (by rfl) (by rfl) fun A outer s H E hrG B po =>
    have hr := hrG.r
    (sss_cons (ss_if (st_cmp op_gt cmp_ok (se_ix (by rfl) (se_var 0) se_int) se_int) (sss_cons (ss_asg (sg_set (i := 2) nd rfl (.inl rfl)) (se_op op_modN mod_ok (se_callTy call_int1 int_ok (by rfl) T.z_int (by decide +kernel) (sa_cons (se_ix (by rfl) (se_var 0) se_int) sa_nil)) (se_var 1)))
    (sss_cons (ss_asg (sg_sub (W := fun c d _ H => E c d H) (se_var 0) se_int) (se_op op_fdivG fdiv_ok (se_ix (by rfl) (se_var 0) se_int) (se_var 1)))
    (sss_one (ss_ret (se_var 2))))) sss_nil)
    (sss_cons (ss_asg (sg_sub (W := fun c d _ H => E c d H) (se_var 0) se_int) (se_op op_plus plus_ok (se_ix (by rfl) (se_var 0) se_int) se_int))
    (sss_cons (ss_asg (sg_set (i := 3) nd rfl (.inl rfl)) (se_op op_modN mod_ok (se_callTy call_int1 int_ok (by rfl) T.z_int (by decide +kernel) (sa_cons (se_op op_plus plus_ok (se_ix (by rfl) (se_var 0) se_int) (se_op op_timesS timesS_ok se_int (se_ix (by rfl) (se_var 0) se_int))) sa_nil)) se_int))
    (sss_cons (ss_asg (sg_set (i := 4) nd rfl (.inl rfl)) (se_op op_plus plus_ok (se_op op_timesS timesS_ok (se_op op_modN mod_ok (se_callTy call_int1 int_ok (by rfl) T.z_int (by decide +kernel) (sa_cons (se_op op_plus plus_ok (se_op op_timesS timesS_ok (se_var 3) (se_var 3)) (se_op op_timesS timesS_ok se_int (se_ix (by rfl) (se_var 0) se_int))) sa_nil)) se_int) se_int) (se_var 3)))
    (sss_one (ss_ret (se_op op_modN mod_ok (se_callTy call_int1 int_ok (by rfl) T.z_int (by decide +kernel) (sa_cons (se_op op_fdivG fdiv_ok (se_var 4) se_int) sa_nil)) (se_var 1))))))))
def b_law_pick : MS := (mRet (eOp pyIx (eVar 1) (eCall 2 F_law_roll (eConsA (eVar 0) (eConsA (eB pyLen (eConsA (eVar 1) eNilA)) eNilA)))))
def F_law_pick : List CV → M CV := runB 2 2 b_law_pick
theorem sc_law_pick : FnScope ["dice", "items"] ["dice", "items"] (defScope s_law_pick) := ⟨rfl, rfl, rfl, by decide +kernel, rfl, by decide +kernel, by decide +kernel⟩
theorem bn_law_pick (T : Txt P w K mg base fa ca cc pp fd) : Binds K (fd 35) ["dice", "items"] [] := T.f_law_pick.binds fun _ _ _ _ _ _ us hl => match us, hl with | [_, _], _ => rfl
theorem ok_law_pick (T : Txt P w K mg base fa ca cc pp fd) : FnG P w K mg base 2 (fa 35) (fd 35) ["dice", "items"] (spH (GG P w K fa ca pp) 2 F_law_pick) :=
  have nd := sc_law_pick.nd
  fnG (G := GG P w K fa ca pp) 2 2 (mb := b_law_pick) (by rfl) T.fc_law_pick sc_law_pick (by rfl) (by rfl) (by rfl) (by rfl) (by rfl) (by rfl) (by rfl) fun A outer s H E hrG B po =>
    have hr := hrG.r
    (sss_one (ss_ret (se_ix (by rfl) (se_var 1) (se_callG B (ok_law_roll T) (hrG.mono (by decide)) (by rfl) T.d_law_roll T.f_law_roll.kp (bn_law_roll T) (sa_cons (se_var 0) (sa_cons (se_callB call_len len_ok (by rfl) T.z_len (by decide +kernel) (sa_cons (se_var 1) sa_nil)) sa_nil))))))
def b_law_met : M CV → MS := fun m => (mSeq (mTry (mExpr (fun _ => m)) [(cm_InvalidOperation, none, fun x => (mRet (eTup (eConsA (eC (.str (Str.ofString "refused"))) (eConsA (eC (.str (Str.ofString "operation"))) eNilA))))), (cm_InvalidNumber, some 1, fun x => (mRet (eTup (eConsA (eC (.str (Str.ofString "refused"))) (eConsA (eOp pyAdd (eC (.str (Str.ofString "number "))) (eB (one pyRepr) (eConsA (eXf 2 x) eNilA))) eNilA))))), (cm_TooMany, some 1, fun x => (mRet (eTup (eConsA (eC (.str (Str.ofString "refused"))) (eConsA (eOp pyAdd (eC (.str (Str.ofString "many "))) (eB (one pyRepr) (eConsA (eXf 3 x) eNilA))) eNilA))))), (cm_Refused, some 1, fun x => (mRet (eTup (eConsA (eC (.str (Str.ofString "refused"))) (eConsA (eOp pyAdd (eC (.str (Str.ofString "reason "))) (eB (one pyRepr) (eConsA (eXf 4 x) eNilA))) eNilA)))))])
    (mRet (eTup (eConsA (eC (.str (Str.ofString "refused"))) (eConsA (eC (.str (Str.ofString "fine"))) eNilA)))))
theorem sc_law_met : FnScope ["call", "e"] ["call"] (defScope s_law_met) := ⟨rfl, rfl, rfl, by decide +kernel, rfl, by decide +kernel, by decide +kernel⟩
theorem bn_law_met (T : Txt P w K mg base fa ca cc pp fd) : Binds K (fd 36) ["call"] [] := T.f_law_met.binds fun _ _ _ _ _ _ us hl => match us, hl with | [_], _ => rfl
theorem lm_law_met {X : Cx} (T : Txt X.prog X.w X.K X.mg X.base fa ca cc pp fd) (hrG : RoomG 1 X.A) (cdg : Value) (s : Shared) (H : Hp) (L : LI) (m : M CV) (hA : Acts (GG X.prog X.w X.K fa ca pp) (gCx X ["call", "e"] "_law_met" (defScope s_law_met) (fa 36) cdg s H).nox L "call" m) : SSs ((GG X.prog X.w X.K fa ca pp).sw none (some L)) W0 (gCx X ["call", "e"] "_law_met" (defScope s_law_met) (fa 36) cdg s H).nox (defBody s_law_met) (b_law_met m) :=
  have nd := sc_law_met.nd
  (sss_cons (ss_try ⟨by rfl, by rfl, by rfl, L2.takes0⟩ (by rfl) (by rfl) (by rfl) (fun W' pn xe B po => (sss_one (ss_expr (hA W' pn xe _ _ B.tk)))) (.cons ⟨⟨_, _, _, _, _, _, _, rfl, ⟨by rfl, by decide, .inl T.x_InvalidOperation.gC⟩, cm_InvalidOperation_ok T, ⟨rfl, fun a oe cls d pn x => (sss_one (ss_ret (se_tup (sa_cons se_str (sa_cons se_str sa_nil)))))⟩⟩⟩ (.cons ⟨⟨_, _, _, _, _, _, _, rfl, ⟨by rfl, by decide, .inl T.x_InvalidNumber.gC⟩, cm_InvalidNumber_ok T, ⟨nd, by rfl, ⟨_, rfl, rfl, rfl⟩, fun a oe cls d pn x hz hf => (sss_one (ss_ret (se_tup (sa_cons se_str (sa_cons (se_op op_plus plus_ok se_str (se_callB (cr_reprS hrG) repr_ok (by rfl) T.z_repr (by decide +kernel) (sa_cons (se_keepF T.x_InvalidNumber rfl rfl hz hf rfl (.inl rfl)) sa_nil))) sa_nil)))))⟩⟩⟩ (.cons ⟨⟨_, _, _, _, _, _, _, rfl, ⟨by rfl, by decide, .inl T.x_TooMany.gC⟩, cm_TooMany_ok T, ⟨nd, by rfl, ⟨_, rfl, rfl, rfl⟩, fun a oe cls d pn x hz hf => (sss_one (ss_ret (se_tup (sa_cons se_str (sa_cons (se_op op_plus plus_ok se_str (se_callB (cr_reprS hrG) repr_ok (by rfl) T.z_repr (by decide +kernel) (sa_cons (se_keepF T.x_TooMany rfl rfl hz hf rfl (.inl rfl)) sa_nil))) sa_nil)))))⟩⟩⟩ (.cons ⟨⟨_, _, _, _, _, _, _, rfl, ⟨by rfl, by decide, .inl T.x_Refused.gC⟩, cm_Refused_ok T, ⟨nd, by rfl, ⟨_, rfl, rfl, rfl⟩, fun a oe cls d pn x hz hf => (sss_one (ss_ret (se_tup (sa_cons se_str (sa_cons (se_op op_plus plus_ok se_str (se_callB (cr_reprS hrG) repr_ok (by rfl) T.z_repr (by decide +kernel) (sa_cons (se_keepF T.x_Refused rfl rfl hz hf rfl (.inl rfl)) sa_nil))) sa_nil)))))⟩⟩⟩ .nil)))))
    (sss_one (ss_ret (se_tup (sa_cons se_str (sa_cons se_str sa_nil))))))
def l_law_right_0 : Sl → M CV := (eDyn 7 [(28, 1, F_handles_of), (29, 1, F_tau_number), (30, 1, F_tau_terms), (32, 1, F_tau_by_rules)] (eConsA (eVar 1) eNilA))
def l_law_right_1 : Sl → M CV := (eDyn 7 [(28, 1, F_handles_of), (29, 1, F_tau_number), (30, 1, F_tau_terms), (32, 1, F_tau_by_rules)] (eConsA (eVar 2) eNilA))
def l_law_right_2 : MS := (mSeq (mExpr (eMt isLis pyAppend (eVar 5) (eConsA (eLam 2 b_law_met l_law_right_0) eNilA)))
    (mSeq (mExpr (eMt isLis pyAppend (eVar 5) (eConsA (eLam 2 b_law_met l_law_right_1) eNilA)))
    (mExpr (eMt isLis pyExtend (eVar 6) (eConsA (eLst (eConsA (eC (.str (Str.ofString "operation"))) (eConsA (eC (.str (Str.ofString "many 20"))) eNilA))) eNilA)))))
def l_law_right_3 : Sl → M CV := (eB (callF 2 F_tau_row) (eConsA (eVar 3) (eConsA (eVar 4) eNilA)))
def l_law_right_4 : Sl → M CV := (eB (callF 2 F_tau_row) (eConsA (eC (.int 0)) (eConsA (eVar 4) eNilA)))
def l_law_right_5 : Sl → M CV := (eB (callF 2 F_tau_row) (eConsA (eOp pyIx (eVar 8) (eC (.int 0))) (eConsA (eOp pyIx (eVar 8) (eC (.int 1))) eNilA)))
def l_law_right_6 : Sl → M CV := (eB (callF 2 F_tau_row) (eConsA (eOp pyIx (eVar 9) (eC (.int 0))) (eConsA (eOp pyIx (eVar 9) (eC (.int 1))) eNilA)))
def l_law_right_7 : Sl → M CV := (eTup (eConsA (eC (.str (Str.ofString "refused"))) (eConsA (eVar 10) eNilA)))
def b_law_right : MS := (mSeq (mAsg (gSet 1) (eCall 2 F_law_pick (eConsA (eVar 0) (eConsA (eLst (eConsA (eC .non) (eConsA (eC (.int 4)) (eConsA (eTup eNilA) (eConsA (eLst (eConsA (eC (.int 1)) eNilA)) (eConsA (eTup (eConsA (eUn pyNeg (eC (.int 1))) eNilA)) (eConsA (eTup (eConsA (eC (.bl true)) eNilA)) (eConsA (eTup (eConsA (eC (.str (Str.ofString "1"))) eNilA)) (eConsA (eTup (eConsA (eC (.int 1)) (eConsA (eC .non) eNilA))) (eConsA (eOp pyTimes (eTup (eConsA (eC (.int 0)) eNilA)) (eC (.int 9))) (eConsA (eTup (eConsA (eOp pyPow (eC (.int 10)) (eC (.int 60))) eNilA)) (eConsA (eTup (eConsA (eTup (eConsA (eC (.int 1)) eNilA)) eNilA)) (eConsA (eC (.dic false [] [])) (eConsA (eC (.str (Str.ofString "1"))) eNilA)))))))))))))) eNilA))))
    (mSeq (mAsg (gSet 2) (eCall 2 F_law_pick (eConsA (eVar 0) (eConsA (eLst (eConsA (eTup (eConsA (eC (.int 21)) eNilA)) (eConsA (eTup (eConsA (eC (.int 20)) (eConsA (eC (.int 1)) eNilA))) (eConsA (eOp pyTimes (eTup (eConsA (eC (.int 3)) eNilA)) (eC (.int 7))) (eConsA (eTup (eConsA (eC (.int 0)) (eConsA (eC (.int 21)) (eConsA (eC (.int 0)) eNilA)))) (eConsA (eTup (eConsA (eC (.int 10)) (eConsA (eC (.int 10)) (eConsA (eC (.int 10)) eNilA)))) eNilA)))))) eNilA))))
    (mSeq (mAsg (gUnp 2 (gConsT (gSet 3) (gConsT (gSet 4) gNilT))) (eTup (eConsA (eCall 2 F_law_pick (eConsA (eVar 0) (eConsA (eLst (eConsA (eC .non) (eConsA (eUn pyNeg (eC (.int 1))) (eConsA (eC (.bl true)) (eConsA (eC (.str (Str.ofString "1"))) (eConsA (eTup (eConsA (eC (.int 1)) eNilA)) (eConsA (eOp pyPow (eC (.int 10)) (eC (.int 60))) eNilA))))))) eNilA))) (eConsA (eCall 2 F_law_pick (eConsA (eVar 0) (eConsA (eLst (eConsA (eC .non) (eConsA (eC (.int 0)) (eConsA (eC (.int 9)) (eConsA (eC (.bl true)) (eConsA (eC (.str (Str.ofString "1"))) (eConsA (eTup (eConsA (eC (.int 1)) eNilA)) eNilA))))))) eNilA))) eNilA))))
    (mSeq (mPar 5 6 (eConsA (eNew eNilA) (eConsA (eNew eNilA) eNilA)))
    (mSeq (mFor (iSeq (eTup (eConsA (eC (.fn 29)) (eConsA (eC (.fn 30)) (eConsA (eC (.fn 32)) (eConsA (eC (.fn 28)) eNilA)))))) (gSet 7) l_law_right_2)
    (mSeq (mAsg (gUnp 2 (gConsT (gSet 8) (gConsT (gSet 9) gNilT))) (eTup (eConsA (eCall 2 F_law_pick (eConsA (eVar 0) (eConsA (eLst (eConsA (eTup (eConsA (eC (.int 0)) (eConsA (eC (.int 1)) eNilA))) (eConsA (eTup (eConsA (eC (.int 0)) (eConsA (eC (.int 2)) eNilA))) eNilA))) eNilA))) (eConsA (eCall 2 F_law_pick (eConsA (eVar 0) (eConsA (eLst (eConsA (eTup (eConsA (eC (.int 0)) (eConsA (eC (.int 7)) eNilA))) (eConsA (eTup (eConsA (eC (.int 0)) (eConsA (eC (.int 8)) eNilA))) (eConsA (eTup (eConsA (eC (.int 1)) (eConsA (eC (.int 6)) eNilA))) (eConsA (eTup (eConsA (eC (.int 2)) (eConsA (eC (.int 3)) eNilA))) (eConsA (eTup (eConsA (eC (.int 3)) (eConsA (eC (.int 1)) eNilA))) (eConsA (eTup (eConsA (eOp pyPow (eC (.int 10)) (eC (.int 9))) (eConsA (eC (.int 1)) eNilA))) eNilA))))))) eNilA))) eNilA))))
    (mSeq (mExpr (eMt isLis pyAppend (eVar 5) (eConsA (eLam 2 b_law_met l_law_right_3) eNilA)))
    (mSeq (mExpr (eMt isLis pyAppend (eVar 5) (eConsA (eLam 2 b_law_met l_law_right_4) eNilA)))
    (mSeq (mExpr (eMt isLis pyAppend (eVar 5) (eConsA (eLam 2 b_law_met l_law_right_5) eNilA)))
    (mSeq (mExpr (eMt isLis pyAppend (eVar 5) (eConsA (eLam 2 b_law_met l_law_right_6) eNilA)))
    (mSeq (mExpr (eMt isLis pyExtend (eVar 6) (eConsA (eLst (eConsA (eOp pyAdd (eC (.str (Str.ofString "number "))) (eB (one pyRepr) (eConsA (eVar 3) eNilA))) (eConsA (eOp pyAdd (eC (.str (Str.ofString "number "))) (eB (one pyRepr) (eConsA (eVar 4) eNilA))) (eConsA (eC (.str (Str.ofString "reason ('pair',)"))) (eConsA (eC (.str (Str.ofString "many 5"))) eNilA))))) eNilA)))
    (mRet (eOp (pyEq false) (eVar 5) (eLcA (iSeqA (eVar 6)) (gSet 10) bYes l_law_right_7 [10]))))))))))))))
def F_law_right : List CV → M CV := runB 1 11 b_law_right
theorem sc_law_right : FnScope ["dice", "bad", "wide", "handles", "many", "told", "due", "call", "pair", "far", "word"] ["dice"] (defScope s_law_right) := ⟨rfl, rfl, rfl, by decide +kernel, rfl, by decide +kernel, by decide +kernel⟩
theorem bn_law_right (T : Txt P w K mg base fa ca cc pp fd) : Binds K (fd 37) ["dice"] [] := T.f_law_right.binds fun _ _ _ _ _ _ us hl => match us, hl with | [_], _ => rfl
theorem ok_law_right (T : Txt P w K mg base fa ca cc pp fd) : FnG P w K mg base 24 (fa 37) (fd 37) ["dice"] (spH (GG P w K fa ca pp) 1 F_law_right) :=
  have nd := sc_law_right.nd
  fnG (G := GG P w K fa ca pp) 1 11 (mb := b_law_right) (by rfl) T.fc_law_right sc_law_right (by rfl) (by rfl) (by rfl) (by rfl) (by rfl) (by rfl) (by rfl) fun A outer s H E hrG B po =>
    have hr := hrG.r
    (sss_cons (ss_asg (sg_set (i := 1) nd rfl (.inr rfl)) (se_callG B (ok_law_pick T) (hrG.mono (by decide)) (by rfl) T.d_law_pick T.f_law_pick.kp (bn_law_pick T) (sa_cons (se_var 0) (sa_cons (se_lst (sa_cons se_non (sa_cons se_int (sa_cons (se_tup sa_nil) (sa_cons (se_lst (sa_cons se_int sa_nil)) (sa_cons (se_tup (sa_cons (se_un un_neg neg_ok se_int) sa_nil)) (sa_cons (se_tup (sa_cons se_bl sa_nil)) (sa_cons (se_tup (sa_cons se_str sa_nil)) (sa_cons (se_tup (sa_cons se_int (sa_cons se_non sa_nil))) (sa_cons (se_op op_timesS timesS_ok (se_tup (sa_cons se_int sa_nil)) se_int) (sa_cons (se_tup (sa_cons (se_op op_pow pow_ok se_int se_int) sa_nil)) (sa_cons (se_tup (sa_cons (se_tup (sa_cons se_int sa_nil)) sa_nil)) (sa_cons se_dict0 (sa_cons se_str sa_nil)))))))))))))) sa_nil))))
    (sss_cons (ss_asg (sg_set (i := 2) nd rfl (.inr rfl)) (se_callG B (ok_law_pick T) (hrG.mono (by decide)) (by rfl) T.d_law_pick T.f_law_pick.kp (bn_law_pick T) (sa_cons (se_var 0) (sa_cons (se_lst (sa_cons (se_tup (sa_cons se_int sa_nil)) (sa_cons (se_tup (sa_cons se_int (sa_cons se_int sa_nil))) (sa_cons (se_op op_timesS timesS_ok (se_tup (sa_cons se_int sa_nil)) se_int) (sa_cons (se_tup (sa_cons se_int (sa_cons se_int (sa_cons se_int sa_nil)))) (sa_cons (se_tup (sa_cons se_int (sa_cons se_int (sa_cons se_int sa_nil)))) sa_nil)))))) sa_nil))))
    (sss_cons (ss_asg (sg_unp rfl rfl (sgs_cons (sg_set (i := 3) nd rfl (.inr rfl)) (sgs_cons (sg_set (i := 4) nd rfl (.inr rfl)) sgs_nil))) (se_tup (sa_cons (se_callG B (ok_law_pick T) (hrG.mono (by decide)) (by rfl) T.d_law_pick T.f_law_pick.kp (bn_law_pick T) (sa_cons (se_var 0) (sa_cons (se_lst (sa_cons se_non (sa_cons (se_un un_neg neg_ok se_int) (sa_cons se_bl (sa_cons se_str (sa_cons (se_tup (sa_cons se_int sa_nil)) (sa_cons (se_op op_pow pow_ok se_int se_int) sa_nil))))))) sa_nil))) (sa_cons (se_callG B (ok_law_pick T) (hrG.mono (by decide)) (by rfl) T.d_law_pick T.f_law_pick.kp (bn_law_pick T) (sa_cons (se_var 0) (sa_cons (se_lst (sa_cons se_non (sa_cons se_int (sa_cons se_int (sa_cons se_bl (sa_cons se_str (sa_cons (se_tup (sa_cons se_int sa_nil)) sa_nil))))))) sa_nil))) sa_nil))))
    (sss_cons (ss_par (i := 5) (j := 6) rfl nd rfl rfl (by decide) rfl rfl (sa_cons (se_new sa_nil) (sa_cons (se_new sa_nil) sa_nil)) (by rfl))
    (sss_cons (ss_for po rfl (si_seq (by rfl) (se_tup (sa_cons (se_glo (v := .ref (fa 29)) (by rfl) T.d_tau_number rfl fun _ _ => rfl) (sa_cons (se_glo (v := .ref (fa 30)) (by rfl) T.d_tau_terms rfl fun _ _ => rfl) (sa_cons (se_glo (v := .ref (fa 32)) (by rfl) T.d_tau_by_rules rfl fun _ _ => rfl) (sa_cons (se_glo (v := .ref (fa 28)) (by rfl) T.d_handles_of rfl fun _ _ => rfl) sa_nil)))))) (sg_set (i := 7) nd rfl (.inr rfl)) (sss_cons (ss_expr (se_mt isLis_ty PySem.F.plainAttrs_list PySem.F.slot_list_append PySem.F.type_list_append mt_append append_ok (se_var 5) (sa_cons (se_lam (k := 19) (by rfl) (by rfl) (by rfl) (by rfl) T.d_law_met T.f_law_met sc_law_met rfl rfl (.inl rfl) T.t_law_right rfl (q := (Str.ofString "_law_right" ++ Str.ofString ".<locals>.") ++ Str.ofString "<lambda>") (by kernel_rfl) T.v_law_right T.u_law_right (hr.mono (by decide)) (lamS_by (by kernel_rfl)) rfl (bn_law_met T) (fun _ _ _ _ _ => rfl) (fun A outer s H E f c2 hg hr => have hrG := hrG.ofL hg hr; (se_callVQ ⟨by rfl, by rfl, by rfl, takes_of rfl rfl rfl rfl⟩ (by rfl) (by rfl) (.cons (FnG.q (ok_handles_of T) (bn_handles_of T)) (hrG.mono (by decide)) T.f_handles_of.kp (.cons (FnG.q (ok_tau_number T) (bn_tau_number T)) (hrG.mono (by decide)) T.f_tau_number.kp (.cons (FnG.q (ok_tau_terms T) (bn_tau_terms T)) (hrG.mono (by decide)) T.f_tau_terms.kp (.cons (FnG.q (ok_tau_by_rules T) (bn_tau_by_rules T)) (hrG.mono (by decide)) T.f_tau_by_rules.kp .nil)))) (i := 7) rfl (by first | exact Or.inl rfl | exact Or.inr (Or.inl rfl) | exact Or.inr (Or.inr rfl)) (sa_cons (se_var 1) sa_nil))) (fun cdg s H L m hA => lm_law_met T (hrG.mono (by decide)) cdg s H L m hA)) sa_nil)))
    (sss_cons (ss_expr (se_mt isLis_ty PySem.F.plainAttrs_list PySem.F.slot_list_append PySem.F.type_list_append mt_append append_ok (se_var 5) (sa_cons (se_lam (k := 19) (by rfl) (by rfl) (by rfl) (by rfl) T.d_law_met T.f_law_met sc_law_met rfl rfl (.inl rfl) T.t_law_right rfl (q := (Str.ofString "_law_right" ++ Str.ofString ".<locals>.") ++ Str.ofString "<lambda>") (by kernel_rfl) T.v_law_right T.u_law_right (hr.mono (by decide)) (lamS_by (by kernel_rfl)) rfl (bn_law_met T) (fun _ _ _ _ _ => rfl) (fun A outer s H E f c2 hg hr => have hrG := hrG.ofL hg hr; (se_callVQ ⟨by rfl, by rfl, by rfl, takes_of rfl rfl rfl rfl⟩ (by rfl) (by rfl) (.cons (FnG.q (ok_handles_of T) (bn_handles_of T)) (hrG.mono (by decide)) T.f_handles_of.kp (.cons (FnG.q (ok_tau_number T) (bn_tau_number T)) (hrG.mono (by decide)) T.f_tau_number.kp (.cons (FnG.q (ok_tau_terms T) (bn_tau_terms T)) (hrG.mono (by decide)) T.f_tau_terms.kp (.cons (FnG.q (ok_tau_by_rules T) (bn_tau_by_rules T)) (hrG.mono (by decide)) T.f_tau_by_rules.kp .nil)))) (i := 7) rfl (by first | exact Or.inl rfl | exact Or.inr (Or.inl rfl) | exact Or.inr (Or.inr rfl)) (sa_cons (se_var 2) sa_nil))) (fun cdg s H L m hA => lm_law_met T (hrG.mono (by decide)) cdg s H L m hA)) sa_nil)))
    (sss_one (ss_expr (se_mt isLis_ty PySem.F.plainAttrs_list PySem.F.slot_list_extend PySem.F.type_list_extend mt_extend extend_ok (se_var 6) (sa_cons (se_lst (sa_cons se_str (sa_cons se_str sa_nil))) sa_nil)))))))
    (sss_cons (ss_asg (sg_unp rfl rfl (sgs_cons (sg_set (i := 8) nd rfl (.inr rfl)) (sgs_cons (sg_set (i := 9) nd rfl (.inr rfl)) sgs_nil))) (se_tup (sa_cons (se_callG B (ok_law_pick T) (hrG.mono (by decide)) (by rfl) T.d_law_pick T.f_law_pick.kp (bn_law_pick T) (sa_cons (se_var 0) (sa_cons (se_lst (sa_cons (se_tup (sa_cons se_int (sa_cons se_int sa_nil))) (sa_cons (se_tup (sa_cons se_int (sa_cons se_int sa_nil))) sa_nil))) sa_nil))) (sa_cons (se_callG B (ok_law_pick T) (hrG.mono (by decide)) (by rfl) T.d_law_pick T.f_law_pick.kp (bn_law_pick T) (sa_cons (se_var 0) (sa_cons (se_lst (sa_cons (se_tup (sa_cons se_int (sa_cons se_int sa_nil))) (sa_cons (se_tup (sa_cons se_int (sa_cons se_int sa_nil))) (sa_cons (se_tup (sa_cons se_int (sa_cons se_int sa_nil))) (sa_cons (se_tup (sa_cons se_int (sa_cons se_int sa_nil))) (sa_cons (se_tup (sa_cons se_int (sa_cons se_int sa_nil))) (sa_cons (se_tup (sa_cons (se_op op_pow pow_ok se_int se_int) (sa_cons se_int sa_nil))) sa_nil))))))) sa_nil))) sa_nil))))
    (sss_cons (ss_expr (se_mt isLis_ty PySem.F.plainAttrs_list PySem.F.slot_list_append PySem.F.type_list_append mt_append append_ok (se_var 5) (sa_cons (se_lam (k := 19) (by rfl) (by rfl) (by rfl) (by rfl) T.d_law_met T.f_law_met sc_law_met rfl rfl (.inl rfl) T.t_law_right rfl (q := (Str.ofString "_law_right" ++ Str.ofString ".<locals>.") ++ Str.ofString "<lambda>") (by kernel_rfl) T.v_law_right T.u_law_right (hr.mono (by decide)) (lamS_by (by kernel_rfl)) rfl (bn_law_met T) (fun _ _ _ _ _ => rfl) (fun A outer s H E f c2 hg hr => have hrG := hrG.ofL hg hr; (se_callFG ⟨by rfl, by rfl, by rfl, takes_of rfl rfl rfl rfl⟩ (by rfl) (by rfl) (ok_tau_row T) (hrG.mono (by decide)) (by rfl) T.d_tau_row T.f_tau_row.kp (bn_tau_row T) (sa_cons (se_var 3) (sa_cons (se_var 4) sa_nil)))) (fun cdg s H L m hA => lm_law_met T (hrG.mono (by decide)) cdg s H L m hA)) sa_nil)))
    (sss_cons (ss_expr (se_mt isLis_ty PySem.F.plainAttrs_list PySem.F.slot_list_append PySem.F.type_list_append mt_append append_ok (se_var 5) (sa_cons (se_lam (k := 19) (by rfl) (by rfl) (by rfl) (by rfl) T.d_law_met T.f_law_met sc_law_met rfl rfl (.inl rfl) T.t_law_right rfl (q := (Str.ofString "_law_right" ++ Str.ofString ".<locals>.") ++ Str.ofString "<lambda>") (by kernel_rfl) T.v_law_right T.u_law_right (hr.mono (by decide)) (lamS_by (by kernel_rfl)) rfl (bn_law_met T) (fun _ _ _ _ _ => rfl) (fun A outer s H E f c2 hg hr => have hrG := hrG.ofL hg hr; (se_callFG ⟨by rfl, by rfl, by rfl, takes_of rfl rfl rfl rfl⟩ (by rfl) (by rfl) (ok_tau_row T) (hrG.mono (by decide)) (by rfl) T.d_tau_row T.f_tau_row.kp (bn_tau_row T) (sa_cons se_int (sa_cons (se_var 4) sa_nil)))) (fun cdg s H L m hA => lm_law_met T (hrG.mono (by decide)) cdg s H L m hA)) sa_nil)))
    (sss_cons (ss_expr (se_mt isLis_ty PySem.F.plainAttrs_list PySem.F.slot_list_append PySem.F.type_list_append mt_append append_ok (se_var 5) (sa_cons (se_lam (k := 19) (by rfl) (by rfl) (by rfl) (by rfl) T.d_law_met T.f_law_met sc_law_met rfl rfl (.inl rfl) T.t_law_right rfl (q := (Str.ofString "_law_right" ++ Str.ofString ".<locals>.") ++ Str.ofString "<lambda>") (by kernel_rfl) T.v_law_right T.u_law_right (hr.mono (by decide)) (lamS_by (by kernel_rfl)) rfl (bn_law_met T) (fun _ _ _ _ _ => rfl) (fun A outer s H E f c2 hg hr => have hrG := hrG.ofL hg hr; (se_callFG ⟨by rfl, by rfl, by rfl, takes_of rfl rfl rfl rfl⟩ (by rfl) (by rfl) (ok_tau_row T) (hrG.mono (by decide)) (by rfl) T.d_tau_row T.f_tau_row.kp (bn_tau_row T) (sa_cons (se_ix (by rfl) (se_var 8) se_int) (sa_cons (se_ix (by rfl) (se_var 8) se_int) sa_nil)))) (fun cdg s H L m hA => lm_law_met T (hrG.mono (by decide)) cdg s H L m hA)) sa_nil)))
    (sss_cons (ss_expr (se_mt isLis_ty PySem.F.plainAttrs_list PySem.F.slot_list_append PySem.F.type_list_append mt_append append_ok (se_var 5) (sa_cons (se_lam (k := 19) (by rfl) (by rfl) (by rfl) (by rfl) T.d_law_met T.f_law_met sc_law_met rfl rfl (.inl rfl) T.t_law_right rfl (q := (Str.ofString "_law_right" ++ Str.ofString ".<locals>.") ++ Str.ofString "<lambda>") (by kernel_rfl) T.v_law_right T.u_law_right (hr.mono (by decide)) (lamS_by (by kernel_rfl)) rfl (bn_law_met T) (fun _ _ _ _ _ => rfl) (fun A outer s H E f c2 hg hr => have hrG := hrG.ofL hg hr; (se_callFG ⟨by rfl, by rfl, by rfl, takes_of rfl rfl rfl rfl⟩ (by rfl) (by rfl) (ok_tau_row T) (hrG.mono (by decide)) (by rfl) T.d_tau_row T.f_tau_row.kp (bn_tau_row T) (sa_cons (se_ix (by rfl) (se_var 9) se_int) (sa_cons (se_ix (by rfl) (se_var 9) se_int) sa_nil)))) (fun cdg s H L m hA => lm_law_met T (hrG.mono (by decide)) cdg s H L m hA)) sa_nil)))
    (sss_cons (ss_expr (se_mt isLis_ty PySem.F.plainAttrs_list PySem.F.slot_list_extend PySem.F.type_list_extend mt_extend extend_ok (se_var 6) (sa_cons (se_lst (sa_cons (se_op op_plus plus_ok se_str (se_callB (cr_repr hrG) repr_ok (by rfl) T.z_repr (by decide +kernel) (sa_cons (se_var 3) sa_nil))) (sa_cons (se_op op_plus plus_ok se_str (se_callB (cr_repr hrG) repr_ok (by rfl) T.z_repr (by decide +kernel) (sa_cons (se_var 4) sa_nil))) (sa_cons se_str (sa_cons se_str sa_nil))))) sa_nil)))
    (sss_one (ss_ret (se_cmp (op_eqD hr.units) eq_ok (se_var 5) (se_lcA (own := [("word", 10)]) (g := (gName 10)) rfl nd (si_seqA (by rfl) (se_var 6)) (blkOk_by (N := ["dice", "bad", "wide", "handles", "many", "told", "due", "call", "pair", "far", "word"]) (sc := defScope s_law_right) (by decide +kernel)) (lcg_set (by decide)) (fun _ _ _ _ _ => (pg_name (i := 10) nd rfl (by first | exact .inl rfl | exact .inr rfl))) (fun _ _ _ _ _ => sts_nil) (fun _ _ _ _ _ => (se_tup (sa_cons se_str (sa_cons (se_var 10) sa_nil)))))))))))))))))))
def l_law_0 : MS := (mSeq (mAsg (gSet 2) (eCall 2 F_law_dice (eConsA (eVar 0) (eConsA (eVar 1) eNilA))))
    (mIf (bOr (bNot (bOf (eCall 1 F_law_right (eConsA (eVar 2) eNilA)))) (bNot (bOf (eCall 1 F_law_right (eConsA (eVar 2) eNilA))))) (mRet (eC (.bl false))) mNil))
def l_law_1 : Sl → M CV := (eB (callF 1 F_tau_number) (eConsA (eTup (eConsA (eC (.int 20)) eNilA)) eNilA))
def l_law_2 : Sl → M CV := (eB (callF 1 F_tau_terms) (eConsA (eOp pyTimes (eTup (eConsA (eC (.int 0)) eNilA)) (eC (.int 8))) eNilA))
def l_law_3 : Sl → M CV := (eB (callF 1 F_handles_of) (eConsA (eTup (eConsA (eC (.int 5)) (eConsA (eC (.int 5)) (eConsA (eC (.int 5)) (eConsA (eC (.int 5)) eNilA))))) eNilA))
def l_law_4 : Sl → M CV := (eB (callF 2 F_tau_row) (eConsA (eC (.int 0)) (eConsA (eC (.int 6)) eNilA)))
def b_law : MS := (mSeq (mFor (iArgs rng1 (eConsA (eB pyMax (eConsA (eC (.int 1)) (eConsA (eB pyMin (eConsA (eC (.int 4)) (eConsA (eB pyLen (eConsA (eVar 0) eNilA)) eNilA))) eNilA))) eNilA)) (gSet 1) l_law_0)
    (mSeq (mAsg (gSet 3) (eNew (eConsA (eLam 2 b_law_met l_law_1) eNilA)))
    (mSeq (mExpr (eMt isLis pyAppend (eVar 3) (eConsA (eLam 2 b_law_met l_law_2) eNilA)))
    (mSeq (mExpr (eMt isLis pyAppend (eVar 3) (eConsA (eLam 2 b_law_met l_law_3) eNilA)))
    (mSeq (mExpr (eMt isLis pyAppend (eVar 3) (eConsA (eLam 2 b_law_met l_law_4) eNilA)))
    (mRet (eAnd (eOp (pyEq false) (eVar 3) (eOp pyTimes (eLst (eConsA (eTup (eConsA (eC (.str (Str.ofString "refused"))) (eConsA (eC (.str (Str.ofString "fine"))) eNilA))) eNilA)) (eC (.int 4)))) (eOp (pyEq false) (eLst (eConsA (eC (.int 8)) (eConsA (eC (.int 20)) eNilA))) (eLst (eConsA (eC (.int 8)) (eConsA (eC (.int 20)) eNilA)))))))))))
def F_law : List CV → M CV := runB 1 4 b_law
theorem sc_law : FnScope ["script", "spot", "dice", "told"] ["script"] (defScope s_law) := ⟨rfl, rfl, rfl, by decide +kernel, rfl, by decide +kernel, by decide +kernel⟩
theorem bn_law (T : Txt P w K mg base fa ca cc pp fd) : Binds K (fd 38) ["script"] [] := T.f_law.binds fun _ _ _ _ _ _ us hl => match us, hl with | [_], _ => rfl
theorem ok_law (T : Txt P w K mg base fa ca cc pp fd) : FnG P w K mg base 25 (fa 38) (fd 38) ["script"] (spH (GG P w K fa ca pp) 1 F_law) :=
  have nd := sc_law.nd
  fnG (G := GG P w K fa ca pp) 1 4 (mb := b_law) (by rfl) T.fc_law sc_law (by rfl) (by rfl) (by rfl) (by rfl) (by rfl) (by rfl) (by rfl) fun A outer s H E hrG B po =>
    have hr := hrG.r
    (sss_cons (ss_for po rfl (si_rng1 (by rfl) T.z_range (sa_cons (se_callB (call_max2 rfl) max_ok (by rfl) T.z_max (by decide +kernel) (sa_cons se_int (sa_cons (se_callB (call_min2 rfl) min_ok (by rfl) T.z_min (by decide +kernel) (sa_cons se_int (sa_cons (se_callB call_len len_ok (by rfl) T.z_len (by decide +kernel) (sa_cons (se_var 0) sa_nil)) sa_nil))) sa_nil))) sa_nil)) (sg_set (i := 1) nd rfl (.inl rfl)) (sss_cons (ss_asg (sg_set (i := 2) nd rfl (.inl rfl)) (se_callG B (ok_law_dice T) (hrG.mono (by decide)) (by rfl) T.d_law_dice T.f_law_dice.kp (bn_law_dice T) (sa_cons (se_var 0) (sa_cons (se_var 1) sa_nil))))
    (sss_one (ss_if (st_bool (sw_or (st_not (st_val (se_callG B (ok_law_right T) (hrG.mono (by decide)) (by rfl) T.d_law_right T.f_law_right.kp (bn_law_right T) (sa_cons (se_var 2) sa_nil)))) (sw_or1 (st_not (st_val (se_callG B (ok_law_right T) (hrG.mono (by decide)) (by rfl) T.d_law_right T.f_law_right.kp (bn_law_right T) (sa_cons (se_var 2) sa_nil))))))) (sss_one (ss_ret se_bl)) sss_nil))))
    (sss_cons (ss_asg (sg_set (i := 3) nd rfl (.inl rfl)) (se_new (sa_cons (se_lam (k := 19) (by rfl) (by rfl) (by rfl) (by rfl) T.d_law_met T.f_law_met sc_law_met rfl rfl (.inl rfl) T.t_law rfl (q := (Str.ofString "law" ++ Str.ofString ".<locals>.") ++ Str.ofString "<lambda>") (by kernel_rfl) T.v_law T.u_law (hr.mono (by decide)) (lamS_by (by kernel_rfl)) rfl (bn_law_met T) (fun _ _ _ _ _ => rfl) (fun A outer s H E f c2 hg hr => have hrG := hrG.ofL hg hr; (se_callFG ⟨by rfl, by rfl, by rfl, takes_of rfl rfl rfl rfl⟩ (by rfl) (by rfl) (ok_tau_number T) (hrG.mono (by decide)) (by rfl) T.d_tau_number T.f_tau_number.kp (bn_tau_number T) (sa_cons (se_tup (sa_cons se_int sa_nil)) sa_nil))) (fun cdg s H L m hA => lm_law_met T (hrG.mono (by decide)) cdg s H L m hA)) sa_nil)))
    (sss_cons (ss_expr (se_mt isLis_ty PySem.F.plainAttrs_list PySem.F.slot_list_append PySem.F.type_list_append mt_append append_ok (se_var 3) (sa_cons (se_lam (k := 19) (by rfl) (by rfl) (by rfl) (by rfl) T.d_law_met T.f_law_met sc_law_met rfl rfl (.inl rfl) T.t_law rfl (q := (Str.ofString "law" ++ Str.ofString ".<locals>.") ++ Str.ofString "<lambda>") (by kernel_rfl) T.v_law T.u_law (hr.mono (by decide)) (lamS_by (by kernel_rfl)) rfl (bn_law_met T) (fun _ _ _ _ _ => rfl) (fun A outer s H E f c2 hg hr => have hrG := hrG.ofL hg hr; (se_callFG ⟨by rfl, by rfl, by rfl, takes_of rfl rfl rfl rfl⟩ (by rfl) (by rfl) (ok_tau_terms T) (hrG.mono (by decide)) (by rfl) T.d_tau_terms T.f_tau_terms.kp (bn_tau_terms T) (sa_cons (se_op op_timesS timesS_ok (se_tup (sa_cons se_int sa_nil)) se_int) sa_nil))) (fun cdg s H L m hA => lm_law_met T (hrG.mono (by decide)) cdg s H L m hA)) sa_nil)))
    (sss_cons (ss_expr (se_mt isLis_ty PySem.F.plainAttrs_list PySem.F.slot_list_append PySem.F.type_list_append mt_append append_ok (se_var 3) (sa_cons (se_lam (k := 19) (by rfl) (by rfl) (by rfl) (by rfl) T.d_law_met T.f_law_met sc_law_met rfl rfl (.inl rfl) T.t_law rfl (q := (Str.ofString "law" ++ Str.ofString ".<locals>.") ++ Str.ofString "<lambda>") (by kernel_rfl) T.v_law T.u_law (hr.mono (by decide)) (lamS_by (by kernel_rfl)) rfl (bn_law_met T) (fun _ _ _ _ _ => rfl) (fun A outer s H E f c2 hg hr => have hrG := hrG.ofL hg hr; (se_callFG ⟨by rfl, by rfl, by rfl, takes_of rfl rfl rfl rfl⟩ (by rfl) (by rfl) (ok_handles_of T) (hrG.mono (by decide)) (by rfl) T.d_handles_of T.f_handles_of.kp (bn_handles_of T) (sa_cons (se_tup (sa_cons se_int (sa_cons se_int (sa_cons se_int (sa_cons se_int sa_nil))))) sa_nil))) (fun cdg s H L m hA => lm_law_met T (hrG.mono (by decide)) cdg s H L m hA)) sa_nil)))
    (sss_cons (ss_expr (se_mt isLis_ty PySem.F.plainAttrs_list PySem.F.slot_list_append PySem.F.type_list_append mt_append append_ok (se_var 3) (sa_cons (se_lam (k := 19) (by rfl) (by rfl) (by rfl) (by rfl) T.d_law_met T.f_law_met sc_law_met rfl rfl (.inl rfl) T.t_law rfl (q := (Str.ofString "law" ++ Str.ofString ".<locals>.") ++ Str.ofString "<lambda>") (by kernel_rfl) T.v_law T.u_law (hr.mono (by decide)) (lamS_by (by kernel_rfl)) rfl (bn_law_met T) (fun _ _ _ _ _ => rfl) (fun A outer s H E f c2 hg hr => have hrG := hrG.ofL hg hr; (se_callFG ⟨by rfl, by rfl, by rfl, takes_of rfl rfl rfl rfl⟩ (by rfl) (by rfl) (ok_tau_row T) (hrG.mono (by decide)) (by rfl) T.d_tau_row T.f_tau_row.kp (bn_tau_row T) (sa_cons se_int (sa_cons se_int sa_nil)))) (fun cdg s H L m hA => lm_law_met T (hrG.mono (by decide)) cdg s H L m hA)) sa_nil)))
    (sss_one (ss_ret (se_and (se_cmp (op_eqD hr.units) eq_ok (se_var 3) (se_op op_timesS timesS_ok (se_lst (sa_cons (se_tup (sa_cons se_str (sa_cons se_str sa_nil))) sa_nil)) se_int)) (se_and1 (se_cmp (op_eqD hr.units) eq_ok (se_lst (sa_cons (se_gint (by rfl) T.c_MOST_EXPONENTS.choose_spec) (sa_cons (se_gint (by rfl) T.c_MOST_SUM.choose_spec) sa_nil))) (se_lst (sa_cons se_int (sa_cons se_int sa_nil)))))))))))))
end
end Lw
end
noncomputable section
namespace Lw
open PySem PySem.Spec PyProof.Rows L2 LamX VE
def faL0 : List (PySem.W.Frag → Bool) := [gloB "is_whole",
  gloB "is_integer",
  gloB "fraction_in",
  gloB "sum_in",
  gloB "product_in",
  gloB "total_in",
  gloB "product_from",
  gloB "handles_in",
  gloB "odd_of",
  gloB "falling",
  gloB "shared",
  gloB "joined_terms_of",
  gloB "parted_terms_of",
  gloB "is_start",
  gloB "terms_in",
  gloB "start_number",
  gloB "tau_kept",
  gloB "tau_in",
  gloB "partings",
  gloB "tau_row_in",
  gloB "by_rules",
  gloB "require_exponents",
  gloB "require_pair",
  gloB "handles_of",
  gloB "tau_number",
  gloB "tau_terms",
  gloB "tau_row",
  gloB "tau_by_rules",
  gloB "_law_dice",
  gloB "_law_roll",
  gloB "_law_pick",
  gloB "_law_met",
  gloB "_law_right",
  gloB "law",
  neB (fun K => (He.ga K "law")) (fun K => (He.ga K "_law_right")),
  neB (fun K => (He.ga K "_law_right")) (fun K => (He.ga K "law")),
  plainB "InvalidOperation" [.type "ValueError", .type "Exception", .type "BaseException", .type "object"] "ValueError.__new__",
  keepB "InvalidNumber" "given" "IndexError" "IndexError.__new__" "IndexError.__init__" [.type "IndexError", .type "LookupError", .type "Exception", .type "BaseException", .type "object"] PySem.Challenge.pw_bandrims_k52_errors_of_tau_numbers.main.file,
  keepB "TooMany" "limit" "OverflowError" "OverflowError.__new__" "OverflowError.__init__" [.type "OverflowError", .type "ArithmeticError", .type "Exception", .type "BaseException", .type "object"] PySem.Challenge.pw_bandrims_k52_errors_of_tau_numbers.main.file,
  keepB "Refused" "reason" "ArithmeticError" "ArithmeticError.__new__" "ArithmeticError.__init__" [.type "ArithmeticError", .type "Exception", .type "BaseException", .type "object"] PySem.Challenge.pw_bandrims_k52_errors_of_tau_numbers.main.file]
def faL1 : List (PySem.W.Frag → Bool) := [exmB "InvalidOperation" "InvalidOperation" true,
  exmB "InvalidNumber" "InvalidOperation" false,
  exmB "TooMany" "InvalidOperation" false,
  exmB "Refused" "InvalidOperation" false,
  exmB "InvalidOperation" "InvalidNumber" false,
  exmB "InvalidNumber" "InvalidNumber" true,
  exmB "TooMany" "InvalidNumber" false,
  exmB "Refused" "InvalidNumber" false,
  exmB "InvalidOperation" "TooMany" false,
  exmB "InvalidNumber" "TooMany" false,
  exmB "TooMany" "TooMany" true,
  exmB "Refused" "TooMany" false,
  exmB "InvalidOperation" "Refused" false,
  exmB "InvalidNumber" "Refused" false,
  exmB "TooMany" "Refused" false,
  exmB "Refused" "Refused" true,
  freeB "abs",
  freeB "all",
  freeB "bool",
  freeB "enumerate",
  freeB "int",
  freeB "isinstance",
  freeB "len",
  freeB "list",
  freeB "max",
  freeB "min",
  freeB "range",
  freeB "repr",
  freeB "sorted",
  freeB "sum",
  freeB "tuple",
  bltB "gcd" "math.gcd",
  (fun K => (He.Fa.int "BOUND" 1000000000000000000000000000000000000000000000000000000000000).ok K),
  (fun K => (He.Fa.int "LONE" 24).ok K),
  (fun K => (He.Fa.int "MAX_DEPTH" 5).ok K),
  (fun K => (He.Fa.int "MOST_EXPONENTS" 8).ok K),
  (fun K => (He.Fa.int "MOST_MANY" 8).ok K),
  (fun K => (He.Fa.int "MOST_RIMS" 6).ok K),
  (fun K => (He.Fa.int "MOST_SUM" 20).ok K),
  gkB "ONE" (.tup [(.int 1), (.int 1)])]
def faL2 : List (PySem.W.Frag → Bool) := [(fun K => (He.Fa.str "PAIR" (Str.ofString "pair")).ok K),
  gkB "ZERO_numbers" (.tup [(.int 0), (.int 1)]),
  gkB "ZERO_tau" (.tup [(.int 0), (.int 1)]),
  tbB (fun K => (He.ga K "_law_right")),
  tbB (fun K => (He.ga K "law"))]
def faL : List (PySem.W.Frag → Bool) := faL0 ++ faL1 ++ faL2
def fnL0 : List (DefV) := [⟨fun K => (He.ga K "is_whole"), "is_whole", "is_whole", s_is_whole, true⟩,
  ⟨fun K => (He.ga K "is_integer"), "is_integer", "is_integer", s_is_integer, true⟩,
  ⟨fun K => (He.ga K "fraction_in"), "fraction_in", "fraction_in", s_fraction_in, true⟩,
  ⟨fun K => (He.ga K "sum_in"), "sum_in", "sum_in", s_sum_in, true⟩,
  ⟨fun K => (He.ga K "product_in"), "product_in", "product_in", s_product_in, true⟩,
  ⟨fun K => (He.ga K "total_in"), "total_in", "total_in", s_total_in, true⟩,
  ⟨fun K => (He.ga K "product_from"), "product_from", "product_from", s_product_from, true⟩,
  ⟨fun K => (He.ga K "handles_in"), "handles_in", "handles_in", s_handles_in, true⟩,
  ⟨fun K => (He.ga K "odd_of"), "odd_of", "odd_of", s_odd_of, true⟩,
  ⟨fun K => (He.ga K "falling"), "falling", "falling", s_falling, true⟩,
  ⟨fun K => (He.ga K "shared"), "shared", "shared", s_shared, true⟩,
  ⟨fun K => (He.ga K "joined_terms_of"), "joined_terms_of", "joined_terms_of", s_joined_terms_of, true⟩,
  ⟨fun K => (He.ga K "parted_terms_of"), "parted_terms_of", "parted_terms_of", s_parted_terms_of, true⟩,
  ⟨fun K => (He.ga K "is_start"), "is_start", "is_start", s_is_start, true⟩,
  ⟨fun K => (He.ga K "terms_in"), "terms_in", "terms_in", s_terms_in, true⟩,
  ⟨fun K => (He.ga K "start_number"), "start_number", "start_number", s_start_number, true⟩,
  ⟨fun K => (He.ga K "tau_kept"), "tau_kept", "tau_kept", s_tau_kept, true⟩,
  ⟨fun K => (He.ga K "tau_in"), "tau_in", "tau_in", s_tau_in, true⟩,
  ⟨fun K => (He.ga K "partings"), "partings", "partings", s_partings, true⟩,
  ⟨fun K => (He.ga K "tau_row_in"), "tau_row_in", "tau_row_in", s_tau_row_in, true⟩,
  ⟨fun K => (He.ga K "by_rules"), "by_rules", "by_rules", s_by_rules, true⟩,
  ⟨fun K => (He.ga K "require_exponents"), "require_exponents", "require_exponents", s_require_exponents, true⟩,
  ⟨fun K => (He.ga K "require_pair"), "require_pair", "require_pair", s_require_pair, true⟩,
  ⟨fun K => (He.ga K "handles_of"), "handles_of", "handles_of", s_handles_of, true⟩,
  ⟨fun K => (He.ga K "tau_number"), "tau_number", "tau_number", s_tau_number, true⟩,
  ⟨fun K => (He.ga K "tau_terms"), "tau_terms", "tau_terms", s_tau_terms, true⟩,
  ⟨fun K => (He.ga K "tau_row"), "tau_row", "tau_row", s_tau_row, true⟩,
  ⟨fun K => (He.ga K "tau_by_rules"), "tau_by_rules", "tau_by_rules", s_tau_by_rules, true⟩,
  ⟨fun K => (He.ga K "_law_dice"), "_law_dice", "_law_dice", s_law_dice, true⟩,
  ⟨fun K => (He.ga K "_law_roll"), "_law_roll", "_law_roll", s_law_roll, true⟩,
  ⟨fun K => (He.ga K "_law_pick"), "_law_pick", "_law_pick", s_law_pick, true⟩,
  ⟨fun K => (He.ga K "_law_met"), "_law_met", "_law_met", s_law_met, true⟩,
  ⟨fun K => (He.ga K "_law_right"), "_law_right", "_law_right", s_law_right, true⟩,
  ⟨fun K => (He.ga K "law"), "law", "law", s_law, true⟩,
  ⟨fun K => He.ma K (He.ga K "InvalidNumber") "__init__", "__init__", "InvalidNumber" ++ ".__init__", cst (top 4) 0, false⟩,
  ⟨fun K => He.ma K (He.ga K "TooMany") "__init__", "__init__", "TooMany" ++ ".__init__", cst (top 5) 0, false⟩,
  ⟨fun K => He.ma K (He.ga K "Refused") "__init__", "__init__", "Refused" ++ ".__init__", cst (top 6) 0, false⟩]
def fnL : List (DefV) := fnL0
def tbL0 : List (PySem.W.Frag → Addr) := [fun K => (He.ga K "_law_right"),
  fun K => (He.ga K "law")]
def tbL : List (PySem.W.Frag → Addr) := tbL0
def names0 : List (PySem.Str) := ["gcd",
  "__name__",
  "BandError",
  "InvalidOperation",
  "InvalidNumber",
  "TooMany",
  "Refused",
  "BOUND",
  "ZERO_numbers",
  "is_whole",
  "is_integer",
  "fraction_in",
  "sum_in",
  "product_in",
  "total_in",
  "power_in",
  "product_from",
  "MOST_SUM",
  "MOST_EXPONENTS",
  "MAX_DEPTH",
  "MOST_RIMS",
  "MOST_MANY",
  "LONE",
  "PAIR",
  "ZERO_tau",
  "ONE",
  "handles_in",
  "odd_of",
  "falling",
  "factorial_of"]
def names1 : List (PySem.Str) := ["shared",
  "joined_terms_of",
  "parted_terms_of",
  "is_start",
  "terms_in",
  "start_number",
  "tau_kept",
  "tau_in",
  "partings",
  "tau_row_in",
  "closed_number",
  "by_zero",
  "by_one",
  "by_rules",
  "require_exponents",
  "require_pair",
  "handles_of",
  "tau_number",
  "tau_terms",
  "tau_row",
  "tau_by_rules",
  "_law_dice",
  "_law_roll",
  "_law_pick",
  "_law_met",
  "_law_right"]
def names : List (PySem.Str) := names0 ++ names1
end Lw
noncomputable section
namespace Lw
open PySem VE
set_option exponentiation.threshold 500000
/-- the dice at l: three ints -/
def Dice (h : Mem) (l : Nat) (a b c : Int) : Prop := h[l]? = some (.lst [.int a, .int b, .int c])
theorem roll1 {h : Mem} {l : Nat} {a b c t : Int} (d : Dice h l a b c) (ha : 0 < a) (ht : 0 < t) (ht2 : t.natAbs ≤ 2 ^ 200) :
    F_law_roll [.ref l, .int t] h = .ok (.int (a.fmod t)) (h.set l (.lst [.int (a.fdiv t), .int b, .int c])) := by
  unfold Dice at d
  have e1 : fitD t = true := Nat.ble_eq.mpr (Nat.le_trans ht2 (Nat.pow_le_pow_right (by decide) (by decide)))
  have e2 : t ≠ 0 := by omega
  unfold F_law_roll
  rw [runB_eq]
  unfold b_law_roll startC
  simp [rd_pyTimes, rd_mSeq, rd_mIf, rd_bOf, rd_bNot, rd_bOr, rd_bAnd, rd_eIf, rd_eAnd, rd_eNot, rd_eOp, rd_eUn, rd_eVar, rd_eC, rd_ret, rd_stuck, rd_isB, rd_mAsg, rd_eB, rd_eConsA, rd_eNilA, rd_gSet, rd_mRet, rd_mRetN, rd_mNil, rd_mExpr, rd_mAug, rd_eCall, rd_iArgs, rd_mFor, rd_memAt, rd_eNew, rd_bnd, pyIx, seqOf, rd_pyAtN, rd_pyAt0, rd_pyAt1, rd_pyAt2, rd_pyAt3, rd_pyAt4, rd_pyAtM, pyCmp, pyInt, pyMod, pyFdiv, pyAdd, pySub, pyMul, pyNeg, VE.pyLen, gSub, L2.ixN, frV_eq, sset_eq, sapp_eq, frN_eq, frLs_eq, endB, turn, d, ha, e1, e2]
def rollTwo (b c : Int) : Int := (((b + 99990067 * c).fmod 2305843009213693381 * (b + 99990067 * c).fmod 2305843009213693381 + 89 * c).fmod 2305843009213693343) * 8675309 + (b + 99990067 * c).fmod 2305843009213693381
theorem roll2 {h : Mem} {l : Nat} {a b c t : Int} (d : Dice h l a b c) (ha : ¬ 0 < a) (ht : 0 < t) (hc : (c + 1).natAbs ≤ 2 ^ 100) :
    F_law_roll [.ref l, .int t] h = .ok (.int (((rollTwo b (c + 1)).fdiv 65551).fmod t)) (h.set l (.lst [.int a, .int b, .int (c + 1)])) := by
  unfold Dice at d
  have hl := (List.getElem?_eq_some_iff.mp d).1
  have e2 : t ≠ 0 := by omega
  have f1 : fit (c + 1) = true := fit_of 100 hc (by decide)
  have f2 : fit 99990067 = true := by decide +kernel
  have f3 : fit 89 = true := by decide +kernel
  have f4 : fit 8675309 = true := by decide +kernel
  have f5 : fitD 65551 = true := by decide +kernel
  have f6 : ∀ x : Int, fit (x.fmod 2305843009213693381) = true := fun x => fmod_fit (by decide) (by decide +kernel)
  have f7 : ∀ x : Int, fit (x.fmod 2305843009213693343) = true := fun x => fmod_fit (by decide) (by decide +kernel)
  unfold F_law_roll
  rw [runB_eq]
  unfold b_law_roll startC
  have ds : ∀ x : CO, (h.set l x)[l]? = some x := fun x => by simp [hl]
  clear hl
  simp [rd_pyTimes, rd_mSeq, rd_mIf, rd_bOf, rd_bNot, rd_bOr, rd_bAnd, rd_eIf, rd_eAnd, rd_eNot, rd_eOp, rd_eUn, rd_eVar, rd_eC, rd_ret, rd_stuck, rd_isB, rd_mAsg, rd_eB, rd_eConsA, rd_eNilA, rd_gSet, rd_mRet, rd_mRetN, rd_mNil, rd_mExpr, rd_mAug, rd_eCall, rd_iArgs, rd_mFor, rd_memAt, rd_eNew, rd_bnd, pyIx, seqOf, rd_pyAtN, rd_pyAt0, rd_pyAt1, rd_pyAt2, rd_pyAt3, rd_pyAt4, rd_pyAtM, pyCmp, pyInt, pyMod, pyFdiv, pyAdd, pySub, pyMul, pyNeg, VE.pyLen, gSub, L2.ixN, frV_eq, sset_eq, sapp_eq, frN_eq, frLs_eq, endB, turn, d, ha, e2, ds, f1, f2, f3, f4, f5, f6, f7, rollTwo]
def DiceN (h : Mem) (l n : Nat) : Prop := ∃ a b c : Int, Dice h l a b c ∧ c.natAbs ≤ n
theorem set_dice {h : Mem} {l : Nat} {a b c a' b' c' : Int} (d : Dice h l a b c) : Dice (h.set l (.lst [.int a', .int b', .int c'])) l a' b' c' := by
  unfold Dice at *
  obtain ⟨hl, _⟩ := List.getElem?_eq_some_iff.mp d
  simp [hl]
theorem kp_set {h : Mem} {l : Nat} {o : CO} : Kp [l] h (h.set l o) := ⟨by simp, fun k hk n => List.getElem?_set_ne (by simpa [eq_comm] using n)⟩
theorem roll_ok {h : Mem} {l n : Nat} {t : Int} (d : DiceN h l n) (ht : 0 < t) (ht2 : t.natAbs ≤ 2 ^ 200) (hn : n < 2 ^ 100) :
    ∃ r h', 0 ≤ r ∧ r < t ∧ F_law_roll [.ref l, .int t] h = .ok (.int r) h' ∧ DiceN h' l (n + 1) ∧ Kp [l] h h' := by
  obtain ⟨a, b, c, d, hc⟩ := d
  by_cases ha : 0 < a
  · exact ⟨_, _, Int.fmod_nonneg_of_pos _ ht, Int.fmod_lt_of_pos _ ht, roll1 d ha ht ht2, ⟨_, _, _, set_dice d, by omega⟩, kp_set⟩
  · exact ⟨_, _, Int.fmod_nonneg_of_pos _ ht, Int.fmod_lt_of_pos _ ht, roll2 d ha ht (by omega), ⟨_, _, _, set_dice d, by omega⟩, kp_set⟩
theorem pick_ok {h : Mem} {l n : Nat} {xs : List CV} (d : DiceN h l n) (h0 : 0 < xs.length) (h1 : xs.length ≤ 1000) (hn : n < 2 ^ 100) :
    ∃ (i : Nat) (x : CV) (h' : Mem), xs[i]? = some x ∧ F_law_pick [.ref l, .lst xs] h = .ok x h' ∧ DiceN h' l (n + 1) ∧ Kp [l] h h' := by
  obtain ⟨r, h', r0, r1, e, d', kp⟩ := roll_ok (t := (xs.length : Int)) d (by omega) (Nat.le_trans (show ((xs.length : Int)).natAbs ≤ 1000 by omega) (by decide)) hn
  obtain ⟨i, rfl⟩ := Int.eq_ofNat_of_zero_le r0
  have hi : i < xs.length := by omega
  refine ⟨i, xs[i], h', by simp [hi], ?_, d', kp⟩
  unfold F_law_pick
  rw [runB_eq]
  unfold b_law_pick startC
  simp [rd_pyTimes, rd_mSeq, rd_mIf, rd_bOf, rd_bNot, rd_bOr, rd_bAnd, rd_eIf, rd_eAnd, rd_eNot, rd_eOp, rd_eUn, rd_eVar, rd_eC, rd_ret, rd_stuck, rd_isB, rd_mAsg, rd_eB, rd_eConsA, rd_eNilA, rd_gSet, rd_mRet, rd_mRetN, rd_mNil, rd_mExpr, rd_mAug, rd_eCall, rd_iArgs, rd_mFor, rd_memAt, rd_eNew, rd_bnd, pyIx, seqOf, rd_pyAtN, rd_pyAt0, rd_pyAt1, rd_pyAt2, rd_pyAt3, rd_pyAt4, rd_pyAtM, pyCmp, pyInt, pyMod, pyFdiv, pyAdd, pySub, pyMul, pyNeg, VE.pyLen, gSub, L2.ixN, frV_eq, sset_eq, sapp_eq, frN_eq, frLs_eq, endB, turn, e, h1, hi]
theorem DiceN.lt {h : Mem} {l n : Nat} (d : DiceN h l n) : l < h.length := by obtain ⟨_, _, _, e, _⟩ := d; exact (List.getElem?_eq_some_iff.mp e).1
theorem DiceN.kp {h h' : Mem} {l n : Nat} {S : List Nat} (d : DiceN h l n) (K : Kp S h h') (e : l ∉ S) : DiceN h' l n := by
  have q := d.lt
  obtain ⟨a, b, c, e1, e2⟩ := d
  exact ⟨a, b, c, (K.at_ l q e).trans e1, e2⟩
theorem DiceN.kp0 {h h' : Mem} {l n : Nat} (d : DiceN h l n) (K : Kp [] h h') : DiceN h' l n := d.kp K List.not_mem_nil
theorem DiceN.kp1 {h h' : Mem} {l n k : Nat} (d : DiceN h l n) (K : Kp [k] h h') (e : l ≠ k) : DiceN h' l n := d.kp K (by simpa using e)
theorem we_pick {i l n : Nat} {τ : Sl} {m : Mem} {xs : List CV} {a : Sl → M CV} {Q : CV → Mem → Prop} (hd : τ[i]? = some (some (.ref l))) (q : a τ m = .ok (.lst xs) m) (d : DiceN m l n) (h0 : 0 < xs.length) (h1 : xs.length ≤ 1000) (hn : n < 2 ^ 100) (h : ∀ x m', x ∈ xs → DiceN m' l (n + 1) → Kp [l] m m' → Q x m') :
    WE (eCall 2 F_law_pick (eConsA (eVar i) (eConsA a eNilA))) τ m Q := by
  obtain ⟨j, x, m', e1, e2, d', k⟩ := pick_ok d h0 h1 hn
  exact we_ok (eCall_ok (eCons_ok (eVar_ok hd) (eCons_ok q eNil_ok)) rfl e2) (h x m' (List.mem_of_getElem? e1) d' k)
theorem cell_ok {ns : List Int} {s : Nat} {h : Mem} {x y : Option CV} : ∃ v : Int, eIf (bOf (eOp pyLt (eVar 1) (eB VE.pyLen (eConsA (eVar 0) eNilA)))) (eB VE.pyInt (eConsA (eOp pyIx (eVar 0) (eVar 1)) eNilA)) (eOp pyAdd (eOp pyTimes (eC (.int 89)) (eVar 1)) (eC (.int 53))) [some (.frz (ns.map CV.int)), some (.int s), x, y] h = .ok (.int v) h ∨ 2 ^ 20 < s := by
  by_cases hs : 2 ^ 20 < s
  · exact ⟨0, .inr hs⟩
  have q : bOf (eOp pyLt (eVar 1) (eB VE.pyLen (eConsA (eVar 0) eNilA))) [some (.frz (ns.map CV.int)), some (.int s), x, y] h = .ok (decide ((s : Int) < ((ns.map CV.int).length : Nat))) h := bOf_ok (eOp_ok (eVar_ok rfl) (eB_ok (eCons_ok (eVar_ok rfl) eNil_ok) rfl) rfl)
  by_cases hl : s < (ns.map CV.int).length
  · rw [decide_eq_true (by omega)] at q
    have hl' : s < ns.length := by simpa using hl
    refine ⟨ns[s], .inl (eIf_t q (eB_ok (eCons_ok (eOp_ok (eVar_ok rfl) (eVar_ok rfl) (show pyIx (.frz (ns.map CV.int)) (.int s) h = .ok (.int ns[s]) h by
      simp only [pyIx, seqOf, rd_pyAtN]; simp [hl'])) eNil_ok) rfl))⟩
  · rw [decide_eq_false (by omega)] at q
    exact ⟨_, .inl (eIf_f q (eOp_ok (eOp_ok eC_ok (eVar_ok rfl) (pyTimes_int (by decide +kernel) (nfit (k := 20) (by omega) (by decide)))) eC_ok rfl))⟩
theorem dice_ok {ns : List Int} {s : Nat} {h : Mem} (hs : s ≤ 2 ^ 20) : ∃ h', F_law_dice [.frz (ns.map CV.int), .int s] h = .ok (.ref h.length) h' ∧ DiceN h' h.length 0 := by
  obtain ⟨v, e | e⟩ := cell_ok (ns := ns) (s := s) (h := h) (x := none) (y := none)
  · have ab : ∀ τ : Sl, τ[2]? = some (some (.int v)) → eB pyAbs (eConsA (eVar 2) eNilA) τ h = .ok (.int (if v < 0 then -v else v)) h := fun τ q => eB_ok (eCons_ok (eVar_ok q) eNil_ok) rfl
    have fM : fit ((10 : Int) ^ 56) = true := pow_fit (by decide) (by decide)
    have fN : fit ((10 : Int) ^ 60) = true := pow_fit (by decide) (by decide)
    have nz : ¬ ((10 : Int) ^ 56 * (10 : Int) ^ 60 = 0) := by decide +kernel
    have e2 : ∃ a : Int, eOp pyMod (eB pyMax (eConsA (eC (.int 0)) (eConsA (eOp pySub (eB pyAbs (eConsA (eVar 2) eNilA)) (eOp pyPow (eC (.int 10)) (eC (.int 16)))) eNilA))) (eOp pyTimes (eOp pyPow (eC (.int 10)) (eC (.int 56))) (eOp pyPow (eC (.int 10)) (eC (.int 60)))) [some (.frz (ns.map CV.int)), some (.int s), some (.int v), none] h = .ok (.int a) h := by
      have md0 : ∀ w : Int, pyMod (.int w) (.int ((10 : Int) ^ 56 * (10 : Int) ^ 60)) h = .ok (.int (w.fmod ((10 : Int) ^ 56 * (10 : Int) ^ 60))) h := fun w => by
        unfold pyMod
        simp only [ne_eq, nz, not_false_eq_true, if_true, rd_ret]
      exact ⟨_, eOp_ok (eB_ok (eCons_ok eC_ok (eCons_ok (eOp_ok (ab _ rfl) (eOp_ok eC_ok eC_ok (pow10 (k := 16) (by omega))) rfl) eNil_ok)) rfl) (eOp_ok (eOp_ok eC_ok eC_ok (pow10 (k := 56) (by omega))) (eOp_ok eC_ok eC_ok (pow10 (k := 60) (by omega))) (pyTimes_int fM fN)) (md0 _)⟩
    obtain ⟨a, e2⟩ := e2
    have e3 : ∃ b : Int, eOp pyAdd (eOp pyAdd (eOp pyAdd (eOp pyTimes (eOp pyMod (eB pyAbs (eConsA (eVar 2) eNilA)) (eC (.int 1152921504606846869))) (eC (.int 61))) (eOp pyTimes (eC (.int 1009)) (eVar 1))) (eOp pyTimes (eC (.int 43)) (eB VE.pyInt (eConsA (eOp pyLt (eVar 2) (eC (.int 0))) eNilA)))) (eC (.int 17)) [some (.frz (ns.map CV.int)), some (.int s), some (.int v), some (.int a)] h = .ok (.int b) h := by
      have md : pyMod (.int (if v < 0 then -v else v)) (.int 1152921504606846869) h = .ok (.int ((if v < 0 then -v else v).fmod 1152921504606846869)) h := by
        unfold pyMod
        simp only [ne_eq, show ¬ ((1152921504606846869 : Int) = 0) by decide, not_false_eq_true, if_true, rd_ret]
      have fb : fit (if decide (v < 0) = true then (1 : Int) else 0) = true := by split <;> decide +kernel
      exact ⟨_, eOp_ok (eOp_ok (eOp_ok (eOp_ok (eOp_ok (ab _ rfl) eC_ok md) eC_ok (pyTimes_int (fmodf (by decide) (by decide +kernel)) (by decide +kernel))) (eOp_ok eC_ok (eVar_ok rfl) (pyTimes_int (by decide +kernel) (nfit hs (by decide)))) rfl)
        (eOp_ok eC_ok (eB_ok (eCons_ok (eOp_ok (eVar_ok rfl) eC_ok rfl) eNil_ok) rfl) (pyTimes_int (by decide +kernel) fb)) rfl) eC_ok rfl⟩
    obtain ⟨b, e3⟩ := e3
    have e4 : eNew (eConsA (eVar 3) (eConsA (eOp pyAdd (eOp pyAdd (eOp pyAdd (eOp pyTimes (eOp pyMod (eB pyAbs (eConsA (eVar 2) eNilA)) (eC (.int 1152921504606846869))) (eC (.int 61))) (eOp pyTimes (eC (.int 1009)) (eVar 1))) (eOp pyTimes (eC (.int 43)) (eB VE.pyInt (eConsA (eOp pyLt (eVar 2) (eC (.int 0))) eNilA)))) (eC (.int 17))) (eConsA (eC (.int 0)) eNilA))) [some (.frz (ns.map CV.int)), some (.int s), some (.int v), some (.int a)] h = .ok (.ref h.length) (h ++ [.lst [.int a, .int b, .int 0]]) := by
      rw [rd_eNew, eCons_ok (eVar_ok rfl) (eCons_ok e3 (eCons_ok eC_ok eNil_ok))]
      rfl
    refine ⟨_, run_rt rfl ((mSeq_nx (mAsg_ok e)).trans ((mSeq_nx (mAsg_ok e2)).trans (mRet_ok e4))), a, b, 0, ?_, by decide⟩
    unfold Dice
    simp
  · omega
theorem wd_InvalidOperation {e : Sl → M CV} {τ : Sl} {h k1 : Mem} (q : e τ h = .exc ⟨1, []⟩ k1) : eLam 2 b_law_met e τ h = .ok (.tup [(.str (Str.ofString "refused")), (.str (Str.ofString "operation"))]) k1 := by
  have hw : b_law_met (e τ) [none, none] h = .mk (.rt (.tup [(.str (Str.ofString "refused")), (.str (Str.ofString "operation"))])) k1 := by
    unfold b_law_met
    refine mSeq_rt ?_
    rw [mTry_ex (mExpr_ex (e := fun _ => e τ) q)]
    rfl
  unfold eLam
  rw [show List.replicate 2 none = [none, none] from rfl, hw]
  rfl
def W_InvalidNumber (y : CV) : CV := .tup [.str (Str.ofString "refused"), .str (Str.ofString "number " ++ sho y)]
theorem sW_InvalidNumber {y : CV} (o : okW y = true) : safe 4 (W_InvalidNumber y) = true := safe_tup (sl_cons (safe_str (by decide +kernel)) (sl_cons (safe_str (strOk_app (by decide +kernel) (okR_str (okW_R o)))) sl_nil))
theorem wd_InvalidNumber {e : Sl → M CV} {τ : Sl} {h k1 : Mem} {y : CV} (q : e τ h = .exc ⟨2, [y]⟩ k1) (o : okW y = true) : eLam 2 b_law_met e τ h = .ok (W_InvalidNumber y) k1 := by
  have e3 : (mRet (eTup (eConsA (eC (.str (Str.ofString "refused"))) (eConsA (eOp pyAdd (eC (.str (Str.ofString "number "))) (eB (one pyRepr) (eConsA (eXf 2 ⟨2, [y]⟩) eNilA))) eNilA)))) [none, none] k1 = .mk (.rt (W_InvalidNumber y)) k1 :=
    mRet_ok (eTup_ok (eCons_ok eC_ok (eCons_ok (addRepr (by decide +kernel) (show eXf _ _ _ _ = Out.ok y k1 from rfl) o) eNil_ok)) (by simp))
  have hw : b_law_met (e τ) [none, none] h = .mk (.rt (W_InvalidNumber y)) k1 := by
    unfold b_law_met
    refine mSeq_rt ?_
    rw [mTry_ex (mExpr_ex (e := fun _ => e τ) q)]
    refine Eq.trans (b := offS 1 ((mRet (eTup (eConsA (eC (.str (Str.ofString "refused"))) (eConsA (eOp pyAdd (eC (.str (Str.ofString "number "))) (eB (one pyRepr) (eConsA (eXf 2 ⟨2, [y]⟩) eNilA))) eNilA)))) [none, none] k1)) rfl ?_
    rw [e3]
    rfl
  unfold eLam
  rw [show List.replicate 2 none = [none, none] from rfl, hw]
  rfl
def W_TooMany (y : CV) : CV := .tup [.str (Str.ofString "refused"), .str (Str.ofString "many " ++ sho y)]
theorem sW_TooMany {y : CV} (o : okW y = true) : safe 4 (W_TooMany y) = true := safe_tup (sl_cons (safe_str (by decide +kernel)) (sl_cons (safe_str (strOk_app (by decide +kernel) (okR_str (okW_R o)))) sl_nil))
theorem wd_TooMany {e : Sl → M CV} {τ : Sl} {h k1 : Mem} {y : CV} (q : e τ h = .exc ⟨3, [y]⟩ k1) (o : okW y = true) : eLam 2 b_law_met e τ h = .ok (W_TooMany y) k1 := by
  have e3 : (mRet (eTup (eConsA (eC (.str (Str.ofString "refused"))) (eConsA (eOp pyAdd (eC (.str (Str.ofString "many "))) (eB (one pyRepr) (eConsA (eXf 3 ⟨3, [y]⟩) eNilA))) eNilA)))) [none, none] k1 = .mk (.rt (W_TooMany y)) k1 :=
    mRet_ok (eTup_ok (eCons_ok eC_ok (eCons_ok (addRepr (by decide +kernel) (show eXf _ _ _ _ = Out.ok y k1 from rfl) o) eNil_ok)) (by simp))
  have hw : b_law_met (e τ) [none, none] h = .mk (.rt (W_TooMany y)) k1 := by
    unfold b_law_met
    refine mSeq_rt ?_
    rw [mTry_ex (mExpr_ex (e := fun _ => e τ) q)]
    refine Eq.trans (b := offS 1 ((mRet (eTup (eConsA (eC (.str (Str.ofString "refused"))) (eConsA (eOp pyAdd (eC (.str (Str.ofString "many "))) (eB (one pyRepr) (eConsA (eXf 3 ⟨3, [y]⟩) eNilA))) eNilA)))) [none, none] k1)) rfl ?_
    rw [e3]
    rfl
  unfold eLam
  rw [show List.replicate 2 none = [none, none] from rfl, hw]
  rfl
def W_Refused (y : CV) : CV := .tup [.str (Str.ofString "refused"), .str (Str.ofString "reason " ++ sho y)]
theorem sW_Refused {y : CV} (o : okW y = true) : safe 4 (W_Refused y) = true := safe_tup (sl_cons (safe_str (by decide +kernel)) (sl_cons (safe_str (strOk_app (by decide +kernel) (okR_str (okW_R o)))) sl_nil))
theorem wd_Refused {e : Sl → M CV} {τ : Sl} {h k1 : Mem} {y : CV} (q : e τ h = .exc ⟨4, [y]⟩ k1) (o : okW y = true) : eLam 2 b_law_met e τ h = .ok (W_Refused y) k1 := by
  have e3 : (mRet (eTup (eConsA (eC (.str (Str.ofString "refused"))) (eConsA (eOp pyAdd (eC (.str (Str.ofString "reason "))) (eB (one pyRepr) (eConsA (eXf 4 ⟨4, [y]⟩) eNilA))) eNilA)))) [none, none] k1 = .mk (.rt (W_Refused y)) k1 :=
    mRet_ok (eTup_ok (eCons_ok eC_ok (eCons_ok (addRepr (by decide +kernel) (show eXf _ _ _ _ = Out.ok y k1 from rfl) o) eNil_ok)) (by simp))
  have hw : b_law_met (e τ) [none, none] h = .mk (.rt (W_Refused y)) k1 := by
    unfold b_law_met
    refine mSeq_rt ?_
    rw [mTry_ex (mExpr_ex (e := fun _ => e τ) q)]
    refine Eq.trans (b := offS 1 ((mRet (eTup (eConsA (eC (.str (Str.ofString "refused"))) (eConsA (eOp pyAdd (eC (.str (Str.ofString "reason "))) (eB (one pyRepr) (eConsA (eXf 4 ⟨4, [y]⟩) eNilA))) eNilA)))) [none, none] k1)) rfl ?_
    rw [e3]
    rfl
  unfold eLam
  rw [show List.replicate 2 none = [none, none] from rfl, hw]
  rfl
theorem wd_fine {e : Sl → M CV} {τ : Sl} {h : Mem} (q : ∃ v, e τ h = .ok v h) : eLam 2 b_law_met e τ h = .ok (.tup [(.str (Str.ofString "refused")), (.str (Str.ofString "fine"))]) h := by
  obtain ⟨v, q⟩ := q
  have hw : b_law_met (e τ) [none, none] h = .mk (.rt (.tup [(.str (Str.ofString "refused")), (.str (Str.ofString "fine"))])) h := by
    unfold b_law_met
    rw [mSeq_nx (mTry_nx (mExpr_ok (e := fun _ => e τ) q))]
    rfl
  unfold eLam
  rw [show List.replicate 2 none = [none, none] from rfl, hw]
  rfl
theorem wk_0 {e : Sl → M CV} {τ : Sl} {h k1 : Mem} (q : e τ h = .exc ⟨3, [(.int 20)]⟩ k1) : eLam 2 b_law_met e τ h = .ok (.tup [(.str (Str.ofString "refused")), (.str (Str.ofString "many 20"))]) k1 := (wd_TooMany q (by decide +kernel)).trans (congrArg (fun v => Out.ok v k1) (same_eq (by decide +kernel)))
theorem wk_1 {e : Sl → M CV} {τ : Sl} {h k1 : Mem} (q : e τ h = .exc ⟨4, [(.tup [(.str (Str.ofString "pair"))])]⟩ k1) : eLam 2 b_law_met e τ h = .ok (.tup [(.str (Str.ofString "refused")), (.str (Str.ofString "reason ('pair',)"))]) k1 := (wd_Refused q (by decide +kernel)).trans (congrArg (fun v => Out.ok v k1) (same_eq (by decide +kernel)))
theorem wk_2 {e : Sl → M CV} {τ : Sl} {h k1 : Mem} (q : e τ h = .exc ⟨3, [(.int 5)]⟩ k1) : eLam 2 b_law_met e τ h = .ok (.tup [(.str (Str.ofString "refused")), (.str (Str.ofString "many 5"))]) k1 := (wd_TooMany q (by decide +kernel)).trans (congrArg (fun v => Out.ok v k1) (same_eq (by decide +kernel)))
def P_law_right_1 : List CV := [.non, (.int 4), (.tup []), (.lst [(.int 1)]), (.tup [(.int (-1))]), (.tup [(.bl true)]), (.tup [(.str (Str.ofString "1"))]), (.tup [(.int 1), .non]), (.tup [(.int 0), (.int 0), (.int 0), (.int 0), (.int 0), (.int 0), (.int 0), (.int 0), (.int 0)]), (.tup [(.int 1000000000000000000000000000000000000000000000000000000000000)]), (.tup [(.tup [(.int 1)])]), (.dic false [] []), (.str (Str.ofString "1"))]
def P_law_right_2 : List CV := [(.tup [(.int 21)]), (.tup [(.int 20), (.int 1)]), (.tup [(.int 3), (.int 3), (.int 3), (.int 3), (.int 3), (.int 3), (.int 3)]), (.tup [(.int 0), (.int 21), (.int 0)]), (.tup [(.int 10), (.int 10), (.int 10)])]
def P_law_right_3 : List CV := [.non, (.int (-1)), (.bl true), (.str (Str.ofString "1")), (.tup [(.int 1)]), (.int 1000000000000000000000000000000000000000000000000000000000000)]
theorem ok_P_law_right_3 : allV P_law_right_3 okW = true := by decide +kernel
def P_law_right_4 : List CV := [.non, (.int 0), (.int 9), (.bl true), (.str (Str.ofString "1")), (.tup [(.int 1)])]
theorem ok_P_law_right_4 : allV P_law_right_4 okW = true := by decide +kernel
def P_law_right_5 : List CV := [(.tup [(.int 0), (.int 1)]), (.tup [(.int 0), (.int 2)])]
theorem tp_P_law_right_5 : ∀ x ∈ P_law_right_5, ∃ a0 a1 : CV, x = .tup [a0, a1] := by
  intro x hx
  simp only [P_law_right_5, List.mem_cons, List.not_mem_nil, or_false] at hx
  rcases hx with rfl | rfl <;> exact ⟨_, _, rfl⟩
def P_law_right_6 : List CV := [(.tup [(.int 0), (.int 7)]), (.tup [(.int 0), (.int 8)]), (.tup [(.int 1), (.int 6)]), (.tup [(.int 2), (.int 3)]), (.tup [(.int 3), (.int 1)]), (.tup [(.int 1000000000), (.int 1)])]
theorem tp_P_law_right_6 : ∀ x ∈ P_law_right_6, ∃ a0 a1 : CV, x = .tup [a0, a1] := by
  intro x hx
  simp only [P_law_right_6, List.mem_cons, List.not_mem_nil, or_false] at hx
  rcases hx with rfl | rfl | rfl | rfl | rfl | rfl <;> exact ⟨_, _, rfl⟩
theorem tb_law_right_0 : allV P_law_right_1 (fun x0 => xT0 1 1 F_tau_number [x0]) = true := by decide +kernel
theorem tb_law_right_1 : allV P_law_right_2 (fun x0 => xT 3 (.int 20) 1 F_tau_number [x0]) = true := by decide +kernel
theorem tb_law_right_2 : allV P_law_right_1 (fun x0 => xT0 1 1 F_tau_terms [x0]) = true := by decide +kernel
theorem tb_law_right_3 : allV P_law_right_2 (fun x0 => xT 3 (.int 20) 1 F_tau_terms [x0]) = true := by decide +kernel
theorem tb_law_right_4 : allV P_law_right_1 (fun x0 => xT0 1 1 F_tau_by_rules [x0]) = true := by decide +kernel
theorem tb_law_right_5 : allV P_law_right_2 (fun x0 => xT 3 (.int 20) 1 F_tau_by_rules [x0]) = true := by decide +kernel
theorem tb_law_right_6 : allV P_law_right_1 (fun x0 => xT0 1 1 F_handles_of [x0]) = true := by decide +kernel
theorem tb_law_right_7 : allV P_law_right_2 (fun x0 => xT 3 (.int 20) 1 F_handles_of [x0]) = true := by decide +kernel
theorem tb_law_right_8 : allV P_law_right_3 (fun x0 => allV P_law_right_4 (fun x1 => xT 2 x0 2 F_tau_row [x0, x1])) = true := by decide +kernel
theorem tb_law_right_9 : allV P_law_right_4 (fun x0 => xT 2 x0 2 F_tau_row [(.int 0), x0]) = true := by decide +kernel
theorem tb_law_right_10 : allV P_law_right_5 (fun x0 => xT 4 (.tup [(.str (Str.ofString "pair"))]) 2 F_tau_row [(ix0 x0), (ix1 x0)]) = true := by decide +kernel
theorem tb_law_right_11 : allV P_law_right_6 (fun x0 => xT 3 (.int 5) 2 F_tau_row [(ix0 x0), (ix1 x0)]) = true := by decide +kernel
theorem law_right_ok {m0 : Mem} {l n : Nat} (D : DiceN m0 l n) (hn : n < 2 ^ 90) : ∃ v m, F_law_right [.ref l] m0 = .ok v m ∧ v = .bl true ∧ DiceN m l (n + 6) := by
  refine wp_run (R := fun v m => v = .bl true ∧ DiceN m l (n + 6)) rfl ?_
  unfold b_law_right
  refine wp_seq (wp_asg (we_pick (xs := P_law_right_1) rfl (by kernel_rfl) D (by decide) (by decide) (by omega) fun v1 m1 g1 D K1 => ?_))
  change WP _ [some (.ref l), some v1, none, none, none, none, none, none, none, none, none] _ _ _
  refine wp_seq (wp_asg (we_pick (xs := P_law_right_2) rfl (by kernel_rfl) D (by decide) (by decide) (by omega) fun v2 m2 g2 D K2 => ?_))
  change WP _ [some (.ref l), some v1, some v2, none, none, none, none, none, none, none, none] _ _ _
  refine wp_seq (wp_unp2 (we_pick (xs := P_law_right_3) rfl (by kernel_rfl) D (by decide) (by decide) (by omega) fun v3 m3 g3 D K3 => ?_))
  refine (we_pick (xs := P_law_right_4) rfl (by kernel_rfl) D (by decide) (by decide) (by omega) fun v4 m4 g4 D K4 => ?_)
  change WP _ [some (.ref l), some v1, some v2, some v3, some v4, none, none, none, none, none, none] _ _ _
  have D0_t5 := D.lt
  refine wp_seq (wp_par (we_new eNil_ok (by simp) fun t5 m5 Et5 A_t5 K5 => ?_))
  have n_l_t5 : l ≠ t5 := by have := D0_t5; omega
  have n_t5_l : t5 ≠ l := fun z => n_l_t5 z.symm
  have D := D.kp0 K5
  have D0_t6 := D.lt
  have B_t5_t6 := A_t5.lt
  refine (we_new eNil_ok (by simp) fun t6 m6 Et6 A_t6 K6 => ?_)
  have n_l_t6 : l ≠ t6 := by have := D0_t6; omega
  have n_t6_l : t6 ≠ l := fun z => n_l_t6 z.symm
  have n_t5_t6 : t5 ≠ t6 := by have := B_t5_t6; omega
  have n_t6_t5 : t6 ≠ t5 := fun z => n_t5_t6 z.symm
  have D := D.kp0 K6
  have A_t5 := A_t5.kp0 K6
  change WP _ [some (.ref l), some v1, some v2, some v3, some v4, some (.ref t5), some (.ref t6), none, none, none, none] _ _ _
  refine wp_seq (wp_for0 (xs := [(.fn 29), (.fn 30), (.fn 32), (.fn 28)]) (by kernel_rfl) ?_)
  refine wl_set ?_
  change WP _ [some (.ref l), some v1, some v2, some v3, some v4, some (.ref t5), some (.ref t6), some (.fn 29), none, none, none] _ _ _
  refine wp_seq (wp_expr (we_app rfl (wd_InvalidOperation ((eDyn_eq rfl rfl (eCons_ok (eVar_ok rfl) eNil_ok)).trans (xT0_at (allV_at tb_law_right_0 _ g1)))) A_t5 (by simp) fun m7 A_t5 K7 => ?_))
  have D := D.kp1 K7 n_l_t5
  have A_t6 := A_t6.kp1 K7 n_t6_t5
  have A_t5 : At _ _ [(.tup [(.str (Str.ofString "refused")), (.str (Str.ofString "operation"))])] := A_t5
  refine wp_seq (wp_expr (we_app rfl (wk_0 ((eDyn_eq rfl rfl (eCons_ok (eVar_ok rfl) eNil_ok)).trans (xT_at (allV_at tb_law_right_1 _ g2)))) A_t5 (by simp) fun m8 A_t5 K8 => ?_))
  have D := D.kp1 K8 n_l_t5
  have A_t6 := A_t6.kp1 K8 n_t6_t5
  have A_t5 : At _ _ [(.tup [(.str (Str.ofString "refused")), (.str (Str.ofString "operation"))]), (.tup [(.str (Str.ofString "refused")), (.str (Str.ofString "many 20"))])] := A_t5
  refine wp_expr (we_ext rfl (eLst_ok (eCons_ok eC_ok (eCons_ok eC_ok eNil_ok)) (by simp)) rfl A_t6 (by simp) fun m9 A_t6 K9 => ?_)
  have D := D.kp1 K9 n_l_t6
  have A_t5 := A_t5.kp1 K9 n_t5_t6
  have A_t6 : At _ _ [(.str (Str.ofString "operation")), (.str (Str.ofString "many 20"))] := A_t6
  refine wl_set ?_
  change WP _ [some (.ref l), some v1, some v2, some v3, some v4, some (.ref t5), some (.ref t6), some (.fn 30), none, none, none] _ _ _
  refine wp_seq (wp_expr (we_app rfl (wd_InvalidOperation ((eDyn_eq rfl rfl (eCons_ok (eVar_ok rfl) eNil_ok)).trans (xT0_at (allV_at tb_law_right_2 _ g1)))) A_t5 (by simp) fun m10 A_t5 K10 => ?_))
  have D := D.kp1 K10 n_l_t5
  have A_t6 := A_t6.kp1 K10 n_t6_t5
  have A_t5 : At _ _ [(.tup [(.str (Str.ofString "refused")), (.str (Str.ofString "operation"))]), (.tup [(.str (Str.ofString "refused")), (.str (Str.ofString "many 20"))]), (.tup [(.str (Str.ofString "refused")), (.str (Str.ofString "operation"))])] := A_t5
  refine wp_seq (wp_expr (we_app rfl (wk_0 ((eDyn_eq rfl rfl (eCons_ok (eVar_ok rfl) eNil_ok)).trans (xT_at (allV_at tb_law_right_3 _ g2)))) A_t5 (by simp) fun m11 A_t5 K11 => ?_))
  have D := D.kp1 K11 n_l_t5
  have A_t6 := A_t6.kp1 K11 n_t6_t5
  have A_t5 : At _ _ [(.tup [(.str (Str.ofString "refused")), (.str (Str.ofString "operation"))]), (.tup [(.str (Str.ofString "refused")), (.str (Str.ofString "many 20"))]), (.tup [(.str (Str.ofString "refused")), (.str (Str.ofString "operation"))]), (.tup [(.str (Str.ofString "refused")), (.str (Str.ofString "many 20"))])] := A_t5
  refine wp_expr (we_ext rfl (eLst_ok (eCons_ok eC_ok (eCons_ok eC_ok eNil_ok)) (by simp)) rfl A_t6 (by simp) fun m12 A_t6 K12 => ?_)
  have D := D.kp1 K12 n_l_t6
  have A_t5 := A_t5.kp1 K12 n_t5_t6
  have A_t6 : At _ _ [(.str (Str.ofString "operation")), (.str (Str.ofString "many 20")), (.str (Str.ofString "operation")), (.str (Str.ofString "many 20"))] := A_t6
  refine wl_set ?_
  change WP _ [some (.ref l), some v1, some v2, some v3, some v4, some (.ref t5), some (.ref t6), some (.fn 32), none, none, none] _ _ _
  refine wp_seq (wp_expr (we_app rfl (wd_InvalidOperation ((eDyn_eq rfl rfl (eCons_ok (eVar_ok rfl) eNil_ok)).trans (xT0_at (allV_at tb_law_right_4 _ g1)))) A_t5 (by simp) fun m13 A_t5 K13 => ?_))
  have D := D.kp1 K13 n_l_t5
  have A_t6 := A_t6.kp1 K13 n_t6_t5
  have A_t5 : At _ _ [(.tup [(.str (Str.ofString "refused")), (.str (Str.ofString "operation"))]), (.tup [(.str (Str.ofString "refused")), (.str (Str.ofString "many 20"))]), (.tup [(.str (Str.ofString "refused")), (.str (Str.ofString "operation"))]), (.tup [(.str (Str.ofString "refused")), (.str (Str.ofString "many 20"))]), (.tup [(.str (Str.ofString "refused")), (.str (Str.ofString "operation"))])] := A_t5
  refine wp_seq (wp_expr (we_app rfl (wk_0 ((eDyn_eq rfl rfl (eCons_ok (eVar_ok rfl) eNil_ok)).trans (xT_at (allV_at tb_law_right_5 _ g2)))) A_t5 (by simp) fun m14 A_t5 K14 => ?_))
  have D := D.kp1 K14 n_l_t5
  have A_t6 := A_t6.kp1 K14 n_t6_t5
  have A_t5 : At _ _ [(.tup [(.str (Str.ofString "refused")), (.str (Str.ofString "operation"))]), (.tup [(.str (Str.ofString "refused")), (.str (Str.ofString "many 20"))]), (.tup [(.str (Str.ofString "refused")), (.str (Str.ofString "operation"))]), (.tup [(.str (Str.ofString "refused")), (.str (Str.ofString "many 20"))]), (.tup [(.str (Str.ofString "refused")), (.str (Str.ofString "operation"))]), (.tup [(.str (Str.ofString "refused")), (.str (Str.ofString "many 20"))])] := A_t5
  refine wp_expr (we_ext rfl (eLst_ok (eCons_ok eC_ok (eCons_ok eC_ok eNil_ok)) (by simp)) rfl A_t6 (by simp) fun m15 A_t6 K15 => ?_)
  have D := D.kp1 K15 n_l_t6
  have A_t5 := A_t5.kp1 K15 n_t5_t6
  have A_t6 : At _ _ [(.str (Str.ofString "operation")), (.str (Str.ofString "many 20")), (.str (Str.ofString "operation")), (.str (Str.ofString "many 20")), (.str (Str.ofString "operation")), (.str (Str.ofString "many 20"))] := A_t6
  refine wl_set ?_
  change WP _ [some (.ref l), some v1, some v2, some v3, some v4, some (.ref t5), some (.ref t6), some (.fn 28), none, none, none] _ _ _
  refine wp_seq (wp_expr (we_app rfl (wd_InvalidOperation ((eDyn_eq rfl rfl (eCons_ok (eVar_ok rfl) eNil_ok)).trans (xT0_at (allV_at tb_law_right_6 _ g1)))) A_t5 (by simp) fun m16 A_t5 K16 => ?_))
  have D := D.kp1 K16 n_l_t5
  have A_t6 := A_t6.kp1 K16 n_t6_t5
  have A_t5 : At _ _ [(.tup [(.str (Str.ofString "refused")), (.str (Str.ofString "operation"))]), (.tup [(.str (Str.ofString "refused")), (.str (Str.ofString "many 20"))]), (.tup [(.str (Str.ofString "refused")), (.str (Str.ofString "operation"))]), (.tup [(.str (Str.ofString "refused")), (.str (Str.ofString "many 20"))]), (.tup [(.str (Str.ofString "refused")), (.str (Str.ofString "operation"))]), (.tup [(.str (Str.ofString "refused")), (.str (Str.ofString "many 20"))]), (.tup [(.str (Str.ofString "refused")), (.str (Str.ofString "operation"))])] := A_t5
  refine wp_seq (wp_expr (we_app rfl (wk_0 ((eDyn_eq rfl rfl (eCons_ok (eVar_ok rfl) eNil_ok)).trans (xT_at (allV_at tb_law_right_7 _ g2)))) A_t5 (by simp) fun m17 A_t5 K17 => ?_))
  have D := D.kp1 K17 n_l_t5
  have A_t6 := A_t6.kp1 K17 n_t6_t5
  have A_t5 : At _ _ [(.tup [(.str (Str.ofString "refused")), (.str (Str.ofString "operation"))]), (.tup [(.str (Str.ofString "refused")), (.str (Str.ofString "many 20"))]), (.tup [(.str (Str.ofString "refused")), (.str (Str.ofString "operation"))]), (.tup [(.str (Str.ofString "refused")), (.str (Str.ofString "many 20"))]), (.tup [(.str (Str.ofString "refused")), (.str (Str.ofString "operation"))]), (.tup [(.str (Str.ofString "refused")), (.str (Str.ofString "many 20"))]), (.tup [(.str (Str.ofString "refused")), (.str (Str.ofString "operation"))]), (.tup [(.str (Str.ofString "refused")), (.str (Str.ofString "many 20"))])] := A_t5
  refine wp_expr (we_ext rfl (eLst_ok (eCons_ok eC_ok (eCons_ok eC_ok eNil_ok)) (by simp)) rfl A_t6 (by simp) fun m18 A_t6 K18 => ?_)
  have D := D.kp1 K18 n_l_t6
  have A_t5 := A_t5.kp1 K18 n_t5_t6
  have A_t6 : At _ _ [(.str (Str.ofString "operation")), (.str (Str.ofString "many 20")), (.str (Str.ofString "operation")), (.str (Str.ofString "many 20")), (.str (Str.ofString "operation")), (.str (Str.ofString "many 20")), (.str (Str.ofString "operation")), (.str (Str.ofString "many 20"))] := A_t6
  refine wl_nil ?_
  refine wp_seq (wp_unp2 (we_pick (xs := P_law_right_5) rfl (by kernel_rfl) D (by decide) (by decide) (by omega) fun v19 m19 g19 D K19 => ?_))
  have A_t5 := A_t5.kp1 K19 n_t5_l
  have A_t6 := A_t6.kp1 K19 n_t6_l
  obtain ⟨v19_0, v19_1, ev19⟩ := tp_P_law_right_5 v19 g19
  subst ev19
  refine (we_pick (xs := P_law_right_6) rfl (by kernel_rfl) D (by decide) (by decide) (by omega) fun v20 m20 g20 D K20 => ?_)
  have A_t5 := A_t5.kp1 K20 n_t5_l
  have A_t6 := A_t6.kp1 K20 n_t6_l
  obtain ⟨v20_0, v20_1, ev20⟩ := tp_P_law_right_6 v20 g20
  subst ev20
  change WP _ [some (.ref l), some v1, some v2, some v3, some v4, some (.ref t5), some (.ref t6), some (.fn 28), some (.tup [v19_0, v19_1]), some (.tup [v20_0, v20_1]), none] _ _ _
  refine wp_seq (wp_expr (we_app rfl (wd_InvalidNumber ((eB_eq (eCons_ok (eVar_ok rfl) (eCons_ok (eVar_ok rfl) eNil_ok))).trans (xT_at (allV_at (allV_at tb_law_right_8 _ g3) _ g4))) (allV_at ok_P_law_right_3 _ g3)) A_t5 (by simp) fun m21 A_t5 K21 => ?_))
  have D := D.kp1 K21 n_l_t5
  have A_t6 := A_t6.kp1 K21 n_t6_t5
  have A_t5 : At _ _ [(.tup [(.str (Str.ofString "refused")), (.str (Str.ofString "operation"))]), (.tup [(.str (Str.ofString "refused")), (.str (Str.ofString "many 20"))]), (.tup [(.str (Str.ofString "refused")), (.str (Str.ofString "operation"))]), (.tup [(.str (Str.ofString "refused")), (.str (Str.ofString "many 20"))]), (.tup [(.str (Str.ofString "refused")), (.str (Str.ofString "operation"))]), (.tup [(.str (Str.ofString "refused")), (.str (Str.ofString "many 20"))]), (.tup [(.str (Str.ofString "refused")), (.str (Str.ofString "operation"))]), (.tup [(.str (Str.ofString "refused")), (.str (Str.ofString "many 20"))]), (W_InvalidNumber v3)] := A_t5
  refine wp_seq (wp_expr (we_app rfl (wd_InvalidNumber ((eB_eq (eCons_ok eC_ok (eCons_ok (eVar_ok rfl) eNil_ok))).trans (xT_at (allV_at tb_law_right_9 _ g4))) (allV_at ok_P_law_right_4 _ g4)) A_t5 (by simp) fun m22 A_t5 K22 => ?_))
  have D := D.kp1 K22 n_l_t5
  have A_t6 := A_t6.kp1 K22 n_t6_t5
  have A_t5 : At _ _ [(.tup [(.str (Str.ofString "refused")), (.str (Str.ofString "operation"))]), (.tup [(.str (Str.ofString "refused")), (.str (Str.ofString "many 20"))]), (.tup [(.str (Str.ofString "refused")), (.str (Str.ofString "operation"))]), (.tup [(.str (Str.ofString "refused")), (.str (Str.ofString "many 20"))]), (.tup [(.str (Str.ofString "refused")), (.str (Str.ofString "operation"))]), (.tup [(.str (Str.ofString "refused")), (.str (Str.ofString "many 20"))]), (.tup [(.str (Str.ofString "refused")), (.str (Str.ofString "operation"))]), (.tup [(.str (Str.ofString "refused")), (.str (Str.ofString "many 20"))]), (W_InvalidNumber v3), (W_InvalidNumber v4)] := A_t5
  refine wp_seq (wp_expr (we_app rfl (wk_1 ((eB_eq (eCons_ok (eOp_p (eVar_ok rfl) eC_ok rfl) (eCons_ok (eOp_p (eVar_ok rfl) eC_ok rfl) eNil_ok))).trans (xT_at (allV_at tb_law_right_10 _ g19)))) A_t5 (by simp) fun m23 A_t5 K23 => ?_))
  have D := D.kp1 K23 n_l_t5
  have A_t6 := A_t6.kp1 K23 n_t6_t5
  have A_t5 : At _ _ [(.tup [(.str (Str.ofString "refused")), (.str (Str.ofString "operation"))]), (.tup [(.str (Str.ofString "refused")), (.str (Str.ofString "many 20"))]), (.tup [(.str (Str.ofString "refused")), (.str (Str.ofString "operation"))]), (.tup [(.str (Str.ofString "refused")), (.str (Str.ofString "many 20"))]), (.tup [(.str (Str.ofString "refused")), (.str (Str.ofString "operation"))]), (.tup [(.str (Str.ofString "refused")), (.str (Str.ofString "many 20"))]), (.tup [(.str (Str.ofString "refused")), (.str (Str.ofString "operation"))]), (.tup [(.str (Str.ofString "refused")), (.str (Str.ofString "many 20"))]), (W_InvalidNumber v3), (W_InvalidNumber v4), (.tup [(.str (Str.ofString "refused")), (.str (Str.ofString "reason ('pair',)"))])] := A_t5
  refine wp_seq (wp_expr (we_app rfl (wk_2 ((eB_eq (eCons_ok (eOp_p (eVar_ok rfl) eC_ok rfl) (eCons_ok (eOp_p (eVar_ok rfl) eC_ok rfl) eNil_ok))).trans (xT_at (allV_at tb_law_right_11 _ g20)))) A_t5 (by simp) fun m24 A_t5 K24 => ?_))
  have D := D.kp1 K24 n_l_t5
  have A_t6 := A_t6.kp1 K24 n_t6_t5
  have A_t5 : At _ _ [(.tup [(.str (Str.ofString "refused")), (.str (Str.ofString "operation"))]), (.tup [(.str (Str.ofString "refused")), (.str (Str.ofString "many 20"))]), (.tup [(.str (Str.ofString "refused")), (.str (Str.ofString "operation"))]), (.tup [(.str (Str.ofString "refused")), (.str (Str.ofString "many 20"))]), (.tup [(.str (Str.ofString "refused")), (.str (Str.ofString "operation"))]), (.tup [(.str (Str.ofString "refused")), (.str (Str.ofString "many 20"))]), (.tup [(.str (Str.ofString "refused")), (.str (Str.ofString "operation"))]), (.tup [(.str (Str.ofString "refused")), (.str (Str.ofString "many 20"))]), (W_InvalidNumber v3), (W_InvalidNumber v4), (.tup [(.str (Str.ofString "refused")), (.str (Str.ofString "reason ('pair',)"))]), (.tup [(.str (Str.ofString "refused")), (.str (Str.ofString "many 5"))])] := A_t5
  refine wp_seq (wp_expr (we_ext rfl (eLst_ok (eCons_ok (addRepr (by decide +kernel) (eVar_ok rfl) (allV_at ok_P_law_right_3 _ g3)) (eCons_ok (addRepr (by decide +kernel) (eVar_ok rfl) (allV_at ok_P_law_right_4 _ g4)) (eCons_ok eC_ok (eCons_ok eC_ok eNil_ok)))) (by simp)) rfl A_t6 (by simp) fun m25 A_t6 K25 => ?_))
  have D := D.kp1 K25 n_l_t6
  have A_t5 := A_t5.kp1 K25 n_t5_t6
  have A_t6 : At _ _ [(.str (Str.ofString "operation")), (.str (Str.ofString "many 20")), (.str (Str.ofString "operation")), (.str (Str.ofString "many 20")), (.str (Str.ofString "operation")), (.str (Str.ofString "many 20")), (.str (Str.ofString "operation")), (.str (Str.ofString "many 20")), (.str (Str.ofString "number " ++ sho v3)), (.str (Str.ofString "number " ++ sho v4)), (.str (Str.ofString "reason ('pair',)")), (.str (Str.ofString "many 5"))] := A_t6
  refine wp_ret (we_ok (eOp_p (eVar_ok rfl) (eLcA_ok (f := (fun x : CV => (.tup [(.str (Str.ofString "refused")), x]))) rfl A_t6 (by simp) (fun x hx => ⟨_, rd_gSet _ x, (eTup_ok (eCons_ok eC_ok (eCons_ok (eVar_ok rfl) eNil_ok)) (by simp))⟩)) ((pyEq_at A_t5).trans (pyEq_of (by rfl) (safe_lst (n := 4) (sl_cons (by decide +kernel) (sl_cons (by decide +kernel) (sl_cons (by decide +kernel) (sl_cons (by decide +kernel) (sl_cons (by decide +kernel) (sl_cons (by decide +kernel) (sl_cons (by decide +kernel) (sl_cons (by decide +kernel) (sl_cons (sW_InvalidNumber (allV_at ok_P_law_right_3 _ g3)) (sl_cons (sW_InvalidNumber (allV_at ok_P_law_right_4 _ g4)) (sl_cons (by decide +kernel) (sl_cons (by decide +kernel) sl_nil))))))))))))) (by decide)))) ?_)
  exact ⟨rfl, D⟩
theorem head_ok {ns : List Int} (hl : ns.length ≤ 63) {h : Mem} : ∃ m : Nat, m ≤ 4 ∧ iArgs rng1 (eConsA (eB pyMax (eConsA (eC (.int 1)) (eConsA (eB pyMin (eConsA (eC (.int 4)) (eConsA (eB VE.pyLen (eConsA (eVar 0) eNilA)) eNilA))) eNilA))) eNilA) (startC 4 [.frz (ns.map CV.int)]) h = .ok ((List.range m).map fun (i : Nat) => CV.int (0 + (i : Int))) h := by
  have q : ∃ m : Nat, m ≤ 4 ∧ eB pyMax (eConsA (eC (.int 1)) (eConsA (eB pyMin (eConsA (eC (.int 4)) (eConsA (eB VE.pyLen (eConsA (eVar 0) eNilA)) eNilA))) eNilA)) (startC 4 [.frz (ns.map CV.int)]) h = .ok (.int m) h := by
    have q1 : eB VE.pyLen (eConsA (eVar 0) eNilA) (startC 4 [.frz (ns.map CV.int)]) h = .ok (.int ((ns.map CV.int).length : Nat)) h := eB_ok (eCons_ok (eVar_ok rfl) eNil_ok) rfl
    have q2 := eB_ok (F := pyMin) (eCons_ok (eC_ok (v := .int 4)) (eCons_ok q1 eNil_ok)) rfl
    have q3 := eB_ok (F := pyMax) (eCons_ok (eC_ok (v := .int 1)) (eCons_ok q2 eNil_ok)) rfl
    refine ⟨(if (if (((ns.map CV.int).length : Nat) : Int) < 4 then (((ns.map CV.int).length : Nat) : Int) else 4) > 1 then (if (((ns.map CV.int).length : Nat) : Int) < 4 then (((ns.map CV.int).length : Nat) : Int) else 4) else 1).toNat, ?_, q3.trans ?_⟩
    · split <;> (try split) <;> omega
    · rw [Int.toNat_of_nonneg (by split <;> (try split) <;> omega)]
  obtain ⟨m, hm, q⟩ := q
  exact ⟨m, hm, iArgs_ok (eCons_ok q eNil_ok) (rng1_nat (by omega))⟩
theorem tb_law_0 : fT 1 F_tau_number [(.tup [(.int 20)])] = true := by decide +kernel
theorem tb_law_1 : fT 1 F_tau_terms [(.tup [(.int 0), (.int 0), (.int 0), (.int 0), (.int 0), (.int 0), (.int 0), (.int 0)])] = true := by decide +kernel
theorem tb_law_2 : fT 1 F_handles_of [(.tup [(.int 5), (.int 5), (.int 5), (.int 5)])] = true := by decide +kernel
theorem tb_law_3 : fT 2 F_tau_row [(.int 0), (.int 6)] = true := by decide +kernel
theorem law_true (ns : List Int) (hl : ns.length ≤ 63) : ∃ h, F_law [.frz (ns.map CV.int)] [] = .ok (.bl true) h := by
  suffices z : ∃ v h, F_law [.frz (ns.map CV.int)] [] = .ok v h ∧ v = .bl true by obtain ⟨v, h, e1, e2⟩ := z; exact ⟨h, e2 ▸ e1⟩
  refine wp_run (R := fun v _ => v = .bl true) rfl ?_
  unfold b_law
  obtain ⟨k, hk, q⟩ := head_ok hl (h := [])
  refine wp_seq (wp_for (m1 := []) (xs := (List.range k).map fun (i : Nat) => CV.int (0 + (i : Int))) q (wl_inv (fun τ _ => ∃ y1 y2 y3 : Option CV, τ = [some (.frz (ns.map CV.int)), y1, y2, y3]) _ ⟨none, none, none, rfl⟩ (fun x hx τ m hi => ?_) fun τ m hi => ?_))
  · obtain ⟨y1, y2, y3, rfl⟩ := hi
    obtain ⟨i, hi, rfl⟩ := List.mem_map.mp hx
    have hi := List.mem_range.mp hi
    rw [show (0 + (i : Int)) = (i : Int) by omega]
    obtain ⟨m1, e1, D1⟩ := dice_ok (ns := ns) (s := i) (h := m) (by omega)
    obtain ⟨v2, m2, e2, z2, D2⟩ := law_right_ok D1 (by omega)
    subst z2
    obtain ⟨v3, m3, e3, z3, D3⟩ := law_right_ok D2 (by omega)
    subst z3
    refine wp_seq (wp_asg (we_ok (eCall_ok (eCons_ok (eVar_ok rfl) (eCons_ok (eVar_ok rfl) eNil_ok)) rfl e1) ?_))
    refine wp_iff (bOr_f (bNot_ok (bOf_ok (eCall_ok (eConsM_ok (eVar_ok rfl) eNil_ok) rfl e2))) (bNot_ok (bOf_ok (eCall_ok (eConsM_ok (eVar_ok rfl) eNil_ok) rfl e3)))) (wp_nil ?_)
    exact ⟨_, _, _, rfl⟩
  · obtain ⟨y1, y2, y3, rfl⟩ := hi
    refine wp_seq (wp_asg (we_new (eCons_ok (wd_fine (let ⟨v, z⟩ := fT_at tb_law_0; ⟨v, (eB_eq (eCons_ok (eTup_ok (eCons_ok eC_ok eNil_ok) (by simp)) eNil_ok)).trans z⟩)) eNil_ok) (by simp) fun t101 m101 Et101 A_t101 K101 => ?_))
    change WP _ [some (.frz (ns.map CV.int)), y1, y2, some (.ref t101)] _ _ _
    refine wp_seq (wp_expr (we_app rfl (wd_fine (let ⟨v, z⟩ := fT_at tb_law_1; ⟨v, (eB_eq (eCons_ok (eOp_p (r := (.tup [(.int 0), (.int 0), (.int 0), (.int 0), (.int 0), (.int 0), (.int 0), (.int 0)])) (eTup_ok (eCons_ok eC_ok eNil_ok) (by simp)) eC_ok (by kernel_rfl)) eNil_ok)).trans z⟩)) A_t101 (by simp) fun m102 A_t101 K102 => ?_))
    have A_t101 : At _ _ [(.tup [(.str (Str.ofString "refused")), (.str (Str.ofString "fine"))]), (.tup [(.str (Str.ofString "refused")), (.str (Str.ofString "fine"))])] := A_t101
    refine wp_seq (wp_expr (we_app rfl (wd_fine (let ⟨v, z⟩ := fT_at tb_law_2; ⟨v, (eB_eq (eCons_ok (eTup_ok (eCons_ok eC_ok (eCons_ok eC_ok (eCons_ok eC_ok (eCons_ok eC_ok eNil_ok)))) (by simp)) eNil_ok)).trans z⟩)) A_t101 (by simp) fun m103 A_t101 K103 => ?_))
    have A_t101 : At _ _ [(.tup [(.str (Str.ofString "refused")), (.str (Str.ofString "fine"))]), (.tup [(.str (Str.ofString "refused")), (.str (Str.ofString "fine"))]), (.tup [(.str (Str.ofString "refused")), (.str (Str.ofString "fine"))])] := A_t101
    refine wp_seq (wp_expr (we_app rfl (wd_fine (let ⟨v, z⟩ := fT_at tb_law_3; ⟨v, (eB_eq (eCons_ok eC_ok (eCons_ok eC_ok eNil_ok))).trans z⟩)) A_t101 (by simp) fun m104 A_t101 K104 => ?_))
    have A_t101 : At _ _ [(.tup [(.str (Str.ofString "refused")), (.str (Str.ofString "fine"))]), (.tup [(.str (Str.ofString "refused")), (.str (Str.ofString "fine"))]), (.tup [(.str (Str.ofString "refused")), (.str (Str.ofString "fine"))]), (.tup [(.str (Str.ofString "refused")), (.str (Str.ofString "fine"))])] := A_t101
    refine wp_ret (we_ok (eAnd_t (eOp_p (eVar_ok rfl) (eOp_p (r := (.lst [(.tup [(.str (Str.ofString "refused")), (.str (Str.ofString "fine"))]), (.tup [(.str (Str.ofString "refused")), (.str (Str.ofString "fine"))]), (.tup [(.str (Str.ofString "refused")), (.str (Str.ofString "fine"))]), (.tup [(.str (Str.ofString "refused")), (.str (Str.ofString "fine"))])])) (eLst_ok (eCons_ok (eTup_ok (eCons_ok eC_ok (eCons_ok eC_ok eNil_ok)) (by simp)) eNil_ok) (by simp)) eC_ok (by kernel_rfl)) ((pyEq_at A_t101).trans (pyEq_of (by rfl) (safe_lst (n := 4) (sl_cons (by decide +kernel) (sl_cons (by decide +kernel) (sl_cons (by decide +kernel) (sl_cons (by decide +kernel) sl_nil))))) (by decide)))) (show _ = Out.ok (.bl true) _ by kernel_rfl)) ?_)
    exact rfl
end Lw
end
namespace Lw
open PySem PySem.Spec PyProof.Rows L2 LamX VE
theorem end_law {P : Program} {w : World} {K : PySem.W.Frag} {mg : Str → Option Value} {fa ca cc pp : Nat → Addr} {fd : Nat → FuncData} {cs : List (Addr × Addr)} (fl : FunC K "law" "law" s_law (fa 38) (fd 38) (cc 38)) (T : ∀ base : Heap, (∀ p ∈ cs, LamX.TabB base mg p.1 p.2) → Txt P w K mg base fa ca cc pp fd) :
    (∀ (s : Shared) (u : Value), BindsTo s (fd 38) ⟨[u], []⟩ [("script", u)]) ∧ ∀ base : Heap, K.In base → base.Ns mainGlobals mg → (∀ p ∈ cs, LamX.TabB base mg p.1 p.2) → FnG P w K mg base 25 (fa 38) (fd 38) ["script"] (spLawT K (GG P w K fa ca pp).T) := by
  obtain ⟨oc, od, kV, doc, pm, an, ct, osl, efd, lk, hcd⟩ := fl.ex
  refine ⟨fun s u => ?_, fun base _ _ ht => (ok_law (T base ht)).imp fun vs H Q E h => spLawT_of (G := GG P w K fa ca pp) rfl rfl law_true vs H Q E h⟩
  rw [efd]
  exact .of_eq rfl
theorem facts {w : World} {K : PySem.W.Frag} {h : Heap} {mg : Str → Option Value} (KX : K.In h) (G : h.Ns mainGlobals mg) (S : SaysV faL fnL K) (TB : TabsV tbL K h) : mg "law" = some (.ref (He.ga K "law")) ∧ ∃ (fd : FuncData) (cs : List (Addr × Addr)) (T : List (Addr × Str)), (∀ p ∈ cs, h.get? p.2 = some tabO) ∧ (∀ p ∈ cs, K.lookup p.2 = none) ∧ (∀ p ∈ cs, PySem.W.CodeHd h p.1 p.2) ∧ (∀ p ∈ T, p.1 ∈ cs.map (·.2)) ∧ (∀ (s : Shared) (u : Value), BindsTo s fd ⟨[u], []⟩ [("script", u)]) ∧
    ∀ base : Heap, K.In base → base.Ns mainGlobals mg → (∀ p ∈ cs, LamX.TabB base mg p.1 p.2) → FnG (PySem.Challenge.rw_bandrims_k52_errors_of_tau_numbers : PySem.W.OpenLaw).prog w K mg base 25 (He.ga K "law") fd ["script"] (spLawT K T) := by
  obtain ⟨fd0, F0, FC0⟩ := S.dat 0 rfl rfl
  obtain ⟨fd1, F1, FC1⟩ := S.dat 1 rfl rfl
  obtain ⟨fd2, F2, FC2⟩ := S.dat 2 rfl rfl
  obtain ⟨fd3, F3, FC3⟩ := S.dat 3 rfl rfl
  obtain ⟨fd4, F4, FC4⟩ := S.dat 4 rfl rfl
  obtain ⟨fd5, F5, FC5⟩ := S.dat 5 rfl rfl
  obtain ⟨fd7, F7, FC7⟩ := S.dat 6 rfl rfl
  obtain ⟨fd8, F8, FC8⟩ := S.dat 7 rfl rfl
  obtain ⟨fd9, F9, FC9⟩ := S.dat 8 rfl rfl
  obtain ⟨fd10, F10, FC10⟩ := S.dat 9 rfl rfl
  obtain ⟨fd12, F12, FC12⟩ := S.dat 10 rfl rfl
  obtain ⟨fd13, F13, FC13⟩ := S.dat 11 rfl rfl
  obtain ⟨fd14, F14, FC14⟩ := S.dat 12 rfl rfl
  obtain ⟨fd15, F15, FC15⟩ := S.dat 13 rfl rfl
  obtain ⟨fd16, F16, FC16⟩ := S.dat 14 rfl rfl
  obtain ⟨fd17, F17, FC17⟩ := S.dat 15 rfl rfl
  obtain ⟨fd18, F18, FC18⟩ := S.dat 16 rfl rfl
  obtain ⟨fd19, F19, FC19⟩ := S.dat 17 rfl rfl
  obtain ⟨fd20, F20, FC20⟩ := S.dat 18 rfl rfl
  obtain ⟨fd21, F21, FC21⟩ := S.dat 19 rfl rfl
  obtain ⟨fd25, F25, FC25⟩ := S.dat 20 rfl rfl
  obtain ⟨fd26, F26, FC26⟩ := S.dat 21 rfl rfl
  obtain ⟨fd27, F27, FC27⟩ := S.dat 22 rfl rfl
  obtain ⟨fd28, F28, FC28⟩ := S.dat 23 rfl rfl
  obtain ⟨fd29, F29, FC29⟩ := S.dat 24 rfl rfl
  obtain ⟨fd30, F30, FC30⟩ := S.dat 25 rfl rfl
  obtain ⟨fd31, F31, FC31⟩ := S.dat 26 rfl rfl
  obtain ⟨fd32, F32, FC32⟩ := S.dat 27 rfl rfl
  obtain ⟨fd33, F33, FC33⟩ := S.dat 28 rfl rfl
  obtain ⟨fd34, F34, FC34⟩ := S.dat 29 rfl rfl
  obtain ⟨fd35, F35, FC35⟩ := S.dat 30 rfl rfl
  obtain ⟨fd36, F36, FC36⟩ := S.dat 31 rfl rfl
  obtain ⟨fd37, F37, FC37⟩ := S.dat 32 rfl rfl
  obtain ⟨fd38, F38, FC38⟩ := S.dat 33 rfl rfl
  refine ⟨gloB_ok KX G (S.at_ 33 rfl), ?_⟩
  have E := end_law (P := (PySem.Challenge.rw_bandrims_k52_errors_of_tau_numbers : PySem.W.OpenLaw).prog) (w := w) (K := K) (mg := mg) (fa := fun i => ([(He.ga K "is_whole"), (He.ga K "is_integer"), (He.ga K "fraction_in"), (He.ga K "sum_in"), (He.ga K "product_in"), (He.ga K "total_in"), 0, (He.ga K "product_from"), (He.ga K "handles_in"), (He.ga K "odd_of"), (He.ga K "falling"), 0, (He.ga K "shared"), (He.ga K "joined_terms_of"), (He.ga K "parted_terms_of"), (He.ga K "is_start"), (He.ga K "terms_in"), (He.ga K "start_number"), (He.ga K "tau_kept"), (He.ga K "tau_in"), (He.ga K "partings"), (He.ga K "tau_row_in"), 0, 0, 0, (He.ga K "by_rules"), (He.ga K "require_exponents"), (He.ga K "require_pair"), (He.ga K "handles_of"), (He.ga K "tau_number"), (He.ga K "tau_terms"), (He.ga K "tau_row"), (He.ga K "tau_by_rules"), (He.ga K "_law_dice"), (He.ga K "_law_roll"), (He.ga K "_law_pick"), (He.ga K "_law_met"), (He.ga K "_law_right"), (He.ga K "law")] : List Addr).getD i 0) (ca := fun i => ([0, He.ga K "InvalidOperation", He.ga K "InvalidNumber", He.ga K "TooMany", He.ga K "Refused"] : List Addr).getD i 0) (cc := fun i => ([cdAt K (He.ga K "is_whole"), cdAt K (He.ga K "is_integer"), cdAt K (He.ga K "fraction_in"), cdAt K (He.ga K "sum_in"), cdAt K (He.ga K "product_in"), cdAt K (He.ga K "total_in"), 0, cdAt K (He.ga K "product_from"), cdAt K (He.ga K "handles_in"), cdAt K (He.ga K "odd_of"), cdAt K (He.ga K "falling"), 0, cdAt K (He.ga K "shared"), cdAt K (He.ga K "joined_terms_of"), cdAt K (He.ga K "parted_terms_of"), cdAt K (He.ga K "is_start"), cdAt K (He.ga K "terms_in"), cdAt K (He.ga K "start_number"), cdAt K (He.ga K "tau_kept"), cdAt K (He.ga K "tau_in"), cdAt K (He.ga K "partings"), cdAt K (He.ga K "tau_row_in"), 0, 0, 0, cdAt K (He.ga K "by_rules"), cdAt K (He.ga K "require_exponents"), cdAt K (He.ga K "require_pair"), cdAt K (He.ga K "handles_of"), cdAt K (He.ga K "tau_number"), cdAt K (He.ga K "tau_terms"), cdAt K (He.ga K "tau_row"), cdAt K (He.ga K "tau_by_rules"), cdAt K (He.ga K "_law_dice"), cdAt K (He.ga K "_law_roll"), cdAt K (He.ga K "_law_pick"), cdAt K (He.ga K "_law_met"), cdAt K (He.ga K "_law_right"), cdAt K (He.ga K "law")] : List Addr).getD i 0) (pp := fun i => ([0, 0, 0, 0, 0, 0, 0, 0, 0, 0, 0, 0, 0, 0, 0, 0, 0, 0, 0, 0, 0, 0, 0, 0, 0, 0, 0, 0, 0, 0, 0, 0, 0, 0, 0, 0, 0, tbAt K (cdAt K (He.ga K "_law_right")), tbAt K (cdAt K (He.ga K "law"))] : List Addr).getD i 0) (fd := fun i => ([fd0, fd1, fd2, fd3, fd4, fd5, default, fd7, fd8, fd9, fd10, default, fd12, fd13, fd14, fd15, fd16, fd17, fd18, fd19, fd20, fd21, default, default, default, fd25, fd26, fd27, fd28, fd29, fd30, fd31, fd32, fd33, fd34, fd35, fd36, fd37, fd38] : List FuncData).getD i default) (cs := [(cdAt K (He.ga K "_law_right"), tbAt K (cdAt K (He.ga K "_law_right"))), (cdAt K (He.ga K "law"), tbAt K (cdAt K (He.ga K "law")))]) FC38 (fun base ht => {
      d_is_whole := gloB_ok KX G (S.at_ 0 rfl)
      f_is_whole := F0
      fc_is_whole := FC0
      d_is_integer := gloB_ok KX G (S.at_ 1 rfl)
      f_is_integer := F1
      fc_is_integer := FC1
      d_fraction_in := gloB_ok KX G (S.at_ 2 rfl)
      f_fraction_in := F2
      fc_fraction_in := FC2
      d_sum_in := gloB_ok KX G (S.at_ 3 rfl)
      f_sum_in := F3
      fc_sum_in := FC3
      d_product_in := gloB_ok KX G (S.at_ 4 rfl)
      f_product_in := F4
      fc_product_in := FC4
      d_total_in := gloB_ok KX G (S.at_ 5 rfl)
      f_total_in := F5
      fc_total_in := FC5
      d_product_from := gloB_ok KX G (S.at_ 6 rfl)
      f_product_from := F7
      fc_product_from := FC7
      d_handles_in := gloB_ok KX G (S.at_ 7 rfl)
      f_handles_in := F8
      fc_handles_in := FC8
      d_odd_of := gloB_ok KX G (S.at_ 8 rfl)
      f_odd_of := F9
      fc_odd_of := FC9
      d_falling := gloB_ok KX G (S.at_ 9 rfl)
      f_falling := F10
      fc_falling := FC10
      d_shared := gloB_ok KX G (S.at_ 10 rfl)
      f_shared := F12
      fc_shared := FC12
      d_joined_terms_of := gloB_ok KX G (S.at_ 11 rfl)
      f_joined_terms_of := F13
      fc_joined_terms_of := FC13
      d_parted_terms_of := gloB_ok KX G (S.at_ 12 rfl)
      f_parted_terms_of := F14
      fc_parted_terms_of := FC14
      d_is_start := gloB_ok KX G (S.at_ 13 rfl)
      f_is_start := F15
      fc_is_start := FC15
      d_terms_in := gloB_ok KX G (S.at_ 14 rfl)
      f_terms_in := F16
      fc_terms_in := FC16
      d_start_number := gloB_ok KX G (S.at_ 15 rfl)
      f_start_number := F17
      fc_start_number := FC17
      d_tau_kept := gloB_ok KX G (S.at_ 16 rfl)
      f_tau_kept := F18
      fc_tau_kept := FC18
      d_tau_in := gloB_ok KX G (S.at_ 17 rfl)
      f_tau_in := F19
      fc_tau_in := FC19
      d_partings := gloB_ok KX G (S.at_ 18 rfl)
      f_partings := F20
      fc_partings := FC20
      d_tau_row_in := gloB_ok KX G (S.at_ 19 rfl)
      f_tau_row_in := F21
      fc_tau_row_in := FC21
      d_by_rules := gloB_ok KX G (S.at_ 20 rfl)
      f_by_rules := F25
      fc_by_rules := FC25
      d_require_exponents := gloB_ok KX G (S.at_ 21 rfl)
      f_require_exponents := F26
      fc_require_exponents := FC26
      d_require_pair := gloB_ok KX G (S.at_ 22 rfl)
      f_require_pair := F27
      fc_require_pair := FC27
      d_handles_of := gloB_ok KX G (S.at_ 23 rfl)
      f_handles_of := F28
      fc_handles_of := FC28
      d_tau_number := gloB_ok KX G (S.at_ 24 rfl)
      f_tau_number := F29
      fc_tau_number := FC29
      d_tau_terms := gloB_ok KX G (S.at_ 25 rfl)
      f_tau_terms := F30
      fc_tau_terms := FC30
      d_tau_row := gloB_ok KX G (S.at_ 26 rfl)
      f_tau_row := F31
      fc_tau_row := FC31
      d_tau_by_rules := gloB_ok KX G (S.at_ 27 rfl)
      f_tau_by_rules := F32
      fc_tau_by_rules := FC32
      d_law_dice := gloB_ok KX G (S.at_ 28 rfl)
      f_law_dice := F33
      fc_law_dice := FC33
      d_law_roll := gloB_ok KX G (S.at_ 29 rfl)
      f_law_roll := F34
      fc_law_roll := FC34
      d_law_pick := gloB_ok KX G (S.at_ 30 rfl)
      f_law_pick := F35
      fc_law_pick := FC35
      d_law_met := gloB_ok KX G (S.at_ 31 rfl)
      f_law_met := F36
      fc_law_met := FC36
      d_law_right := gloB_ok KX G (S.at_ 32 rfl)
      f_law_right := F37
      fc_law_right := FC37
      d_law := gloB_ok KX G (S.at_ 33 rfl)
      f_law := F38
      fc_law := FC38
      t_law_right := ht (cdAt K (He.ga K "_law_right"), tbAt K (cdAt K (He.ga K "_law_right"))) (by simp)
      v_law_right := (by repeat (first | exact List.Mem.head _ | apply List.Mem.tail))
      u_law_right := (fun p hp e => by
          simp only [List.mem_cons, List.not_mem_nil, or_false] at hp
          rcases hp with rfl | rfl
          · exact rfl
          · exact (neB_ok (S.at_ 34 rfl) e).elim)
      t_law := ht (cdAt K (He.ga K "law"), tbAt K (cdAt K (He.ga K "law"))) (by simp)
      v_law := (by repeat (first | exact List.Mem.head _ | apply List.Mem.tail))
      u_law := (fun p hp e => by
          simp only [List.mem_cons, List.not_mem_nil, or_false] at hp
          rcases hp with rfl | rfl
          · exact (neB_ok (S.at_ 35 rfl) e).elim
          · exact rfl)
      x_InvalidOperation := plainB_ok KX G PySem.F.excBase_ValueError (S.at_ 36 rfl)
      x_InvalidNumber := keepB_ok KX G bx_IndexError (S.at_ 37 rfl) (S.vat 34 rfl) rfl rfl rfl (by decide +kernel) (by decide) (fun _ _ _ _ _ _ _ _ _ => .of_eq rfl) ⟨_, fun env => rfl⟩ (by decide +kernel)
      x_TooMany := keepB_ok KX G bx_OverflowError (S.at_ 38 rfl) (S.vat 35 rfl) rfl rfl rfl (by decide +kernel) (by decide) (fun _ _ _ _ _ _ _ _ _ => .of_eq rfl) ⟨_, fun env => rfl⟩ (by decide +kernel)
      x_Refused := keepB_ok KX G bx_ArithmeticError (S.at_ 39 rfl) (S.vat 36 rfl) rfl rfl rfl (by decide +kernel) (by decide) (fun _ _ _ _ _ _ _ _ _ => .of_eq rfl) ⟨_, fun env => rfl⟩ (by decide +kernel)
      m_1_1 := exmB_ok (S.at_ 40 rfl)
      m_2_1 := exmB_ok (S.at_ 41 rfl)
      m_3_1 := exmB_ok (S.at_ 42 rfl)
      m_4_1 := exmB_ok (S.at_ 43 rfl)
      m_1_2 := exmB_ok (S.at_ 44 rfl)
      m_2_2 := exmB_ok (S.at_ 45 rfl)
      m_3_2 := exmB_ok (S.at_ 46 rfl)
      m_4_2 := exmB_ok (S.at_ 47 rfl)
      m_1_3 := exmB_ok (S.at_ 48 rfl)
      m_2_3 := exmB_ok (S.at_ 49 rfl)
      m_3_3 := exmB_ok (S.at_ 50 rfl)
      m_4_3 := exmB_ok (S.at_ 51 rfl)
      m_1_4 := exmB_ok (S.at_ 52 rfl)
      m_2_4 := exmB_ok (S.at_ 53 rfl)
      m_3_4 := exmB_ok (S.at_ 54 rfl)
      m_4_4 := exmB_ok (S.at_ 55 rfl)
      z_abs := freeB_ok KX G (S.at_ 56 rfl)
      z_all := freeB_ok KX G (S.at_ 57 rfl)
      z_bool := freeB_ok KX G (S.at_ 58 rfl)
      z_enumerate := freeB_ok KX G (S.at_ 59 rfl)
      z_int := freeB_ok KX G (S.at_ 60 rfl)
      z_isinstance := freeB_ok KX G (S.at_ 61 rfl)
      z_len := freeB_ok KX G (S.at_ 62 rfl)
      z_list := freeB_ok KX G (S.at_ 63 rfl)
      z_max := freeB_ok KX G (S.at_ 64 rfl)
      z_min := freeB_ok KX G (S.at_ 65 rfl)
      z_range := freeB_ok KX G (S.at_ 66 rfl)
      z_repr := freeB_ok KX G (S.at_ 67 rfl)
      z_sorted := freeB_ok KX G (S.at_ 68 rfl)
      z_sum := freeB_ok KX G (S.at_ 69 rfl)
      z_tuple := freeB_ok KX G (S.at_ 70 rfl)
      i_gcd := bltB_ok KX G (S.at_ 71 rfl)
      c_BOUND := He.int_ok KX G (S.at_ 72 rfl)
      c_LONE := He.int_ok KX G (S.at_ 73 rfl)
      c_MAX_DEPTH := He.int_ok KX G (S.at_ 74 rfl)
      c_MOST_EXPONENTS := He.int_ok KX G (S.at_ 75 rfl)
      c_MOST_MANY := He.int_ok KX G (S.at_ 76 rfl)
      c_MOST_RIMS := He.int_ok KX G (S.at_ 77 rfl)
      c_MOST_SUM := He.int_ok KX G (S.at_ 78 rfl)
      c_ONE := gkB_ok KX G (S.at_ 79 rfl)
      c_PAIR := He.str_ok KX G (S.at_ 80 rfl)
      c_ZERO_numbers := gkB_ok KX G (S.at_ 81 rfl)
      c_ZERO_tau := gkB_ok KX G (S.at_ 82 rfl)
      })
  exact ⟨_, _, _, (fun p hp => by
      simp only [List.mem_cons, List.not_mem_nil, or_false] at hp; rcases hp with rfl | rfl
      · exact TB.at_ 0 rfl
      · exact TB.at_ 1 rfl), (fun p hp => by
      simp only [List.mem_cons, List.not_mem_nil, or_false] at hp; rcases hp with rfl | rfl
      · exact (tbB_ok (S.at_ 83 rfl)).2
      · exact (tbB_ok (S.at_ 84 rfl)).2), (fun p hp => by
      simp only [List.mem_cons, List.not_mem_nil, or_false] at hp; rcases hp with rfl | rfl
      · exact PySem.W.codeHd_of_K KX (tbB_ok (S.at_ 83 rfl)).1
      · exact PySem.W.codeHd_of_K KX (tbB_ok (S.at_ 84 rfl)).1), (fun p hp => by simp only [List.mem_cons, List.not_mem_nil, or_false] at hp; rcases hp with rfl | rfl <;> simp), E.1, E.2⟩
end Lw
end
open PySem PySem.W PySem.Calls PyProof.Rows

set_option maxRecDepth 100000 in
set_option maxHeartbeats 0 in
theorem PySem.Challenge.cw_bandrims_k52_errors_of_tau_numbers_holds : PySem.Challenge.rw_bandrims_k52_errors_of_tau_numbers.Holds := by
  w_on; o_law
  refine HeadRun.head_imp (r := (OpenLaw.row PySem.Challenge.rw_bandrims_k52_errors_of_tau_numbers)) (q := view (OpenLaw.row PySem.Challenge.rw_bandrims_k52_errors_of_tau_numbers).prog [0, 59]) (H := VE.hookV 6 Lw.faL Lw.fnL Lw.tbL) (ob := fun s => VE.obsG 6 Lw.faL Lw.fnL Lw.tbL (HeadRun.getT s)) (M := 14000) (loose := Lw.names) (d := HandSHeadRun.topDef (OpenLaw.row PySem.Challenge.rw_bandrims_k52_errors_of_tau_numbers).prog 59) (kwd := []) ?ho ?run ?c1 ?c2 ?c3 ?c4 ?c5 ?c6 ?c7 ?hw ?hc
  case ho => exact fun s => VE.obsG_eq (HeadRun.getT_eq s)
  case run => (intro w; unfold HeadRun.RunEqI; kernel_rfl)
  case c1 => kernel_rfl
  case c2 => kernel_rfl
  case c3 => kernel_rfl
  case c4 => rfl
  case c5 => first | assumption | decide +kernel
  case c6 => decide +kernel
  case c7 => exact ⟨rfl, rfl, rfl, rfl, rfl, by decide +kernel⟩
  case hw => w_witness2
  case hc =>
    refine VE.walk_lawV (k := 25) (l := PySem.Challenge.rw_bandrims_k52_errors_of_tau_numbers) ⟨rfl, by decide, by decide⟩ rfl (by kernel_rfl) ?F
    intro w mg fa h Y G hmg0
    have hmg : mg ("law" : PySem.Str) = some (.ref fa) := by
      have e : (HandSHeadRun.topDef (OpenLaw.row PySem.Challenge.rw_bandrims_k52_errors_of_tau_numbers).prog 59).name = ("law" : PySem.Str) := by kernel_rfl
      rw [← e]
      exact hmg0
    obtain ⟨K, KX, S, TB⟩ := Y
    obtain ⟨e, fd, cs, T, r⟩ := Lw.facts (w := w) KX G S TB
    cases hmg.symm.trans e
    exact ⟨K, fd, cs, T, KX, r⟩
