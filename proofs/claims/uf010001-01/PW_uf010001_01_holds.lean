import PyProof.Rows.All
import PySem.Str
import PySem.Syntax
import KE.KDictOf
import PyProof.DictCopy
import PyProof.ListIndexNeg
import PyProof.WalksU
import PyProof.ForAny
import PyProof.EvalArms
import PyProof.Rows.TupAssign
import PyProof.CompFree
import PyProof.CompMap
import PyProof.StrWalks
import PyProof.RangeFor
import PyProof.WalksMore
import PyProof.TupleIter
import PyProof.IsiPairs
import PyProof.IsiHeapPairs
import PyProof.ListCopy
import PyProof.Conv_int_bool
import PyProof.TupleCall
import PyProof.TupleOfSeq
import PyProof.CallRoads
import PyProof.StrBlock
import PyProof.StrBlockL
import PyProof.StrCalls
import PyProof.StrCalls2
import PyProof.DictCalls
import PyProof.ZipIter
import PyProof.Draws
import PyProof.Dict
import PyProof.ListIndex
import KE.KUnpack
import PySem.Call
import PyProof.Laws
import Wide.All
import Open.Line
import Wide.FinOn
import PySem.Challenge.RW_uf010001_01
set_option Elab.async false
namespace Mine
open PySem (CmpOp Operator)

inductive D where
  | none
  | bool (b : Bool)
  | int (i : Int)
  | str (cs : List Nat)
  | tup (vs : List D)
  | list (vs : List D)
  | dict (kvs : List (D × D))
  | inst (fs : List D)
  | exc (c : Nat)

mutual
noncomputable def D.eqb : D → D → Bool
  | .none, .none => true
  | .bool a, .bool b => a == b
  | .int a, .int b => a == b
  | .str a, .str b => a == b
  | .tup a, .tup b => D.eqbs a b
  | .list a, .list b => D.eqbs a b
  | .dict a, .dict b => D.eqbk a b
  | .inst a, .inst b => D.eqbs a b
  | .exc a, .exc b => a == b
  | _, _ => false
noncomputable def D.eqbs : List D → List D → Bool
  | [], [] => true
  | a :: as, b :: bs => D.eqb a b && D.eqbs as bs
  | _, _ => false
noncomputable def D.eqbk : List (D × D) → List (D × D) → Bool
  | [], [] => true
  | (k, v) :: as, (k', v') :: bs => D.eqb k k' && D.eqb v v' && D.eqbk as bs
  | _, _ => false
end

theorem and2 {a b : Bool} (h : (a && b) = true) : a = true ∧ b = true := by cases a <;> cases b <;> first | exact ⟨rfl, rfl⟩ | cases h
theorem and3 {a b : Bool} (h1 : a = true) (h2 : b = true) : (a && b) = true := by rw [h1, h2]; rfl
mutual
theorem D.eqb_eq : ∀ {a b : D}, D.eqb a b = true → a = b
  | .none, b, h => by cases b <;> first | rfl | exact Bool.noConfusion h
  | .bool x, b, h => by cases b <;> first | exact congrArg D.bool (eq_of_beq h) | exact Bool.noConfusion h
  | .int x, b, h => by cases b <;> first | exact congrArg D.int (eq_of_beq h) | exact Bool.noConfusion h
  | .str x, b, h => by cases b <;> first | exact congrArg D.str (eq_of_beq h) | exact Bool.noConfusion h
  | .tup x, b, h => by cases b <;> first | exact congrArg D.tup (D.eqbs_eq h) | exact Bool.noConfusion h
  | .list x, b, h => by cases b <;> first | exact congrArg D.list (D.eqbs_eq h) | exact Bool.noConfusion h
  | .dict x, b, h => by cases b <;> first | exact congrArg D.dict (D.eqbk_eq h) | exact Bool.noConfusion h
  | .inst x, b, h => by cases b <;> first | exact congrArg D.inst (D.eqbs_eq h) | exact Bool.noConfusion h
  | .exc x, b, h => by cases b <;> first | exact congrArg D.exc (eq_of_beq h) | exact Bool.noConfusion h
theorem D.eqbs_eq : ∀ {a b : List D}, D.eqbs a b = true → a = b
  | [], [], _ => rfl
  | [], _ :: _, h => Bool.noConfusion h
  | _ :: _, [], h => Bool.noConfusion h
  | x :: xs, y :: ys, h => by
    obtain ⟨h1, h2⟩ := and2 h
    rw [D.eqb_eq h1, D.eqbs_eq h2]
theorem D.eqbk_eq : ∀ {a b : List (D × D)}, D.eqbk a b = true → a = b
  | [], [], _ => rfl
  | [], _ :: _, h => Bool.noConfusion h
  | _ :: _, [], h => Bool.noConfusion h
  | (k, v) :: xs, (k', v') :: ys, h => by
    obtain ⟨h', h3⟩ := and2 h
    obtain ⟨h1, h2⟩ := and2 h'
    rw [D.eqb_eq h1, D.eqb_eq h2, D.eqbk_eq h3]
end
mutual
theorem D.eqb_refl : ∀ a : D, D.eqb a a = true
  | .none => rfl
  | .bool x => beq_self_eq_true x
  | .int x => beq_self_eq_true x
  | .str x => beq_self_eq_true x
  | .tup x => D.eqbs_refl x
  | .list x => D.eqbs_refl x
  | .dict x => D.eqbk_refl x
  | .inst x => D.eqbs_refl x
  | .exc x => beq_self_eq_true x
theorem D.eqbs_refl : ∀ a : List D, D.eqbs a a = true
  | [] => rfl
  | x :: xs => and3 (D.eqb_refl x) (D.eqbs_refl xs)
theorem D.eqbk_refl : ∀ a : List (D × D), D.eqbk a a = true
  | [] => rfl
  | (k, v) :: xs => and3 (and3 (D.eqb_refl k) (D.eqb_refl v)) (D.eqbk_refl xs)
end
theorem D.eqb_iff {a b : D} : D.eqb a b = true ↔ a = b := ⟨D.eqb_eq, fun h => h ▸ D.eqb_refl a⟩

noncomputable def b2i (b : Bool) : Int := if b then 1 else 0
mutual
noncomputable def D.eqv : D → D → Bool
  | .none, .none => true
  | .bool a, .bool b => a == b
  | .bool a, .int j => b2i a == j
  | .int i, .bool b => i == b2i b
  | .int a, .int b => a == b
  | .str a, .str b => a == b
  | .tup a, .tup b => D.eqvs a b
  | .list a, .list b => D.eqvs a b
  | _, _ => false
noncomputable def D.eqvs : List D → List D → Bool
  | [], [] => true
  | a :: as, b :: bs => D.eqv a b && D.eqvs as bs
  | _, _ => false
end
mutual

noncomputable def D.flat : D → Bool
  | .tup a => D.flats a
  | .list a => D.flats a
  | .dict _ => false
  | .inst _ => false
  | .exc _ => false
  | _ => true
noncomputable def D.flats : List D → Bool
  | [] => true
  | a :: as => D.flat a && D.flats as
end
mutual

noncomputable def D.nb : D → Bool
  | .tup a => D.nbs a
  | .list a => D.nbs a
  | .dict _ => false
  | .inst _ => false
  | .bool _ => false
  | .exc _ => false
  | _ => true
noncomputable def D.nbs : List D → Bool
  | [] => true
  | a :: as => D.nb a && D.nbs as
end
mutual
noncomputable def D.depth : D → Nat
  | .tup a => D.depths a + 1
  | .list a => D.depths a + 1
  | .dict _ => 0
  | .inst _ => 0
  | _ => 0
noncomputable def D.depths : List D → Nat
  | [] => 0
  | a :: as => max (D.depth a) (D.depths as)
end
noncomputable def D.key : D → Bool
  | .int _ => true
  | .str _ => true
  | _ => false

mutual
theorem D.eqv_eq : ∀ {a b : D}, D.nb a = true → D.nb b = true → D.eqv a b = true → a = b
  | .none, b, _, hb, h => by cases b <;> first | rfl | exact Bool.noConfusion h
  | .bool x, b, ha, _, h => Bool.noConfusion ha
  | .int x, b, _, hb, h => by cases b <;> first | exact congrArg D.int (eq_of_beq h) | exact Bool.noConfusion hb | exact Bool.noConfusion h
  | .str x, b, _, hb, h => by cases b <;> first | exact congrArg D.str (eq_of_beq h) | exact Bool.noConfusion h
  | .tup x, b, ha, hb, h => by cases b <;> first | exact congrArg D.tup (D.eqvs_eq ha hb h) | exact Bool.noConfusion h
  | .list x, b, ha, hb, h => by cases b <;> first | exact congrArg D.list (D.eqvs_eq ha hb h) | exact Bool.noConfusion h
  | .dict x, b, ha, _, h => Bool.noConfusion ha
  | .inst x, b, ha, _, h => Bool.noConfusion ha
  | .exc x, b, ha, _, h => Bool.noConfusion ha
theorem D.eqvs_eq : ∀ {a b : List D}, D.nbs a = true → D.nbs b = true → D.eqvs a b = true → a = b
  | [], [], _, _, _ => rfl
  | [], _ :: _, _, _, h => Bool.noConfusion h
  | _ :: _, [], _, _, h => Bool.noConfusion h
  | x :: xs, y :: ys, ha, hb, h => by
    obtain ⟨h1, h2⟩ := and2 h
    obtain ⟨a1, a2⟩ := and2 ha
    obtain ⟨b1, b2⟩ := and2 hb
    rw [D.eqv_eq a1 b1 h1, D.eqvs_eq a2 b2 h2]
end
mutual
theorem D.eqv_refl : ∀ {a : D}, D.nb a = true → D.eqv a a = true
  | .none, _ => rfl
  | .bool x, h => Bool.noConfusion h
  | .int x, _ => beq_self_eq_true x
  | .str x, _ => beq_self_eq_true x
  | .tup x, h => D.eqvs_refl h
  | .list x, h => D.eqvs_refl h
  | .dict x, h => Bool.noConfusion h
  | .inst x, h => Bool.noConfusion h
  | .exc x, h => Bool.noConfusion h
theorem D.eqvs_refl : ∀ {a : List D}, D.nbs a = true → D.eqvs a a = true
  | [], _ => rfl
  | x :: xs, h => and3 (D.eqv_refl (and2 h).1) (D.eqvs_refl (and2 h).2)
end
theorem D.eqv_nb {a b : D} (ha : D.nb a = true) (hb : D.nb b = true) : D.eqv a b = true ↔ a = b := ⟨D.eqv_eq ha hb, fun e => e ▸ D.eqv_refl ha⟩
theorem D.eqvs_nb {a b : List D} (ha : D.nbs a = true) (hb : D.nbs b = true) : D.eqvs a b = true ↔ a = b := ⟨D.eqvs_eq ha hb, fun e => e ▸ D.eqvs_refl ha⟩

inductive AO where
  | list (ds : List D)
  | dict (kvs : List (D × D))
  | inst (dx : Nat) (fs : List D)
  | llist (ns : List Nat)
  | ldict (kns : List (D × Nat))
  | hid
  | ro (o : AO)

inductive V where
  | d (x : D)
  | loc (n : Nat)
  | mix (n : Nat) (ds : List D)

abbrev Hp := Nat → Option AO
noncomputable def Hp.upd (h : Hp) (n : Nat) (o : AO) : Hp := fun m => if m = n then some o else h m
noncomputable def Hp.le (h h' : Hp) : Prop := ∀ n o, h n = some o → h' n = some o
theorem Hp.upd_self (h : Hp) (n o) : (h.upd n o) n = some o := by simp [Hp.upd]
theorem Hp.upd_ne (h : Hp) {n m : Nat} (o) (e : m ≠ n) : (h.upd n o) m = h m := by simp [Hp.upd, e]
theorem Hp.le_refl (h : Hp) : h.le h := fun _ _ e => e
theorem Hp.le_trans {a b c : Hp} (x : a.le b) (y : b.le c) : a.le c := fun n o e => y n o (x n o e)
theorem Hp.le_upd {h : Hp} {n : Nat} {o : AO} (e : h n = none) : h.le (h.upd n o) := fun m o' e' => by
  rw [Hp.upd_ne]; exact e'
  intro q; rw [q, e] at e'; cases e'

noncomputable def Hp.look (live : Hp) (n : Nat) : Option AO := match live n with
  | some (.ro o) => some o
  | r => r
noncomputable def AO.boxy : AO → Bool
  | .list _ => true
  | .dict _ => true
  | .llist _ => true
  | .ldict _ => true
  | _ => false
noncomputable def lock (live : Hp) (src : Option Nat) : Hp := match src with
  | some n => match live n with
    | some o => if o.boxy then live.upd n (.ro o) else live
    | none => live
  | none => live
noncomputable def unlock (live₀ live : Hp) (src : Option Nat) : Hp := match src with
  | some n => match live₀ n with
    | some o => if o.boxy then live.upd n o else live
    | none => live
  | none => live

noncomputable def AO.toD : AO → Option D
  | .list ds => some (.list ds)
  | .dict kvs => some (.dict kvs)
  | _ => none

noncomputable def view (live : Hp) : V → Option AO
  | .d (.list ds) => some (.list ds)
  | .d (.dict kvs) => some (.dict kvs)
  | .loc n => live.look n
  | _ => none

inductive Fz (live live' : Hp) : V → D → Prop
  | d (x : D) : Fz live live' (.d x) x
  | ao {n : Nat} {o : AO} {x : D} : live n = some o → live' n = none → o.toD = some x → Fz live live' (.loc n) x
  | llist {n : Nat} {ns : List Nat} {os : List AO} {ds : List D} : live n = some (.llist ns) → live' n = none → ns.map live = os.map some → (∀ m ∈ ns, live' m = none) →
      os.map AO.toD = ds.map some → Fz live live' (.loc n) (.list ds)
  | ldict {n : Nat} {kns : List (D × Nat)} {os : List AO} {ds : List D} : live n = some (.ldict kns) → live' n = none → (kns.map (·.2)).map live = os.map some → (∀ m ∈ kns.map (·.2), live' m = none) →
      os.map AO.toD = ds.map some → Fz live live' (.loc n) (.dict ((kns.map (·.1)).zip ds))
  | inst {n dx : Nat} {fs : List D} : live n = some (.inst dx fs) → live' n = none → live' dx = none → live dx = some .hid → Fz live live' (.loc n) (.inst fs)
  | mix {n : Nat} {o : AO} {x : D} {ds : List D} : live n = some o → live' n = none → o.toD = some x → Fz live live' (.mix n ds) (.tup (x :: ds))

abbrev Env := List (Option V)

noncomputable def dxOf : AO → Option Nat
  | .inst dx _ => some dx
  | .ro o => dxOf o
  | _ => none
structure Drop (live live' : Hp) : Prop where
  le : live'.le live
  ro : ∀ n o, live n = some (.ro o) → live' n = some (.ro o)
  hid : ∀ n o dx, live' n = some o → dxOf o = some dx → live dx = some .hid → live' dx = some .hid
theorem Drop.refl (live : Hp) : Drop live live := ⟨Hp.le_refl _, fun _ _ e => e, fun _ _ _ _ _ e => e⟩
theorem Drop.trans {a b c : Hp} (x : Drop a b) (y : Drop b c) : Drop a c :=
  ⟨Hp.le_trans y.le x.le, fun n o e => y.ro n o (x.ro n o e), fun n o dx e q h => y.hid n o dx e q (x.hid n o dx (y.le _ _ e) q h)⟩
noncomputable def AO.plain : AO → Bool
  | .ro _ => false
  | .hid => false
  | _ => true
theorem Drop.upd {live : Hp} {n : Nat} {o : AO} (h : live n = none) (ho : o.plain = true) : Drop (live.upd n o) live := ⟨Hp.le_upd h, fun m o' e => by
  unfold Hp.upd at e
  split at e
  · cases e; cases ho
  · exact e, fun m o' dx e q z => by
  unfold Hp.upd at z
  split at z
  · cases z; cases ho
  · exact z⟩

noncomputable def Rz (live live' : Hp) (v v' : V) : Prop := Drop live live' ∧ (v' = v ∨ ∃ x, v' = .d x ∧ Fz live live' v x)
noncomputable def Gh (ρ : Env) (live : Hp) (ρ' : Env) (live' : Hp) : Prop :=
  Drop live live' ∧ ρ'.length = ρ.length ∧ ∀ (i : Nat) (v' : V), ρ'[i]? = some (some v') → ∃ v, ρ[i]? = some (some v) ∧ (v' = v ∨ ∃ x, v' = .d x ∧ Fz live live' v x)

inductive BI where
  | len | int | range | sortedset (lv : Bool) | lenset | sorted (lv : Bool) | list (lv : Bool) | dict (lv : Bool) | tuple | listvalues (lv : Bool) | listrev (lv : Bool) | min2 | max2 | max1 | maxd | str | pairsdict (lv : Bool)
inductive MT where
  | append | pop0 | popAt | extend | clear | remove | get1 | get2 | dpop2 | dupdate | join | index | split | isalpha | islower
inductive TY where
  | int | bool | str | list | tuple | dict | exc (c : Nat)

mutual
inductive E where
  | cst (d : D)
  | gc (k : Nat)
  | var (i : Nat)
  | frz (e : E)
  | and_ (a b : E)
  | or_ (a b : E)
  | not_ (a : E)
  | cmp (op : CmpOp) (a b : E)
  | cmp2 (a : E) (op1 : CmpOp) (b : E) (op2 : CmpOp) (c : E)
  | isNone (a : E) (neg : Bool)
  | bin (lv : Bool) (op : Operator) (a b : E)
  | neg (a : E)
  | ite (c a b : E)
  | idx (a i : E)
  | slc (lv : Bool) (a : E) (lo hi : Option E)
  | attr (a : E) (k : Nat)
  | call (f : Nat) (args : List E)
  | mcall (f : Nat) (o : E) (args : List E)
  | new (f : Nat) (args : List E)
  | bi (b : BI) (args : List E)
  | mth (m : MT) (o : E) (args : List E)
  | lst (lv : Bool) (es : List E)
  | tup (es : List E)
  | dct (lv : Bool) (ks vs : List E)
  | comp (lv : Bool) (elt : E) (tg : List Nat) (one : Bool) (it : It) (cond : Option E)
  | compl (tg : Nat) (it : It) (dict : Bool)
  | isi (a : E) (t : TY)
inductive It where
  | e (e : E)
  | range (e : E)
  | enum (e : E)
  | zip (a b : E)
  | rev (e : E)
  | revrange (e : E)
end

inductive S where
  | assign (i : Nat) (e : E)
  | assignT (is : List Nat) (e : E)
  | setIdx (o i e : E)
  | setAttr (o : E) (k : Nat) (e : E)
  | expr (e : E)
  | ite (c : E) (a b : List S)
  | for_ (tg : List Nat) (one : Bool) (it : It) (body : List S)
  | while_ (c : E) (body : List S)
  | ret (e : E)
  | cont
  | pass
  | raise_ (c : Nat)
  | try_ (body : List S) (c : Nat) (slot : Nat) (handler : List S)
  | ghost

inductive Fl where
  | nx | ct
  | rt (v : V)

end Mine

set_option Elab.async false
namespace Mine
open PySem (CmpOp Operator)

abbrev XP := Nat → Hp → Prop
abbrev KV := V → Hp → Prop
abbrev CP := Nat → List V → Hp → KV → XP → Prop

noncomputable def big : Nat := 16777216
noncomputable def mk (lv : Bool) (o : AO) (live : Hp) (Q : KV) : Prop :=
  match lv with
  | true => ∀ n, live n = none → Q (.loc n) (live.upd n o)
  | false => match o.toD with
    | some x => Q (.d x) live
    | none => False
noncomputable def mkL (lv : Bool) (ds : List D) (live : Hp) (Q : KV) : Prop := ds.length ≤ big ∧ mk lv (.list ds) live Q

noncomputable def getI {α : Type} (ds : List α) (i : Int) : Option α :=
  if 0 ≤ i then ds[i.toNat]? else if 0 ≤ i + ds.length then ds[(i + ds.length).toNat]? else none
noncomputable def slcB (n : Nat) (i : Int) : Nat := if i < 0 then (i + n).toNat else min i.toNat n
noncomputable def slice {α : Type} (ds : List α) (lo hi : Option Int) : List α :=
  (ds.take (match hi with | some h => slcB ds.length h | none => ds.length)).drop (match lo with | some l => slcB ds.length l | none => 0)

noncomputable def dget {α : Type} (kvs : List (D × α)) (k : D) : Option α := (kvs.find? fun p => D.eqb p.1 k).map (·.2)
noncomputable def dput {α : Type} : List (D × α) → D → α → List (D × α)
  | [], k, v => [(k, v)]
  | (k', v') :: r, k, v => if D.eqb k' k then (k', v) :: r else (k', v') :: dput r k v
noncomputable def ddel {α : Type} : List (D × α) → D → List (D × α)
  | [], _ => []
  | (k', v') :: r, k => if D.eqb k' k then r else (k', v') :: ddel r k
noncomputable def dupd (kvs more : List (D × D)) : List (D × D) := more.foldl (fun a p => dput a p.1 p.2) kvs
noncomputable abbrev lget (kns : List (D × Nat)) (k : D) : Option Nat := dget kns k
noncomputable abbrev lput (kns : List (D × Nat)) (k : D) (n : Nat) : List (D × Nat) := dput kns k n

noncomputable def rd (live : Hp) : V → Option D
  | .d x => some x
  | .loc n => (live.look n).bind AO.toD
  | .mix _ _ => none
noncomputable def rdE (live : Hp) : V → Option D
  | .d x => some x
  | .loc n => (live.look n).bind AO.toD
  | .mix n ds => ((live.look n).bind AO.toD).map fun x => .tup (x :: ds)
noncomputable def dof : V → Option D
  | .d x => some x
  | _ => none

noncomputable def strLt : List Nat → List Nat → Bool
  | [], [] => false
  | [], _ :: _ => true
  | _ :: _, [] => false
  | a :: as, b :: bs => if a = b then strLt as bs else decide (a < b)
mutual
noncomputable def D.lt : D → D → Bool
  | .int a, .int b => decide (a < b)
  | .str a, .str b => strLt a b
  | .tup a, .tup b => D.lts a b
  | _, _ => false
noncomputable def D.lts : List D → List D → Bool
  | [], _ :: _ => true
  | a :: as, b :: bs => if D.eqb a b then D.lts as bs else D.lt a b
  | _, _ => false
end
noncomputable def ins (x : D) : List D → List D
  | [] => [x]
  | y :: r => if D.lt x y then x :: y :: r else y :: ins x r
noncomputable def isort : List D → List D := fun l => l.foldl (fun a x => ins x a) []
mutual
noncomputable def D.like : D → D → Bool
  | .int _, .int _ => true
  | .str _, .str _ => true
  | .tup a, .tup b => D.likes a b
  | _, _ => false
noncomputable def D.likes : List D → List D → Bool
  | [], [] => true
  | a :: as, b :: bs => D.like a b && D.likes as bs
  | _, _ => false
end
noncomputable def nodupD : List D → List D
  | [] => []
  | x :: r => let t := nodupD r; if t.any (fun y => D.eqb y x) then t else x :: t

noncomputable def vIf (b : Bool) (A B : Prop) : Prop := (b = true → A) ∧ (b = false → B)

noncomputable def small (a : Int) : Prop := -4611686018427387904 < a ∧ a < 4611686018427387904

noncomputable def vBin (lv : Bool) (op : Operator) (a b : V) (live : Hp) (Q : KV) : Prop :=
  match op with
  | .Add => match rd live a, rd live b with
    | some (.int x), some (.int y) => Q (.d (.int (x + y))) live
    | some (.str x), some (.str y) => (x ++ y).length ≤ big ∧ Q (.d (.str (x ++ y))) live
    | some (.list x), some (.list y) => mkL lv (x ++ y) live Q
    | some (.tup x), some (.tup y) => (x ++ y).length ≤ big ∧ Q (.d (.tup (x ++ y))) live
    | _, _ => False
  | .Sub => match rd live a, rd live b with
    | some (.int x), some (.int y) => Q (.d (.int (x - y))) live
    | _, _ => False
  | .Mult => match rd live a, rd live b with
    | some (.int x), some (.int y) => (small x ∨ small y) ∧ Q (.d (.int (x * y))) live
    | _, _ => False
  | .FloorDiv => match rd live a, rd live b with
    | some (.int x), some (.int y) => 0 < y ∧ y < 1073741824 ∧ Q (.d (.int (x / y))) live
    | _, _ => False
  | .Mod => match rd live a, rd live b with
    | some (.int x), some (.int y) => 0 < y ∧ Q (.d (.int (x % y))) live
    | _, _ => False
  | .Pow => match rd live a, rd live b with
    | some (.int x), some (.int y) => x = 10 ∧ 0 ≤ y ∧ y ≤ 100 ∧ Q (.d (.int (x ^ y.toNat))) live
    | _, _ => False
  | _ => False

noncomputable def okEq (x y : D) : Prop := D.flat x = true ∧ D.flat y = true ∧ D.depth x ≤ 64 ∧ D.depth y ≤ 64

noncomputable def inV (a b : V) (live : Hp) (K : Bool → Prop) : Prop :=
  match rdE live a with
  | none => False
  | some x =>
    match b with
    | .d (.tup ds) => (D.flat x = true ∧ D.flats ds = true ∧ min (D.depths ds) (D.depth x) ≤ 64) ∧ K (ds.any fun y => D.eqv y x)
    | .d (.str cs) => match x with
      | .str [c] => K (cs.contains c)
      | _ => False
    | b => match view live b with
      | some (.list ds) => (D.flat x = true ∧ D.flats ds = true ∧ min (D.depths ds) (D.depth x) ≤ 64) ∧ K (ds.any fun y => D.eqv y x)
      | some (.dict kvs) => D.key x = true ∧ K (dget kvs x).isSome
      | some (.ldict kns) => D.key x = true ∧ K (lget kns x).isSome
      | _ => False

noncomputable def dflat (kvs : List (D × D)) : Prop := ∀ p ∈ kvs, D.flat p.2 = true ∧ D.depth p.2 ≤ 64
noncomputable def vCmp (op : CmpOp) (a b : V) (live : Hp) (K : Bool → Prop) : Prop :=
  match op with
  | .Eq => match rdE live a, rdE live b with
    | some (.dict k1), some (.dict k2) => k1 = k2 ∧ dflat k1 ∧ K true
    | some x, some y => okEq x y ∧ K (D.eqv x y)
    | _, _ => False
  | .NotEq => match rdE live a, rdE live b with
    | some (.dict k1), some (.dict k2) => k1 = k2 ∧ dflat k1 ∧ K false
    | some x, some y => okEq x y ∧ K (!D.eqv x y)
    | _, _ => False
  | .Lt => match rd live a, rd live b with
    | some (.int x), some (.int y) => K (decide (x < y))
    | _, _ => False
  | .LtE => match rd live a, rd live b with
    | some (.int x), some (.int y) => K (decide (x ≤ y))
    | _, _ => False
  | .Gt => match rd live a, rd live b with
    | some (.int x), some (.int y) => K (decide (x > y))
    | _, _ => False
  | .GtE => match rd live a, rd live b with
    | some (.int x), some (.int y) => K (decide (x ≥ y))
    | _, _ => False
  | .In => inV a b live K
  | .NotIn => inV a b live fun r => K (!r)
  | _ => False

noncomputable def isNoneV : V → Bool
  | .d .none => true
  | _ => false

noncomputable def vIdx (a i : V) (live : Hp) (Q : KV) : Prop :=
  match rd live i with
  | none => False
  | some k =>
    match a with
    | .d (.tup ds) => match k with
      | .int n => match getI ds n with
        | some x => Q (.d x) live
        | none => False
      | _ => False
    | .d (.str cs) => match k with
      | .int n => match getI cs n with
        | some c => Q (.d (.str [c])) live
        | none => False
      | _ => False
    | .mix m ds => match k with
      | .int n => if n = 0 then Q (.loc m) live else match getI ds (n - 1) with
        | some x => 0 < n ∧ Q (.d x) live
        | none => False
      | _ => False
    | a => match view live a with
      | some (.list ds) => match k with
        | .int n => match getI ds n with
          | some x => Q (.d x) live
          | none => False
        | _ => False
      | some (.llist ns) => match k with
        | .int n => match getI ns n with
          | some x => Q (.loc x) live
          | none => False
        | _ => False
      | some (.dict kvs) => D.key k = true ∧ match dget kvs k with
        | some x => Q (.d x) live
        | none => False
      | some (.ldict kns) => D.key k = true ∧ match lget kns k with
        | some x => Q (.loc x) live
        | none => False
      | _ => False

noncomputable def optI (live : Hp) : Option V → Option (Option Int)
  | none => some none
  | some v => match rd live v with
    | some (.int i) => some (some i)
    | _ => none
noncomputable def okI : Option Int → Prop
  | none => True
  | some i => small i
noncomputable def vSlc (lv : Bool) (a : V) (lo hi : Option V) (live : Hp) (Q : KV) : Prop :=
  match optI live lo, optI live hi with
  | some l, some h => okI l ∧ okI h ∧ match rd live a with
    | some (.list ds) => ds.length ≤ big ∧ mk lv (.list (slice ds l h)) live Q
    | some (.tup ds) => match l, h with
      | some i, none => 1 ≤ i ∧ i ≤ ds.length ∧ ds.length ≤ big ∧ Q (.d (.tup (ds.drop i.toNat))) live
      | _, _ => False
    | some (.str cs) => Q (.d (.str (slice cs l h))) live
    | _ => False
  | _, _ => False

noncomputable def instOf (live : Hp) : V → Option (List D)
  | .d (.inst fs) => some fs
  | .loc n => match live.look n with
    | some (.inst _ fs) => some fs
    | _ => none
  | _ => none

noncomputable def vLen (v : V) (live : Hp) (K : Nat → Prop) : Prop :=
  match v with
  | .d (.tup ds) => K ds.length
  | .d (.str cs) => K cs.length
  | .mix _ ds => K (ds.length + 1)
  | v => match view live v with
    | some (.list ds) => K ds.length
    | some (.dict kvs) => K kvs.length
    | some (.llist ns) => K ns.length
    | some (.ldict kns) => K kns.length
    | _ => False

noncomputable def itemsOf (live : Hp) : V → Option (List V × Option Nat)
  | .d (.tup ds) => some (ds.map .d, none)
  | .d (.list ds) => some (ds.map .d, none)
  | .d (.str cs) => some (cs.map fun c => .d (.str [c]), none)
  | .loc n => match live.look n with
    | some (.list ds) => some (ds.map .d, some n)
    | some (.llist ns) => some (ns.map .loc, some n)
    | _ => none
  | _ => none
noncomputable def datasOf (live : Hp) : V → Option (List D)
  | .d (.tup ds) => some ds
  | .d (.list ds) => some ds
  | .d (.dict kvs) => some (kvs.map (·.1))
  | .d (.str cs) => some (cs.map fun c => .str [c])
  | .loc n => match live.look n with
    | some (.list ds) => some ds
    | some (.dict kvs) => some (kvs.map (·.1))
    | some (.ldict kns) => some (kns.map (·.1))
    | _ => none
  | _ => none

noncomputable def seqOf (live : Hp) : V → Option (List D)
  | .d (.tup ds) => some ds
  | .d (.list ds) => some ds
  | .loc n => match live.look n with
    | some (.list ds) => some ds
    | _ => none
  | _ => none
noncomputable def keysV (kvs : List (D × D)) : Prop := ∀ p ∈ kvs, (match p.1 with | .int _ => true | .str _ => true | _ => false) = true

noncomputable def strsOf : List D → Option (List (List Nat))
  | [] => some []
  | .str s :: r => (strsOf r).map (s :: ·)
  | _ => none
noncomputable def joinS (sep : List Nat) : List (List Nat) → List Nat
  | [] => []
  | [s] => s
  | s :: r => s ++ sep ++ joinS sep r
noncomputable def idxOf (c : Nat) : List Nat → Option Nat
  | [] => none
  | x :: r => if x = c then some 0 else (idxOf c r).map (· + 1)
noncomputable def intsOf : List D → Option (List Int)
  | [] => some []
  | .int i :: r => (intsOf r).map (i :: ·)
  | _ => none
noncomputable def pairsOf : List D → Option (List (D × D))
  | [] => some []
  | .tup [k, v] :: r => (pairsOf r).map ((k, v) :: ·)
  | _ => none
noncomputable def allLike : List D → Bool
  | [] => true
  | x :: r => D.like x x && r.all (D.like x)
noncomputable def keysOk (ds : List D) : Prop := ∀ x ∈ ds, D.key x = true

noncomputable def letters : List Nat := [97, 98, 99, 100, 101, 102, 103, 104, 105, 106, 107, 108, 109, 110, 111, 112, 113, 114, 115, 116, 117, 118, 119, 120, 121, 122]
noncomputable def isListV (live : Hp) : V → Bool
  | .d (.list _) => true
  | .loc n => match live.look n with
    | some (.list _) => true
    | some (.llist _) => true
    | _ => false
  | _ => false
noncomputable def isDictV (live : Hp) : V → Bool
  | .d (.dict _) => true
  | .loc n => match live.look n with
    | some (.dict _) => true
    | some (.ldict _) => true
    | _ => false
  | _ => false
noncomputable def isStrV : V → Bool
  | .d (.str _) => true
  | _ => false
noncomputable def mthTy (m : MT) (live : Hp) (x : V) : Bool := match m with
  | .append => isListV live x
  | .pop0 => isListV live x
  | .popAt => isListV live x
  | .extend => isListV live x
  | .remove => isListV live x
  | .clear => isListV live x || isDictV live x
  | .get1 => isDictV live x
  | .get2 => isDictV live x
  | .dpop2 => isDictV live x
  | .dupdate => isDictV live x
  | .join => isStrV x
  | .index => isStrV x
  | .split => isStrV x
  | .isalpha => isStrV x
  | .islower => isStrV x

noncomputable def vbLen (args : List V) (live : Hp) (Q : KV) : Prop := match args with
  | [v] => vLen v live fun n => Q (.d (.int n)) live
  | _ => False
noncomputable def vbInt (args : List V) (live : Hp) (Q : KV) : Prop := match args with
  | [v] => match v with
    | .d (.bool c) => Q (.d (.int (b2i c))) live
    | _ => False
  | _ => False
noncomputable def vbSorted (lv : Bool) (args : List V) (live : Hp) (Q : KV) : Prop := match args with
  | [v] => match seqOf live v with
    | some ds => allLike ds = true ∧ ds.length < 64 ∧ mkL lv (isort ds) live Q
    | none => False
  | _ => False
noncomputable def vbSortedset (lv : Bool) (args : List V) (live : Hp) (Q : KV) : Prop := match args with
  | [v] => match seqOf live v with
    | some ds => keysOk ds ∧ allLike ds = true ∧ ds.length < 64 ∧ mkL lv (isort (nodupD ds)) live Q
    | none => False
  | _ => False
noncomputable def vbLenset (args : List V) (live : Hp) (Q : KV) : Prop := match args with
  | [v] => match seqOf live v with
    | some ds => keysOk ds ∧ ds.length ≤ 4096 ∧ Q (.d (.int (nodupD ds).length)) live
    | none => False
  | _ => False
noncomputable def vbList (lv : Bool) (args : List V) (live : Hp) (Q : KV) : Prop := match args with
  | [v] => match seqOf live v with
    | some ds => mkL lv ds live Q
    | none => False
  | _ => False
noncomputable def vbTuple (args : List V) (live : Hp) (Q : KV) : Prop := match args with
  | [v] => match seqOf live v with
    | some ds => ds.length ≤ big ∧ Q (.d (.tup ds)) live
    | none => False
  | _ => False
noncomputable def vbDict (lv : Bool) (args : List V) (live : Hp) (Q : KV) : Prop := match args with
  | [v] => match rd live v with
    | some (.dict kvs) => keysV kvs ∧ kvs.length ≤ big ∧ mk lv (.dict kvs) live Q
    | _ => False
  | _ => False
noncomputable def vbPairsdict (lv : Bool) (args : List V) (live : Hp) (Q : KV) : Prop := match args with
  | [v] => match datasOf live v with
    | some ds => match pairsOf ds with
      | some ps => keysOk (ps.map (·.1)) ∧ ps.length ≤ big ∧ mk lv (.dict (dupd [] ps)) live Q
      | none => False
    | none => False
  | _ => False
noncomputable def vbListvalues (lv : Bool) (args : List V) (live : Hp) (Q : KV) : Prop := match args with
  | [v] => match rd live v with
    | some (.dict kvs) => mkL lv (kvs.map (·.2)) live Q
    | _ => False
  | _ => False
noncomputable def vbListrev (lv : Bool) (args : List V) (live : Hp) (Q : KV) : Prop := match args with
  | [v] => match rd live v with
    | some (.list ds) => mkL lv ds.reverse live Q
    | _ => False
  | _ => False
noncomputable def vbMin2 (args : List V) (live : Hp) (Q : KV) : Prop := match args with
  | [a, c] => match rd live a, rd live c with
    | some (.int x), some (.int y) => Q (.d (.int (min x y))) live
    | _, _ => False
  | _ => False
noncomputable def vbMax2 (args : List V) (live : Hp) (Q : KV) : Prop := match args with
  | [a, c] => match rd live a, rd live c with
    | some (.int x), some (.int y) => Q (.d (.int (max x y))) live
    | _, _ => False
  | _ => False
noncomputable def vbMax1 (args : List V) (live : Hp) (Q : KV) : Prop := match args with
  | [v] => match seqOf live v with
    | some ds => match intsOf ds with
      | some (i :: is) => Q (.d (.int (is.foldl max i))) live
      | _ => False
    | none => False
  | _ => False
noncomputable def vbMaxd (args : List V) (live : Hp) (Q : KV) : Prop := match args with
  | [v, w] => match datasOf live v, dof w with
    | some ds, some x => match intsOf ds with
      | some (i :: is) => Q (.d (.int (is.foldl max i))) live
      | some [] => Q (.d x) live
      | none => False
    | _, _ => False
  | _ => False
noncomputable def vBi (b : BI) (args : List V) (live : Hp) (Q : KV) : Prop := match b with
  | .len => vbLen args live Q
  | .int => vbInt args live Q
  | .sorted lv => vbSorted lv args live Q
  | .sortedset lv => vbSortedset lv args live Q
  | .lenset => vbLenset args live Q
  | .list lv => vbList lv args live Q
  | .tuple => vbTuple args live Q
  | .dict lv => vbDict lv args live Q
  | .pairsdict lv => vbPairsdict lv args live Q
  | .listvalues lv => vbListvalues lv args live Q
  | .listrev lv => vbListrev lv args live Q
  | .min2 => vbMin2 args live Q
  | .max2 => vbMax2 args live Q
  | .max1 => vbMax1 args live Q
  | .maxd => vbMaxd args live Q
  | .range => False
  | .str => False

noncomputable def vmAppend (o : V) (args : List V) (live : Hp) (Q : KV) : Prop := match o with
  | .loc n => match args with
    | [v] => match live n with
      | some (.list ds) => match v with
        | .loc k => ds = [] ∧ k ≠ n ∧ Q (.d .none) (live.upd n (.llist [k]))
        | v => match dof v with
          | some x => ds.length < big ∧ Q (.d .none) (live.upd n (.list (ds ++ [x])))
          | none => False
      | some (.llist ns) => match v with
        | .loc k => ns.length < big ∧ k ≠ n ∧ Q (.d .none) (live.upd n (.llist (ns ++ [k])))
        | _ => False
      | _ => False
    | _ => False
  | _ => False
noncomputable def vmPop0 (o : V) (args : List V) (live : Hp) (Q : KV) : Prop := match o with
  | .loc n => match args with
    | [] => match live n with
      | some (.list ds) => match ds.getLast? with
        | some x => Q (.d x) (live.upd n (.list ds.dropLast))
        | none => False
      | _ => False
    | _ => False
  | _ => False
noncomputable def vmPopat (o : V) (args : List V) (live : Hp) (Q : KV) : Prop := match o with
  | .loc n => match args with
    | [v] => match live n, v with
      | some (.list (x :: ds)), .d (.int i) => i = 0 ∧ Q (.d x) (live.upd n (.list ds))
      | _, _ => False
    | _ => False
  | _ => False
noncomputable def vmExtend (o : V) (args : List V) (live : Hp) (Q : KV) : Prop := match o with
  | .loc n => match args with
    | [v] => match live n, rd live v with
      | some (.list ds), some (.list es) => v ≠ .loc n ∧ ds.length + es.length ≤ big ∧ Q (.d .none) (live.upd n (.list (ds ++ es)))
      | _, _ => False
    | _ => False
  | _ => False
noncomputable def vmClear (o : V) (args : List V) (live : Hp) (Q : KV) : Prop := match o with
  | .loc n => match args with
    | [] => match live n with
      | some (.list _) => Q (.d .none) (live.upd n (.list []))
      | some (.dict _) => Q (.d .none) (live.upd n (.dict []))
      | _ => False
    | _ => False
  | _ => False
noncomputable def vmGet1 (o : V) (args : List V) (live : Hp) (Q : KV) : Prop := match args with
  | [k] => match rd live o, rd live k with
    | some (.dict kvs), some x => D.key x = true ∧ Q (.d ((dget kvs x).getD .none)) live
    | _, _ => False
  | _ => False
noncomputable def vmGet2 (o : V) (args : List V) (live : Hp) (Q : KV) : Prop := match args with
  | [k, w] => match rd live o, rd live k with
    | some (.dict kvs), some x => D.key x = true ∧ match dget kvs x with
      | some y => Q (.d y) live
      | none => Q w live
    | _, _ => False
  | _ => False
noncomputable def vmDpop2 (o : V) (args : List V) (live : Hp) (Q : KV) : Prop := match o with
  | .loc n => match args with
    | [k, w] => match live n, rd live k, dof w with
      | some (.dict kvs), some x, some y => D.key x = true ∧ Q (.d ((dget kvs x).getD y)) (live.upd n (.dict (ddel kvs x)))
      | _, _, _ => False
    | _ => False
  | _ => False
noncomputable def vmDupdate (o : V) (args : List V) (live : Hp) (Q : KV) : Prop := match o with
  | .loc n => match args with
    | [v] => match live n, rd live v with
      | some (.dict kvs), some (.dict more) => v ≠ .loc n ∧ kvs.length + more.length ≤ big ∧ Q (.d .none) (live.upd n (.dict (dupd kvs more)))
      | _, _ => False
    | _ => False
  | _ => False
noncomputable def vmJoin (o : V) (args : List V) (live : Hp) (Q : KV) : Prop := match o with
  | .d (.str sep) => match args with
    | [v] => match rd live v with
      | some (.list ds) => match strsOf ds with
        | some ss => sep = [] ∧ ss.flatten.length ≤ big ∧ Q (.d (.str ss.flatten)) live
        | none => False
      | _ => False
    | _ => False
  | _ => False
noncomputable def vmIndex (o : V) (args : List V) (live : Hp) (Q : KV) : Prop := match o with
  | .d (.str cs) => match args with
    | [v] => match v with
      | .d (.str [c]) => cs = letters ∧ 97 ≤ c ∧ c ≤ 122 ∧ Q (.d (.int ((c : Int) - 97))) live
      | _ => False
    | _ => False
  | _ => False
noncomputable def vMth (m : MT) (o : V) (args : List V) (live : Hp) (Q : KV) : Prop := match m with
  | .append => vmAppend o args live Q
  | .pop0 => vmPop0 o args live Q
  | .popAt => vmPopat o args live Q
  | .extend => vmExtend o args live Q
  | .clear => vmClear o args live Q
  | .get1 => vmGet1 o args live Q
  | .get2 => vmGet2 o args live Q
  | .dpop2 => vmDpop2 o args live Q
  | .dupdate => vmDupdate o args live Q
  | .join => vmJoin o args live Q
  | .index => vmIndex o args live Q
  | .remove => False
  | .split => False
  | .isalpha => False
  | .islower => False

noncomputable def isiD (t : TY) : D → Bool
  | .int _ => match t with | .int => true | _ => false
  | .bool _ => match t with | .int => true | .bool => true | _ => false
  | .str _ => match t with | .str => true | _ => false
  | .tup _ => match t with | .tuple => true | _ => false
  | .list _ => match t with | .list => true | _ => false
  | .dict _ => match t with | .dict => true | _ => false
  | _ => false
noncomputable def isiV (t : TY) (live : Hp) : V → Option Bool
  | .d (.exc _) => none
  | .d (.inst _) => none
  | .d .none => none
  | .d x => some (isiD t x)
  | .mix _ _ => some (match t with | .tuple => true | _ => false)
  | .loc n => match live.look n with
    | some (.list _) => some (match t with | .list => true | _ => false)
    | some (.llist _) => some (match t with | .list => true | _ => false)
    | some (.dict _) => some (match t with | .dict => true | _ => false)
    | some (.ldict _) => some (match t with | .dict => true | _ => false)
    | _ => none

noncomputable abbrev wSet : List Nat := [115, 101, 116]
noncomputable abbrev wAdd : List Nat := [97, 100, 100]
noncomputable abbrev wSub : List Nat := [115, 117, 98]
noncomputable abbrev wLess : List Nat := [108, 101, 115, 115]
noncomputable abbrev wSay : List Nat := [115, 97, 121]
noncomputable abbrev wJump : List Nat := [106, 117, 109, 112]
noncomputable abbrev wNought : List Nat := [110, 111, 117, 103, 104, 116]
noncomputable abbrev wStop : List Nat := [115, 116, 111, 112]
noncomputable abbrev wPass : List Nat := [112, 97, 115, 115]
noncomputable def shapes : List (D × D) :=
  [(.str wSet, .str [120, 111]), (.str wAdd, .str [120, 111, 111]), (.str wSub, .str [120, 111, 111]), (.str wLess, .str [120, 111, 111]),
   (.str wSay, .str [111]), (.str wJump, .str [116]), (.str wNought, .str [111, 116]), (.str wStop, .str [])]
noncomputable def gcD : Nat → D
  | 0 => .str letters
  | 1 => .dict shapes
  | _ => .int 60

noncomputable def bindT (tg : List Nat) (one : Bool) (x : V) (ρ : Env) : Option Env :=
  match one, tg, x with
  | true, [i], x => if i < ρ.length then some (ρ.set i (some x)) else none
  | false, tg, .d (.tup ds) => if ds.length = tg.length ∧ ∀ i ∈ tg, i < ρ.length then some ((tg.zip ds).foldl (fun r p => r.set p.1 (some (.d p.2))) ρ) else none
  | false, tg, .mix n ds => if ds.length + 1 = tg.length ∧ ∀ i ∈ tg, i < ρ.length then some ((tg.zip (.loc n :: ds.map .d)).foldl (fun r p => r.set p.1 (some p.2)) ρ) else none
  | _, _, _ => none

noncomputable def compL (tg : List Nat) (one : Bool) (ρ : Env) (test : Env → Hp → (Bool → Hp → Prop) → Prop) (elt : Env → Hp → KV → Prop) :
    List V → List D → Hp → (List D → Hp → Prop) → Prop
  | [], acc, live, K => K acc live
  | x :: xs, acc, live, K => match bindT tg one x ρ with
    | some ρ1 => test ρ1 live fun b live1 =>
        (b = true → elt ρ1 live1 fun v live2 => match v with
          | .d y => acc.length < big ∧ compL tg one ρ test elt xs (acc ++ [y]) live2 K
          | _ => False) ∧
        (b = false → compL tg one ρ test elt xs acc live1 K)
    | none => False

noncomputable def zsrc : D → Option (List D)
  | .tup ds => some ds
  | .list ds => some ds
  | .str cs => some (cs.map fun c => .str [c])
  | _ => none
noncomputable def rangeV (k : Int) : List V := (List.range k.toNat).map fun (i : Nat) => .d (.int (i : Int))
noncomputable def enumV (i : Nat) : List D → List V
  | [] => []
  | x :: r => .d (.tup [.int i, x]) :: enumV (i + 1) r
noncomputable def zipV : List D → List D → List V
  | a :: as, b :: bs => .d (.tup [a, b]) :: zipV as bs
  | _, _ => []

mutual
noncomputable def vE (Φ : CP) : E → Env → Hp → KV → XP → Prop
  | .cst d, _, live, Q, _ => Q (.d d) live
  | .gc k, _, live, Q, _ => Q (.d (gcD k)) live
  | .var i, ρ, live, Q, _ => match ρ[i]? with
    | some (some v) => Q v live
    | _ => False
  | .frz e, ρ, live, Q, X => vE Φ e ρ live (fun v live' => ∃ v' live'', Rz live' live'' v v' ∧ Q v' live'') X
  | .and_ a b, ρ, live, Q, X => vE Φ a ρ live (fun v live' => match v with
      | .d (.bool r) => (r = true → vE Φ b ρ live' Q X) ∧ (r = false → Q (.d (.bool false)) live')
      | _ => False) X
  | .or_ a b, ρ, live, Q, X => vE Φ a ρ live (fun v live' => match v with
      | .d (.bool r) => (r = true → Q (.d (.bool true)) live') ∧ (r = false → vE Φ b ρ live' Q X)
      | _ => False) X
  | .not_ a, ρ, live, Q, X => vE Φ a ρ live (fun v live' => match v with
      | .d (.bool r) => Q (.d (.bool (!r))) live'
      | _ => False) X
  | .cmp op a b, ρ, live, Q, X => vE Φ a ρ live (fun x live1 => vE Φ b ρ live1 (fun y live2 => vCmp op x y live2 fun r => Q (.d (.bool r)) live2) X) X
  | .cmp2 a op1 b op2 c, ρ, live, Q, X => vE Φ a ρ live (fun x live1 => vE Φ b ρ live1 (fun y live2 => vCmp op1 x y live2 fun r =>
      (r = true → vE Φ c ρ live2 (fun z live3 => vCmp op2 y z live3 fun r' => Q (.d (.bool r')) live3) X) ∧ (r = false → Q (.d (.bool false)) live2)) X) X
  | .isNone a neg, ρ, live, Q, X => vE Φ a ρ live (fun x live1 => Q (.d (.bool (isNoneV x != neg))) live1) X
  | .bin lv op a b, ρ, live, Q, X => vE Φ a ρ live (fun x live1 => vE Φ b ρ live1 (fun y live2 => vBin lv op x y live2 Q) X) X
  | .neg a, ρ, live, Q, X => vE Φ a ρ live (fun x live1 => match x with
      | .d (.int i) => Q (.d (.int (-i))) live1
      | _ => False) X
  | .ite c a b, ρ, live, Q, X => vC Φ c ρ live (fun r live' => (r = true → vE Φ a ρ live' Q X) ∧ (r = false → vE Φ b ρ live' Q X)) X
  | .idx a i, ρ, live, Q, X => vE Φ a ρ live (fun x live1 => vE Φ i ρ live1 (fun y live2 => vIdx x y live2 Q) X) X
  | .slc lv a lo hi, ρ, live, Q, X => vE Φ a ρ live (fun x live1 => vO Φ lo ρ live1 (fun l live2 => vO Φ hi ρ live2 (fun h live3 => vSlc lv x l h live3 Q) X) X) X
  | .attr a k, ρ, live, Q, X => vE Φ a ρ live (fun x live1 => match instOf live1 x with
      | some fs => match fs[k]? with
        | some y => Q (.d y) live1
        | none => False
      | none => False) X
  | .call f args, ρ, live, Q, X => vEs Φ args ρ live (fun vs live' => Φ f vs live' Q X) X
  | .mcall f o args, ρ, live, Q, X => vE Φ o ρ live (fun x live1 => vEs Φ args ρ live1 (fun vs live' => Φ f (x :: vs) live' Q X) X) X
  | .new f args, ρ, live, Q, X => vEs Φ args ρ live (fun vs live' => ∀ n dx, live' n = none → live' dx = none → n ≠ dx → Φ f (.loc n :: vs) ((live'.upd n (.inst dx [])).upd dx .hid) (fun _ live2 => Q (.loc n) live2) X) X
  | .bi b args, ρ, live, Q, X => vEs Φ args ρ live (fun vs live' => vBi b vs live' Q) X
  | .mth m o args, ρ, live, Q, X => vE Φ o ρ live (fun x live1 => mthTy m live1 x = true ∧ vEs Φ args ρ live1 (fun vs live' => vMth m x vs live' Q) X) X
  | .lst lv es, ρ, live, Q, X => vDs Φ es ρ live (fun ds live' => mkL lv ds live' Q) X
  | .tup es, ρ, live, Q, X => vEs Φ es ρ live (fun vs live' => match vs with
      | .loc n :: r => match (r.mapM fun v => match v with | V.d x => some x | _ => none) with
        | some ds => Q (.mix n ds) live'
        | none => False
      | vs => match (vs.mapM fun v => match v with | V.d x => some x | _ => none) with
        | some ds => Q (.d (.tup ds)) live'
        | none => False) X
  | .dct lv ks vs, ρ, live, Q, X => vDs Φ ks ρ live (fun kd live1 => vDs Φ vs ρ live1 (fun vd live2 => kd.length = vd.length ∧ kd.length ≤ 15 ∧ keysOk kd ∧ mk lv (.dict (dupd [] (kd.zip vd))) live2 Q) X) X
  | .comp lv elt tg one it cond, ρ, live, Q, X => vIt Φ it ρ live (fun xs src live1 =>
      compL tg one ρ (fun ρ1 live2 K => vCo Φ cond ρ1 live2 K X) (fun ρ1 live2 K => vE Φ elt ρ1 live2 K X) xs [] (lock live1 src) fun ds live2 => mk lv (.list ds) (unlock live1 live2 src) Q) X
  | .compl tg it dict, ρ, live, Q, X => vIt Φ it ρ live (fun xs src live1 => src = none ∧ xs.length ≤ big ∧ tg < ρ.length ∧
      ∀ (n : Nat) (ns : List Nat) (live' : Hp), ns.length = xs.length → (n :: ns).Nodup → (∀ m ∈ n :: ns, live1 m = none) → (∀ m, m ∉ n :: ns → live' m = live1 m) →
        live' n = some (.llist ns) → (∀ m ∈ ns, live' m = some (if dict then .dict [] else .list [])) → Q (.loc n) live') X
  | .isi a t, ρ, live, Q, X => vE Φ a ρ live (fun x live1 => match isiV t live1 x with
      | some b => Q (.d (.bool b)) live1
      | none => False) X

noncomputable def vC (Φ : CP) : E → Env → Hp → (Bool → Hp → Prop) → XP → Prop
  | .not_ a, ρ, live, K, X => vC Φ a ρ live (fun r live' => K (!r) live') X
  | .and_ a b, ρ, live, K, X => vC Φ a ρ live (fun r live' => (r = true → vC Φ b ρ live' K X) ∧ (r = false → K false live')) X
  | .or_ a b, ρ, live, K, X => vC Φ a ρ live (fun r live' => (r = true → K true live') ∧ (r = false → vC Φ b ρ live' K X)) X
  | .cmp op a b, ρ, live, K, X => vE Φ a ρ live (fun x live1 => vE Φ b ρ live1 (fun y live2 => vCmp op x y live2 fun r => K r live2) X) X
  | .cmp2 a op1 b op2 c, ρ, live, K, X => vE Φ a ρ live (fun x live1 => vE Φ b ρ live1 (fun y live2 => vCmp op1 x y live2 fun r =>
      (r = true → vE Φ c ρ live2 (fun z live3 => vCmp op2 y z live3 fun r' => K r' live3) X) ∧ (r = false → K false live2)) X) X
  | .isNone a neg, ρ, live, K, X => vE Φ a ρ live (fun x live1 => K (isNoneV x != neg) live1) X
  | .var i, ρ, live, K, _ => match ρ[i]? with
    | some (some (.d (.bool b))) => K b live
    | _ => False
  | .call f args, ρ, live, K, X => vEs Φ args ρ live (fun vs live' => Φ f vs live' (fun v live'' => match v with
      | .d (.bool b) => K b live''
      | _ => False) X) X
  | .isi a t, ρ, live, K, X => vE Φ a ρ live (fun x live1 => match isiV t live1 x with
      | some b => K b live1
      | none => False) X
  | .idx a i, ρ, live, K, X => vE Φ a ρ live (fun x live1 => vE Φ i ρ live1 (fun y live2 => vIdx x y live2 fun v live'' => match v with
      | .d (.bool b) => K b live''
      | _ => False) X) X
  | .mth m o args, ρ, live, K, X => vE Φ o ρ live (fun x live1 => mthTy m live1 x = true ∧ vEs Φ args ρ live1 (fun vs live' => vMth m x vs live' fun v live'' => match v with
      | .d (.bool b) => K b live''
      | _ => False) X) X
  | _, _, _, _, _ => False

noncomputable def vEs (Φ : CP) : List E → Env → Hp → (List V → Hp → Prop) → XP → Prop
  | [], _, live, K, _ => K [] live
  | e :: r, ρ, live, K, X => vE Φ e ρ live (fun v live1 => vEs Φ r ρ live1 (fun vs live2 => K (v :: vs) live2) X) X

noncomputable def vDs (Φ : CP) : List E → Env → Hp → (List D → Hp → Prop) → XP → Prop
  | [], _, live, K, _ => K [] live
  | e :: r, ρ, live, K, X => vE Φ e ρ live (fun v live1 => match v with
      | .d x => vDs Φ r ρ live1 (fun ds live2 => K (x :: ds) live2) X
      | _ => False) X

noncomputable def vO (Φ : CP) : Option E → Env → Hp → (Option V → Hp → Prop) → XP → Prop
  | none, _, live, K, _ => K none live
  | some e, ρ, live, K, X => vE Φ e ρ live (fun v live1 => K (some v) live1) X

noncomputable def vCo (Φ : CP) : Option E → Env → Hp → (Bool → Hp → Prop) → XP → Prop
  | none, _, live, K, _ => K true live
  | some c, ρ, live, K, X => vC Φ c ρ live K X

noncomputable def vIt (Φ : CP) : It → Env → Hp → (List V → Option Nat → Hp → Prop) → XP → Prop
  | .e e, ρ, live, K, X => vE Φ e ρ live (fun v live1 => match itemsOf live1 v with
      | some (xs, src) => K xs src live1
      | none => False) X
  | .range e, ρ, live, K, X => vE Φ e ρ live (fun v live1 => match v with
      | .d (.int k) => -1 ≤ k ∧ k ≤ big ∧ K (rangeV k) none live1
      | _ => False) X
  | .enum e, ρ, live, K, X => vE Φ e ρ live (fun v live1 => match v with
      | .d (.list ds) => K (enumV 0 ds) none live1
      | _ => False) X
  | .zip a b, ρ, live, K, X => vE Φ a ρ live (fun v live1 => vE Φ b ρ live1 (fun v' live2 => match v, v' with
      | .d x, .d y => match zsrc x, zsrc y with
        | some xs, some ys => K (zipV xs ys) none live2
        | _, _ => False
      | _, _ => False) X) X
  | .rev e, ρ, live, K, X => vE Φ e ρ live (fun v live1 => match v with
      | .d (.list ds) => K (ds.reverse.map .d) none live1
      | _ => False) X
  | .revrange e, ρ, live, K, X => vE Φ e ρ live (fun v live1 => match v with
      | .d (.int k) => -1 ≤ k ∧ k ≤ big ∧ K (rangeV k).reverse none live1
      | _ => False) X
end

abbrev KS := Fl → Env → Hp → Prop

noncomputable def forL (tg : List Nat) (one : Bool) (body : Env → Hp → KS → Prop) : List V → Env → Hp → KS → Prop
  | [], ρ, live, Q => Q .nx ρ live
  | x :: xs, ρ, live, Q => match bindT tg one x ρ with
    | some ρ1 => body ρ1 live fun f ρ' live' => match f with
      | .rt v => Q (.rt v) ρ' live'
      | _ => forL tg one body xs ρ' live' Q
    | none => False

noncomputable def vW (test : Env → Hp → (Bool → Hp → Prop) → Prop) (body : Env → Hp → KS → Prop) (ρ : Env) (live : Hp) (Q : KS) : Prop :=
  ∃ I : Nat → Env → Hp → Prop, (∃ n, I n ρ live) ∧ ∀ n ρ live, I n ρ live → test ρ live fun b live1 =>
    (b = true → body ρ live1 fun f ρ' live' => match f with
      | .rt v => Q (.rt v) ρ' live'
      | _ => ∃ m, m < n ∧ I m ρ' live') ∧
    (b = false → Q .nx ρ live1)

noncomputable def immV : V → Bool
  | .d .none => true
  | .d (.bool _) => true
  | .d (.int _) => true
  | .d (.str _) => true
  | _ => false

noncomputable def vSetIdx (o i v : V) (live : Hp) (K : Hp → Prop) : Prop :=
  match o with
  | .loc n => match live n, rd live i with
    | some (.list ds), some (.int k) => match v with
      | .d x => 0 ≤ k ∧ k < ds.length ∧ K (live.upd n (.list (ds.set k.toNat x)))
      | _ => False
    | some (.llist ns), some (.int k) => match v with
      | .loc m => 0 ≤ k ∧ k < ns.length ∧ m ≠ n ∧ K (live.upd n (.llist (ns.set k.toNat m)))
      | _ => False
    | some (.dict kvs), some k => D.key k = true ∧ kvs.length < big ∧ match v with
      | .d x => K (live.upd n (.dict (dput kvs k x)))
      | .loc m => kvs = [] ∧ m ≠ n ∧ K (live.upd n (.ldict [(k, m)]))
      | _ => False
    | some (.ldict kns), some k => D.key k = true ∧ kns.length < big ∧ match v with
      | .loc m => m ≠ n ∧ K (live.upd n (.ldict (lput kns k m)))
      | _ => False
    | _, _ => False
  | _ => False

mutual
noncomputable def vS (Φ : CP) : S → Env → Hp → KS → XP → Prop
  | .assign i e, ρ, live, Q, X => vE Φ e ρ live (fun v live1 => i < ρ.length ∧ Q .nx (ρ.set i (some v)) live1) X
  | .assignT is e, ρ, live, Q, X => vE Φ e ρ live (fun v live1 => match bindT is false v ρ with
      | some ρ1 => Q .nx ρ1 live1
      | none => match v with
        | .d (.list ds) => match bindT is false (.d (.tup ds)) ρ with
          | some ρ1 => Q .nx ρ1 live1
          | none => False
        | _ => False) X
  | .setIdx o i e, ρ, live, Q, X => vE Φ e ρ live (fun v live1 => vE Φ o ρ live1 (fun x live2 => vE Φ i ρ live2 (fun y live3 => vSetIdx x y v live3 fun live4 => Q .nx ρ live4) X) X) X
  | .setAttr o k e, ρ, live, Q, X => vE Φ e ρ live (fun v live1 => vE Φ o ρ live1 (fun x live2 => match x, v with
      | .loc n, .d y => match live2 n with
        | some (.inst dx fs) => k = fs.length ∧ Q .nx ρ (live2.upd n (.inst dx (fs ++ [y])))
        | _ => False
      | _, _ => False) X) X
  | .expr e, ρ, live, Q, X => vE Φ e ρ live (fun v live1 => immV v = true ∧ Q .nx ρ live1) X
  | .ite c a b, ρ, live, Q, X => vC Φ c ρ live (fun r live1 => (r = true → vSs Φ a ρ live1 Q X) ∧ (r = false → vSs Φ b ρ live1 Q X)) X
  | .for_ tg one it body, ρ, live, Q, X => vIt Φ it ρ live (fun xs src live1 => forL tg one (fun ρ1 live2 Q' => vSs Φ body ρ1 live2 Q' X) xs ρ (lock live1 src) fun f ρ' live2 => Q f ρ' (unlock live1 live2 src)) X
  | .while_ c body, ρ, live, Q, X => vW (fun ρ1 live1 K => vC Φ c ρ1 live1 K X) (fun ρ1 live1 Q' => vSs Φ body ρ1 live1 Q' X) ρ live Q
  | .ret e, ρ, live, Q, X => vE Φ e ρ live (fun v live1 => Q (.rt v) ρ live1) X
  | .cont, ρ, live, Q, _ => Q .ct ρ live
  | .pass, ρ, live, Q, _ => Q .nx ρ live
  | .raise_ c, _, live, _, X => X c live
  | .try_ body c slot handler, ρ, live, Q, X => vSs Φ body ρ live Q fun c' live' => c' = c ∧ slot < ρ.length ∧ vSs Φ handler (ρ.set slot (some (.d (.exc c')))) live' Q X
  | .ghost, ρ, live, Q, _ => ∃ ρ' live', Gh ρ live ρ' live' ∧ Q .nx ρ' live'
noncomputable def vSs (Φ : CP) : List S → Env → Hp → KS → XP → Prop
  | [], ρ, live, Q, _ => Q .nx ρ live
  | s :: r, ρ, live, Q, X => vS Φ s ρ live (fun f ρ' live' => match f with
      | .nx => vSs Φ r ρ' live' Q X
      | f => Q f ρ' live') X
end

structure FD where
  np : Nat
  ns : Nat
  body : List S

noncomputable def vFn (Φ : CP) (d : FD) (args : List V) (live : Hp) (Q : KV) (X : XP) : Prop :=
  args.length = d.np ∧ vSs Φ d.body (args.map some ++ List.replicate (d.ns - d.np) none) live (fun f _ live' => match f with
    | .rt v => ∃ v' live'', Rz live' live'' v v' ∧ Q v' live''
    | .nx => ∃ live'', Drop live' live'' ∧ Q (.d .none) live''
    | .ct => False) X

end Mine

set_option Elab.async false
namespace Mine
abbrev f_is_whole : Nat := 0
abbrev f_is_name : Nat := 1
abbrev f_is_row : Nat := 2
abbrev f_need_rows : Nat := 3
abbrev f_result_of : Nat := 4
abbrev f_asked_of : Nat := 5
abbrev f_written_by : Nat := 6
abbrev f_place_behind : Nat := 7
abbrev f_run : Nat := 8
abbrev f__law_cell_at : Nat := 9
abbrev f__law_whole : Nat := 10
abbrev f__law_mixed : Nat := 11
abbrev f__law_names_by : Nat := 12
abbrev f__law_operand_by : Nat := 13
abbrev f__law_row_by : Nat := 14
abbrev f__law_size_by : Nat := 15
abbrev f__law_rows_by : Nat := 16
abbrev f__law_values_by : Nat := 17
abbrev f__law_own : Nat := 18
abbrev f__law_asks : Nat := 19
abbrev f__law_next : Nat := 20
abbrev f__law_reached : Nat := 21
abbrev f__law_run : Nat := 22
abbrev f__law_told : Nat := 23
noncomputable def d_is_whole : FD := ⟨1, 1,
  [.ret (.and_ (.isi (.var 0) .int) (.not_ (.isi (.var 0) .bool)))]⟩
noncomputable def d_is_name : FD := ⟨1, 2,
  [.ite (.or_ (.not_ (.isi (.var 0) .str)) (.not_ (.cmp2 (.cst (.int 1)) .LtE (.bi .len [(.var 0)]) .LtE (.cst (.int 8)))))
    [.ret (.cst (.bool false))]
    [],
  .for_ [1] true (.e (.var 0))
    [.ite (.cmp .NotIn (.var 1) (.gc 0))
      [.ret (.cst (.bool false))]
      []],
  .ret (.cst (.bool true))]⟩
noncomputable def d_is_row : FD := ⟨1, 4,
  [.ite (.or_ (.not_ (.isi (.var 0) .tuple)) (.or_ (.cmp .Eq (.bi .len [(.var 0)]) (.cst (.int 0))) (.not_ (.isi (.idx (.var 0) (.cst (.int 0))) .str))))
    [.ret (.cst (.bool false))]
    [],
  .assign 1 (.mth .get2 (.gc 1) [(.idx (.var 0) (.cst (.int 0))), (.cst .none)]),
  .ite (.or_ (.isNone (.var 1) false) (.cmp .NotEq (.bi .len [(.var 0)]) (.bin false .Add (.bi .len [(.var 1)]) (.cst (.int 1)))))
    [.ret (.cst (.bool false))]
    [],
  .for_ [2, 3] false (.zip (.slc false (.var 0) (some (.cst (.int 1))) none) (.var 1))
    [.ite (.and_ (.cmp .Eq (.var 3) (.cst (.str [120]))) (.not_ (.call f_is_name [(.var 2)])))
      [.ret (.cst (.bool false))]
      [],
    .ite (.and_ (.cmp .Eq (.var 3) (.cst (.str [111]))) (.and_ (.not_ (.call f_is_name [(.var 2)])) (.not_ (.call f_is_whole [(.var 2)]))))
      [.ret (.cst (.bool false))]
      []],
  .ret (.cst (.bool true))]⟩
noncomputable def d_need_rows : FD := ⟨1, 2,
  [.ite (.not_ (.isi (.var 0) .list))
    [.raise_ 1]
    [],
  .for_ [1] true (.e (.var 0))
    [.ite (.not_ (.call f_is_row [(.var 1)]))
      [.raise_ 1]
      [],
    .ite (.or_ (.cmp .Eq (.idx (.var 1) (.cst (.int 0))) (.cst (.str [106, 117, 109, 112]))) (.cmp .Eq (.idx (.var 1) (.cst (.int 0))) (.cst (.str [110, 111, 117, 103, 104, 116]))))
      [.ite (.or_ (.not_ (.call f_is_whole [(.idx (.var 1) (.neg (.cst (.int 1))))])) (.not_ (.cmp2 (.cst (.int 0)) .LtE (.idx (.var 1) (.neg (.cst (.int 1)))) .LtE (.bi .len [(.var 0)]))))
        [.raise_ 2]
        []]
      []]]⟩
noncomputable def d_result_of : FD := ⟨2, 2,
  [.ite (.cmp .Eq (.var 0) (.cst (.str [115, 101, 116])))
    [.ret (.idx (.var 1) (.cst (.int 0)))]
    [],
  .ite (.cmp .Eq (.var 0) (.cst (.str [97, 100, 100])))
    [.ret (.bin false .Add (.idx (.var 1) (.cst (.int 0))) (.idx (.var 1) (.cst (.int 1))))]
    [],
  .ite (.cmp .Eq (.var 0) (.cst (.str [115, 117, 98])))
    [.ret (.bin false .Sub (.idx (.var 1) (.cst (.int 0))) (.idx (.var 1) (.cst (.int 1))))]
    [],
  .ret (.bi .int [(.cmp .Lt (.idx (.var 1) (.cst (.int 0))) (.idx (.var 1) (.cst (.int 1))))])]⟩
noncomputable def d_asked_of : FD := ⟨1, 4,
  [.assign 1 (.mth .get2 (.gc 1) [(.idx (.var 0) (.cst (.int 0))), (.cst (.str []))]),
  .ret (.comp false (.var 2) [2, 3] false (.zip (.slc false (.var 0) (some (.cst (.int 1))) none) (.var 1)) (some (.cmp .Eq (.var 3) (.cst (.str [111])))))]⟩
noncomputable def d_written_by : FD := ⟨1, 1,
  [.ite (.cmp .In (.idx (.var 0) (.cst (.int 0))) (.tup [(.cst (.str [115, 101, 116])), (.cst (.str [97, 100, 100])), (.cst (.str [115, 117, 98])), (.cst (.str [108, 101, 115, 115]))]))
    [.ret (.idx (.var 0) (.cst (.int 1)))]
    [],
  .ret (.cst .none)]⟩
noncomputable def d_place_behind : FD := ⟨4, 4,
  [.ite (.cmp .Eq (.idx (.var 0) (.cst (.int 0))) (.cst (.str [115, 116, 111, 112])))
    [.ret (.var 3)]
    [],
  .ite (.or_ (.cmp .Eq (.idx (.var 0) (.cst (.int 0))) (.cst (.str [106, 117, 109, 112]))) (.and_ (.cmp .Eq (.idx (.var 0) (.cst (.int 0))) (.cst (.str [110, 111, 117, 103, 104, 116]))) (.cmp .Eq (.idx (.var 2) (.cst (.int 0))) (.cst (.int 0)))))
    [.ret (.idx (.var 0) (.neg (.cst (.int 1))))]
    [],
  .ret (.bin false .Add (.var 1) (.cst (.int 1)))]⟩
noncomputable def d_run : FD := ⟨3, 10,
  [.expr (.call f_need_rows [(.var 0)]),
  .assign 3 (.bi (.dict true) [(.var 1)]),
  .assign 4 (.lst true []),
  .assign 5 (.cst (.int 0)),
  .assign 6 (.cst (.int 0)),
  .while_ (.cmp .Lt (.var 5) (.bi .len [(.var 0)]))
    [.ite (.cmp .GtE (.var 6) (.var 2))
      [.ret (.tup [(.var 4), (.cst (.str [116, 105, 114, 101, 100])), (.var 6)])]
      [],
    .assign 7 (.idx (.var 0) (.var 5)),
    .assign 8 (.comp false (.ite (.isi (.var 9) .str) (.mth .get2 (.var 3) [(.var 9), (.cst (.int 0))]) (.var 9)) [9] true (.e (.call f_asked_of [(.var 7)])) none),
    .ite (.isNone (.call f_written_by [(.var 7)]) true)
      [.setIdx (.var 3) (.call f_written_by [(.var 7)]) (.call f_result_of [(.idx (.var 7) (.cst (.int 0))), (.var 8)])]
      [],
    .ite (.cmp .Eq (.idx (.var 7) (.cst (.int 0))) (.cst (.str [115, 97, 121])))
      [.expr (.mth .append (.var 4) [(.idx (.var 8) (.cst (.int 0)))])]
      [],
    .assign 5 (.call f_place_behind [(.var 7), (.var 5), (.var 8), (.bi .len [(.var 0)])]),
    .assign 6 (.bin false .Add (.var 6) (.cst (.int 1)))],
  .ret (.tup [(.var 4), (.cst (.str [101, 110, 100])), (.var 6)])]⟩
noncomputable def d__law_cell_at : FD := ⟨2, 2,
  [.ite (.cmp .Lt (.var 1) (.bi .len [(.var 0)]))
    [.ret (.idx (.var 0) (.var 1))]
    [],
  .ret (.cst (.int 0))]⟩
noncomputable def d__law_whole : FD := ⟨1, 1,
  [.ret (.and_ (.isi (.var 0) .int) (.not_ (.isi (.var 0) .bool)))]⟩
noncomputable def d__law_mixed : FD := ⟨2, 3,
  [.assign 2 (.bin false .Mod (.bin false .Add (.bin false .Add (.bin false .Mult (.var 0) (.cst (.int 48271))) (.bin false .Mult (.cst (.int 7919)) (.var 1))) (.cst (.int 12345))) (.cst (.int 2147483647))),
  .ret (.bin false .Mod (.bin false .Mult (.bin false .Mod (.bin false .Mult (.var 2) (.var 2)) (.cst (.int 2147483647))) (.var 2)) (.cst (.int 2147483647)))]⟩
noncomputable def d__law_names_by : FD := ⟨1, 9,
  [.assign 1 (.cst (.str [97, 98, 99, 100, 101, 102, 103, 104, 105, 106, 107, 108, 109, 110, 111, 112, 113, 114, 115, 116, 117, 118, 119, 120, 121, 122])),
  .assign 2 (.bin false .Add (.cst (.int 1)) (.bin false .Mod (.var 0) (.cst (.int 7)))),
  .assign 3 (.mth .join (.cst (.str [])) [(.comp false (.idx (.var 1) (.bin false .Mod (.call f__law_mixed [(.bin false .FloorDiv (.var 0) (.cst (.int 7))), (.var 7)]) (.cst (.int 26)))) [7] true (.range (.var 2)) none)]),
  .assign 4 (.bin false .Mod (.bin false .FloorDiv (.var 0) (.cst (.int 7))) (.var 2)),
  .assign 5 (.mth .index (.var 1) [(.idx (.var 3) (.var 4))]),
  .assign 6 (.comp false (.bin false .Add (.bin false .Add (.slc false (.var 3) none (some (.var 4))) (.idx (.var 1) (.bin false .Mod (.bin false .Add (.var 5) (.var 8)) (.cst (.int 26))))) (.slc false (.var 3) (some (.bin false .Add (.var 4) (.cst (.int 1)))) none)) [8] true (.range (.bin false .Add (.cst (.int 2)) (.bin false .Mod (.bin false .FloorDiv (.var 0) (.cst (.int 49))) (.cst (.int 3))))) none),
  .ret (.bin false .Add (.var 6) (.lst false [(.bin false .Add (.var 3) (.idx (.var 1) (.bin false .Mod (.bin false .FloorDiv (.var 0) (.cst (.int 147))) (.cst (.int 26)))))]))]⟩
noncomputable def d__law_operand_by : FD := ⟨2, 2,
  [.ite (.cmp .Lt (.bin false .Mod (.var 0) (.cst (.int 4))) (.cst (.int 3)))
    [.ret (.idx (.var 1) (.bin false .Mod (.bin false .FloorDiv (.var 0) (.cst (.int 4))) (.bi .len [(.var 1)])))]
    [],
  .ite (.cmp .Eq (.bin false .Mod (.bin false .FloorDiv (.var 0) (.cst (.int 4))) (.cst (.int 5))) (.cst (.int 1)))
    [.ret (.bin false .Mult (.idx (.lst false [(.cst (.int 1)), (.neg (.cst (.int 1)))]) (.bin false .Mod (.bin false .FloorDiv (.var 0) (.cst (.int 20))) (.cst (.int 2)))) (.bin false .Add (.bin false .Pow (.cst (.int 10)) (.cst (.int 20))) (.bin false .Mod (.bin false .FloorDiv (.var 0) (.cst (.int 40))) (.cst (.int 9)))))]
    [],
  .ret (.bin false .Sub (.bin false .Mod (.bin false .FloorDiv (.var 0) (.cst (.int 20))) (.cst (.int 7))) (.cst (.int 3)))]⟩
noncomputable def d__law_row_by : FD := ⟨3, 8,
  [.assign 3 (.idx (.var 1) (.bin false .Mod (.bin false .FloorDiv (.var 0) (.cst (.int 9))) (.bi .len [(.var 1)]))),
  .assign 4 (.call f__law_operand_by [(.bin false .Mod (.bin false .FloorDiv (.var 0) (.cst (.int 27))) (.cst (.int 4177))), (.var 1)]),
  .assign 5 (.call f__law_operand_by [(.bin false .Mod (.bin false .FloorDiv (.var 0) (.cst (.int 32))) (.cst (.int 4159))), (.var 1)]),
  .assign 6 (.bin false .Mod (.bin false .Mod (.bin false .FloorDiv (.var 0) (.cst (.int 64))) (.cst (.int 5003))) (.bin false .Add (.var 2) (.cst (.int 1)))),
  .assign 7 (.bin false .Mod (.var 0) (.cst (.int 9))),
  .ite (.cmp .Lt (.var 7) (.cst (.int 2)))
    [.ret (.tup [(.cst (.str [115, 101, 116])), (.var 3), (.var 4)])]
    [],
  .ite (.cmp .Lt (.var 7) (.cst (.int 5)))
    [.ret (.tup [(.idx (.lst false [(.cst (.str [97, 100, 100])), (.cst (.str [115, 117, 98])), (.cst (.str [108, 101, 115, 115]))]) (.bin false .Sub (.var 7) (.cst (.int 2)))), (.var 3), (.var 4), (.var 5)])]
    [],
  .ite (.cmp .Eq (.var 7) (.cst (.int 5)))
    [.ret (.tup [(.cst (.str [115, 97, 121])), (.var 4)])]
    [],
  .ite (.cmp .Eq (.var 7) (.cst (.int 6)))
    [.ret (.idx (.lst false [(.tup [(.cst (.str [106, 117, 109, 112])), (.var 6)]), (.tup [(.cst (.str [115, 116, 111, 112]))]), (.tup [(.cst (.str [106, 117, 109, 112])), (.var 6)]), (.tup [(.cst (.str [115, 97, 121])), (.var 4)])]) (.bin false .Mod (.bin false .FloorDiv (.var 0) (.cst (.int 27))) (.cst (.int 4))))]
    [],
  .ret (.tup [(.cst (.str [110, 111, 117, 103, 104, 116])), (.var 4), (.var 6)])]⟩
noncomputable def d__law_size_by : FD := ⟨1, 1,
  [.ite (.cmp .Eq (.bin false .Mod (.bin false .FloorDiv (.var 0) (.cst (.int 9))) (.cst (.int 6))) (.cst (.int 1)))
    [.ret (.bin false .Add (.cst (.int 10)) (.bin false .Mod (.bin false .FloorDiv (.var 0) (.cst (.int 54))) (.cst (.int 4))))]
    [],
  .ret (.bin false .Mod (.var 0) (.cst (.int 10)))]⟩
noncomputable def d__law_rows_by : FD := ⟨1, 11,
  [.assign 1 (.call f__law_size_by [(.call f__law_cell_at [(.var 0), (.cst (.int 0))])]),
  .assign 2 (.call f__law_names_by [(.call f__law_cell_at [(.var 0), (.cst (.int 1))])]),
  .assign 3 (.comp true (.call f__law_row_by [(.call f__law_mixed [(.call f__law_cell_at [(.var 0), (.bin false .Add (.cst (.int 4)) (.var 9))]), (.var 9)]), (.var 2), (.var 1)]) [9] true (.range (.var 1)) none),
  .assign 4 (.call f__law_mixed [(.bin false .Add (.call f__law_cell_at [(.var 0), (.cst (.int 0))]) (.bin false .Mult (.cst (.int 3)) (.call f__law_cell_at [(.var 0), (.cst (.int 1))]))), (.cst (.int 50))]),
  .ite (.cmp .Lt (.bin false .Mod (.var 4) (.cst (.int 3))) (.cst (.int 2)))
    [.assign 5 (.bin false .Mod (.bin false .FloorDiv (.var 4) (.cst (.int 3))) (.bi .len [(.var 2)])),
    .assignT [6, 7, 8] (.slc false (.bin false .Add (.slc false (.var 2) (some (.var 5)) none) (.slc false (.var 2) none (some (.var 5)))) none (some (.cst (.int 3)))),
    .assign 3 (.bin true .Add (.var 3) (.lst false [(.tup [(.cst (.str [115, 101, 116])), (.var 8), (.var 6)]), (.tup [(.cst (.str [115, 101, 116])), (.var 6), (.var 7)]), (.tup [(.cst (.str [115, 101, 116])), (.var 7), (.var 8)])])),
    .expr (.mth .append (.var 3) [(.tup [(.cst (.str [110, 111, 117, 103, 104, 116])), (.idx (.lst false [(.var 6), (.var 7), (.cst (.int 0)), (.var 8)]) (.bin false .Mod (.bin false .FloorDiv (.var 4) (.cst (.int 9))) (.cst (.int 4)))), (.bin false .Mod (.bin false .FloorDiv (.var 4) (.cst (.int 36))) (.bi .len [(.var 3)]))])])]
    [],
  .ite (.cmp .Lt (.bin false .Mod (.bin false .FloorDiv (.var 4) (.cst (.int 1009))) (.cst (.int 3))) (.cst (.int 2)))
    [.assign 3 (.bin true .Add (.var 3) (.comp false (.tup [(.cst (.str [115, 97, 121])), (.var 10)]) [10] true (.e (.var 2)) none))]
    [],
  .ret (.var 3)]⟩
noncomputable def d__law_values_by : FD := ⟨1, 5,
  [.assign 1 (.call f__law_names_by [(.call f__law_cell_at [(.var 0), (.cst (.int 1))])]),
  .assign 2 (.call f__law_cell_at [(.var 0), (.cst (.int 2))]),
  .assign 3 (.dct true [] []),
  .for_ [4] true (.range (.bi .len [(.var 1)]))
    [.ite (.cmp .Gt (.bin false .Mod (.bin false .FloorDiv (.var 2) (.bin false .Add (.var 4) (.cst (.int 1)))) (.cst (.int 3))) (.cst (.int 0)))
      [.setIdx (.var 3) (.idx (.var 1) (.var 4)) (.bin false .Sub (.bin false .Mod (.bin false .FloorDiv (.var 2) (.cst (.int 7))) (.bin false .Add (.bin false .Mult (.bin false .Pow (.cst (.int 10)) (.cst (.int 15))) (.bin false .Mod (.var 4) (.cst (.int 2)))) (.cst (.int 9)))) (.bin false .Mult (.cst (.int 2)) (.var 4)))]
      []],
  .ret (.var 3)]⟩
noncomputable def d__law_own : FD := ⟨1, 1,
  [.ite (.cmp .In (.idx (.var 0) (.cst (.int 0))) (.tup [(.cst (.str [115, 101, 116])), (.cst (.str [97, 100, 100])), (.cst (.str [115, 117, 98])), (.cst (.str [108, 101, 115, 115]))]))
    [.ret (.idx (.var 0) (.cst (.int 1)))]
    [],
  .ret (.cst .none)]⟩
noncomputable def d__law_asks : FD := ⟨1, 1,
  [.ite (.cmp .In (.idx (.var 0) (.cst (.int 0))) (.tup [(.cst (.str [115, 101, 116])), (.cst (.str [97, 100, 100])), (.cst (.str [115, 117, 98])), (.cst (.str [108, 101, 115, 115]))]))
    [.ret (.bi (.list false) [(.slc false (.var 0) (some (.cst (.int 2))) none)])]
    [],
  .ite (.or_ (.cmp .Eq (.idx (.var 0) (.cst (.int 0))) (.cst (.str [115, 97, 121]))) (.cmp .Eq (.idx (.var 0) (.cst (.int 0))) (.cst (.str [110, 111, 117, 103, 104, 116]))))
    [.ret (.lst false [(.idx (.var 0) (.cst (.int 1)))])]
    [],
  .ret (.lst false [])]⟩
noncomputable def d__law_next : FD := ⟨2, 3,
  [.ite (.cmp .Eq (.var 1) (.bi .len [(.var 0)]))
    [.ret (.lst false [])]
    [],
  .assign 2 (.idx (.var 0) (.var 1)),
  .ite (.cmp .Eq (.idx (.var 2) (.cst (.int 0))) (.cst (.str [106, 117, 109, 112])))
    [.ret (.lst false [(.idx (.var 2) (.cst (.int 1)))])]
    [],
  .ite (.cmp .Eq (.idx (.var 2) (.cst (.int 0))) (.cst (.str [115, 116, 111, 112])))
    [.ret (.lst false [(.bi .len [(.var 0)])])]
    [],
  .ite (.and_ (.cmp .Eq (.idx (.var 2) (.cst (.int 0))) (.cst (.str [110, 111, 117, 103, 104, 116]))) (.cmp .NotEq (.idx (.var 2) (.cst (.int 2))) (.bin false .Add (.var 1) (.cst (.int 1)))))
    [.ret (.lst false [(.bi .min2 [(.idx (.var 2) (.cst (.int 2))), (.bin false .Add (.var 1) (.cst (.int 1)))]), (.bi .max2 [(.idx (.var 2) (.cst (.int 2))), (.bin false .Add (.var 1) (.cst (.int 1)))])])]
    [],
  .ret (.lst false [(.bin false .Add (.var 1) (.cst (.int 1)))])]⟩
noncomputable def d__law_reached : FD := ⟨1, 4,
  [.assign 1 (.lst false [(.cst (.int 0))]),
  .assign 2 (.cst (.int 0)),
  .while_ (.cmp .Lt (.var 2) (.bi .len [(.var 1)]))
    [.assign 1 (.bin false .Add (.var 1) (.comp false (.var 3) [3] true (.e (.call f__law_next [(.var 0), (.idx (.var 1) (.var 2))])) (some (.cmp .NotIn (.var 3) (.var 1))))),
    .assign 2 (.bin false .Add (.var 2) (.cst (.int 1)))],
  .ret (.bi (.sorted false) [(.var 1)])]⟩
noncomputable def d__law_run : FD := ⟨3, 10,
  [.assign 3 (.bi (.dict true) [(.var 1)]),
  .assign 4 (.lst true []),
  .assign 5 (.cst (.int 0)),
  .assign 6 (.cst (.int 0)),
  .while_ (.and_ (.cmp .Lt (.var 5) (.bi .len [(.var 0)])) (.cmp .Lt (.var 6) (.var 2)))
    [.assign 7 (.idx (.var 0) (.var 5)),
    .assign 6 (.bin false .Add (.var 6) (.cst (.int 1))),
    .assign 8 (.comp false (.ite (.isi (.var 9) .int) (.var 9) (.mth .get2 (.var 3) [(.var 9), (.cst (.int 0))])) [9] true (.e (.call f__law_asks [(.var 7)])) none),
    .assign 5 (.bin false .Add (.var 5) (.cst (.int 1))),
    .ite (.cmp .Eq (.idx (.var 7) (.cst (.int 0))) (.cst (.str [115, 101, 116])))
      [.setIdx (.var 3) (.idx (.var 7) (.cst (.int 1))) (.idx (.var 8) (.cst (.int 0)))]
      [.ite (.cmp .Eq (.idx (.var 7) (.cst (.int 0))) (.cst (.str [97, 100, 100])))
        [.setIdx (.var 3) (.idx (.var 7) (.cst (.int 1))) (.bin false .Add (.idx (.var 8) (.cst (.int 0))) (.idx (.var 8) (.cst (.int 1))))]
        [.ite (.cmp .Eq (.idx (.var 7) (.cst (.int 0))) (.cst (.str [115, 117, 98])))
          [.setIdx (.var 3) (.idx (.var 7) (.cst (.int 1))) (.bin false .Sub (.idx (.var 8) (.cst (.int 0))) (.idx (.var 8) (.cst (.int 1))))]
          [.ite (.cmp .Eq (.idx (.var 7) (.cst (.int 0))) (.cst (.str [108, 101, 115, 115])))
            [.setIdx (.var 3) (.idx (.var 7) (.cst (.int 1))) (.bi .int [(.cmp .Lt (.idx (.var 8) (.cst (.int 0))) (.idx (.var 8) (.cst (.int 1))))])]
            [.ite (.cmp .Eq (.idx (.var 7) (.cst (.int 0))) (.cst (.str [115, 97, 121])))
              [.expr (.mth .append (.var 4) [(.idx (.var 8) (.cst (.int 0)))])]
              [.ite (.cmp .Eq (.idx (.var 7) (.cst (.int 0))) (.cst (.str [106, 117, 109, 112])))
                [.assign 5 (.idx (.var 7) (.cst (.int 1)))]
                [.ite (.cmp .Eq (.idx (.var 7) (.cst (.int 0))) (.cst (.str [115, 116, 111, 112])))
                  [.assign 5 (.bi .len [(.var 0)])]
                  [.ite (.cmp .Eq (.idx (.var 8) (.cst (.int 0))) (.cst (.int 0)))
                    [.assign 5 (.idx (.var 7) (.cst (.int 2)))]
                    []]]]]]]]],
  .ret (.tup [(.var 4), (.ite (.cmp .Eq (.var 5) (.bi .len [(.var 0)])) (.cst (.str [101, 110, 100])) (.cst (.str [116, 105, 114, 101, 100]))), (.var 6)])]⟩
noncomputable def d__law_told : FD := ⟨2, 3,
  [.ite (.or_ (.not_ (.isi (.var 0) .tuple)) (.or_ (.cmp .NotEq (.bi .len [(.var 0)]) (.cst (.int 3))) (.not_ (.isi (.idx (.var 0) (.cst (.int 0))) .list))))
    [.ret (.cst (.bool false))]
    [],
  .ite (.or_ (.not_ (.isi (.idx (.var 0) (.cst (.int 1))) .str)) (.not_ (.call f__law_whole [(.idx (.var 0) (.cst (.int 2)))])))
    [.ret (.cst (.bool false))]
    [],
  .ite (.cmp .NotEq (.comp false (.var 2) [2] true (.e (.idx (.var 0) (.cst (.int 0)))) (some (.not_ (.call f__law_whole [(.var 2)])))) (.lst false []))
    [.ret (.cst (.bool false))]
    [],
  .ret (.cmp .Eq (.var 0) (.var 1))]⟩
end Mine

set_option Elab.async false
namespace Mine
open PySem PySem.SeqAt

abbrev FH := Addr → Option Obj
structure FE where
  id : Nat
  name : Str
  addr : Addr
  ht : Nat
  glob : Bool
structure GP where
  prog : Program
  w : World
  h₀ : Heap
  C : Addr
  fns : List FE
  gcs : List Nat
noncomputable def GP.fe (G : GP) (f : Nat) : Option FE := G.fns.find? fun e => e.id == f

abbrev lineB : Nat := 16777217

mutual
noncomputable def D.hash (w : World) : D → Int
  | .int i => hashInt i
  | .str cs => hashStr w ⟨cs.toArray⟩
  | .tup ds => reduceHash (Builtin.Tuple.tupleHashOf (D.hashes w ds))
  | _ => 0
noncomputable def D.hashes (w : World) : List D → List Int
  | [] => []
  | d :: r => D.hash w d :: D.hashes w r
end

noncomputable def attNames : List Str := ["size", "lines", "meets", "nexts", "froms"]

noncomputable def cpOk (cs : List Nat) : Prop := (∀ c ∈ cs, c < 0x110000) ∧ cs.length ≤ big
noncomputable def sobj (T : String) (vs : Array Value) (k : Nat) : Obj := { cls := .type T, dict := none, data := .seq vs k, slots := #[] }
noncomputable def seqAt (F : FH) (T : String) (v : Value) (items : List Value) : Prop := ∃ a vs n, v = .ref a ∧ F a = some (sobj T vs n) ∧ vs.toList = items ∧ items.length ≤ lineB

noncomputable def onceK : List (D × D) → Prop := fun kvs => (kvs.map (·.1)).Pairwise fun a b => a ≠ b
noncomputable def onceN : List (D × Nat) → Prop := fun kvs => (kvs.map (·.1)).Pairwise fun a b => a ≠ b

mutual
noncomputable def DRel (G : GP) (F : FH) : D → Value → Prop
  | .none, v => v = .none
  | .bool b, v => v = .bool b
  | .int i, v => ∃ t, v = .int i t
  | .str cs, v => ∃ t, v = .str ⟨cs.toArray⟩ t ∧ cpOk cs
  | .tup ds, v => ∃ items, seqAt F "tuple" v items ∧ DRels G F ds items
  | .list ds, v => ∃ items, seqAt F "list" v items ∧ DRels G F ds items
  | .dict kvs, v => ∃ a o es n, v = .ref a ∧ F a = some o ∧ o.ExactDict ∧ o.data = .dict es n ∧ es.size ≤ lineB ∧ DRelk G F kvs es.toList ∧ onceK kvs ∧ (a == sysModules) = false
  | .inst fs, v => ∃ a dx o od es n, v = .ref a ∧ F a = some o ∧ F dx = some od ∧ o = ⟨.ref G.C, some dx, .plain, #[]⟩ ∧ od = ⟨.type "dict", none, .dict es n, #[]⟩ ∧ DRela G F attNames fs es.toList
  | .exc _, _ => False
noncomputable def DRels (G : GP) (F : FH) : List D → List Value → Prop
  | [], vs => vs = []
  | d :: r, vs => ∃ v t, vs = v :: t ∧ DRel G F d v ∧ DRels G F r t
noncomputable def DRelk (G : GP) (F : FH) : List (D × D) → List DictEntry → Prop
  | [], es => es = []
  | (k, x) :: r, es => ∃ e t, es = e :: t ∧ DRel G F k e.key ∧ D.key k = true ∧ e.hash = D.hash G.w k ∧ DRel G F x e.val ∧ DRelk G F r t
noncomputable def DRela (G : GP) (F : FH) : List Str → List D → List DictEntry → Prop
  | _, [], es => es = []
  | [], _ :: _, _ => False
  | a :: as, d :: r, es => ∃ e t, es = e :: t ∧ (∃ tk, e.key = .str a tk) ∧ DRel G F d e.val ∧ DRela G F as r t
end

noncomputable def FLe (F F' : FH) : Prop := ∀ a o, F a = some o → F' a = some o
theorem FLe.refl (F : FH) : FLe F F := fun _ _ e => e
theorem FLe.trans {F F' F'' : FH} (x : FLe F F') (y : FLe F' F'') : FLe F F'' := fun a o e => y a o (x a o e)
theorem seqAt.mono {F F' : FH} (h : FLe F F') {T v items} (x : seqAt F T v items) : seqAt F' T v items := by
  obtain ⟨a, vs, n, h1, h2, r⟩ := x
  exact ⟨a, vs, n, h1, h _ _ h2, r⟩
mutual
theorem DRel.mono {G : GP} {F F' : FH} (h : FLe F F') : ∀ {d : D} {v : Value}, DRel G F d v → DRel G F' d v
  | .none, v, x => x
  | .bool b, v, x => x
  | .int i, v, x => x
  | .str cs, v, x => x
  | .tup ds, v, x => by
    obtain ⟨items, h1, h2⟩ := x
    exact ⟨items, h1.mono h, DRels.mono h h2⟩
  | .list ds, v, x => by
    obtain ⟨items, h1, h2⟩ := x
    exact ⟨items, h1.mono h, DRels.mono h h2⟩
  | .dict kvs, v, x => by
    obtain ⟨a, o, es, n, h1, h2, h3, h4, h5, h6, h7⟩ := x
    exact ⟨a, o, es, n, h1, h _ _ h2, h3, h4, h5, DRelk.mono h h6, h7⟩
  | .inst fs, v, x => by
    obtain ⟨a, dx, o, od, es, n, h1, h2, h3, h4, h5, h6⟩ := x
    exact ⟨a, dx, o, od, es, n, h1, h _ _ h2, h _ _ h3, h4, h5, DRela.mono h h6⟩
  | .exc _, _, x => x
theorem DRels.mono {G : GP} {F F' : FH} (h : FLe F F') : ∀ {ds : List D} {vs : List Value}, DRels G F ds vs → DRels G F' ds vs
  | [], vs, x => x
  | d :: r, vs, x => by
    obtain ⟨v, t, h1, h2, h3⟩ := x
    exact ⟨v, t, h1, DRel.mono h h2, DRels.mono h h3⟩
theorem DRelk.mono {G : GP} {F F' : FH} (h : FLe F F') : ∀ {ds : List (D × D)} {vs : List DictEntry}, DRelk G F ds vs → DRelk G F' ds vs
  | [], vs, x => x
  | (k, d) :: r, vs, x => by
    obtain ⟨e, t, h1, h2, h3, h4, h5, h6⟩ := x
    exact ⟨e, t, h1, DRel.mono h h2, h3, h4, DRel.mono h h5, DRelk.mono h h6⟩
theorem DRela.mono {G : GP} {F F' : FH} (h : FLe F F') : ∀ {as : List Str} {ds : List D} {vs : List DictEntry}, DRela G F as ds vs → DRela G F' as ds vs
  | [], [], vs, x => x
  | _ :: _, [], vs, x => x
  | [], _ :: _, vs, x => x.elim
  | a :: as, d :: r, vs, x => by
    obtain ⟨e, t, h1, h2, h3, h4⟩ := x
    exact ⟨e, t, h1, h2, DRel.mono h h3, DRela.mono h h4⟩
end

theorem DRels.length {G : GP} {F : FH} : ∀ {ds : List D} {vs : List Value}, DRels G F ds vs → vs.length = ds.length
  | [], vs, x => by simp only [DRels] at x; rw [x]; rfl
  | d :: r, vs, x => by
    simp only [DRels] at x
    obtain ⟨v, t, rfl, _, h⟩ := x
    simp [DRels.length h]
theorem DRels.append {G : GP} {F : FH} : ∀ {ds es : List D} {vs ws : List Value}, DRels G F ds vs → DRels G F es ws → DRels G F (ds ++ es) (vs ++ ws)
  | [], es, vs, ws, x, y => by simp only [DRels] at x; subst x; exact y
  | d :: r, es, vs, ws, x, y => by
    simp only [DRels] at x
    obtain ⟨v, t, rfl, h1, h2⟩ := x
    simp only [List.cons_append, DRels]
    exact ⟨v, t ++ ws, rfl, h1, DRels.append h2 y⟩
theorem DRels.get {G : GP} {F : FH} : ∀ {ds : List D} {vs : List Value} {i : Nat} {d : D}, DRels G F ds vs → ds[i]? = some d → ∃ v, vs[i]? = some v ∧ DRel G F d v
  | [], vs, i, d, x, e => by simp at e
  | d :: r, vs, i, d', x, e => by
    simp only [DRels] at x
    obtain ⟨v, t, rfl, h1, h2⟩ := x
    cases i with
    | zero => simp at e; subst e; exact ⟨v, rfl, h1⟩
    | succ i => simp only [List.getElem?_cons_succ] at e ⊢; exact DRels.get h2 e
theorem DRels.of_get {G : GP} {F : FH} : ∀ {ds : List D} {vs : List Value}, ds.length = vs.length → (∀ (i : Nat) d v, ds[i]? = some d → vs[i]? = some v → DRel G F d v) → DRels G F ds vs
  | [], [], _, _ => rfl
  | [], _ :: _, e, _ => by simp at e
  | _ :: _, [], e, _ => by simp at e
  | d :: r, v :: t, e, h => ⟨v, t, rfl, h 0 d v rfl rfl, DRels.of_get (by simpa using e) fun i d v h1 h2 => h (i + 1) d v h1 h2⟩
theorem DRels.take {G : GP} {F : FH} {ds : List D} {vs : List Value} (n : Nat) (x : DRels G F ds vs) : DRels G F (ds.take n) (vs.take n) :=
  DRels.of_get (by simp [x.length]) fun i d v h1 h2 => by
    rw [List.getElem?_take] at h1 h2
    split at h1
    · rename_i hi
      rw [if_pos hi] at h2
      obtain ⟨v', e, r⟩ := x.get h1
      rw [e] at h2; cases h2; exact r
    · cases h1
theorem DRels.drop {G : GP} {F : FH} {ds : List D} {vs : List Value} (n : Nat) (x : DRels G F ds vs) : DRels G F (ds.drop n) (vs.drop n) :=
  DRels.of_get (by simp [x.length]) fun i d v h1 h2 => by
    rw [List.getElem?_drop] at h1 h2
    obtain ⟨v', e, r⟩ := x.get h1
    rw [e] at h2; cases h2; exact r
theorem DRels.set {G : GP} {F : FH} {ds : List D} {vs : List Value} (x : DRels G F ds vs) {d : D} {v : Value} (y : DRel G F d v) (n : Nat) : DRels G F (ds.set n d) (vs.set n v) :=
  DRels.of_get (by simp [x.length]) fun i d' v' h1 h2 => by
    rw [List.getElem?_set] at h1 h2
    by_cases hi : n = i
    · subst hi
      rw [if_pos rfl] at h1 h2
      split at h1
      · cases h1
        split at h2
        · cases h2; exact y
        · cases h2
      · cases h1
    · rw [if_neg hi] at h1 h2
      obtain ⟨v'', e, r⟩ := x.get h1
      rw [e] at h2; cases h2; exact r

mutual
noncomputable def D.py : D → PyData
  | .none => .none
  | .bool b => .bool b
  | .int i => .int i
  | .str cs => .str ⟨cs.toArray⟩
  | .tup ds => .tuple (D.pys ds)
  | .list ds => .list (D.pys ds)
  | _ => .none
noncomputable def D.pys : List D → List PyData
  | [] => []
  | d :: r => D.py d :: D.pys r
end
noncomputable def Sub (F : FH) (h : Heap) : Prop := ∀ a o, F a = some o → h.get? a = some o
mutual
theorem DRel.reads {G : GP} {F : FH} {h : Heap} (S : Sub F h) : ∀ {d : D} {v : Value}, DRel G F d v → D.flat d = true → ∃ as, Reads h v d.py as
  | .none, v, x, _ => by simp only [DRel] at x; subst x; exact ⟨_, .none⟩
  | .bool b, v, x, _ => by simp only [DRel] at x; subst x; exact ⟨_, .bool b⟩
  | .int i, v, x, _ => by simp only [DRel] at x; obtain ⟨t, rfl⟩ := x; exact ⟨_, .int i t⟩
  | .str cs, v, x, _ => by simp only [DRel] at x; obtain ⟨t, rfl, _⟩ := x; exact ⟨_, .str _ t⟩
  | .tup ds, v, x, f => by
    simp only [DRel] at x
    obtain ⟨items, ⟨a, vs, n, rfl, h2, h5, _⟩, h6⟩ := x
    obtain ⟨as, r⟩ := DRels.reads S h6 f
    exact ⟨_, .tuple (S _ _ h2) rfl rfl (h5 ▸ r)⟩
  | .list ds, v, x, f => by
    simp only [DRel] at x
    obtain ⟨items, ⟨a, vs, n, rfl, h2, h5, _⟩, h6⟩ := x
    obtain ⟨as, r⟩ := DRels.reads S h6 f
    exact ⟨_, .list (S _ _ h2) rfl rfl (h5 ▸ r)⟩
  | .dict _, _, _, f => by simp [D.flat] at f
  | .inst _, _, _, f => by simp [D.flat] at f
  | .exc _, _, x, _ => x.elim
theorem DRels.reads {G : GP} {F : FH} {h : Heap} (S : Sub F h) : ∀ {ds : List D} {vs : List Value}, DRels G F ds vs → D.flats ds = true → ∃ as, ReadsAll h vs (D.pys ds) as
  | [], vs, x, _ => by simp only [DRels] at x; subst x; exact ⟨_, .nil⟩
  | d :: r, vs, x, f => by
    simp only [DRels] at x
    obtain ⟨v, t, rfl, h1, h2⟩ := x
    simp only [D.flats, Bool.and_eq_true] at f
    obtain ⟨as, r1⟩ := DRel.reads S h1 f.1
    obtain ⟨bs, r2⟩ := DRels.reads S h2 f.2
    exact ⟨_, .cons r1 r2⟩
end
theorem strOk_of {cs : List Nat} (h : cpOk cs) : PyData.strOk ⟨cs.toArray⟩ = true := by
  simp only [PyData.strOk, List.all_toArray, List.all_eq_true, decide_eq_true_eq]
  exact h.1
mutual
theorem DRel.canLay {G : GP} {F : FH} : ∀ {d : D} {v : Value}, DRel G F d v → D.flat d = true → d.py.canLay0 = true
  | .none, v, x, _ => rfl
  | .bool b, v, x, _ => rfl
  | .int i, v, x, _ => rfl
  | .str cs, v, x, _ => by
    simp only [DRel] at x; obtain ⟨t, rfl, h⟩ := x
    simp only [D.py, PyData.canLay0]; exact strOk_of h
  | .tup ds, v, x, f => by
    simp only [DRel] at x
    obtain ⟨items, _, h6⟩ := x
    simp only [D.py, PyData.canLay0]; exact DRels.canLay h6 f
  | .list ds, v, x, f => by
    simp only [DRel] at x
    obtain ⟨items, _, h6⟩ := x
    simp only [D.py, PyData.canLay0]; exact DRels.canLay h6 f
  | .dict _, _, _, f => by simp [D.flat] at f
  | .inst _, _, _, f => by simp [D.flat] at f
  | .exc _, _, x, _ => x.elim
theorem DRels.canLay {G : GP} {F : FH} : ∀ {ds : List D} {vs : List Value}, DRels G F ds vs → D.flats ds = true → PyData.canLayAll0 (D.pys ds) = true
  | [], vs, x, _ => rfl
  | d :: r, vs, x, f => by
    simp only [DRels] at x
    obtain ⟨v, t, rfl, h1, h2⟩ := x
    simp only [D.flats, Bool.and_eq_true] at f
    simp only [D.pys, PyData.canLayAll0, DRel.canLay h1 f.1, DRels.canLay h2 f.2, Bool.and_self]
end
mutual
theorem D.py_depth : ∀ d : D, D.flat d = true → d.py.depth = d.depth
  | .none, _ => rfl
  | .bool b, _ => rfl
  | .int i, _ => rfl
  | .str cs, _ => rfl
  | .tup ds, f => by simp only [D.py, PyData.depth, D.depth, D.pys_depth ds f]
  | .list ds, f => by simp only [D.py, PyData.depth, D.depth, D.pys_depth ds f]
  | .dict _, f => by simp [D.flat] at f
  | .inst _, f => by simp [D.flat] at f
  | .exc _, f => by simp [D.flat] at f
theorem D.pys_depth : ∀ ds : List D, D.flats ds = true → PyData.depthAll (D.pys ds) = D.depths ds
  | [], _ => rfl
  | d :: r, f => by
    simp only [D.flats, Bool.and_eq_true] at f
    simp only [D.pys, PyData.depthAll, D.depths, D.py_depth d f.1, D.pys_depth r f.2]
end
theorem strEq_iff (a b : List Nat) : ((⟨a.toArray⟩ : Str) == ⟨b.toArray⟩) = (a == b) := by
  rw [Bool.eq_iff_iff, beq_iff_eq, beq_iff_eq]
  constructor
  · intro h; injection h with h; simpa using congrArg Array.toList h
  · rintro rfl; rfl
mutual
theorem D.py_eqv : ∀ a b : D, D.flat a = true → D.flat b = true → PyData.eqv a.py b.py = D.eqv a b
  | .none, b, _, f => by cases b <;> first | rfl | simp [D.flat] at f
  | .bool x, b, _, f => by cases b <;> first | rfl | simp [D.flat] at f
  | .int x, b, _, f => by cases b <;> first | rfl | simp [D.flat] at f
  | .str x, b, _, f => by
    cases b with
    | str y => simp only [D.py, PyData.eqv, D.eqv]; exact strEq_iff x y
    | _ => first | rfl | simp [D.flat] at f
  | .tup x, b, f, g => by
    cases b with
    | tup y => simp only [D.py, PyData.eqv, D.eqv]; exact D.pys_eqv x y f g
    | _ => first | rfl | simp [D.flat] at g
  | .list x, b, f, g => by
    cases b with
    | list y => simp only [D.py, PyData.eqv, D.eqv]; exact D.pys_eqv x y f g
    | _ => first | rfl | simp [D.flat] at g
  | .dict _, _, f, _ => by simp [D.flat] at f
  | .inst _, _, f, _ => by simp [D.flat] at f
  | .exc _, _, f, _ => by simp [D.flat] at f
theorem D.pys_eqv : ∀ a b : List D, D.flats a = true → D.flats b = true → PyData.eqvAll (D.pys a) (D.pys b) = D.eqvs a b
  | [], b, _, _ => by cases b <;> rfl
  | x :: xs, b, f, g => by
    cases b with
    | nil => rfl
    | cons y ys =>
      simp only [D.flats, Bool.and_eq_true] at f g
      simp only [D.pys, PyData.eqvAll, D.eqvs, D.py_eqv x y f.1 g.1, D.pys_eqv xs ys f.2 g.2]
end
theorem eqAt_D {G : GP} {F : FH} {s : Shared} {A : Around} (S : Sub F s.heap) {x y : D} {a b : Value} (rx : DRel G F x a) (ry : DRel G F y b) (fx : D.flat x = true) (fy : D.flat y = true)
    (hu : A.units + min x.depth y.depth < cLine) : EqAt A s a b (D.eqv x y) := by
  obtain ⟨as, ra⟩ := rx.reads S fx
  obtain ⟨bs, rb⟩ := ry.reads S fy
  rw [← D.py_eqv x y fx fy]
  exact eqAt_reads _ _ _ _ _ _ _ _ ra rb (rx.canLay fx) (ry.canLay fy) (by rw [D.py_depth x fx, D.py_depth y fy]; exact hu)

end Mine

set_option Elab.async false
set_option linter.unusedVariables false
namespace Mine
open PySem PySem.SeqAt

noncomputable def VRel (G : GP) (F : FH) : V → Value → Prop
  | .d x, v => DRel G F x v
  | .loc n, v => v = .ref n
  | .mix n ds, v => ∃ items, seqAt F "tuple" v (.ref n :: items) ∧ DRels G F ds items
theorem VRel.mono {G : GP} {F F' : FH} (h : FLe F F') {x : V} {v : Value} (r : VRel G F x v) : VRel G F' x v := by
  cases x with
  | d x => exact DRel.mono h r
  | loc n => exact r
  | mix n ds => obtain ⟨items, h1, h2⟩ := r; exact ⟨items, h1.mono h, DRels.mono h h2⟩
noncomputable def VRels (G : GP) (F : FH) : List V → List Value → Prop
  | [], vs => vs = []
  | x :: r, vs => ∃ v t, vs = v :: t ∧ VRel G F x v ∧ VRels G F r t
theorem VRels.length {G : GP} {F : FH} : ∀ {xs : List V} {vs : List Value}, VRels G F xs vs → vs.length = xs.length
  | [], vs, x => by cases x; rfl
  | d :: r, vs, x => by obtain ⟨v, t, rfl, _, h⟩ := x; simp [VRels.length h]

noncomputable def lobj (vs : Array Value) (k : Nat) : Obj := { cls := .type "list", dict := none, data := .seq vs k, slots := #[] }
noncomputable def dobj (es : Array DictEntry) (k : Nat) : Obj := { cls := .type "dict", dict := none, data := .dict es k, slots := #[] }
noncomputable def iobj (C dx : Addr) : Obj := { cls := .ref C, dict := some dx, data := .plain, slots := #[] }

noncomputable def NRelk (G : GP) (F : FH) : List (D × Nat) → List DictEntry → Prop
  | [], es => es = []
  | (k, n) :: r, es => ∃ e t, es = e :: t ∧ DRel G F k e.key ∧ D.key k = true ∧ e.hash = D.hash G.w k ∧ e.val = .ref n ∧ NRelk G F r t
theorem NRelk.mono {G : GP} {F F' : FH} (h : FLe F F') : ∀ {xs : List (D × Nat)} {vs : List DictEntry}, NRelk G F xs vs → NRelk G F' xs vs
  | [], _, r => r
  | _ :: _, _, ⟨e, t, h1, h2, h3, h4, h5, h6⟩ => ⟨e, t, h1, h2.mono h, h3, h4, h5, h6.mono h⟩

noncomputable def ORel (G : GP) (F : FH) (h : Heap) (n : Nat) : AO → Prop
  | .list ds => ∃ vs k, h.get? n = some (lobj vs k) ∧ DRels G F ds vs.toList ∧ ds.length ≤ lineB
  | .dict kvs => ∃ es k, h.get? n = some (dobj es k) ∧ DRelk G F kvs es.toList ∧ onceK kvs ∧ kvs.length ≤ lineB ∧ (n == sysModules) = false
  | .llist ns => ∃ vs k, h.get? n = some (lobj vs k) ∧ vs.toList = ns.map .ref ∧ ns.length ≤ lineB
  | .ldict kns => ∃ es k, h.get? n = some (dobj es k) ∧ NRelk G F kns es.toList ∧ onceN kns ∧ kns.length ≤ lineB ∧ (n == sysModules) = false
  | .inst dx fs => h.get? n = some (iobj G.C dx) ∧ ∃ es k, h.get? dx = some (dobj es k) ∧ DRela G F attNames fs es.toList
  | .hid => ∃ o, h.get? n = some o
  | .ro o => ORel G F h n o
theorem ORel.mono {G : GP} {F F' : FH} (hF : FLe F F') {h : Heap} {n : Nat} : ∀ {o : AO}, ORel G F h n o → ORel G F' h n o
  | .list ds, ⟨vs, k, h1, h2, h3⟩ => ⟨vs, k, h1, h2.mono hF, h3⟩
  | .dict kvs, ⟨vs, k, h1, h2, h3⟩ => ⟨vs, k, h1, h2.mono hF, h3⟩
  | .llist ns, r => r
  | .ldict kns, ⟨vs, k, h1, h2, h3⟩ => ⟨vs, k, h1, h2.mono hF, h3⟩
  | .inst dx fs, ⟨h1, es, k, h2, h3⟩ => ⟨h1, es, k, h2, h3.mono hF⟩
  | .hid, r => r
  | .ro o, r => ORel.mono (o := o) hF r
theorem ORel.keep {G : GP} {F : FH} {h h' : Heap} {n : Nat} : ∀ {o : AO}, ORel G F h n o → (∀ ob, h.get? n = some ob → h'.get? n = some ob) → (∀ dx, dxOf o = some dx → ∀ ob, h.get? dx = some ob → h'.get? dx = some ob) → ORel G F h' n o
  | .list ds, ⟨vs, k, h1, h2⟩, hk, _ => ⟨vs, k, hk _ h1, h2⟩
  | .dict kvs, ⟨vs, k, h1, h2⟩, hk, _ => ⟨vs, k, hk _ h1, h2⟩
  | .llist ns, ⟨vs, k, h1, h2⟩, hk, _ => ⟨vs, k, hk _ h1, h2⟩
  | .ldict kns, ⟨vs, k, h1, h2⟩, hk, _ => ⟨vs, k, hk _ h1, h2⟩
  | .inst dx fs, ⟨h1, es, k, h2, h3⟩, hk, hd => ⟨hk _ h1, es, k, hd dx rfl _ h2, h3⟩
  | .hid, ⟨o, h1⟩, hk, _ => ⟨o, hk _ h1⟩
  | .ro o, r, hk, hd => ORel.keep (o := o) r hk hd
theorem ORel.there {G : GP} {F : FH} {h : Heap} {n : Nat} : ∀ {o : AO}, ORel G F h n o → ∃ ob, h.get? n = some ob
  | .list ds, ⟨vs, k, h1, _⟩ => ⟨_, h1⟩
  | .dict kvs, ⟨vs, k, h1, _⟩ => ⟨_, h1⟩
  | .llist ns, ⟨vs, k, h1, _⟩ => ⟨_, h1⟩
  | .ldict kns, ⟨vs, k, h1, _⟩ => ⟨_, h1⟩
  | .inst dx fs, ⟨h1, _⟩ => ⟨_, h1⟩
  | .hid, r => r
  | .ro o, r => ORel.there (o := o) r

noncomputable def mutb : Option AO → Bool
  | none => false
  | some (.ro _) => false
  | _ => true

structure Inv (G : GP) (F : FH) (live : Hp) (s : Shared) : Prop where
  base : ∀ a o, G.h₀.get? a = some o → F a = some o
  sub : Sub F s.heap
  lv : ∀ n o, live n = some o → F n = none ∧ ORel G F s.heap n o
  ih : ∀ n o dx, live n = some o → dxOf o = some dx → live dx = some .hid
  big : ∃ a o, 3 < a ∧ F a = some o

structure Step (F : FH) (live : Hp) (s : Shared) (F' : FH) (live' : Hp) (s' : Shared) : Prop where
  mono : FLe F F'
  keep : ∀ a o, s.heap.get? a = some o → mutb (live a) = false → s'.heap.get? a = some o ∧ live' a = live a ∧ (F a = none → F' a = none)
  gens : s'.gens = s.gens
  os : s'.os = s.os

theorem Step.refl {F : FH} {live : Hp} {s : Shared} : Step F live s F live s := ⟨FLe.refl _, fun _ _ e _ => ⟨e, rfl, id⟩, rfl, rfl⟩
theorem Step.toks {F : FH} {live : Hp} {s : Shared} (t : Nat) : Step F live s F live { s with toks := t } := ⟨FLe.refl _, fun _ _ e _ => ⟨e, rfl, id⟩, rfl, rfl⟩
theorem Step.trans {F F' F'' : FH} {live live' live'' : Hp} {s s' s'' : Shared} (x : Step F live s F' live' s') (y : Step F' live' s' F'' live'' s'') : Step F live s F'' live'' s'' :=
  ⟨x.mono.trans y.mono, fun a o e m => by
    obtain ⟨h1, h2, h3⟩ := x.keep a o e m
    obtain ⟨k1, k2, k3⟩ := y.keep a o h1 (by rw [h2]; exact m)
    exact ⟨k1, k2.trans h2, fun z => k3 (h3 z)⟩, y.gens.trans x.gens, y.os.trans x.os⟩
theorem Inv.toks {G : GP} {F : FH} {live : Hp} {s : Shared} (I : Inv G F live s) (t : Nat) : Inv G F live { s with toks := t } := ⟨I.base, I.sub, I.lv, I.ih, I.big⟩

theorem Inv.fresh {G : GP} {F : FH} {live : Hp} {s : Shared} (I : Inv G F live s) {n : Addr} (h : s.heap.get? n = none) : F n = none ∧ live n = none := by
  constructor
  · cases e : F n with
    | none => rfl
    | some o => rw [I.sub _ _ e] at h; cases h
  · cases e : live n with
    | none => rfl
    | some o => obtain ⟨ob, q⟩ := (I.lv _ _ e).2.there; rw [q] at h; cases h
theorem Inv.size {G : GP} {F : FH} {live : Hp} {s : Shared} (I : Inv G F live s) : 3 < s.heap.objs.size := by
  obtain ⟨a, o, h, e⟩ := I.big
  exact Nat.lt_trans h (Heap.lt_size (I.sub _ _ e))
theorem sysN {n : Nat} (h : 3 < n) : (n == sysModules) = false := by
  have : sysModules = 1 := rfl
  rw [this]; simp; omega

theorem Inv.allocL {G : GP} {F : FH} {live : Hp} {s s' : Shared} (I : Inv G F live s) {n : Addr} {o : AO} (hn : s.heap.get? n = none) (hk : ∀ b ob, s.heap.get? b = some ob → s'.heap.get? b = some ob)
    (ho : ORel G F s'.heap n o) (hd : dxOf o = none) (hg : s'.gens = s.gens) (hos : s'.os = s.os) (hb : s.heap.objs.size ≤ s'.heap.objs.size) :
    Inv G F (live.upd n o) s' ∧ Step F live s F (live.upd n o) s' := by
  have fr := I.fresh hn
  refine ⟨⟨I.base, fun a ob e => hk _ _ (I.sub _ _ e), fun m om e => ?_, fun m om dx e q => ?_, I.big⟩, ⟨FLe.refl _, fun a ob e m => ⟨hk _ _ e, ?_, id⟩, hg, hos⟩⟩
  · unfold Hp.upd at e
    split at e
    · rename_i h; subst h; cases e; exact ⟨fr.1, ho⟩
    · have := I.lv _ _ e
      exact ⟨this.1, this.2.keep (fun ob q => hk _ _ q) fun dx _ ob q => hk _ _ q⟩
  · unfold Hp.upd at e
    split at e
    · cases e; rw [hd] at q; cases q
    · have h1 := I.ih _ _ _ e q
      rw [Hp.upd_ne]; exact h1
      intro z; rw [z, fr.2] at h1; cases h1
  · rw [Hp.upd_ne]
    intro z; rw [z, hn] at e; cases e
theorem Inv.allocF {G : GP} {F : FH} {live : Hp} {s s' : Shared} (I : Inv G F live s) {n : Addr} {o : Obj} (hn : s.heap.get? n = none) (hk : ∀ b ob, s.heap.get? b = some ob → s'.heap.get? b = some ob)
    (ho : s'.heap.get? n = some o) (hg : s'.gens = s.gens) (hos : s'.os = s.os) (hb : s.heap.objs.size ≤ s'.heap.objs.size) :
    Inv G (fun a => if a = n then some o else F a) live s' ∧ Step F live s (fun a => if a = n then some o else F a) live s' := by
  have fr := I.fresh hn
  have mono : FLe F (fun a => if a = n then some o else F a) := fun a ob e => by
    have : a ≠ n := by intro z; rw [z, fr.1] at e; cases e
    show (if a = n then _ else _) = _
    rw [if_neg this]; exact e
  refine ⟨⟨fun a ob e => mono _ _ (I.base _ _ e), fun a ob e => ?_, fun m om e => ?_, I.ih, (let ⟨a, o, h, e⟩ := I.big; ⟨a, o, h, mono _ _ e⟩)⟩, ⟨mono, fun a ob e m => ⟨hk _ _ e, rfl, fun z => ?_⟩, hg, hos⟩⟩
  · by_cases h : a = n
    · subst h; simp only [if_true] at e; rw [ho, e]
    · simp only [h, if_false] at e; exact hk _ _ (I.sub _ _ e)
  · have := I.lv _ _ e
    have hm : m ≠ n := by intro z; rw [z, fr.2] at e; cases e
    refine ⟨?_, (this.2.keep (fun ob q => hk _ _ q) fun dx _ ob q => hk _ _ q).mono mono⟩
    show (if m = n then _ else _) = _
    rw [if_neg hm]; exact this.1
  · have : a ≠ n := by intro y; rw [y, hn] at e; cases e
    show (if a = n then _ else _) = _
    rw [if_neg this]; exact z
theorem Inv.change {G : GP} {F : FH} {live : Hp} {s s' : Shared} (I : Inv G F live s) {n : Addr} {o o' : AO} (hl : live n = some o) (hm : mutb (some o) = true) (hh : o ≠ .hid) (hk : ∀ b ob, b ≠ n → s.heap.get? b = some ob → s'.heap.get? b = some ob)
    (ho : ORel G F s'.heap n o') (hd : dxOf o' = none) (hg : s'.gens = s.gens) (hos : s'.os = s.os) (hb : s.heap.objs.size ≤ s'.heap.objs.size) :
    Inv G F (live.upd n o') s' ∧ Step F live s F (live.upd n o') s' := by
  have fn := (I.lv _ _ hl).1
  refine ⟨⟨I.base, fun a ob e => hk _ _ ?_ (I.sub _ _ e), fun m om e => ?_, fun m om dx e q => ?_, I.big⟩, ⟨FLe.refl _, fun a ob e m => ?_, hg, hos⟩⟩
  · intro z; rw [z, fn] at e; cases e
  · unfold Hp.upd at e
    split at e
    · rename_i h; subst h; cases e; exact ⟨fn, ho⟩
    · rename_i hne
      have := I.lv _ _ e
      refine ⟨this.1, this.2.keep (fun ob q => hk _ _ hne q) fun dx q ob q' => hk _ _ ?_ q'⟩
      intro z
      have := I.ih _ _ _ e q
      rw [z, hl] at this
      exact hh (Option.some.inj this)
  · unfold Hp.upd at e
    split at e
    · cases e; rw [hd] at q; cases q
    · have h1 := I.ih _ _ _ e q
      have hne : dx ≠ n := by
        intro z; rw [z, hl] at h1
        exact hh (Option.some.inj h1)
      rw [Hp.upd_ne _ _ hne]; exact h1
  · have hne : a ≠ n := by intro z; rw [z, hl, hm] at m; cases m
    exact ⟨hk _ _ hne e, Hp.upd_ne _ _ hne, id⟩

theorem Inv.drop {G : GP} {F : FH} {live live' : Hp} {s : Shared} (I : Inv G F live s) (h : Drop live live') : Inv G F live' s :=
  ⟨I.base, I.sub, fun n o e => I.lv n o (h.le n o e), fun n o dx e q => h.hid n o dx e q (I.ih n o dx (h.le _ _ e) q), I.big⟩
theorem Step.drop {F F' : FH} {live live' live'' : Hp} {s s' : Shared} (x : Step F live s F' live' s') (h : Drop live' live'') : Step F live s F' live'' s' :=
  Step.mk x.mono (fun a o e m => by
    obtain ⟨h1, h2, h3⟩ := x.keep a o e m
    refine ⟨h1, ?_, h3⟩
    cases q : live a with
    | none =>
      rw [q] at h2
      cases z : live'' a with
      | none => rfl
      | some o' => rw [h.le _ _ z] at h2; cases h2
    | some o' =>
      rw [q] at h2 m
      cases o' with
      | ro o' => exact h.ro _ _ h2
      | _ => cases m) x.gens x.os
end Mine

set_option Elab.async false
set_option linter.unusedVariables false
namespace Mine
open PySem PySem.SeqAt PyProof.Rows

abbrev Mo (G : GP) : Model := model G.prog G.w
noncomputable def PE (G : GP) (F : FH) (live : Hp) (s : Shared) (Q : KV) (v : Value) (s' : Shared) : Prop :=
  ∃ F' live' x, Step F live s F' live' s' ∧ Inv G F' live' s' ∧ VRel G F' x v ∧ Q x live'
noncomputable def PB (G : GP) (F : FH) (live : Hp) (s : Shared) (K : Bool → Hp → Prop) (b : Bool) (s' : Shared) : Prop :=
  ∃ F' live', Step F live s F' live' s' ∧ Inv G F' live' s' ∧ K b live'

section
variable {G : GP} {F F' : FH} {live live' : Hp} {s s' : Shared} {A : Around} {E : Value → Shared → Prop} {Q Q' : KV} {x y : V} {v u : Value}

theorem PE.val (I : Inv G F live s) (r : VRel G F x v) (h : Q x live) {t : Nat} : PE G F live s Q v { s with toks := t } := ⟨F, live, x, .toks t, I.toks t, r, h⟩
theorem PE.val0 (I : Inv G F live s) (r : VRel G F x v) (h : Q x live) : PE G F live s Q v s := ⟨F, live, x, .refl, I, r, h⟩
theorem PE.after (st : Step F live s F' live' s') {s'' : Shared} (p : PE G F' live' s' Q v s'') : PE G F live s Q v s'' :=
  let ⟨F₂, l₂, x, a, b, c, d⟩ := p
  ⟨F₂, l₂, x, st.trans a, b, c, d⟩
theorem PB.after (st : Step F live s F' live' s') {K : Bool → Hp → Prop} {b : Bool} {s'' : Shared} (p : PB G F' live' s' K b s'') : PB G F live s K b s'' :=
  let ⟨F₂, l₂, a, c, d⟩ := p
  ⟨F₂, l₂, st.trans a, c, d⟩
theorem PB.val0 (I : Inv G F live s) {K : Bool → Hp → Prop} {b : Bool} (h : K b live) : PB G F live s K b s := ⟨F, live, .refl, I, h⟩
theorem PB.val (I : Inv G F live s) {K : Bool → Hp → Prop} {b : Bool} (h : K b live) {t : Nat} : PB G F live s K b { s with toks := t } := ⟨F, live, .toks t, I.toks t, h⟩

theorem look_lv (I : Inv G F live s) {n : Nat} {o : AO} (e : live.look n = some o) : F n = none ∧ ORel G F s.heap n o := by
  unfold Hp.look at e
  split at e
  · rename_i o' h; cases e; have := I.lv _ _ h; exact this
  · exact I.lv _ _ e

theorem rd_int (r : VRel G F x v) {i : Int} (e : rd live x = some (.int i)) : ∃ t, v = .int i t := by
  cases x with
  | d x => simp only [rd, Option.some.injEq] at e; subst e; exact r
  | mix n ds => cases e
  | loc n =>
    simp only [rd] at e
    cases h : live.look n with
    | none => rw [h] at e; cases e
    | some o => rw [h] at e; cases o <;> cases e
theorem rd_str (r : VRel G F x v) {cs : List Nat} (e : rd live x = some (.str cs)) : ∃ t, v = .str ⟨cs.toArray⟩ t ∧ cpOk cs := by
  cases x with
  | d x => simp only [rd, Option.some.injEq] at e; subst e; exact r
  | mix n ds => cases e
  | loc n =>
    simp only [rd] at e
    cases h : live.look n with
    | none => rw [h] at e; cases e
    | some o => rw [h] at e; cases o <;> cases e
theorem rd_tup (r : VRel G F x v) {ds : List D} (e : rd live x = some (.tup ds)) : ∃ items, seqAt F "tuple" v items ∧ DRels G F ds items := by
  cases x with
  | d x => simp only [rd, Option.some.injEq] at e; subst e; exact r
  | mix n ds => cases e
  | loc n =>
    simp only [rd] at e
    cases h : live.look n with
    | none => rw [h] at e; cases e
    | some o => rw [h] at e; cases o <;> cases e
theorem rd_list (I : Inv G F live s) (r : VRel G F x v) {ds : List D} (e : rd live x = some (.list ds)) :
    ∃ a vs k, v = .ref a ∧ s.heap.get? a = some (sobj "list" vs k) ∧ DRels G F ds vs.toList ∧ ds.length ≤ lineB := by
  cases x with
  | d x =>
    simp only [rd, Option.some.injEq] at e; subst e
    obtain ⟨items, ⟨a, vs, n, rfl, h2, h3, h4⟩, h5⟩ := r
    subst h3
    exact ⟨a, vs, n, rfl, I.sub _ _ h2, h5, by rw [← h5.length]; exact h4⟩
  | mix n ds => cases e
  | loc n =>
    simp only [rd] at e
    cases h : live.look n with
    | none => rw [h] at e; cases e
    | some o =>
      rw [h] at e
      cases o with
      | list ds' =>
        cases e
        obtain ⟨vs, k, h1, h2, h3⟩ := (look_lv I h).2
        exact ⟨n, vs, k, r, h1, h2, h3⟩
      | _ => cases e
theorem rd_dict (I : Inv G F live s) (r : VRel G F x v) {kvs : List (D × D)} (e : rd live x = some (.dict kvs)) :
    ∃ a es k, v = .ref a ∧ s.heap.get? a = some (dobj es k) ∧ DRelk G F kvs es.toList ∧ onceK kvs ∧ kvs.length ≤ lineB ∧ (a == sysModules) = false := by
  cases x with
  | d x =>
    simp only [rd, Option.some.injEq] at e; subst e
    obtain ⟨a, o, es, n, rfl, h2, h3, h4, h5, h6, h7, h8⟩ := r
    refine ⟨a, es, n, rfl, ?_, h6, h7, ?_, h8⟩
    · rw [I.sub _ _ h2]
      obtain ⟨c, d, dt, sl⟩ := o
      obtain ⟨q1, q2, q3⟩ := h3
      simp only at q1 q2 q3 h4
      subst q1; subst q2; subst q3; subst h4; rfl
    · have : ∀ {kvs : List (D × D)} {es : List DictEntry}, DRelk G F kvs es → kvs.length = es.length := by
        intro kvs
        induction kvs with
        | nil => intro es h; simp only [DRelk] at h; subst h; rfl
        | cons p r ih =>
          intro es h
          obtain ⟨k, x⟩ := p
          simp only [DRelk] at h
          obtain ⟨e, t, rfl, _, _, _, _, h⟩ := h
          simp [ih h]
      rw [this h6]; simpa using h5
  | mix n ds => cases e
  | loc n =>
    simp only [rd] at e
    cases h : live.look n with
    | none => rw [h] at e; cases e
    | some o =>
      rw [h] at e
      cases o with
      | dict ds' =>
        cases e
        obtain ⟨vs, k, h1, h2, h3, h4, h5⟩ := (look_lv I h).2
        exact ⟨n, vs, k, r, h1, h2, h3, h4, h5⟩
      | _ => cases e

theorem DRelk.length : ∀ {kvs : List (D × D)} {es : List DictEntry}, DRelk G F kvs es → es.length = kvs.length
  | [], es, h => by simp only [DRelk] at h; subst h; rfl
  | (k, x) :: r, es, h => by
    simp only [DRelk] at h
    obtain ⟨e, t, rfl, _, _, _, _, h⟩ := h
    simp [DRelk.length h]

theorem rdE_rel (I : Inv G F live s) (r : VRel G F x v) {d : D} (e : rdE live x = some d) : ∃ F', Sub F' s.heap ∧ FLe F F' ∧ DRel G F' d v := by
  have one : ∀ {n : Nat} {o : AO} {d : D}, live.look n = some o → o.toD = some d → ∃ F', Sub F' s.heap ∧ FLe F F' ∧ DRel G F' d (.ref n) := by
    intro n o d h q
    obtain ⟨fn, O⟩ := look_lv I h
    have mono : ∀ ob, FLe F (fun a => if a = n then some ob else F a) := fun ob a oa e' => by
      have : a ≠ n := by intro z; rw [z, fn] at e'; cases e'
      show (if a = n then _ else _) = _
      rw [if_neg this]; exact e'
    have sub : ∀ ob, s.heap.get? n = some ob → Sub (fun a => if a = n then some ob else F a) s.heap := fun ob hob a oa e' => by
      by_cases z : a = n
      · subst z; simp only [if_true] at e'; rw [hob, e']
      · simp only [z, if_false] at e'; exact I.sub _ _ e'
    cases o with
    | list ds =>
      cases q
      obtain ⟨vs, k, h1, h2, h3⟩ := O
      refine ⟨_, sub _ h1, mono _, vs.toList, ⟨n, vs, k, rfl, by simp; rfl, rfl, by rw [h2.length]; exact h3⟩, h2.mono (mono _)⟩
    | dict kvs =>
      cases q
      obtain ⟨es, k, h1, h2, h3, h4, h5⟩ := O
      refine ⟨_, sub _ h1, mono _, n, dobj es k, es, k, rfl, by simp, ⟨rfl, rfl, rfl⟩, rfl, ?_, h2.mono (mono _), h3, h5⟩
      have := DRelk.length h2
      rw [Array.length_toList] at this; rw [this]; exact h4
    | _ => cases q
  cases x with
  | d x => simp only [rdE, Option.some.injEq] at e; subst e; exact ⟨F, I.sub, .refl _, r⟩
  | loc n =>
    simp only [rdE] at e
    cases h : live.look n with
    | none => rw [h] at e; cases e
    | some o => rw [h] at e; cases r; exact one h e
  | mix n ds =>
    simp only [rdE] at e
    cases h : live.look n with
    | none => rw [h] at e; cases e
    | some o =>
      rw [h] at e
      simp only [Option.bind_some] at e
      obtain ⟨d0, q, rfl⟩ := Option.map_eq_some_iff.mp e
      obtain ⟨F', S, m, r0⟩ := one h q
      obtain ⟨items, h1, h2⟩ := r
      exact ⟨F', S, m, _, h1.mono m, .ref n, items, rfl, r0, h2.mono m⟩
end
end Mine

set_option Elab.async false
set_option linter.unusedVariables false
namespace Mine
open PySem PySem.SeqAt PyProof.Rows

structure Room (A : Around) (h : Nat) : Prop where
  hd : A.handled = none
  dp : A.depth + h ≤ 900
  un : A.units + 16 * h ≤ 9000

section
variable {G : GP} {F F' : FH} {live live' : Hp} {s s' : Shared} {A : Around} {E : Value → Shared → Prop} {Q Q' : KV} {x y : V} {v u : Value} {ht : Nat}

theorem push_new (h : Heap) : h.get? h.objs.size = none := by
  cases e : h.get? h.objs.size with
  | none => rfl
  | some o => exact absurd (Heap.lt_size e) (Nat.lt_irrefl _)
theorem push_keep (h : Heap) (o : Obj) : ∀ b ob, h.get? b = some ob → (h.push o).get? b = some ob := fun _ _ e => Heap.get?_push_of_some o e
theorem push_size (h : Heap) (o : Obj) : h.objs.size ≤ (h.push o).objs.size := by
  obtain ⟨objs, l⟩ := h
  show objs.size ≤ (objs.push o).size
  simp

theorem PE.list (I : Inv G F live s) {lv : Bool} {ds : List D} {vs : Array Value} (rs : DRels G F ds vs.toList) (hl : ds.length ≤ big) (h : mk lv (.list ds) live Q) {t : Nat} {s₁ : Shared}
    (h1 : s₁.heap = s.heap.push (sobj "list" vs 0)) (h2 : s₁.gens = s.gens) (h3 : s₁.os = s.os) : PE G F live s Q (.ref s.heap.objs.size) s₁ := by
  have at' : s₁.heap.get? s.heap.objs.size = some (sobj "list" vs 0) := by rw [h1]; exact Heap.get?_push_size _ rfl
  have hk : ∀ b ob, s.heap.get? b = some ob → s₁.heap.get? b = some ob := by rw [h1]; exact push_keep _ _
  have hz : s.heap.objs.size ≤ s₁.heap.objs.size := by rw [h1]; exact push_size _ _
  have hlen : ds.length ≤ lineB := Nat.le_succ_of_le hl
  cases lv with
  | true =>
    obtain ⟨I', st⟩ := I.allocL (n := s.heap.objs.size) (o := .list ds) (push_new _) hk ⟨vs, 0, at', rs, hlen⟩ rfl h2 h3 hz
    exact ⟨_, _, .loc _, st, I', rfl, h _ (I.fresh (push_new _)).2⟩
  | false =>
    obtain ⟨I', st⟩ := I.allocF (n := s.heap.objs.size) (push_new _) hk at' h2 h3 hz
    exact ⟨_, _, .d (.list ds), st, I', ⟨vs.toList, ⟨_, vs, 0, rfl, by simp, rfl, by rw [rs.length]; exact hlen⟩, rs.mono st.mono⟩, h⟩
theorem PE.tuple (I : Inv G F live s) {ds : List D} {vs : Array Value} (rs : DRels G F ds vs.toList) (hl : ds.length ≤ big) (h : Q (.d (.tup ds)) live) {s₁ : Shared}
    (h1 : s₁.heap = s.heap.push (sobj "tuple" vs 0)) (h2 : s₁.gens = s.gens) (h3 : s₁.os = s.os) : PE G F live s Q (.ref s.heap.objs.size) s₁ := by
  have at' : s₁.heap.get? s.heap.objs.size = some (sobj "tuple" vs 0) := by rw [h1]; exact Heap.get?_push_size _ rfl
  have hk : ∀ b ob, s.heap.get? b = some ob → s₁.heap.get? b = some ob := by rw [h1]; exact push_keep _ _
  have hz : s.heap.objs.size ≤ s₁.heap.objs.size := by rw [h1]; exact push_size _ _
  obtain ⟨I', st⟩ := I.allocF (n := s.heap.objs.size) (push_new _) hk at' h2 h3 hz
  exact ⟨_, _, .d (.tup ds), st, I', ⟨vs.toList, ⟨_, vs, 0, rfl, by simp, rfl, by rw [rs.length]; exact Nat.le_succ_of_le hl⟩, rs.mono st.mono⟩, h⟩
theorem PE.tupleM (I : Inv G F live s) {n : Nat} {ds : List D} {vs : Array Value} {r : List Value} (hv : vs.toList = .ref n :: r) (rs : DRels G F ds r) (hl : ds.length < big) (h : Q (.mix n ds) live) {s₁ : Shared}
    (h1 : s₁.heap = s.heap.push (sobj "tuple" vs 0)) (h2 : s₁.gens = s.gens) (h3 : s₁.os = s.os) : PE G F live s Q (.ref s.heap.objs.size) s₁ := by
  have at' : s₁.heap.get? s.heap.objs.size = some (sobj "tuple" vs 0) := by rw [h1]; exact Heap.get?_push_size _ rfl
  have hk : ∀ b ob, s.heap.get? b = some ob → s₁.heap.get? b = some ob := by rw [h1]; exact push_keep _ _
  have hz : s.heap.objs.size ≤ s₁.heap.objs.size := by rw [h1]; exact push_size _ _
  obtain ⟨I', st⟩ := I.allocF (n := s.heap.objs.size) (push_new _) hk at' h2 h3 hz
  refine ⟨_, _, .mix n ds, st, I', ⟨r, ⟨_, vs, 0, rfl, by simp, hv, ?_⟩, rs.mono st.mono⟩, h⟩
  simp only [List.length_cons, rs.length]
  unfold big at hl; unfold lineB; omega

theorem PE.int (I : Inv G F live s) {i : Int} {tk : Tok} (h : Q (.d (.int i)) live) {t : Nat} : PE G F live s Q (.int i tk) { s with toks := t } := PE.val I (x := .d (.int i)) (show DRel G F (.int i) _ from ⟨tk, rfl⟩) h
theorem PE.bool (I : Inv G F live s) {b : Bool} (h : Q (.d (.bool b)) live) : PE G F live s Q (.bool b) s := PE.val0 I (x := .d (.bool b)) rfl h

theorem sizeLine_big : sizeLine = big := rfl
theorem cpOk_append {a b : List Nat} (h : cpOk a) (h' : cpOk b) (hl : (a ++ b).length ≤ big) : cpOk (a ++ b) := ⟨fun c hc => (List.mem_append.mp hc).elim (h.1 c) (h'.1 c), hl⟩
theorem str_append (a b : List Nat) : (⟨a.toArray⟩ : Str) ++ ⟨b.toArray⟩ = ⟨(a ++ b).toArray⟩ := by
  show (⟨a.toArray ++ b.toArray⟩ : Str) = _
  simp
theorem str_length (a : List Nat) : (⟨a.toArray⟩ : Str).length = a.length := by
  show a.toArray.size = a.length
  simp

theorem small_bits {a : Int} (h : small a) : Builtin.Int.intBits a ≤ 64 := by
  unfold Builtin.Int.intBits
  split
  · omega
  · rename_i h0
    have hn : a.natAbs < 2 ^ 62 := by unfold small at h; omega
    have : a.natAbs.log2 < 62 := by
      rw [Nat.log2_lt]
      · exact hn
      · simp at h0; omega
    omega
theorem mulOk {a b : Int} (h : small a ∨ small b) : IntMulOk a b := by
  unfold IntMulOk
  intro q
  simp only [Bool.and_eq_true, decide_eq_true_eq] at q
  have e : shortFactorBits = 64 := rfl
  rw [e] at q
  rcases h with h | h
  · have := small_bits h; omega
  · have := small_bits h; omega
theorem mulOk10 : ∀ n : Nat, n ≤ 100 → (Builtin.Int.intBits 10 : Int) * (n : Int) ≤ 2 ^ 27 := by
  intro n hn
  have : Builtin.Int.intBits 10 = 4 := by decide
  rw [this]; omega

theorem snd_bin (I : Inv G F live s) (ra : VRel G F x v) (rb : VRel G F y u) {lv : Bool} {op : Operator} (h : vBin lv op x y live Q) : wpAny (Mo G) A (binaryOp op v u) (PE G F live s Q) E s := by
  unfold vBin at h
  split at h
  · split at h
    · rename_i i j e1 e2
      obtain ⟨t, rfl⟩ := rd_int ra e1
      obtain ⟨t', rfl⟩ := rd_int rb e2
      exact add_int (PE.int I h)
    · rename_i i j e1 e2
      obtain ⟨t, rfl, c1⟩ := rd_str ra e1
      obtain ⟨t', rfl, c2⟩ := rd_str rb e2
      refine add_str (fun t' tk => PE.val I (x := .d (.str (i ++ j))) ⟨t', ?_, cpOk_append c1 c2 h.1⟩ h.2) ?_
      · rw [str_append]
      · rw [str_length, str_length, sizeLine_big]; simpa using h.1
    · rename_i i j e1 e2
      obtain ⟨a, vs, k, rfl, h1, h2, h3⟩ := rd_list I ra e1
      obtain ⟨b, ws, k', rfl, h1', h2', h3'⟩ := rd_list I rb e2
      have hlen := h.1
      refine PySem.P.add_list (items := vs) (items2 := ws) h1 h1' (PE.list I (vs := vs ++ ws) (by rw [Array.toList_append]; exact h2.append h2') h.1 h.2 (t := 0) rfl rfl rfl) ?_
      have a1 := h2.length; have a2 := h2'.length
      rw [Array.length_toList] at a1 a2
      rw [List.length_append] at hlen
      rw [a1, a2]; exact hlen
    · rename_i i j e1 e2
      obtain ⟨items, ⟨a, vs, k, rfl, h1, h2, h3⟩, r1⟩ := rd_tup ra e1
      obtain ⟨items', ⟨b, ws, k', rfl, h1', h2', h3'⟩, r2⟩ := rd_tup rb e2
      subst h2; subst h2'
      have ho := I.sub _ _ h1
      have ho2 := I.sub _ _ h1'
      have hlen := h.1
      rw [List.length_append, ← r1.length, ← r2.length, Array.length_toList, Array.length_toList] at hlen
      by_cases hv : vs.isEmpty = true
      · refine concat_meets ⟨_, ho, rfl⟩ ⟨_, ho2, rfl⟩ noFill_tuple_add seq_tuple_add PySem.F.slot_tuple_add PySem.F.entry_tuple_add (PySem.F.args_tuple_add_2 _ _)
          (tuple_addW0 a b vs ws k k' none none #[] #[] hv) ⟨ho, ho2, ?_⟩
        have e : i = [] := by
          have := r1.length; rw [Array.length_toList] at this
          simp only [Array.isEmpty_iff_size_eq_zero] at hv
          rw [hv] at this; exact List.eq_nil_of_length_eq_zero this.symm
        subst e
        exact PE.val0 I (x := .d (.tup _)) ⟨ws.toList, ⟨b, ws, k', rfl, h1', rfl, h3'⟩, r2⟩ h.2
      · by_cases hw : ws.isEmpty = true
        · refine concat_meets ⟨_, ho, rfl⟩ ⟨_, ho2, rfl⟩ noFill_tuple_add seq_tuple_add PySem.F.slot_tuple_add PySem.F.entry_tuple_add (PySem.F.args_tuple_add_2 _ _)
            (tuple_addW1 a b vs ws k k' none none #[] #[] hv hw) ⟨ho, ho2, ?_⟩
          have e : j = [] := by
            have := r2.length; rw [Array.length_toList] at this
            simp only [Array.isEmpty_iff_size_eq_zero] at hw
            rw [hw] at this; exact List.eq_nil_of_length_eq_zero this.symm
          subst e
          rw [List.append_nil] at h
          exact PE.val0 I (x := .d (.tup _)) ⟨vs.toList, ⟨a, vs, k, rfl, h1, rfl, h3⟩, r1⟩ h.2
        · exact concat_meets ⟨_, ho, rfl⟩ ⟨_, ho2, rfl⟩ noFill_tuple_add seq_tuple_add PySem.F.slot_tuple_add PySem.F.entry_tuple_add (PySem.F.args_tuple_add_2 _ _)
            (tuple_addW2 a b vs ws k k' none none #[] #[] hv hw hlen) ⟨ho, ho2, PE.tuple I (vs := vs ++ ws) (by rw [Array.toList_append]; exact r1.append r2) h.1 h.2 rfl rfl rfl⟩
    · exact h.elim
  · split at h
    · rename_i i j e1 e2
      obtain ⟨t, rfl⟩ := rd_int ra e1
      obtain ⟨t', rfl⟩ := rd_int rb e2
      exact sub_int (PE.int I h)
    · exact h.elim
  · split at h
    · rename_i i j e1 e2
      obtain ⟨t, rfl⟩ := rd_int ra e1
      obtain ⟨t', rfl⟩ := rd_int rb e2
      exact mul_int (PE.int I h.2) (mulOk h.1)
    · exact h.elim
  · split at h
    · rename_i i j e1 e2
      obtain ⟨t, rfl⟩ := rd_int ra e1
      obtain ⟨t', rfl⟩ := rd_int rb e2
      obtain ⟨h0, h1, h⟩ := h
      refine floordiv_int (by omega) ?_ (.inl (PyProof.noPylong_small (by omega)))
      rw [Int.fdiv_eq_ediv_of_nonneg _ (by omega)]
      exact PE.int I h
    · exact h.elim
  · split at h
    · rename_i i j e1 e2
      obtain ⟨t, rfl⟩ := rd_int ra e1
      obtain ⟨t', rfl⟩ := rd_int rb e2
      obtain ⟨h0, h⟩ := h
      refine mod_int' (by omega) ?_
      rw [Int.fmod_eq_emod_of_nonneg _ (by omega)]
      exact PE.int I h
    · exact h.elim
  · split at h
    · rename_i i j e1 e2
      obtain ⟨t, rfl⟩ := rd_int ra e1
      obtain ⟨t', rfl⟩ := rd_int rb e2
      obtain ⟨rfl, h0, h1, h⟩ := h
      refine pow_int h0 ?_ (PE.int I h)
      have := mulOk10 j.toNat (by omega)
      rw [Int.toNat_of_nonneg h0] at this
      exact this
    · exact h.elim
  · exact h.elim

theorem snd_eqs (I : Inv G F live s) (R : Room A ht) (ra : VRel G F x v) (rb : VRel G F y u) {dx dy : D} (e1 : rdE live x = some dx) (e2 : rdE live y = some dy) (h : okEq dx dy) :
    (∀ {K : Value → Shared → Prop}, K (.bool (D.eqv dx dy)) s → wpAny (Mo G) A (compareOp .Eq v u) K E s) ∧ (∀ {K : Value → Shared → Prop}, K (.bool (!D.eqv dx dy)) s → wpAny (Mo G) A (compareOp .NotEq v u) K E s) := by
  obtain ⟨F1, S1, _, r1⟩ := rdE_rel I ra e1
  obtain ⟨F2, S2, _, r2⟩ := rdE_rel I rb e2
  obtain ⟨f1, f2, d1, d2⟩ := h
  obtain ⟨as, q1⟩ := r1.reads S1 f1
  obtain ⟨bs, q2⟩ := r2.reads S2 f2
  have s1 : shaped dx.py = true := by simp only [shaped, r1.canLay f1, D.py_depth dx f1, Bool.true_and, decide_eq_true_eq]; exact d1
  have s2 : shaped dy.py = true := by simp only [shaped, r2.canLay f2, D.py_depth dy f2, Bool.true_and, decide_eq_true_eq]; exact d2
  have hu : A.units + 64 < cLine := by have := R.un; unfold cLine; omega
  rw [← D.py_eqv dx dy f1 f2]
  exact ⟨fun k => compareEq_shaped q1 q2 s1 s2 hu k, fun k => compareNe_shaped q1 q2 s1 s2 hu k⟩

end
end Mine

set_option Elab.async false
set_option linter.unusedVariables false
namespace Mine
open PySem PySem.SeqAt PyProof.Rows

section
variable {G : GP} {F F' : FH} {live live' : Hp} {s s' : Shared} {A : Around} {E : Value → Shared → Prop} {x y : V} {v u : Value} {ht : Nat}

theorem key_cases {k : D} (h : D.key k = true) : (∃ i, k = .int i) ∨ ∃ cs, k = .str cs := by
  cases k with
  | int i => exact .inl ⟨i, rfl⟩
  | str cs => exact .inr ⟨cs, rfl⟩
  | _ => cases h
theorem key_look {k : D} (h : D.key k = true) : D.nb k = true ∧ D.flat k = true ∧ D.depth k = 0 := by
  rcases key_cases h with ⟨i, rfl⟩ | ⟨cs, rfl⟩ <;> exact ⟨rfl, rfl, rfl⟩
theorem key_eqv {a b : D} (ha : D.key a = true) (hb : D.key b = true) : D.eqv a b = D.eqb a b := by
  rw [Bool.eq_iff_iff, D.eqb_iff]
  exact D.eqv_nb (key_look ha).1 (key_look hb).1
theorem pyHash_D {k : D} (r : DRel G F k v) (kk : D.key k = true) {Q : Int → Shared → Prop} (h : ∀ tk, Q (D.hash G.w k) { s with toks := tk }) : wpAny (Mo G) A (pyHash v) Q E s := by
  rcases key_cases kk with ⟨i, rfl⟩ | ⟨cs, rfl⟩
  · obtain ⟨t, rfl⟩ := r
    exact wpAny_pyHash_int (h _)
  · obtain ⟨t, rfl, _⟩ := r
    exact wpAny_pyHash_str (h _)
theorem key_byValue {k : D} (r : DRel G F k v) (kk : D.key k = true) : carriedByValue v = true := by
  rcases key_cases kk with ⟨i, rfl⟩ | ⟨cs, rfl⟩
  · obtain ⟨t, rfl⟩ := r; rfl
  · obtain ⟨t, rfl, _⟩ := r; rfl

noncomputable def KRel (G : GP) (F : FH) (ks : List D) (es : List DictEntry) : Prop := ks.length = es.length ∧ ∀ (i : Nat) k e, ks[i]? = some k → es[i]? = some e → DRel G F k e.key ∧ D.key k = true ∧ e.hash = D.hash G.w k
theorem KRel.cons {k : D} {ks : List D} {e : DictEntry} {es : List DictEntry} (h : KRel G F ks es) (h1 : DRel G F k e.key) (h2 : D.key k = true) (h3 : e.hash = D.hash G.w k) : KRel G F (k :: ks) (e :: es) :=
  ⟨by simp [h.1], fun i k' e' a b => by
    cases i with
    | zero => simp at a b; subst a; subst b; exact ⟨h1, h2, h3⟩
    | succ i => exact h.2 i k' e' (by simpa using a) (by simpa using b)⟩
theorem NRelk.keys : ∀ {kvs : List (D × Nat)} {es : List DictEntry}, NRelk G F kvs es → KRel G F (kvs.map (·.1)) es
  | [], es, h => by simp only [NRelk] at h; subst h; exact ⟨rfl, fun i k e a => by simp at a⟩
  | (k, x) :: r, es, h => by
    simp only [NRelk] at h
    obtain ⟨e, t, rfl, h1, h2, h3, _, h⟩ := h
    exact (NRelk.keys h).cons h1 h2 h3

noncomputable def findK (ks : List D) (k : D) : Option Nat := ks.findIdx? fun x => D.eqb x k
theorem findK_some {ks : List D} {k : D} (once : ks.Pairwise (· ≠ ·)) {j : Nat} (h : ks[j]? = some k) : findK ks k = some j := by
  unfold findK
  obtain ⟨hj, e⟩ := List.getElem?_eq_some_iff.mp h
  rw [List.findIdx?_eq_some_iff_getElem]
  refine ⟨hj, by rw [e]; exact D.eqb_refl k, fun i hi => ?_⟩
  intro q
  have := D.eqb_eq q
  have hne := List.pairwise_iff_getElem.mp once i j (by omega) hj hi
  exact hne (by rw [this, e])
theorem findK_none {ks : List D} {k : D} (h : ∀ j : Nat, ks[j]? ≠ some k) : findK ks k = none := by
  unfold findK
  rw [List.findIdx?_eq_none_iff]
  intro x hx
  cases q : D.eqb x k with
  | false => rfl
  | true =>
    obtain ⟨i, hi, e⟩ := List.getElem_of_mem hx
    exact absurd (by rw [List.getElem?_eq_getElem hi, e, D.eqb_eq q]) (h i)

structure Fnd (G : GP) (F : FH) (A : Around) (s : Shared) (v : Value) (k : D) (ks : List D) (es : Array DictEntry) : Prop where
  size : es.size = ks.length
  hash : ∀ (j : Nat), ks[j]? = some k → ((es[j]?.map (·.hash)) == some (D.hash G.w k)) = true
  at_ : ∀ (j : Nat), j < es.size → ∃ k' e, ks[j]? = some k' ∧ es[j]? = some e ∧ EqAt A s e.key v (D.eqb k' k)
theorem fnd_of (hu : A.units + 8 < cLine) (S : Sub F s.heap) {k : D} (r : DRel G F k v) (kk : D.key k = true) {es : Array DictEntry} {ks : List D} (K : KRel G F ks es.toList) : Fnd G F A s v k ks es := by
  have hsz : es.size = ks.length := by rw [K.1]; simp
  refine ⟨hsz, fun j hj => ?_, fun j hj => ?_⟩
  · have hlt : j < es.size := by rw [hsz]; exact (List.getElem?_eq_some_iff.mp hj).1
    have := K.2 j k es[j] hj (by simp [hlt])
    simp [hlt, this.2.2]
  · have hk' : ks[j]? = some (ks[j]'(by omega)) := List.getElem?_eq_getElem _
    refine ⟨_, es[j], hk', by simp [hj], ?_⟩
    have := K.2 j _ es[j] hk' (by simp [hj])
    rw [← key_eqv this.2.1 kk]
    refine eqAt_D S this.1 r (key_look this.2.1).2.1 (key_look kk).2.1 ?_
    have : min (ks[j]).depth k.depth ≤ 0 := (key_look kk).2.2 ▸ Nat.min_le_right _ _
    omega

theorem dictWalk_D (hu : A.units + 8 < cLine) (S : Sub F s.heap) {k : D} (r : DRel G F k v) (kk : D.key k = true) {d : Addr} {o : Obj} {es : Array DictEntry} {ep : Nat} (ho : s.heap.get? d = some o) (hd : o.data = .dict es ep)
    {ks : List D} (K : KRel G F ks es.toList) (once : ks.Pairwise (· ≠ ·)) {Q : Option Nat → Shared → Prop} (h : Q (findK ks k) s) : wpAny (Mo G) A (dictWalkPlain d v (D.hash G.w k) es (placesWithHash es.size (fun i => es[i]?.map (·.hash)) (D.hash G.w k))) Q E s := by
  have fn := fnd_of hu S r kk K
  have hnone : (∀ j : Nat, ks[j]? ≠ some k) → Q none s := fun q => by rw [findK_none q] at h; exact h
  have hsome : ∀ j : Nat, ks[j]? = some k → Q (some j) s := fun j q => by rw [findK_some once q] at h; exact h
  clear h
  unfold dictWalkPlain
  refine wpAny_bind ?_
  refine wpAny_forIn_list _
    (fun rest b s' => s' = s ∧ ∃ i, b = (none, ()) ∧ rest = (List.range' i (es.size - i)).filter (fun i => (es[i]?.map (·.hash)) == some (D.hash G.w k)) ∧ i ≤ es.size ∧ ∀ j, j < i → ks[j]? ≠ some k) _ ?_ ?_ _ _
    ⟨rfl, 0, rfl, by rw [placesWithHash, List.range_eq_range', Nat.sub_zero], Nat.zero_le _, fun _ h => absurd h (Nat.not_lt_zero _)⟩
  · rintro x rest b s' ⟨rfl, i, rfl, hr, hi, hno⟩
    obtain ⟨hix, hxn, hpx, hskip, hrest⟩ := filter_range'_cons _ _ _ _ _ hr.symm
    have hlt : x < es.size := by omega
    have hrest' : rest = (List.range' (x + 1) (es.size - (x + 1))).filter (fun i => (es[i]?.map (·.hash)) == some (D.hash G.w k)) := by rw [hrest]; congr 2; omega
    obtain ⟨k', e, hk', he, heq⟩ := fn.at_ x hlt
    have hno' : ∀ j, j < x → ks[j]? ≠ some k := fun j hj q => by
      rcases Nat.lt_or_ge j i with h | h
      · exact hno j h q
      · have := hskip j h hj; rw [fn.hash j q] at this; cases this
    rw [he]
    dsimp only
    have hh : (e.hash == D.hash G.w k) = true := by rw [he] at hpx; simpa using hpx
    rw [if_pos hh]
    refine wpAny_bind (wpAny_dictEpoch ho hd (wpAny_bind (heq _ _ _ _ (wpAny_bind (wpAny_dictEpoch ho hd ?_)))))
    rw [if_neg (by simp)]
    cases q : D.eqb k' k with
    | true =>
      have := D.eqb_eq q; subst this
      simp only [if_true]
      exact wpAny_bind (wpAny_rule (wpAny_pure (wpAny_pure (hsome x hk'))))
    | false =>
      simp only [Bool.false_eq_true, if_false]
      refine wpAny_bind (wpAny_rule (wpAny_pure ⟨rfl, x + 1, rfl, hrest', by omega, fun j hj z => ?_⟩))
      rcases Nat.lt_or_ge j x with h | h
      · exact hno' j h z
      · have : j = x := by omega
        subst this
        rw [hk'] at z; cases z; rw [D.eqb_refl] at q; cases q
  · rintro b s' ⟨rfl, i, rfl, hr, hi, hno⟩
    refine wpAny_pure (hnone fun j z => ?_)
    rcases Nat.lt_or_ge j i with h | h
    · exact hno j h z
    · have hjl : j < es.size := by rw [fn.size]; exact (List.getElem?_eq_some_iff.mp z).1
      have := List.filter_eq_nil_iff.mp hr.symm j (List.mem_range'_1.mpr ⟨h, by omega⟩)
      exact this (fn.hash j z)
theorem find_str (hu : A.units + 8 < cLine) (S : Sub F s.heap) {cs : List Nat} {t : Tok} (r : DRel G F (.str cs) (.str ⟨cs.toArray⟩ t)) {es : Array DictEntry} {ks : List D} (K : KRel G F ks es.toList) (fn : Fnd G F A s (.str ⟨cs.toArray⟩ t) (.str cs) ks es) (hex : (es.all fun e => isExactStrKey e.key) = true) :
    es.findIdx? (·.key.isStr ⟨cs.toArray⟩) = findK ks (.str cs) := by
  generalize e1 : D.str cs = k at *
  symm at e1
  have hstr : ∀ (i : Nat) (hi : i < es.size), ∃ k', ks[i]? = some k' ∧ es[i].key.isStr ⟨cs.toArray⟩ = D.eqb k' k := by
    intro i hi
    obtain ⟨k', e', hk', he', _⟩ := fn.at_ i hi
    have : e' = es[i] := by simp [hi] at he'; exact he'.symm
    subst this
    refine ⟨k', hk', ?_⟩
    have kr := K.2 i k' es[i] hk' (by simp [hi])
    have hx := Array.all_eq_true.mp hex i hi
    rw [e1]
    cases k' with
    | str cs' =>
      obtain ⟨t', e, _⟩ := kr.1
      rw [e]
      simp only [Value.isStr, D.eqb]; exact strEq_iff cs' cs
    | int j => obtain ⟨t', e⟩ := kr.1; rw [e] at hx; cases hx
    | tup ds => obtain ⟨items, ⟨a, vs, m, e, _⟩, _⟩ := kr.1; rw [e] at hx; cases hx
    | _ => have := kr.2.1; cases this
  cases q : findK ks k with
  | none =>
    rw [Array.findIdx?_eq_none_iff]
    intro x hx
    obtain ⟨i, hi, rfl⟩ := Array.getElem_of_mem hx
    obtain ⟨k', hk', he⟩ := hstr i hi
    rw [he]
    exact List.findIdx?_eq_none_iff.mp q k' (List.mem_of_getElem? hk')
  | some j =>
    obtain ⟨hj, h1, h2⟩ := List.findIdx?_eq_some_iff_getElem.mp q
    rw [Array.findIdx?_eq_some_iff_getElem]
    have hj' : j < es.size := by rw [fn.size]; exact hj
    refine ⟨hj', ?_, fun i hi => ?_⟩
    · obtain ⟨k', hk', he⟩ := hstr j hj'
      rw [he]; rw [List.getElem?_eq_getElem hj] at hk'; cases hk'; exact h1
    · obtain ⟨k', hk', he⟩ := hstr i (by omega)
      rw [he]; rw [List.getElem?_eq_getElem (by omega)] at hk'; cases hk'; exact h2 i hi
theorem dictFind_D (hu : A.units + 8 < cLine) (S : Sub F s.heap) {k : D} (r : DRel G F k v) (kk : D.key k = true) {d : Addr} {o : Obj} {es : Array DictEntry} {ep : Nat} (ho : s.heap.get? d = some o) (hd : o.data = .dict es ep)
    {ks : List D} (K : KRel G F ks es.toList) (once : ks.Pairwise (· ≠ ·)) {Q : Option Nat → Shared → Prop} (h : Q (findK ks k) s) : wpAny (Mo G) A (dictFind d v (D.hash G.w k)) Q E s := by
  have hbv : ∀ w, carriedByValue w = true → (w :: (placesWithHash es.size (fun i => es[i]?.map (·.hash)) (D.hash G.w k)).filterMap (fun i => es[i]?.map (·.key))).all carriedByValue = true := by
    intro w hw
    rw [List.all_cons, hw, Bool.true_and, List.all_eq_true]
    intro u hu
    obtain ⟨i, _, hi⟩ := List.mem_filterMap.mp hu
    cases hei : es[i]? with
    | none => rw [hei] at hi; cases hi
    | some e =>
      rw [hei] at hi
      cases hi
      have hlt : i < es.size := (Array.getElem?_eq_some_iff.mp hei).1
      have hk' : ks[i]? = some (ks[i]'(by rw [K.1, Array.length_toList]; exact hlt)) := List.getElem?_eq_getElem _
      have := K.2 i _ e hk' (by rw [Array.getElem?_toList]; exact hei)
      exact key_byValue this.1 this.2.1
  have plain := dictWalk_D hu S r kk ho hd K once (Q := Q) (E := E) h
  have fn := fnd_of hu S r kk K
  unfold dictFind
  try with_reducible refine wpAny_holding ?_
  refine wpAny_bind (wpAny_dictEntries ho hd ?_)
  rcases key_cases kk with ⟨i, rfl⟩ | ⟨cs, rfl⟩
  · obtain ⟨t, rfl⟩ := r
    dsimp only
    rw [if_pos (hbv _ rfl)]
    exact plain
  · obtain ⟨t, rfl, hcp⟩ := r
    dsimp only
    by_cases hex : (es.all fun e => isExactStrKey e.key) = true
    · rw [if_pos hex]
      unfold foundByValue
      rw [find_str hu S ⟨t, rfl, hcp⟩ K fn hex]
      cases q : findK ks (.str cs) with
      | none => rw [q] at h; exact wpAny_pure h
      | some j =>
        rw [q] at h
        obtain ⟨hj, h1, h2⟩ := List.findIdx?_eq_some_iff_getElem.mp q
        have hj' : j < es.size := by rw [fn.size]; exact hj
        obtain ⟨k', e', hk', he', heq⟩ := fn.at_ j hj'
        rw [List.getElem?_eq_getElem hj] at hk'; cases hk'
        dsimp only
        rw [he']
        dsimp only
        rw [h1] at heq
        refine wpAny_bind (wpAny_dictEpoch ho hd (wpAny_bind (heq _ _ _ _ (wpAny_bind (wpAny_dictEpoch ho hd ?_)))))
        rw [if_neg (by simp), if_pos rfl]
        exact wpAny_bind (wpAny_rule (wpAny_pure h))
    · rw [if_neg hex, if_pos (hbv _ rfl)]
      exact plain


noncomputable def ERel {α : Type} (G : GP) (F : FH) (R : α → Value → Prop) : List (D × α) → List DictEntry → Prop
  | [], es => es = []
  | (k, x) :: r, es => ∃ e t, es = e :: t ∧ DRel G F k e.key ∧ D.key k = true ∧ e.hash = D.hash G.w k ∧ R x e.val ∧ ERel G F R r t
theorem erel_d : ∀ {kvs : List (D × D)} {es : List DictEntry}, DRelk G F kvs es ↔ ERel G F (DRel G F) kvs es
  | [], es => by simp only [DRelk, ERel]
  | (k, x) :: r, es => by simp only [DRelk, ERel, erel_d (kvs := r)]
theorem erel_n : ∀ {kvs : List (D × Nat)} {es : List DictEntry}, NRelk G F kvs es ↔ ERel G F (fun n v => v = .ref n) kvs es
  | [], es => by simp only [NRelk, ERel]
  | (k, x) :: r, es => by simp only [NRelk, ERel, erel_n (kvs := r)]
section
variable {α : Type} {R : α → Value → Prop}
theorem ERel.keys : ∀ {kvs : List (D × α)} {es : List DictEntry}, ERel G F R kvs es → KRel G F (kvs.map (·.1)) es
  | [], es, h => by simp only [ERel] at h; subst h; exact ⟨rfl, fun i k e a => by simp at a⟩
  | (k, x) :: r, es, h => by
    simp only [ERel] at h
    obtain ⟨e, t, rfl, h1, h2, h3, _, h⟩ := h
    exact (ERel.keys h).cons h1 h2 h3
theorem ERel.length : ∀ {kvs : List (D × α)} {es : List DictEntry}, ERel G F R kvs es → es.length = kvs.length
  | [], es, h => by simp only [ERel] at h; subst h; rfl
  | (k, x) :: r, es, h => by
    simp only [ERel] at h
    obtain ⟨e, t, rfl, _, _, _, _, h⟩ := h
    simp [ERel.length h]
theorem ERel.find : ∀ {kvs : List (D × α)} {es : List DictEntry} {k : D}, ERel G F R kvs es →
    (findK (kvs.map (·.1)) k = none ∧ dget kvs k = none) ∨ (∃ j x e, findK (kvs.map (·.1)) k = some j ∧ dget kvs k = some x ∧ es[j]? = some e ∧ R x e.val)
  | [], es, k, h => .inl ⟨rfl, rfl⟩
  | (k', x) :: r, es, k, h => by
    simp only [ERel] at h
    obtain ⟨e, t, rfl, _, _, _, hx, h⟩ := h
    cases q : D.eqb k' k with
    | true => exact .inr ⟨0, x, e, by simp [findK, List.findIdx?_cons, q], by simp [dget, q], rfl, hx⟩
    | false =>
      rcases ERel.find (k := k) h with ⟨h1, h2⟩ | ⟨j, y, e', h1, h2, h3, h4⟩
      · refine .inl ⟨?_, ?_⟩
        · unfold findK at h1 ⊢; simp [List.findIdx?_cons, q, h1]
        · unfold dget at h2 ⊢; simp only [List.find?_cons, q]; exact h2
      · refine .inr ⟨j + 1, y, e', ?_, ?_, by simpa using h3, h4⟩
        · unfold findK at h1 ⊢; simp [List.findIdx?_cons, q, h1]
        · unfold dget at h2 ⊢; simp only [List.find?_cons, q]; exact h2
theorem ERel.put_new : ∀ {kvs : List (D × α)} {es : List DictEntry} {k : D} {x : α} {e : DictEntry}, ERel G F R kvs es → findK (kvs.map (·.1)) k = none → DRel G F k e.key → D.key k = true → e.hash = D.hash G.w k → R x e.val →
    ERel G F R (dput kvs k x) (es ++ [e])
  | [], es, k, x, e, h, _, h1, h2, h3, h4 => by simp only [ERel] at h; subst h; exact ⟨e, [], rfl, h1, h2, h3, h4, rfl⟩
  | (k', y) :: r, es, k, x, e, h, hf, h1, h2, h3, h4 => by
    simp only [ERel] at h
    obtain ⟨e', t, rfl, a1, a2, a3, a4, h⟩ := h
    unfold findK at hf
    simp only [List.map_cons, List.findIdx?_cons] at hf
    cases q : D.eqb k' k with
    | true => simp [q] at hf
    | false =>
      simp only [dput, q, Bool.false_eq_true, if_false, List.cons_append]
      exact ⟨e', t ++ [e], rfl, a1, a2, a3, a4, ERel.put_new h (by unfold findK; simpa [q] using hf) h1 h2 h3 h4⟩
theorem ERel.put_old : ∀ {kvs : List (D × α)} {es : List DictEntry} {k : D} {x : α} {v : Value} {j : Nat}, ERel G F R kvs es → findK (kvs.map (·.1)) k = some j → R x v →
    ERel G F R (dput kvs k x) (es.modify j fun e => { e with val := v })
  | [], es, k, x, v, j, h, hf, _ => by simp [findK] at hf
  | (k', y) :: r, es, k, x, v, j, h, hf, h4 => by
    simp only [ERel] at h
    obtain ⟨e', t, rfl, a1, a2, a3, a4, h⟩ := h
    unfold findK at hf
    simp only [List.map_cons, List.findIdx?_cons] at hf
    cases q : D.eqb k' k with
    | true =>
      simp only [q, if_true, Option.some.injEq] at hf; subst hf
      simp only [dput, q, if_true]
      exact ⟨{ e' with val := v }, t, rfl, a1, a2, a3, h4, h⟩
    | false =>
      simp only [q, Bool.false_eq_true, if_false] at hf
      obtain ⟨j', hj, rfl⟩ := Option.map_eq_some_iff.mp hf
      simp only [dput, q, Bool.false_eq_true, if_false]
      exact ⟨e', t.modify j' fun e => { e with val := v }, by simp, a1, a2, a3, a4, ERel.put_old h hj h4⟩
noncomputable def onceA (kvs : List (D × α)) : Prop := (kvs.map (·.1)).Pairwise fun a b => a ≠ b
theorem onceA.del {kvs : List (D × α)} {k : D} (h : onceA kvs) : onceA (ddel kvs k) := List.Pairwise.sublist (ddel_sub.map _) h
theorem dictGet_E (hu : A.units + 8 < cLine) (S : Sub F s.heap) {k : D} (r : DRel G F k v) (kk : D.key k = true) {d : Addr} {es : Array DictEntry} {ep : Nat} {o : Obj} (ho : s.heap.get? d = some o) (hd : o.data = .dict es ep)
    {kvs : List (D × α)} (er : ERel G F R kvs es.toList) (once : onceA kvs) {Q : Option Value → Shared → Prop}
    (h : ∀ tk, (dget kvs k = none → Q none { s with toks := tk }) ∧ ∀ x v', dget kvs k = some x → R x v' → Q (some v') { s with toks := tk }) : wpAny (Mo G) A (dictGet d v) Q E s := by
  unfold dictGet
  try with_reducible refine wpAny_holding ?_
  refine wpAny_bind (pyHash_D r kk fun tk => ?_)
  refine wpAny_bind (dictFind_D (s := { s with toks := tk }) hu S r kk ho hd er.keys once ?_)
  rcases er.find (k := k) with ⟨h1, h2⟩ | ⟨j, x, e, h1, h2, h3, h4⟩
  · rw [h1]; exact wpAny_pure ((h tk).1 h2)
  · rw [h1]
    refine wpAny_bind (wpAny_dictEntries (s := { s with toks := tk }) ho hd ?_)
    rw [Array.getElem?_toList] at h3
    rw [h3]
    exact wpAny_pure ((h tk).2 x e.val h2 h4)

structure DictCh (s : Shared) (d : Addr) (es' : Array DictEntry) (s' : Shared) : Prop where
  at_ : ∃ ep, s'.heap.get? d = some (dobj es' ep)
  keep : ∀ b ob, b ≠ d → s.heap.get? b = some ob → s'.heap.get? b = some ob
  size : s.heap.objs.size ≤ s'.heap.objs.size
  gens : s'.gens = s.gens
  os : s'.os = s.os
theorem update_size (h : Heap) (a : Addr) (f : Obj → Obj) : h.objs.size ≤ (h.update a f).objs.size := by
  obtain ⟨objs, l⟩ := h
  show objs.size ≤ (objs.modify a f).size
  simp
theorem dictSet_E (hu : A.units + 8 < cLine) (S : Sub F s.heap) {k : D} (r : DRel G F k v) (kk : D.key k = true) {d : Addr} {es : Array DictEntry} {ep : Nat} (ho : s.heap.get? d = some (dobj es ep))
    {kvs : List (D × α)} (er : ERel G F R kvs es.toList) (once : onceA kvs) {x : α} {w : Value} (hx : R x w) (hz : kvs.length ≤ big) {Q : Unit → Shared → Prop}
    (h : ∀ es' s', DictCh s d es' s' → ERel G F R (dput kvs k x) es'.toList → Q () s') : wpAny (Mo G) A (dictSet d v w) Q E s := by
  have hsz : es.size ≤ sizeLine := by
    have := er.length; rw [Array.length_toList] at this; rw [this]; exact hz
  unfold dictSet
  try with_reducible refine wpAny_holding ?_
  refine wpAny_bind (pyHash_D r kk fun tk => ?_)
  unfold dictSetHashed
  try with_reducible refine wpAny_holding ?_
  refine wpAny_bind (dictFind_D (s := { s with toks := tk }) hu S r kk ho rfl er.keys once ?_)
  rcases er.find (k := k) with ⟨h1, h2⟩ | ⟨j, y, e, h1, h2, h3, h4⟩
  · rw [h1]
    refine wpAny_bind (wpAny_rule ?_)
    refine wpAny_updateDictKeys (s := { s with toks := tk }) ho rfl ?_ hsz (by simp)
    refine h (es.push ⟨D.hash G.w k, v, w⟩) _ ⟨⟨ep + 1, ?_⟩, fun b ob hb q => ?_, update_size _ _ _, rfl, rfl⟩ ?_
    · exact Heap.get?_update_self _ ho rfl
    · exact (Heap.get?_update_other _ _ (Ne.symm hb)).trans q
    · rw [Array.toList_push]; exact er.put_new h1 r kk rfl hx
  · rw [h1]
    refine wpAny_bind (wpAny_rule ?_)
    refine wpAny_bind (wpAny_updateDict (s := { s with toks := tk }) ho rfl ?_ (by simp))
    refine fun _ _ _ => h (es.modify j fun e => { e with val := w }) _ ⟨⟨ep, ?_⟩, fun b ob hb q => ?_, update_size _ _ _, rfl, rfl⟩ ?_
    · exact Heap.get?_update_self _ ho rfl
    · exact (Heap.get?_update_other _ _ (Ne.symm hb)).trans q
    · rw [Array.toList_modify]; exact er.put_old h1 hx
end
end
end Mine

set_option Elab.async false
set_option linter.unusedVariables false
namespace Mine
open PySem PySem.SeqAt PyProof.Rows

noncomputable def D.keyV : D → Bool
  | .int _ => true
  | .str _ => true
  | _ => false
mutual
theorem D.eqv_self : ∀ {x : D}, D.flat x = true → D.eqv x x = true
  | .none, _ => rfl
  | .bool b, _ => beq_self_eq_true b
  | .int i, _ => beq_self_eq_true i
  | .str cs, _ => beq_self_eq_true cs
  | .tup ds, h => D.eqvs_self h
  | .list ds, h => D.eqvs_self h
  | .dict _, h => Bool.noConfusion h
  | .inst _, h => Bool.noConfusion h
  | .exc _, h => Bool.noConfusion h
theorem D.eqvs_self : ∀ {x : List D}, D.flats x = true → D.eqvs x x = true
  | [], _ => rfl
  | d :: r, h => and3 (D.eqv_self (and2 h).1) (D.eqvs_self (and2 h).2)
end
theorem dput_length {α : Type} : ∀ (kvs : List (D × α)) (k : D) (x : α), (dput kvs k x).length ≤ kvs.length + 1
  | [], _, _ => Nat.le_refl _
  | (k', v') :: r, k, x => by
    unfold dput
    split
    · exact Nat.le_succ _
    · have := dput_length r k x
      simp only [List.length_cons]; omega
noncomputable def merg {α : Type} (kvs more : List (D × α)) : List (D × α) := more.foldl (fun a p => dput a p.1 p.2) kvs
theorem merg_length {α : Type} : ∀ (more kvs : List (D × α)), (merg kvs more).length ≤ kvs.length + more.length
  | [], kvs => Nat.le_refl _
  | p :: r, kvs => by
    show (merg (dput kvs p.1 p.2) r).length ≤ _
    have := merg_length r (dput kvs p.1 p.2)
    have := dput_length kvs p.1 p.2
    simp only [List.length_cons]; omega
theorem dput_absent {α : Type} : ∀ (kvs : List (D × α)) (k : D) (x : α), (∀ p ∈ kvs, p.1 ≠ k) → dput kvs k x = kvs ++ [(k, x)]
  | [], _, _, _ => rfl
  | (k', v') :: r, k, x, h => by
    unfold dput
    rw [if_neg (fun e => h _ List.mem_cons_self (D.eqb_eq e)), dput_absent r k x fun p hp => h p (List.mem_cons_of_mem _ hp)]
    rfl
theorem merg_new {α : Type} : ∀ (more kvs : List (D × α)), onceA more → (∀ p ∈ kvs, ∀ q ∈ more, p.1 ≠ q.1) → merg kvs more = kvs ++ more
  | [], kvs, _, _ => by show kvs = kvs ++ []; rw [List.append_nil]
  | p :: r, kvs, ho, h => by
    show merg (dput kvs p.1 p.2) r = _
    unfold onceA at ho
    rw [List.map_cons, List.pairwise_cons] at ho
    rw [dput_absent kvs p.1 p.2 fun q hq => h q hq p List.mem_cons_self, merg_new r _ ho.2, List.append_assoc]
    · rfl
    · intro q hq z hz
      rcases List.mem_append.mp hq with e | e
      · exact h q e z (List.mem_cons_of_mem _ hz)
      · rw [List.mem_singleton.mp e]; exact ho.1 _ (List.mem_map.mpr ⟨z, hz, rfl⟩)
theorem merg_nil {α : Type} (more : List (D × α)) (h : onceA more) : merg [] more = more := merg_new more [] h fun p hp => nomatch hp

section
variable {α : Type} {G : GP} {F : FH} {R : α → Value → Prop} {s : Shared} {A : Around} {E : Value → Shared → Prop} {v : Value}
theorem dput_keys : ∀ (kvs : List (D × α)) (k : D) (x : α), (∀ p ∈ dput kvs k x, p.1 = k ∨ p ∈ kvs ∨ ∃ q ∈ kvs, p.1 = q.1)
  | [], k, x, p, h => by
    have : p = (k, x) := List.mem_singleton.mp h
    rw [this]; exact .inl rfl
  | (k', v') :: r, k, x, p, h => by
    unfold dput at h
    split at h
    · rcases List.mem_cons.mp h with e | e
      · rw [e]; exact .inr (.inr ⟨_, List.mem_cons_self, rfl⟩)
      · exact .inr (.inl (List.mem_cons_of_mem _ e))
    · rcases List.mem_cons.mp h with e | e
      · rw [e]; exact .inr (.inl List.mem_cons_self)
      · rcases dput_keys r k x p e with q | q | ⟨z, hz, q⟩
        · exact .inl q
        · exact .inr (.inl (List.mem_cons_of_mem _ q))
        · exact .inr (.inr ⟨z, List.mem_cons_of_mem _ hz, q⟩)
theorem dput_once : ∀ (kvs : List (D × α)) (k : D) (x : α), onceA kvs → onceA (dput kvs k x)
  | [], k, x, _ => by
    show List.Pairwise _ [k]
    exact List.pairwise_singleton _ _
  | (k', v') :: r, k, x, h => by
    unfold onceA at h
    rw [List.map_cons, List.pairwise_cons] at h
    unfold dput
    split
    · unfold onceA; rw [List.map_cons, List.pairwise_cons]; exact h
    · rename_i hne
      unfold onceA
      rw [List.map_cons, List.pairwise_cons]
      refine ⟨fun z hz => ?_, dput_once r k x h.2⟩
      obtain ⟨p, hp, rfl⟩ := List.mem_map.mp hz
      rcases dput_keys r k x p hp with q | q | ⟨y, hy, q⟩
      · rw [q]; intro e; exact hne (by rw [show k' = k from e]; exact D.eqb_refl _)
      · exact h.1 _ (List.mem_map.mpr ⟨p, q, rfl⟩)
      · rw [q]; exact h.1 _ (List.mem_map.mpr ⟨y, hy, rfl⟩)
theorem merg_once : ∀ (more kvs : List (D × α)), onceA kvs → onceA (merg kvs more)
  | [], _, h => h
  | p :: r, kvs, h => merg_once r _ (dput_once kvs p.1 p.2 h)
theorem merg_take (kvs more : List (D × α)) {i : Nat} {p : D × α} (h : more[i]? = some p) : merg kvs (more.take (i + 1)) = dput (merg kvs (more.take i)) p.1 p.2 := by
  have hlt : i < more.length := by
    cases Nat.lt_or_ge i more.length with
    | inl h => exact h
    | inr z => rw [List.getElem?_eq_none z] at h; cases h
  rw [List.take_add_one, h]
  unfold merg
  rw [List.foldl_append]
  rfl

theorem ERel.get : ∀ {kvs : List (D × α)} {es : List DictEntry} {i : Nat} {e : DictEntry}, ERel G F R kvs es → es[i]? = some e → ∃ p, kvs[i]? = some p ∧ DRel G F p.1 e.key ∧ D.key p.1 = true ∧ e.hash = D.hash G.w p.1 ∧ R p.2 e.val
  | [], es, i, e, h, he => by
    have : es = [] := h
    rw [this] at he; simp at he
  | (k, x) :: r, es, i, e, h, he => by
    obtain ⟨e', t, rfl, h1, h2, h3, h4, h5⟩ := h
    cases i with
    | zero =>
      simp at he; subst he
      exact ⟨(k, x), by simp, h1, h2, h3, h4⟩
    | succ i =>
      obtain ⟨p, q1, q2⟩ := ERel.get h5 (by simpa using he)
      exact ⟨p, by simpa using q1, q2⟩

theorem dictSetH_E (hu : A.units + 8 < cLine) (S : Sub F s.heap) {k : D} (r : DRel G F k v) (kk : D.key k = true) {d : Addr} {es : Array DictEntry} {ep : Nat} (ho : s.heap.get? d = some (dobj es ep))
    {kvs : List (D × α)} (er : ERel G F R kvs es.toList) (once : onceA kvs) {x : α} {w : Value} (hx : R x w) (hz : kvs.length ≤ big) {Q : Unit → Shared → Prop}
    (h : ∀ es' s', DictCh s d es' s' → s'.toks = s.toks → ERel G F R (dput kvs k x) es'.toList → Q () s') : wpAny (Mo G) A (dictSetHashed d v (D.hash G.w k) w) Q E s := by
  have hsz : es.size ≤ sizeLine := by
    have := er.length; rw [Array.length_toList] at this; rw [this]; exact hz
  unfold dictSetHashed
  try with_reducible refine wpAny_holding ?_
  refine wpAny_bind (dictFind_D hu S r kk ho rfl er.keys once ?_)
  rcases er.find (k := k) with ⟨h1, h2⟩ | ⟨j, y, e, h1, h2, h3, h4⟩
  · rw [h1]
    refine wpAny_bind (wpAny_rule ?_)
    refine wpAny_updateDictKeys ho rfl ?_ hsz (by simp)
    refine h (es.push ⟨D.hash G.w k, v, w⟩) _ ⟨⟨ep + 1, ?_⟩, fun b ob hb q => ?_, update_size _ _ _, rfl, rfl⟩ rfl ?_
    · exact Heap.get?_update_self _ ho rfl
    · exact (Heap.get?_update_other _ _ (Ne.symm hb)).trans q
    · rw [Array.toList_push]; exact er.put_new h1 r kk rfl hx
  · rw [h1]
    refine wpAny_bind (wpAny_rule ?_)
    refine wpAny_bind (wpAny_updateDict ho rfl ?_ (by simp))
    refine fun _ _ _ => h (es.modify j fun e => { e with val := w }) _ ⟨⟨ep, ?_⟩, fun b ob hb q => ?_, update_size _ _ _, rfl, rfl⟩ rfl ?_
    · exact Heap.get?_update_self _ ho rfl
    · exact (Heap.get?_update_other _ _ (Ne.symm hb)).trans q
    · rw [Array.toList_modify]; exact er.put_old h1 hx

theorem entries_E {id : String} {d : Addr} {es : Array DictEntry} {ep : Nat} (ho : s.heap.get? d = some (dobj es ep)) {kvs : List (D × α)} (er : ERel G F R kvs es.toList) (hk : ∀ p ∈ kvs, D.keyV p.1 = true) {Q : Array DictEntry → Shared → Prop} (h : Q es s) :
    wpAny (Mo G) A (Builtin.Dict.entriesForEmpty id d) Q E s := by
  unfold Builtin.Dict.entriesForEmpty
  refine wpAny_bind (wpAny_dictEntries ho rfl ?_)
  have hloop : (forIn es PUnit.unit fun e (_ : PUnit) => (do
      let q ← Builtin.Dict.quietEq e.key
      if (!q) = true then
        if (es.filter (·.hash == e.hash)).size > 1 then (do let _ ← (unsupported s!"{id}:keys-of-equal-hash" : Sem PUnit); pure (ForInStep.yield PUnit.unit)) else pure (ForInStep.yield PUnit.unit)
      else pure (ForInStep.yield PUnit.unit) : Sem (ForInStep PUnit))) = pure PUnit.unit := by
    rw [← Array.forIn_toList]
    refine forIn_yield_id _ fun e he c => ?_
    obtain ⟨i, hi⟩ := List.getElem?_of_mem he
    obtain ⟨p, h1, h2, _⟩ := er.get hi
    have hq := hk p (List.mem_of_getElem? h1)
    obtain ⟨k, x⟩ := p
    have : Builtin.Dict.quietEq e.key = pure true := by
      cases k with
      | int i => obtain ⟨t, q⟩ := h2; rw [q]; rfl
      | str cs => obtain ⟨t, q, _⟩ := h2; rw [q]; rfl
      | _ => cases hq
    rw [this]
    rfl
  exact wpAny_bind (wpAny_of_eq hloop (wpAny_pure h))

theorem merge_E {nm : String} (hu : A.units + 8 < cLine) (S : Sub F s.heap) {d o : Addr} {esd eso : Array DictEntry} {epd epo : Nat} (hod : s.heap.get? d = some (dobj esd epd)) (hoo : s.heap.get? o = some (dobj eso epo)) (hdo : d ≠ o) (hF : F d = none) (hoS : (o == sysModules) = false)
    {kvs more : List (D × α)} (erd : ERel G F R kvs esd.toList) (ero : ERel G F R more eso.toList) (od : onceA kvs) (oo : onceA more) (hk : ∀ p ∈ more, D.keyV p.1 = true) (hz : kvs.length + more.length ≤ big) {Q : Unit → Shared → Prop}
    (h : ∀ es' s', DictCh s d es' s' → ERel G F R (merg kvs more) es'.toList → Q () s') : wpAny (Mo G) A (Builtin.Dict.mergeDict nm d o) Q E s := by
  unfold Builtin.Dict.mergeDict
  rw [if_neg (by simpa using hdo)]
  unfold Builtin.Dict.showsAll
  rw [if_neg (by rw [hoS]; exact Bool.false_ne_true)]
  refine wpAny_bind (wpAny_pure ?_)
  refine wpAny_bind (wpAny_dictEntries hoo rfl ?_)
  have hlen : more.length = eso.size := by rw [← ero.length, Array.length_toList]
  have loop : wpAny (Mo G) A (do
      let epoch ← dictEpoch o
      let l ← dictEntries o
      forIn [:l.size] PUnit.unit fun i (_ : PUnit) => (do
          let l' ← dictEntries o
          match l'[i]? with
            | some e => do
              holding [e.key, e.val] (dictSetHashed d e.key e.hash e.val)
              let ep' ← dictEpoch o
              if (ep' != epoch) = true then do
                  (unsupported (toString nm ++ toString ":source-changed-during-callback") : Sem PUnit)
                  pure (ForInStep.yield PUnit.unit)
                else pure (ForInStep.yield PUnit.unit)
            | _ => do
              (unsupported "internal:dict-merge" : Sem PUnit)
              pure (ForInStep.yield PUnit.unit) : Sem (ForInStep PUnit))
      pure ()) Q E s := by
    refine wpAny_bind (wpAny_dictEpoch hoo rfl ?_)
    refine wpAny_bind (wpAny_dictEntries hoo rfl ?_)
    refine wpAny_bind ?_
    rw [Std.Legacy.Range.forIn_eq_forIn_range']
    simp only [Std.Legacy.Range.size, Nat.sub_zero, Nat.add_sub_cancel, Nat.div_one]
    refine wpAny_forIn_list _
      (fun rest _ s' => ∃ i es', rest = List.range' i (eso.size - i) ∧ i ≤ eso.size ∧ DictCh s d es' s' ∧ s'.toks = s.toks ∧ ERel G F R (merg kvs (more.take i)) es'.toList)
      _ ?_ ?_ _ _ ⟨0, esd, by simp, Nat.zero_le _, ⟨⟨epd, hod⟩, fun _ _ _ q => q, Nat.le_refl _, rfl, rfl⟩, rfl, by simpa [merg] using erd⟩
    · rintro x rest b s' ⟨i, es', hr, hi, ch, htk, er'⟩
      have hlt : i < eso.size := by
        rcases Nat.lt_or_ge i eso.size with h | h
        · exact h
        · rw [Nat.sub_eq_zero_of_le h] at hr; simp at hr
      obtain ⟨rfl, hrest⟩ : x = i ∧ rest = List.range' (i + 1) (eso.size - (i + 1)) := by
        have e : eso.size - i = (eso.size - (i + 1)) + 1 := by omega
        rw [e, List.range'_succ] at hr
        injection hr with h1 h2
        exact ⟨h1, h2⟩
      have hoo' := ch.keep o _ (Ne.symm hdo) hoo
      refine wpAny_bind (wpAny_dictEntries hoo' rfl ?_)
      have hge : eso.toList[x]? = some eso[x] := by simp [hlt]
      obtain ⟨p, h1, h2, h3, h4, h5⟩ := ero.get hge
      rw [Array.getElem?_eq_getElem hlt]
      show wpAny _ _ (holding [eso[x].key, eso[x].val] (dictSetHashed d eso[x].key eso[x].hash eso[x].val) >>= _) _ _ _
      rw [h4]
      have hmx : (merg kvs (more.take x)).length ≤ big := by
        have e1 := merg_length (more.take x) kvs
        have e2 : (more.take x).length ≤ more.length := by rw [List.length_take]; omega
        omega
      have S' : Sub F s'.heap := fun a ob e => ch.keep a ob (fun z => by rw [z, hF] at e; cases e) (S a ob e)
      obtain ⟨ep', hat⟩ := ch.at_
      refine wpAny_bind (wpAny_holding (dictSetH_E hu S' h2 h3 hat er' (merg_once _ _ od) h5 hmx fun es2 s2 ch2 htk2 er2 => ?_))
      have hoo2 := ch2.keep o _ (Ne.symm hdo) hoo'
      refine wpAny_bind (wpAny_dictEpoch hoo2 rfl ?_)
      rw [if_neg (by simp)]
      refine wpAny_pure ⟨x + 1, es2, hrest, hlt, ⟨ch2.at_, fun b ob hb q => ch2.keep b ob hb (ch.keep b ob hb q), Nat.le_trans ch.size ch2.size, ch2.gens.trans ch.gens, ch2.os.trans ch.os⟩, htk2.trans htk, ?_⟩
      rw [merg_take kvs more h1]; exact er2
    · rintro b s' ⟨i, es', hr, hi, ch, htk, er'⟩
      have hin : i = eso.size := by
        rcases Nat.lt_or_ge i eso.size with h | h
        · have e : eso.size - i = (eso.size - (i + 1)) + 1 := by omega
          rw [e, List.range'_succ] at hr; exact nomatch hr
        · exact Nat.le_antisymm hi h
      refine wpAny_pure (h es' s' ch ?_)
      rw [hin, ← hlen, List.take_length] at er'; exact er'
  dsimp only
  split
  · refine wpAny_bind (wpAny_dictEntries hod rfl ?_)
    split
    · rename_i hemp
      have hkvs : kvs = [] := by
        have h0 : esd = #[] := Array.isEmpty_iff.mp hemp
        have := erd.length; rw [h0] at this; exact List.length_eq_zero_iff.mp (by simpa using this.symm)
      subst hkvs
      refine wpAny_bind (entries_E hoo ero hk ?_)
      rw [merg_nil more oo] at h
      split
      · have hto : eso.size ≤ sizeLine + 1 := by
          rw [← hlen, sizeLine_big]; simp only [List.length_nil, Nat.zero_add] at hz; omega
        refine wpAny_bind (wpAny_updateDictKeysTo hod rfl (wpAny_pure (h eso _ ⟨⟨epd + 1, ?_⟩, fun b ob hb q => ?_, update_size _ _ _, rfl, rfl⟩ ero)) hto)
        · exact Heap.get?_update_self _ hod rfl
        · exact (Heap.get?_update_other _ _ (Ne.symm hb)).trans q
      · rename_i hne
        have h0 : eso = #[] := Array.isEmpty_iff.mp (by simpa using hne)
        have hm0 : more = [] := List.length_eq_zero_iff.mp (by rw [hlen, h0]; rfl)
        subst hm0
        exact wpAny_pure (h esd s ⟨⟨epd, hod⟩, fun _ _ _ q => q, Nat.le_refl _, rfl, rfl⟩ erd)
    · exact loop
  · exact loop

theorem dict_copy (hu : A.units + 16 < cLine) (S : Sub F s.heap) {o : Addr} {eso : Array DictEntry} {epo : Nat} (hoo : s.heap.get? o = some (dobj eso epo)) (hF : F s.heap.objs.size = none) (hoS : (o == sysModules) = false)
    {more : List (D × α)} (ero : ERel G F R more eso.toList) (oo : onceA more) (hk : ∀ p ∈ more, D.keyV p.1 = true) (hz : more.length ≤ big) {Q : Value → Shared → Prop}
    (h : ∀ es' s' ep, s'.heap.get? s.heap.objs.size = some (dobj es' ep) → (∀ b ob, s.heap.get? b = some ob → s'.heap.get? b = some ob) → s.heap.objs.size ≤ s'.heap.objs.size → s'.gens = s.gens → s'.os = s.os → ERel G F R more es'.toList → Q (.ref s.heap.objs.size) s') :
    wpAny (Mo G) A (call (.type "dict") [.ref o]) Q E s := by
  refine callType_codes (Q₁ := fun obj s₁ => obj = .ref s.heap.objs.size ∧ s₁ = { s with heap := s.heap.push { cls := .type "dict", data := .dict #[] } }) PySem.F.kt_called_dict (PySem.F.kt_typeCall_dict_1 _) PySem.F.entry_dict_init (kt_code_dict_new _ ⟨rfl, rfl⟩) ?_
  rintro obj s₁ ⟨rfl, rfl⟩
  have hnew : (s.heap.push { cls := .type "dict", data := .dict #[] }).get? s.heap.objs.size = some (dobj #[] 0) := Heap.get?_push_size _ rfl
  have ho' : (s.heap.push { cls := .type "dict", data := .dict #[] }).get? o = some (dobj eso epo) := Heap.get?_push_of_some _ hoo
  have hT : ({ s with heap := s.heap.push { cls := .type "dict", data := .dict #[] } } : Shared).TypeIs (.ref s.heap.objs.size) "dict" := ⟨_, hnew, rfl⟩
  have hTo : ({ s with heap := s.heap.push { cls := .type "dict", data := .dict #[] } } : Shared).TypeIs (.ref o) "dict" := ⟨_, ho', rfl⟩
  have hdo : s.heap.objs.size ≠ o := fun e => absurd (Heap.lt_size hoo) (by rw [e]; exact Nat.lt_irrefl _)
  refine ⟨hT, PySem.F.args_dict_init_2 _ _, ?_⟩
  unfold Builtin.«dict.__init__»
  refine wpAny_bind ?_
  unfold Builtin.Dict.selfAndRest
  refine wpAny_bind (wpAny_notOrdered_dict hT ?_)
  show wpAny _ _ (pure (s.heap.objs.size, [Value.ref o])) _ _ _
  refine wpAny_pure ?_
  show wpAny _ _ (Builtin.Dict.updateFrom "dict.__init__" s.heap.objs.size (.ref o) [] .none) _ _ _
  unfold Builtin.Dict.updateFrom
  refine wpAny_bind (wpAny_typeOf hTo ?_)
  rw [if_neg (by decide)]
  refine wpAny_bind ?_
  unfold Builtin.Dict.merge
  refine wpAny_bind ?_
  unfold Builtin.Dict.readDirectly
  refine wpAny_bind (wpAny_isInstance hTo isSubtype_dict_dict ?_)
  simp only [Bool.not_true, Bool.false_eq_true, if_false]
  refine wpAny_bind (wpAny_specialOf hTo PySem.F.slot_dict_iter.lookup (wpAny_pure ?_))
  simp only [beq_self_eq_true, if_true]
  refine wpAny_bind (wpAny_pure ?_)
  have S' : Sub F (s.heap.push { cls := .type "dict", data := .dict #[] }) := fun a ob e => Heap.get?_push_of_some _ (S a ob e)
  refine merge_E (R := R) (kvs := []) (by simp; omega) S' hnew ho' hdo hF hoS rfl ero List.Pairwise.nil oo hk (by simpa using hz) fun es' s' ch er => ?_
  show wpAny _ _ (Builtin.Dict.addKeywords s.heap.objs.size [] >>= _) _ _ _
  rw [merg_nil more oo] at er
  obtain ⟨ep, hat⟩ := ch.at_
  refine wpAny_bind (wpAny_pure (wpAny_pure ⟨rfl, h es' s' ep hat (fun b ob e => ch.keep b ob (fun z => ?_) (Heap.get?_push_of_some _ e)) ?_ ch.gens ch.os er⟩))
  · rw [z, push_new] at e; cases e
  · exact Nat.le_trans (push_size _ _) ch.size

theorem same_E {id : String} (hu : A.units + 80 < cLine) (S : Sub F s.heap) {a b : Addr} {esa esb : Array DictEntry} {epa epb : Nat} (ha : s.heap.get? a = some (dobj esa epa)) (hb : s.heap.get? b = some (dobj esb epb)) (haS : (a == sysModules) = false) (hbS : (b == sysModules) = false)
    {kvs : List (D × D)} (era : ERel G F (DRel G F) kvs esa.toList) (erb : ERel G F (DRel G F) kvs esb.toList) (once : onceA kvs) (hv : ∀ p ∈ kvs, D.flat p.2 = true ∧ D.depth p.2 ≤ 64) {Q : Bool → Shared → Prop} (h : Q true s) :
    wpAny (Mo G) A (Builtin.Dict.samePairs id a b) Q E s := by
  unfold Builtin.Dict.samePairs Builtin.Dict.showsAll
  rw [if_neg (by rw [haS]; exact Bool.false_ne_true), if_neg (by rw [hbS]; exact Bool.false_ne_true)]
  refine wpAny_bind (wpAny_pure (wpAny_bind (wpAny_pure ?_)))
  refine wpAny_bind (wpAny_dictEntries ha rfl ?_)
  refine wpAny_bind (wpAny_dictEntries hb rfl ?_)
  have hla : kvs.length = esa.size := by rw [← era.length, Array.length_toList]
  have hlb : kvs.length = esb.size := by rw [← erb.length, Array.length_toList]
  rw [if_neg (by rw [← hla, ← hlb]; simp)]
  refine wpAny_bind (wpAny_dictEpoch ha rfl ?_)
  refine wpAny_bind ?_
  rw [Std.Legacy.Range.forIn_eq_forIn_range']
  simp only [Std.Legacy.Range.size, Nat.sub_zero, Nat.add_sub_cancel, Nat.div_one]
  refine wpAny_forIn_list _ (fun rest r s' => s' = s ∧ r.1 = none ∧ ∀ i ∈ rest, i < esa.size) _ ?_ ?_ _ _ ⟨rfl, rfl, fun i hi => by
    have := (List.mem_range'_1.mp hi).2; simpa using this⟩
  · rintro x rest r s' ⟨rfl, hr, hi⟩
    have hlt := hi x List.mem_cons_self
    refine wpAny_bind (wpAny_dictEntries ha rfl ?_)
    have hge : esa.toList[x]? = some esa[x] := by simp [hlt]
    obtain ⟨p, h1, h2, h3, h4, h5⟩ := era.get hge
    rw [Array.getElem?_eq_getElem hlt]
    dsimp only
    refine wpAny_bind ?_
    refine wpAny_holding (wpAny_bind ?_)
    rw [h4]
    refine dictFind_D (by omega) S h2 h3 hb rfl erb.keys once ?_
    have hfind : findK (kvs.map (·.1)) p.1 = some x := findK_some once (by rw [List.getElem?_map, h1]; rfl)
    rw [hfind]
    dsimp only
    refine wpAny_bind (wpAny_dictEntries hb rfl ?_)
    have hltb : x < esb.size := by rw [← hlb, hla]; exact hlt
    have hgb : esb.toList[x]? = some esb[x] := by simp [hltb]
    obtain ⟨p', g1, g2, g3, g4, g5⟩ := erb.get hgb
    rw [h1] at g1; cases g1
    rw [Array.getElem?_eq_getElem hltb]
    dsimp only
    obtain ⟨f1, f2⟩ := hv p (List.mem_of_getElem? h1)
    refine wpAny_holding (eqAt_D S h5 g5 f1 f1 (by simp; omega) _ _ _ _ ?_)
    have heq : D.eqv p.2 p.2 = true := D.eqv_self f1
    rw [heq]
    simp only [Bool.not_true, Bool.false_eq_true, if_false]
    refine wpAny_bind (wpAny_dictEpoch ha rfl ?_)
    rw [if_neg (by simp)]
    exact wpAny_pure ⟨rfl, rfl, fun i hi' => hi i (List.mem_cons_of_mem _ hi')⟩
  · rintro r s' ⟨rfl, hr, _⟩
    rw [hr]
    exact wpAny_pure h
end
end Mine

set_option Elab.async false
set_option linter.unusedVariables false
namespace Mine
open PySem PySem.SeqAt PyProof.Rows

open Classical in
theorem Inv.freeze {G : GP} {F : FH} {l l' : Hp} {s : Shared} (I : Inv G F l s) (d : Drop l l') :
    ∃ F', Step F l s F' l' s ∧ Inv G F' l' s ∧ ∀ x v y, Fz l l' x y → VRel G F x v → DRel G F' y v := by
  have hF : ∀ a, l a ≠ none → F a = none := fun a h => by
    cases e : l a with
    | none => exact absurd e h
    | some o => exact (I.lv _ _ e).1
  have mono : FLe F (fun a => if l a ≠ none ∧ l' a = none then s.heap.get? a else F a) := fun a o e => by
    have : ¬ (l a ≠ none ∧ l' a = none) := fun h => by rw [hF a h.1] at e; cases e
    show (if _ then _ else _) = _
    rw [if_neg this]; exact e
  have dr : ∀ {n : Nat} {o : AO} {x : D}, l n = some o → l' n = none → o.toD = some x → DRel G (fun a => if l a ≠ none ∧ l' a = none then s.heap.get? a else F a) x (.ref n) := by
    intro n o x h1 h2 h3
    have hn : (if l n ≠ none ∧ l' n = none then s.heap.get? n else F n) = s.heap.get? n := if_pos (And.intro (by rw [h1]; intro z; cases z) h2)
    have O := (I.lv _ _ h1).2
    cases o with
    | list ds =>
      cases h3
      obtain ⟨vs, k, q1, q2, q3⟩ := O
      exact ⟨vs.toList, ⟨n, vs, k, rfl, hn.trans q1, rfl, by rw [q2.length]; exact q3⟩, q2.mono mono⟩
    | dict kvs =>
      cases h3
      obtain ⟨es, k, q1, q2, q3, q4, q5⟩ := O
      refine ⟨n, dobj es k, es, k, rfl, hn.trans q1, ⟨rfl, rfl, rfl⟩, rfl, ?_, q2.mono mono, q3, q5⟩
      have := DRelk.length q2
      rw [Array.length_toList] at this; rw [this]; exact q4
    | _ => cases h3
  refine ⟨fun a => if l a ≠ none ∧ l' a = none then s.heap.get? a else F a, ⟨mono, fun a o e m => ⟨e, ?_, fun z => ?_⟩, rfl, rfl⟩, ?_, ?_⟩
  · cases q : l a with
    | none =>
      cases z : l' a with
      | none => rfl
      | some o' => rw [d.le _ _ z] at q; cases q
    | some o' =>
      rw [q] at m
      cases o' with
      | ro o' => exact d.ro _ _ q
      | _ => cases m
  · show (if _ then _ else _) = _
    rw [if_neg]; exact z
    rintro ⟨h1, h2⟩
    cases q : l a with
    | none => exact h1 q
    | some o' =>
      rw [q] at m
      cases o' with
      | ro o' => rw [d.ro _ _ q] at h2; cases h2
      | _ => cases m
  · have I' := I.drop d
    refine ⟨fun a o e => mono _ _ (I.base _ _ e), fun a o e => ?_, fun n o e => ⟨?_, (I'.lv n o e).2.mono mono⟩, I'.ih, (let ⟨a, o, h, e⟩ := I.big; ⟨a, o, h, mono _ _ e⟩)⟩
    · by_cases h : l a ≠ none ∧ l' a = none
      · have e' : (if l a ≠ none ∧ l' a = none then s.heap.get? a else F a) = some o := e
        rw [if_pos h] at e'; exact e'
      · have e' : (if l a ≠ none ∧ l' a = none then s.heap.get? a else F a) = some o := e
        rw [if_neg h] at e'; exact I.sub _ _ e'
    · show (if _ then _ else _) = _
      rw [if_neg (by rw [e]; exact fun h => nomatch h.2)]
      exact (I'.lv n o e).1
  · intro x v y fz r
    cases fz with
    | d x => exact DRel.mono mono r
    | ao h1 h2 h3 => cases r; exact dr h1 h2 h3
    | @llist n ns os ds h1 h2 h3 h4 h5 =>
      cases r
      have hn : (if l n ≠ none ∧ l' n = none then s.heap.get? n else F n) = s.heap.get? n := if_pos (And.intro (by rw [h1]; intro z; cases z) h2)
      obtain ⟨vs, k, q1, q2, q3⟩ := (I.lv _ _ h1).2
      refine ⟨vs.toList, ⟨n, vs, k, rfl, hn.trans q1, rfl, by rw [q2]; simpa using q3⟩, ?_⟩
      rw [q2]
      clear q1 q2 q3 hn h1 h2
      induction ns generalizing os ds with
      | nil =>
        cases os with
        | nil => cases ds with
          | nil => exact rfl
          | cons _ _ => simp at h5
        | cons _ _ => simp at h3
      | cons m ms ih =>
        cases os with
        | nil => simp at h3
        | cons o os =>
          cases ds with
          | nil => simp at h5
          | cons x ds =>
            simp only [List.map_cons, List.cons.injEq] at h3 h5
            exact ⟨.ref m, ms.map .ref, rfl, dr h3.1 (h4 m (.head _)) h5.1, ih h3.2 (fun z hz => h4 z (.tail _ hz)) h5.2⟩
    | @ldict n kns os ds h1 h2 h3 h4 h5 =>
      cases r
      have hn : (if l n ≠ none ∧ l' n = none then s.heap.get? n else F n) = s.heap.get? n := if_pos (And.intro (by rw [h1]; intro z; cases z) h2)
      obtain ⟨es, k, q1, q2, q3, q4, q5⟩ := (I.lv _ _ h1).2
      have hlen : ((kns.map (·.1)).zip ds).map (·.1) = kns.map (·.1) := by
        rw [List.map_fst_zip]
        have a1 := congrArg List.length h3
        have a2 := congrArg List.length h5
        simp only [List.length_map] at a1 a2 ⊢
        omega
      refine ⟨n, dobj es k, es, k, rfl, hn.trans q1, ⟨rfl, rfl, rfl⟩, rfl, ?_, ?_, by unfold onceK; rw [hlen]; exact q3, q5⟩
      · have := (NRelk.keys q2).1
        simp only [List.length_map, Array.length_toList] at this; rw [← this]; exact q4
      · clear q1 q3 q4 q5 hn h1 h2 hlen
        generalize es.toList = el at q2
        induction kns generalizing os ds el with
        | nil =>
          simp only [NRelk] at q2; subst q2
          simp only [List.map_nil, List.zip_nil_left, DRelk]
        | cons p ms ih =>
          obtain ⟨k', m⟩ := p
          cases os with
          | nil => simp at h3
          | cons o os =>
            cases ds with
            | nil => simp at h5
            | cons x ds =>
              simp only [List.map_cons, List.cons.injEq] at h3 h5
              simp only [NRelk] at q2
              obtain ⟨e, t, rfl, a1, a2, a3, a4, a5⟩ := q2
              simp only [List.map_cons, List.zip_cons_cons, DRelk]
              exact ⟨e, t, rfl, a1.mono mono, a2, a3, by rw [a4]; exact dr h3.1 (h4 m (.head _)) h5.1, ih h3.2 (fun z hz => h4 z (.tail _ hz)) h5.2 _ a5⟩
    | @inst n dx fs h1 h2 h3 h4 =>
      cases r
      have hn : (if l n ≠ none ∧ l' n = none then s.heap.get? n else F n) = s.heap.get? n := if_pos (And.intro (by rw [h1]; intro z; cases z) h2)
      have hdx : (if l dx ≠ none ∧ l' dx = none then s.heap.get? dx else F dx) = s.heap.get? dx := if_pos (And.intro (by rw [h4]; intro z; cases z) h3)
      obtain ⟨q1, es, k, q2, q3⟩ := (I.lv _ _ h1).2
      exact ⟨n, dx, _, _, es, k, rfl, hn.trans q1, hdx.trans q2, rfl, rfl, q3.mono mono⟩
    | @mix n o x ds h1 h2 h3 =>
      obtain ⟨items, q1, q2⟩ := r
      exact ⟨_, q1.mono mono, .ref n, items, rfl, dr h1 h2 h3, q2.mono mono⟩

structure CC where
  C : List (Str × Nat)
  sc : List (Str × NameKind)
  ht : Nat

noncomputable def Own (env : PySem.Env) (a : Addr) : Prop := a = env.locals ∨ ∃ x, env.cells.lookup x = some a
noncomputable def Look (env : PySem.Env) (h : Heap) (x : Str) (v : Value) : Prop :=
  (env.kindOf x = some .local ∧ ∃ m, h.Ns env.locals m ∧ m x = some v) ∨
  ((env.kindOf x = some .cell ∨ env.kindOf x = some .free) ∧ ∃ c, env.cells.lookup x = some c ∧ h.IsCell c (some v))

structure EnvOk (env : PySem.Env) (cc : CC) : Prop where
  kind : env.scope.kind = .function
  names : env.scope.names = cc.sc
  globals : env.globals = mainGlobals
  builtins : env.builtins = builtinsNs
  cinj : ∀ x y c, env.cells.lookup x = some c → env.cells.lookup y = some c → x = y
  cl : ∀ x c, env.cells.lookup x = some c → c ≠ env.locals
  celled : ∀ x, cc.sc.lookup x = some .cell ∨ cc.sc.lookup x = some .free → ∃ c, env.cells.lookup x = some c
  inj : ∀ x y i, cc.C.lookup x = some i → cc.C.lookup y = some i → x = y

structure FrameR (G : GP) (env : PySem.Env) (C : List (Str × Nat)) (ρ : Env) (F : FH) (live : Hp) (h : Heap) : Prop where
  vars : ∀ x i V, C.lookup x = some i → ρ[i]? = some (some V) → ∃ v, Look env h x v ∧ VRel G F V v
  own : ∀ a, Own env a → F a = none ∧ live a = none ∧ ∃ o, h.get? a = some o
  ns : ∃ m, h.Ns env.locals m
  cel : ∀ x c, env.cells.lookup x = some c → ∃ v, h.IsCell c v

section
variable {G : GP} {env : PySem.Env} {C : List (Str × Nat)} {ρ : Env} {F F' : FH} {live live' : Hp} {s s' : Shared}
theorem Look.keep {h h' : Heap} {x : Str} {v : Value} (l : Look env h x v) (hk : ∀ a, Own env a → ∀ o, h.get? a = some o → h'.get? a = some o) : Look env h' x v := by
  rcases l with ⟨h1, m, h2, h3⟩ | ⟨h1, c, h2, o, h3, h4⟩
  · exact .inl ⟨h1, m, h2.at fun o e => hk _ (.inl rfl) o e, h3⟩
  · exact .inr ⟨h1, c, h2, o, hk _ (.inr ⟨x, h2⟩) _ h3, h4⟩
theorem FrameR.step (fr : FrameR G env C ρ F live s.heap) (st : Step F live s F' live' s') : FrameR G env C ρ F' live' s'.heap := by
  have hk : ∀ a, Own env a → ∀ o, s.heap.get? a = some o → s'.heap.get? a = some o := fun a ha o e => (st.keep a o e (by rw [(fr.own a ha).2.1]; rfl)).1
  refine ⟨fun x i V h1 h2 => ?_, fun a ha => ?_, ?_, fun x c hc => ?_⟩
  · obtain ⟨v, l, r⟩ := fr.vars x i V h1 h2
    exact ⟨v, l.keep hk, r.mono st.mono⟩
  · obtain ⟨h1, h2, o, h3⟩ := fr.own a ha
    obtain ⟨k1, k2, k3⟩ := st.keep a o h3 (by rw [h2]; rfl)
    exact ⟨k3 h1, k2.trans h2, o, k1⟩
  · obtain ⟨m, h⟩ := fr.ns
    exact ⟨m, h.at fun o e => hk _ (.inl rfl) o e⟩
  · obtain ⟨v, o, h1, h2⟩ := fr.cel x c hc
    exact ⟨v, o, hk _ (.inr ⟨x, hc⟩) _ h1, h2⟩
end

structure StepS (W : Addr → Prop) (F : FH) (live : Hp) (s : Shared) (F' : FH) (live' : Hp) (s' : Shared) : Prop where
  mono : FLe F F'
  keep : ∀ a o, s.heap.get? a = some o → ¬ W a → mutb (live a) = false → s'.heap.get? a = some o ∧ live' a = live a ∧ (F a = none → F' a = none)
  gens : s'.gens = s.gens
  os : s'.os = s.os
section
variable {G : GP} {W : Addr → Prop} {F F' F'' : FH} {live live' live'' : Hp} {s s' s'' : Shared}
theorem Step.toS (x : Step F live s F' live' s') : StepS W F live s F' live' s' := ⟨x.mono, fun a o e _ m => x.keep a o e m, x.gens, x.os⟩
theorem StepS.trans (x : StepS W F live s F' live' s') (y : StepS W F' live' s' F'' live'' s'') : StepS W F live s F'' live'' s'' :=
  ⟨x.mono.trans y.mono, fun a o e n m => by
    obtain ⟨h1, h2, h3⟩ := x.keep a o e n m
    obtain ⟨k1, k2, k3⟩ := y.keep a o h1 n (by rw [h2]; exact m)
    exact ⟨k1, k2.trans h2, fun z => k3 (h3 z)⟩, y.gens.trans x.gens, y.os.trans x.os⟩
theorem StepS.refl : StepS W F live s F live s := Step.refl.toS
end

noncomputable def FlR (G : GP) (F : FH) : Fl → Flow → Prop
  | .nx, f => f = .next
  | .ct, f => f = .cont
  | .rt x, f => ∃ v, f = .ret v ∧ VRel G F x v
noncomputable def PS (G : GP) (env : PySem.Env) (C : List (Str × Nat)) (n : Nat) (F : FH) (live : Hp) (s : Shared) (Q : KS) (f : Flow) (s' : Shared) : Prop :=
  ∃ F' live' ρ' fl, StepS (Own env) F live s F' live' s' ∧ Inv G F' live' s' ∧ FrameR G env C ρ' F' live' s'.heap ∧ ρ'.length = n ∧ FlR G F' fl f ∧ Q fl ρ' live'

noncomputable def CallOK (G : GP) : CP := fun f args live Q X => ∃ fe, G.fe f = some fe ∧ ∀ (A : Around) (F : FH) (s : Shared) (vs : List Value), Room A fe.ht → Inv G F live s → VRels G F args vs →
  codeAny (Mo G) A (.call (.ref fe.addr) ⟨vs, []⟩) (fun r s' => match r with
    | .ok (.ret v) => PE G F live s Q v s'
    | .ok _ => False
    | .error _ => False) s

noncomputable def SndE (G : GP) (cc : CC) (ê : Expr) (e : E) : Prop := ∀ (env : PySem.Env) (A : Around) (ρ : Env) (F : FH) (live : Hp) (s : Shared) (Q : KV) (X : XP), EnvOk env cc → Room A cc.ht → (∀ c l, ¬ X c l) →
  Inv G F live s → FrameR G env cc.C ρ F live s.heap → vE (CallOK G) e ρ live Q X → wpAny (Mo G) A (eval ê env) (PE G F live s Q) (fun _ _ => False) s
noncomputable def SndC (G : GP) (cc : CC) (ê : Expr) (e : E) : Prop := ∀ (env : PySem.Env) (A : Around) (ρ : Env) (F : FH) (live : Hp) (s : Shared) (K : Bool → Hp → Prop) (X : XP), EnvOk env cc → Room A cc.ht → (∀ c l, ¬ X c l) →
  Inv G F live s → FrameR G env cc.C ρ F live s.heap → vC (CallOK G) e ρ live K X → wpAny (Mo G) A (isTrue ê env (eval ê env)) (PB G F live s K) (fun _ _ => False) s

end Mine

set_option Elab.async false
set_option linter.unusedVariables false
namespace Mine
open PySem PySem.SeqAt PyProof.Rows

section
variable {G : GP} {cc : CC} {F F' : FH} {live live' : Hp} {s s' : Shared} {A : Around} {Ex : Value → Shared → Prop} {Q Q' : KV} {x y : V} {v u : Value} {ht : Nat}

theorem afterE {t : Sem Value} (st : Step F live s F' live' s') (h : wpAny (Mo G) A t (PE G F' live' s' Q) Ex s') : wpAny (Mo G) A t (PE G F live s Q) Ex s' :=
  wpAny_mono h (fun _ _ => PE.after st) fun _ _ x => x
theorem afterB {t : Sem Bool} {K : Bool → Hp → Prop} (st : Step F live s F' live' s') (h : wpAny (Mo G) A t (PB G F' live' s' K) Ex s') : wpAny (Mo G) A t (PB G F live s K) Ex s' :=
  wpAny_mono h (fun _ _ => PB.after st) fun _ _ x => x
theorem noE {α : Type} {t : Sem α} {K : α → Shared → Prop} (h : wpAny (Mo G) A t K (fun _ _ => False) s) : wpAny (Mo G) A t K Ex s := wpAny_mono h (fun _ _ x => x) fun _ _ x => x.elim

noncomputable def constOk : Const → D → Bool
  | .none, .none => true
  | .bool a, .bool b => a == b
  | .int a, .int b => a == b
  | .str x, .str cs => x.cps.toList == cs && (cs.all (· < 0x110000) && decide (cs.length ≤ 1000))
  | _, _ => false
theorem sE_cst {c : Const} {k : Nat} {pos : Pos} {d : D} (h : constOk c d = true) : SndE G cc (.Constant c k pos) (.cst d) := by
  intro env A ρ F live s Q X eo R hX I fr q
  cases c with
  | none => cases d <;> simp only [constOk] at h <;> first | exact Constant_none (PE.val0 I (x := .d .none) rfl q) | cases h
  | bool b => cases d <;> simp only [constOk] at h <;> first | (rw [beq_iff_eq.mp h]; exact Constant_bool (PE.bool I q)) | cases h
  | int i => cases d <;> simp only [constOk] at h <;> first | (rw [beq_iff_eq.mp h]; exact wpAny_Constant_int (PE.int I q)) | cases h
  | str x =>
    cases d <;> simp only [constOk] at h <;> try cases h
    rename_i cs
    rw [Bool.and_eq_true, Bool.and_eq_true, beq_iff_eq, List.all_eq_true, decide_eq_true_eq] at h
    refine fun Γ p _ => ?_
    show PE G F live s Q (.str x s.toks) { s with toks := s.toks + 1 }
    refine PE.val I (x := .d (.str cs)) ⟨s.toks, ?_, fun c hc => by simpa using h.2.1 c hc, by have := h.2.2; unfold big; omega⟩ q
    obtain ⟨a⟩ := x
    rw [← h.1]
  | _ => cases d <;> cases h
theorem sE_var {x : Str} {pos : Pos} {i : Nat} (h : cc.C.lookup x = some i) (hd : (x == ("__debug__" : Str)) = false) (hn : (x == ("__classdict__" : Str)) = false) : SndE G cc (.Name x pos) (.var i) := by
  intro env A ρ F live s Q X eo R hX I fr q
  replace q : (match ρ[i]? with | some (some v) => Q v live | _ => False) := q
  split at q
  · rename_i V e
    obtain ⟨v, l, r⟩ := fr.vars x i V h e
    refine wpAny_Name ?_ hd
    rcases l with ⟨h1, m, h2, h3⟩ | ⟨h1 | h1, c, h2, h3⟩
    · exact wpAny_loadName_local eo.kind h1 h2 h3 (PE.val0 I r q)
    · exact wpAny_loadName_cell eo.kind h1 h2 h3 (PE.val0 I r q)
    · exact wpAny_loadName_free eo.kind h1 h2 h3 (PE.val0 I r q) hn
  · exact q.elim

theorem sE_bin {a b : E} {ea eb : Expr} {op : Operator} {pos : Pos} {lv : Bool} (ha : SndE G cc ea a) (hb : SndE G cc eb b) : SndE G cc (.BinOp ea op eb pos) (.bin lv op a b) := by
  intro env A ρ F live s Q X eo R hX I fr h
  refine wpAny_BinOp (wpAny_mono (ha env A ρ F live s _ X eo R hX I fr h) ?_ fun _ _ x => x)
  rintro v s1 ⟨F1, l1, x, st1, I1, r1, h1⟩
  refine wpAny_mono (hb env A ρ F1 l1 s1 _ X eo R hX I1 (fr.step st1) h1) ?_ fun _ _ x => x
  rintro u s2 ⟨F2, l2, y, st2, I2, r2, h2⟩
  exact afterE (st1.trans st2) (snd_bin I2 (r1.mono st2.mono) r2 h2)
theorem sE_neg {a : E} {ea : Expr} {pos : Pos} (ha : SndE G cc ea a) : SndE G cc (.UnaryOp .USub ea pos) (.neg a) := by
  intro env A ρ F live s Q X eo R hX I fr h
  refine wpAny_UnaryOp (wpAny_mono (ha env A ρ F live s _ X eo R hX I fr h) ?_ fun _ _ x => x)
  rintro v s1 ⟨F1, l1, x, st1, I1, r1, h1⟩
  split at h1
  · obtain ⟨t, rfl⟩ := r1
    exact afterE st1 (neg_int (PE.int I1 h1))
  · exact h1.elim
theorem truthy_b {b : Bool} {K : Bool → Shared → Prop} (h : K b s) : wpAny (Mo G) A (truthy (.bool b)) K Ex s := wpAny_truthy_bool h
theorem sE_not {a : E} {ea : Expr} {pos : Pos} (ha : SndE G cc ea a) : SndE G cc (.UnaryOp .Not ea pos) (.not_ a) := by
  intro env A ρ F live s Q X eo R hX I fr h
  refine wpAny_UnaryOp (wpAny_mono (ha env A ρ F live s _ X eo R hX I fr h) ?_ fun _ _ x => x)
  rintro v s1 ⟨F1, l1, x, st1, I1, r1, h1⟩
  split at h1
  · cases r1
    exact afterE st1 (not_of (truthy_b (PE.bool I1 h1)))
  · exact h1.elim
theorem sC_not {a : E} {ea : Expr} {pos : Pos} (ha : SndC G cc ea a) : SndC G cc (.UnaryOp .Not ea pos) (.not_ a) := by
  intro env A ρ F live s K X eo R hX I fr h
  refine isTrue_not (wpAny_mono (ha env A ρ F live s _ X eo R hX I fr h) ?_ fun _ _ x => x)
  rintro b s1 ⟨F1, l1, st1, I1, h1⟩
  exact ⟨F1, l1, st1, I1, h1⟩
theorem sE_and {a b : E} {ea eb : Expr} {rest : List Expr} {pos : Pos} (ha : SndE G cc ea a) (hb : SndE G cc (.BoolOp .And (eb :: rest) pos) b) : SndE G cc (.BoolOp .And (ea :: eb :: rest) pos) (.and_ a b) := by
  intro env A ρ F live s Q X eo R hX I fr h
  refine BoolOp_and (wpAny_mono (ha env A ρ F live s _ X eo R hX I fr h) ?_ fun _ _ x => x)
  rintro v s1 ⟨F1, l1, x, st1, I1, r1, h1⟩
  split at h1
  · rename_i r
    cases r1
    refine truthy_b ?_
    cases r with
    | true => exact afterE st1 (hb env A ρ F1 l1 s1 _ X eo R hX I1 (fr.step st1) (h1.1 rfl))
    | false => exact PE.after st1 (PE.bool I1 (h1.2 rfl))
  · exact h1.elim
theorem sE_one {op : BoolOp} {b : E} {eb : Expr} {pos : Pos} (hb : SndE G cc eb b) : SndE G cc (.BoolOp op [eb] pos) b := hb
theorem sC_and {a b : E} {ea : Expr} {rest : List Expr} {pos : Pos} (ha : SndC G cc ea a) (hb : SndC G cc (.BoolOp .And rest pos) b) : SndC G cc (.BoolOp .And (ea :: rest) pos) (.and_ a b) := by
  intro env A ρ F live s K X eo R hX I fr h
  refine isTrue_and (wpAny_mono (ha env A ρ F live s _ X eo R hX I fr h) ?_ fun _ _ x => x)
  rintro r s1 ⟨F1, l1, st1, I1, h1⟩
  cases r with
  | true => exact afterB st1 (hb env A ρ F1 l1 s1 _ X eo R hX I1 (fr.step st1) (h1.1 rfl))
  | false => exact PB.after st1 (PB.val0 I1 (h1.2 rfl))
theorem sC_or {a b : E} {ea : Expr} {rest : List Expr} {pos : Pos} (ha : SndC G cc ea a) (hb : SndC G cc (.BoolOp .Or rest pos) b) : SndC G cc (.BoolOp .Or (ea :: rest) pos) (.or_ a b) := by
  intro env A ρ F live s K X eo R hX I fr h
  refine isTrue_or (wpAny_mono (ha env A ρ F live s _ X eo R hX I fr h) ?_ fun _ _ x => x)
  rintro r s1 ⟨F1, l1, st1, I1, h1⟩
  cases r with
  | true => exact PB.after st1 (PB.val0 I1 (h1.1 rfl))
  | false => exact afterB st1 (hb env A ρ F1 l1 s1 _ X eo R hX I1 (fr.step st1) (h1.2 rfl))
theorem sC_one {b : E} {eb : Expr} {pos : Pos} (hb : SndC G cc eb b) : SndC G cc (.BoolOp .And [eb] pos) b ∧ SndC G cc (.BoolOp .Or [eb] pos) b := by
  constructor
  · intro env A ρ F live s K X eo R hX I fr h
    refine isTrue_and (wpAny_mono (hb env A ρ F live s _ X eo R hX I fr h) ?_ fun _ _ x => x)
    rintro r s1 p
    cases r with
    | true => exact isTrue_and_nil (pos := pos) (whole := eval (.BoolOp .And [] pos) env) p
    | false => exact p
  · intro env A ρ F live s K X eo R hX I fr h
    refine isTrue_or (wpAny_mono (hb env A ρ F live s _ X eo R hX I fr h) ?_ fun _ _ x => x)
    rintro r s1 p
    cases r with
    | true => exact p
    | false => exact isTrue_or_nil (pos := pos) (whole := eval (.BoolOp .Or [] pos) env) p
theorem sE_ite {c a b : E} {ec ea eb : Expr} {pos : Pos} (hc : SndC G cc ec c) (ha : SndE G cc ea a) (hb : SndE G cc eb b) : SndE G cc (.IfExp ec ea eb pos) (.ite c a b) := by
  intro env A ρ F live s Q X eo R hX I fr h
  refine wpAny_IfExp (wpAny_mono (hc env A ρ F live s _ X eo R hX I fr h) ?_ fun _ _ x => x)
  rintro r s1 ⟨F1, l1, st1, I1, h1⟩
  cases r with
  | true => exact afterE st1 (ha env A ρ F1 l1 s1 _ X eo R hX I1 (fr.step st1) (h1.1 rfl))
  | false => exact afterE st1 (hb env A ρ F1 l1 s1 _ X eo R hX I1 (fr.step st1) (h1.2 rfl))
end
end Mine

set_option Elab.async false
set_option linter.unusedVariables false
namespace Mine
open PySem PySem.SeqAt PyProof.Rows

section
variable {G : GP} {cc : CC} {F F' : FH} {live live' : Hp} {s s' : Shared} {A : Around} {Ex : Value → Shared → Prop} {Q Q' : KV} {x y : V} {v u : Value} {ht : Nat}

noncomputable def PC (s : Shared) (K : Bool → Prop) (r : Value) (s' : Shared) : Prop := ∃ b tk, r = .bool b ∧ s' = { s with toks := tk } ∧ K b
theorem contains_of_in {c : Value} {K : Value → Shared → Prop} (h : wpAny (Mo G) A (compareOp .In v c) K Ex s) : wpAny (Mo G) A (contains c v) (fun b s' => K (.bool b) s') Ex s := fun Γ p hΓ => by
  have h' := h Γ p hΓ
  have e : compareOp .In v c = (contains c v >>= fun b => pure (.bool b)) := rfl
  rw [e, Sem.wp_bind'] at h'
  exact h'
theorem in_of_contains {c : Value} {K : Value → Shared → Prop} (h : wpAny (Mo G) A (contains c v) (fun b s' => K (.bool b) s') Ex s) : wpAny (Mo G) A (compareOp .In v c) K Ex s := by
  show wpAny _ _ (contains c v >>= fun b => pure (Value.bool b)) _ _ _
  exact wpAny_bind (wpAny_mono h (fun _ _ q => wpAny_pure q) fun _ _ q => q)
theorem notIn_of_contains {c : Value} {K : Value → Shared → Prop} (h : wpAny (Mo G) A (contains c v) (fun b s' => K (.bool (!b)) s') Ex s) : wpAny (Mo G) A (compareOp .NotIn v c) K Ex s := by
  show wpAny _ _ (contains c v >>= fun b => pure (Value.bool (!b))) _ _ _
  exact wpAny_bind (wpAny_mono h (fun _ _ q => wpAny_pure q) fun _ _ q => q)

theorem contains_dict {α : Type} {Rl : α → Value → Prop} (hu : A.units + 9 < cLine) (S : Sub F s.heap) {k : D} (r : DRel G F k v) (kk : D.key k = true) {d : Addr} {es : Array DictEntry} {ep : Nat} (ho : s.heap.get? d = some (dobj es ep))
    {kvs : List (D × α)} (er : ERel G F Rl kvs es.toList) (once : onceA kvs) (hd : (d == sysModules) = false) {K : Bool → Shared → Prop} (h : ∀ tk, K (dget kvs k).isSome { s with toks := tk }) :
    wpAny (Mo G) A (contains (.ref d) v) K Ex s := by
  have hT : s.TypeIs (.ref d) "dict" := ⟨_, ho, rfl⟩
  unfold contains
  try with_reducible refine wpAny_holding ?_
  refine wpAny_bind (wpAny_specialOf hT slot_dict_contains.lookup ?_)
  show wpAny _ _ (if (some (Value.builtin "dict.__contains__") == some Value.none) = true then _ else _) _ Ex s
  rw [if_neg (by rw [beq_builtin_none]; exact Bool.false_ne_true)]
  refine wpAny_bind (wpAny_callSpecialUnlessNone?_slot (name := Str.ofString "__contains__") hT slot_dict_contains
    (wpAny_call_entry slot_dict_contains hT entry_dict_contains ?_ (args_dict_contains _ _)))
  show wpAny _ _ (dictGet d v >>= _) _ _ s
  refine wpAny_bind (dictGet_E (by show A.units + 1 + 8 < cLine; omega) S r kk ho rfl er once fun tk => ⟨fun e => ?_, fun x v' e rx => ?_⟩)
  · have := h tk; rw [e] at this
    show wpAny _ _ (Builtin.Dict.pendingKey? d v >>= _) _ _ _
    exact wpAny_bind (wpAny_pendingKey_other hd (wpAny_pure ⟨_, rfl, wpAny_truthy_bool this⟩))
  · have := h tk; rw [e] at this
    show wpAny _ _ (ret (.bool true)) _ _ _
    exact wpAny_pure ⟨_, rfl, wpAny_truthy_bool this⟩

theorem in_seq (R : Room A ht) {F2 : FH} (S2 : Sub F2 s.heap) {xd : D} (rx : DRel G F2 xd v) {T : String} (hT : T = "list" ∨ T = "tuple") {a : Addr} {vs : Array Value} {n : Nat} (ho : s.heap.get? a = some (sobj T vs n)) (S : Sub F s.heap) {ds : List D} (rs : DRels G F ds vs.toList)
    (hf : D.flat xd = true) (hfs : D.flats ds = true) (hdp : min (D.depths ds) (D.depth xd) ≤ 64) {K : Value → Shared → Prop} (h : K (.bool (ds.any fun y => D.eqv y xd)) s) : wpAny (Mo G) A (compareOp .In v (.ref a)) K Ex s := by
  obtain ⟨as, q1⟩ := rs.reads S hfs
  obtain ⟨bs, q2⟩ := rx.reads S2 hf
  have hu : A.units + 1 + min (PyData.depthAll (D.pys ds)) xd.py.depth < cLine := by
    rw [D.pys_depth ds hfs, D.py_depth xd hf]
    have := R.un; unfold cLine; omega
  have e : (D.pys ds).any (fun y => PyData.eqv y xd.py) = ds.any fun y => D.eqv y xd := by
    clear h rs hu hdp q1
    induction ds with
    | nil => rfl
    | cons d r ih =>
      simp only [D.flats, Bool.and_eq_true] at hfs
      simp only [D.pys, List.any_cons, D.py_eqv d xd hfs.1 hf, ih hfs.2]
  rw [← e] at h
  rcases hT with rfl | rfl
  · exact in_list_reads (.list ho rfl rfl q1) q2 (rs.canLay hfs) (rx.canLay hf) hu h
  · exact in_tuple_reads (.tuple ho rfl rfl q1) q2 (rs.canLay hfs) (rx.canLay hf) hu h

theorem occ_one (cs : List Nat) (c : Nat) : Txt.contains ⟨cs.toArray⟩ ⟨#[c]⟩ = cs.contains c := by
  unfold Txt.contains
  rw [StrLaws.found_one]
  simp [Bool.eq_iff_iff]

theorem snd_in (I : Inv G F live s) (R : Room A ht) (ra : VRel G F x v) (rb : VRel G F y u) {K : Bool → Prop} (h : inV x y live K) : wpAny (Mo G) A (contains u v) (fun b s' => ∃ tk, s' = { s with toks := tk } ∧ K b) Ex s := by
  have hu : A.units + 9 < cLine := by have := R.un; unfold cLine; omega
  have seq : ∀ {T : String} (hT : T = "list" ∨ T = "tuple") {a : Addr} {vs : Array Value} {n : Nat} (ho : s.heap.get? a = some (sobj T vs n)) {ds : List D} (rs : DRels G F ds vs.toList) {xd : D} (e1 : rdE live x = some xd)
      (hf : D.flat xd = true ∧ D.flats ds = true ∧ min (D.depths ds) (D.depth xd) ≤ 64) (k : K (ds.any fun y => D.eqv y xd)), wpAny (Mo G) A (contains (.ref a) v) (fun b s' => ∃ tk, s' = { s with toks := tk } ∧ K b) Ex s := by
    intro T hT a vs n ho ds rs xd e1 hf k
    obtain ⟨F2, S2, _, r2⟩ := rdE_rel I ra e1
    have := contains_of_in (K := fun r s' => ∃ b tk, r = .bool b ∧ s' = { s with toks := tk } ∧ K b) (in_seq (Ex := Ex) R S2 r2 hT ho I.sub rs hf.1 hf.2.1 hf.2.2 ⟨_, s.toks, rfl, rfl, k⟩)
    refine wpAny_mono this ?_ fun _ _ q => q
    rintro b s' ⟨b', tk, e, e', k'⟩
    cases e; exact ⟨tk, e', k'⟩
  unfold inV at h
  split at h
  · exact h.elim
  · rename_i xd e1
    split at h
    · rename_i ds
      obtain ⟨items, ⟨a, vs, n, rfl, h2, h3, _⟩, rs⟩ := rb
      subst h3
      exact seq (.inr rfl) (I.sub _ _ h2) rs e1 h.1 h.2
    · rename_i cs
      split at h
      · rename_i c
        obtain ⟨t', rfl, _⟩ := rb
        obtain ⟨F2, S2, _, r2⟩ := rdE_rel I ra e1
        obtain ⟨t, rfl, _⟩ := r2
        have := contains_of_in (K := fun r s' => ∃ b tk, r = .bool b ∧ s' = { s with toks := tk } ∧ K b) (PySem.SB.contains (prog := G.prog) (w := G.w) (A := A) (E := Ex) (s := s) (x := ⟨cs.toArray⟩) (y := ⟨#[c]⟩) (t := t') (u := t) ⟨_, s.toks, rfl, rfl, by rw [occ_one]; exact h⟩)
        refine wpAny_mono this ?_ fun _ _ q => q
        rintro b s' ⟨b', tk, e, e', k'⟩
        cases e; exact ⟨tk, e', k'⟩
      · exact h.elim
    · have dict : ∀ {α : Type} {Rl : α → Value → Prop} {d : Addr} {es : Array DictEntry} {ep : Nat} (ho : s.heap.get? d = some (dobj es ep)) {kvs : List (D × α)} (er : ERel G F Rl kvs es.toList) (once : onceA kvs) (hd : (d == sysModules) = false)
          (kk : D.key xd = true) (k : K (dget kvs xd).isSome), wpAny (Mo G) A (contains (.ref d) v) (fun b s' => ∃ tk, s' = { s with toks := tk } ∧ K b) Ex s := by
        intro α Rl d es ep ho kvs er once hd kk k
        have rv : DRel G F xd v := by
          cases x with
          | d x => simp only [rdE, Option.some.injEq] at e1; subst e1; exact ra
          | loc n =>
            simp only [rdE] at e1
            cases q : live.look n with
            | none => rw [q] at e1; cases e1
            | some o => rw [q] at e1; cases o <;> simp [AO.toD] at e1 <;> (subst e1; cases kk)
          | mix n ds =>
            simp only [rdE] at e1
            cases q : live.look n with
            | none => rw [q] at e1; cases e1
            | some o => rw [q] at e1; cases o <;> simp [AO.toD] at e1 <;> (subst e1; cases kk)
        exact contains_dict hu I.sub rv kk ho er once hd fun tk => ⟨tk, rfl, k⟩
      split at h
      · rename_i ds e2
        have e3 : rd live y = some (.list ds) := by
          cases y with
          | d y => cases y <;> simp [view] at e2; subst e2; rfl
          | loc n => simp only [view] at e2; simp only [rd, e2]; rfl
          | mix n ds => simp [view] at e2
        obtain ⟨a, vs, k, rfl, h1, h2, h3⟩ := rd_list I rb e3
        exact seq (.inl rfl) h1 h2 e1 h.1 h.2
      · rename_i kvs e2
        have e3 : rd live y = some (.dict kvs) := by
          cases y with
          | d y => cases y <;> simp [view] at e2; subst e2; rfl
          | loc n => simp only [view] at e2; simp only [rd, e2]; rfl
          | mix n ds => simp [view] at e2
        obtain ⟨a, es, k, rfl, h1, h2, h3, h4, h5⟩ := rd_dict I rb e3
        exact dict h1 (erel_d.mp h2) h3 h5 h.1 h.2
      · rename_i kns e2
        cases y with
        | d y => cases y <;> simp [view] at e2
        | mix n ds => simp [view] at e2
        | loc n =>
          simp only [view] at e2
          obtain ⟨es, k, h1, h2, h3, h4, h5⟩ := (look_lv I e2).2
          cases rb
          exact dict h1 (erel_n.mp h2) h3 h5 h.1 h.2
      · exact h.elim

theorem rdE_dict {kvs : List (D × D)} (e : rdE live x = some (.dict kvs)) : rd live x = some (.dict kvs) := by
  cases x with
  | d d => exact e
  | loc n => exact e
  | mix n ds =>
    simp only [rdE] at e
    obtain ⟨_, _, z⟩ := Option.map_eq_some_iff.mp e
    cases z
theorem snd_dicteq (I : Inv G F live s) (R : Room A ht) (ra : VRel G F x v) (rb : VRel G F y u) {kvs : List (D × D)} (e1 : rdE live x = some (.dict kvs)) (e2 : rdE live y = some (.dict kvs)) (h : dflat kvs) :
    (∀ {K : Value → Shared → Prop}, K (.bool true) s → wpAny (Mo G) A (compareOp .Eq v u) K Ex s) ∧ (∀ {K : Value → Shared → Prop}, K (.bool false) s → wpAny (Mo G) A (compareOp .NotEq v u) K Ex s) := by
  obtain ⟨a, es, k, rfl, a1, a2, a3, a4, a5⟩ := rd_dict I ra (rdE_dict e1)
  obtain ⟨b, es', k', rfl, b1, b2, b3, b4, b5⟩ := rd_dict I rb (rdE_dict e2)
  have hu : A.units + 90 < cLine := by have := R.un; unfold cLine; omega
  have hTa : s.TypeIs (.ref a) "dict" := ⟨_, a1, rfl⟩
  have hTb : s.TypeIs (.ref b) "dict" := ⟨_, b1, rfl⟩
  have body : ∀ (nm : String) (w : Bool) {K : Value → Shared → Prop}, K (.bool (true == w)) s → wpAny (Mo G) A.in1 (do
      let (self, other) ← Builtin.Dict.dictSlotArgs nm ⟨[.ref a, .ref b], []⟩
      if !(← isInstance other (.type "dict")) then rule s!"dict.{nm}.not-a-dict"; return ← ret .notImplemented
      ret (.bool ((← Builtin.Dict.samePairs s!"dict.{nm}" (← Builtin.Dict.addrOf self) (← Builtin.Dict.addrOf other)) == w))) (fun fin s' => ∃ v, fin = .done (.ret v) ∧ v ≠ .notImplemented ∧ K v s') Ex s := by
    intro nm w K hK
    refine wpAny_bind ?_
    unfold Builtin.Dict.dictSlotArgs
    refine wpAny_bind (wpAny_notOrdered_dict hTa ?_)
    show wpAny _ _ (pure (Value.ref a, Value.ref b)) _ _ _
    refine wpAny_pure ?_
    show wpAny _ _ (isInstance (.ref b) (.type "dict") >>= _) _ _ _
    refine wpAny_bind (wpAny_isInstance hTb isSubtype_dict_dict ?_)
    simp only [Bool.not_true, Bool.false_eq_true, if_false]
    show wpAny _ _ (Builtin.Dict.samePairs _ a b >>= _) _ _ _
    refine wpAny_bind (same_E (by show A.units + 1 + 80 < cLine; omega) I.sub a1 b1 a5 b5 (erel_d.mp a2) (erel_d.mp b2) a3 h ?_)
    exact wpAny_pure ⟨_, rfl, (fun z => nomatch z), hK⟩
  constructor
  · intro K hK
    show wpAny _ _ (richCompare .Eq _ _) _ _ _
    refine wpAny_richCompare_same_room hTa hTb PySem.F.slot_dict_eq (wpAny_call_entry PySem.F.slot_dict_eq hTa PySem.F.entry_dict_eq ?_ (PySem.F.args_dict_eq_2 _ _)) (by omega)
    exact body "__eq__" true hK
  · intro K hK
    show wpAny _ _ (richCompare .NotEq _ _) _ _ _
    refine wpAny_richCompare_same_room hTa hTb PySem.F.slot_dict_ne (wpAny_call_entry PySem.F.slot_dict_ne hTa PySem.F.entry_dict_ne ?_ (PySem.F.args_dict_ne_2 _ _)) (by omega)
    exact body "__ne__" false hK
theorem snd_cmp (I : Inv G F live s) (R : Room A ht) (ra : VRel G F x v) (rb : VRel G F y u) {op : CmpOp} {K : Bool → Prop} (h : vCmp op x y live K) : wpAny (Mo G) A (compareOp op v u) (PC s K) Ex s := by
  unfold vCmp at h
  split at h
  · split at h
    · rename_i k1 k2 e1 e2
      obtain ⟨rfl, h2, h3⟩ := h
      exact (snd_dicteq I R ra rb e1 e2 h2).1 ⟨_, s.toks, rfl, rfl, h3⟩
    · rename_i dx dy e1 e2
      exact (snd_eqs I R ra rb e1 e2 h.1).1 ⟨_, s.toks, rfl, rfl, h.2⟩
    · exact h.elim
  · split at h
    · rename_i k1 k2 e1 e2
      obtain ⟨rfl, h2, h3⟩ := h
      exact (snd_dicteq I R ra rb e1 e2 h2).2 ⟨_, s.toks, rfl, rfl, h3⟩
    · rename_i dx dy e1 e2
      exact (snd_eqs I R ra rb e1 e2 h.1).2 ⟨_, s.toks, rfl, rfl, h.2⟩
    · exact h.elim
  · split at h
    · rename_i i j e1 e2
      obtain ⟨t, rfl⟩ := rd_int ra e1
      obtain ⟨t', rfl⟩ := rd_int rb e2
      exact PyProof.Rows.lt_int ⟨_, s.toks, rfl, rfl, h⟩
    · exact h.elim
  · split at h
    · rename_i i j e1 e2
      obtain ⟨t, rfl⟩ := rd_int ra e1
      obtain ⟨t', rfl⟩ := rd_int rb e2
      exact PyProof.Rows.le_int ⟨_, s.toks, rfl, rfl, h⟩
    · exact h.elim
  · split at h
    · rename_i i j e1 e2
      obtain ⟨t, rfl⟩ := rd_int ra e1
      obtain ⟨t', rfl⟩ := rd_int rb e2
      exact PyProof.Rows.gt_int ⟨_, s.toks, rfl, rfl, h⟩
    · exact h.elim
  · split at h
    · rename_i i j e1 e2
      obtain ⟨t, rfl⟩ := rd_int ra e1
      obtain ⟨t', rfl⟩ := rd_int rb e2
      exact PyProof.Rows.ge_int ⟨_, s.toks, rfl, rfl, h⟩
    · exact h.elim
  · refine in_of_contains (wpAny_mono (snd_in I R ra rb h) ?_ fun _ _ q => q)
    rintro b s' ⟨tk, e, k⟩
    exact ⟨b, tk, rfl, e, k⟩
  · refine notIn_of_contains (wpAny_mono (snd_in I R ra rb h) ?_ fun _ _ q => q)
    rintro b s' ⟨tk, e, k⟩
    exact ⟨!b, tk, rfl, e, k⟩
  · exact h.elim

theorem wpAny_release {vs keep : List Value} {K : Unit → Shared → Prop} (h : K () s) : wpAny (Mo G) A (release vs keep) K Ex s := fun Γ p _ => by rw [Sem.wp_release]; exact h
theorem wpAny_operate {vs : List Value} {m : Sem Value} {K : Value → Shared → Prop} (h : wpAny (Mo G) A m K Ex s) : wpAny (Mo G) A (operate vs m) K Ex s := fun Γ p hΓ => by rw [Sem.wp_operate]; exact h Γ p hΓ

theorem sE_cmp {a b : Mine.E} {ea eb : Expr} {op : CmpOp} {pos : Pos} (hm : behindInMarks op eb = false) (ha : SndE G cc ea a) (hb : SndE G cc eb b) : SndE G cc (.Compare ea [op] [eb] pos) (.cmp op a b) := by
  intro env A ρ F live s Q X eo R hX I fr h
  refine wpAny_Compare1 (wpAny_mono (ha env A ρ F live s _ X eo R hX I fr h) ?_ fun _ _ x => x) hm
  rintro v s1 ⟨F1, l1, x, st1, I1, r1, h1⟩
  refine wpAny_mono (hb env A ρ F1 l1 s1 _ X eo R hX I1 (fr.step st1) h1) ?_ fun _ _ x => x
  rintro u s2 ⟨F2, l2, y, st2, I2, r2, h2⟩
  refine wpAny_mono (snd_cmp I2 R (r1.mono st2.mono) r2 h2) ?_ fun _ _ x => x
  rintro _ _ ⟨b, tk, rfl, rfl, k⟩
  exact PE.after (st1.trans st2) (PE.val I2 (x := .d (.bool b)) rfl k)
theorem sC_cmp {a b : Mine.E} {ea eb : Expr} {op : CmpOp} {pos : Pos} (hm : behindInMarks op eb = false) (ha : SndE G cc ea a) (hb : SndE G cc eb b) : SndC G cc (.Compare ea [op] [eb] pos) (.cmp op a b) := by
  intro env A ρ F live s K X eo R hX I fr h
  refine wpAny_isTrue_Compare1 (wpAny_mono (ha env A ρ F live s _ X eo R hX I fr h) ?_ fun _ _ x => x) hm
  rintro v s1 ⟨F1, l1, x, st1, I1, r1, h1⟩
  refine wpAny_mono (hb env A ρ F1 l1 s1 _ X eo R hX I1 (fr.step st1) h1) ?_ fun _ _ x => x
  rintro u s2 ⟨F2, l2, y, st2, I2, r2, h2⟩
  refine wpAny_mono (snd_cmp I2 R (r1.mono st2.mono) r2 h2) ?_ fun _ _ x => x
  rintro _ _ ⟨b, tk, rfl, rfl, k⟩
  exact truthy_b (PB.after (st1.trans st2) (PB.val I2 k))
theorem sC_cmp2 {a b c : Mine.E} {ea eb ec : Expr} {op1 op2 : CmpOp} {pos : Pos} (hm : behindInMarks op2 ec = false) (ha : SndE G cc ea a) (hb : SndE G cc eb b) (hc : SndE G cc ec c) :
    SndC G cc (.Compare ea [op1, op2] [eb, ec] pos) (.cmp2 a op1 b op2 c) := by
  intro env A ρ F live s Q X eo R hX I fr h
  show wpAny _ _ (eval ea env >>= fun l => testChain pos l [op1, op2] [eval eb env, markedBehindIn op2 ec (eval ec env)]) _ _ _
  rw [markedBehindIn_of_false hm]
  refine wpAny_bind (wpAny_mono (ha env A ρ F live s _ X eo R hX I fr h) ?_ fun _ _ x => x)
  rintro v s1 ⟨F1, l1, x, st1, I1, r1, h1⟩
  show wpAny _ _ (holding [v] (eval eb env) >>= _) _ _ _
  refine wpAny_bind (wpAny_holding (wpAny_mono (hb env A ρ F1 l1 s1 _ X eo R hX I1 (fr.step st1) h1) ?_ fun _ _ x => x))
  rintro u s2 ⟨F2, l2, y, st2, I2, r2, h2⟩
  refine wpAny_bind (wpAny_standAt ?_)
  refine wpAny_bind (wpAny_holding (wpAny_mono (snd_cmp I2 R (r1.mono st2.mono) r2 h2) ?_ fun _ _ x => x))
  rintro _ _ ⟨b, tk, rfl, rfl, k⟩
  refine wpAny_bind (wpAny_release ?_)
  refine wpAny_bind (wpAny_holding (truthy_b ?_))
  have st12 := (st1.trans st2).trans (Step.toks (F := F2) (live := l2) (s := s2) tk)
  have I2' := I2.toks tk
  cases b with
  | false => exact wpAny_pure (PB.after st12 (PB.val0 I2' (k.2 rfl)))
  | true =>
    simp only [if_true]
    show wpAny _ _ (holding [u] (eval ec env) >>= _) _ _ _
    refine wpAny_bind (wpAny_holding (wpAny_mono (hc env A ρ F2 l2 { s2 with toks := tk } _ X eo R hX I2' (fr.step st12) (k.1 rfl)) ?_ fun _ _ x => x))
    rintro u' s3 ⟨F3, l3, z, st3, I3, r3, h3⟩
    refine wpAny_bind (wpAny_standAt ?_)
    refine wpAny_bind (wpAny_operate (wpAny_mono (snd_cmp I3 R (r2.mono st3.mono) r3 h3) ?_ fun _ _ x => x))
    rintro _ _ ⟨b, tk, rfl, rfl, k⟩
    exact wpAny_holding (truthy_b (PB.after (st12.trans st3) (PB.val I3 k)))

theorem isNone_val (r : VRel G F x v) : (v == Value.none) = isNoneV x := by
  cases x with
  | loc n => cases r; rfl
  | mix n ds => obtain ⟨items, ⟨a, vs, m, rfl, _⟩, _⟩ := r; rfl
  | d x =>
    cases x with
    | none => cases r; rfl
    | bool b => cases r; rfl
    | int i => obtain ⟨t, rfl⟩ := r; rfl
    | str i => obtain ⟨t, rfl, _⟩ := r; rfl
    | tup i => obtain ⟨items, ⟨a, vs, m, rfl, _⟩, _⟩ := r; rfl
    | list i => obtain ⟨items, ⟨a, vs, m, rfl, _⟩, _⟩ := r; rfl
    | dict i => obtain ⟨a, o, es, n, rfl, _⟩ := r; rfl
    | inst i => obtain ⟨a, dx, o, od, es, n, rfl, _⟩ := r; rfl
    | exc i => exact r.elim
end
end Mine

set_option Elab.async false
set_option linter.unusedVariables false
namespace Mine
open PySem PySem.SeqAt PyProof.Rows

section
variable {G : GP} {cc : CC} {F F' : FH} {live live' : Hp} {s s' : Shared} {A : Around} {Ex : Value → Shared → Prop} {Q Q' : KV} {x y : V} {v u : Value} {ht : Nat}

theorem isNone_cmp {neg : Bool} {op : CmpOp} (hop : op = (if neg then .IsNot else .Is)) (r1 : VRel G F x v) {K : Value → Shared → Prop} (h : K (.bool (isNoneV x != neg)) s) : wpAny (Mo G) A (compareOp op v .none) K Ex s := by
  have hb : (v == Value.none) = isNoneV x := isNone_val r1
  rw [hop]
  cases neg with
  | false => exact is_none (by rw [hb]; simpa using h)
  | true =>
    show wpAny _ _ (isSame v .none >>= fun b => pure (Value.bool (!b))) _ _ _
    refine wpAny_bind ?_
    have : wpAny (Mo G) A (compareOp .Is v .none) (fun r s' => r = .bool (v == .none) ∧ s' = s) Ex s := is_none ⟨rfl, rfl⟩
    have h' : wpAny (Mo G) A (isSame v .none) (fun b s' => b = (v == .none) ∧ s' = s) Ex s := fun Γ p hΓ => by
      have q := this Γ p hΓ
      have e : compareOp .Is v .none = (isSame v .none >>= fun b => pure (.bool b)) := rfl
      rw [e, Sem.wp_bind'] at q
      refine Sem.wp_mono (Mo G) Γ _ (fun b p' s' z => ?_) (fun _ _ _ z => z) _ _ q
      obtain ⟨z1, z2⟩ := z
      exact ⟨Value.bool.inj z1, z2⟩
    refine wpAny_mono h' ?_ fun _ _ x => x
    rintro b s' ⟨rfl, rfl⟩
    exact wpAny_pure (by rw [hb]; simpa using h)
theorem sC_isNone {a : Mine.E} {ea : Expr} {op : CmpOp} {k : Nat} {p pos : Pos} {neg : Bool} (hop : op = (if neg then .IsNot else .Is)) (ha : SndE G cc ea a) : SndC G cc (.Compare ea [op] [.Constant .none k p] pos) (.isNone a neg) := by
  intro env A ρ F live s Q X eo R hX I fr h
  refine wpAny_isTrue_Compare1 (wpAny_mono (ha env A ρ F live s _ X eo R hX I fr h) ?_ fun _ _ x => x) (by rw [hop]; cases neg <;> rfl)
  rintro v s1 ⟨F1, l1, x, st1, I1, r1, h1⟩
  exact Constant_none (isNone_cmp hop r1 (truthy_b (PB.after st1 (PB.val0 I1 h1))))
theorem sC_plain {e : Mine.E} {ee : Expr} (he : SndE G cc ee e) (hp : ∀ env w, isTrue ee env w = (do let v ← w; standAt ee.pos; holding [v] (truthy v)))
    (hv : ∀ (Φ : CP) ρ live (K : Bool → Hp → Prop) X, vC Φ e ρ live K X → vE Φ e ρ live (fun v live' => ∃ b, v = .d (.bool b) ∧ K b live') X) : SndC G cc ee e := by
  intro env A ρ F live s K X eo R hX I fr h
  refine isTrue_plain (wpAny_mono (he env A ρ F live s _ X eo R hX I fr (hv _ _ _ _ _ h)) ?_ fun _ _ x => x) (hp env _)
  rintro v s1 ⟨F1, l1, x, st1, I1, r1, b, rfl, h1⟩
  cases r1
  exact truthy_b (PB.after st1 (PB.val0 I1 h1))

noncomputable def isSlice : Expr → Bool
  | .Slice .. => true
  | _ => false
theorem subs_plain {sl : Expr} (h : isSlice sl = false) (o i : Value) : subscripted sl false o i = operate [o, i] (getItem o i) := by
  cases sl <;> first | rfl | cases h
theorem subs_slice {lo hi : Option Expr} {p : Pos} (o i : Value) : subscripted (.Slice lo hi none p) false o i = operate [i, o] (getItem o i) := rfl

theorem getI_spec {α : Type} {ds : List α} {i : Int} {x : α} (h : getI ds i = some x) : ∃ j, seqIndex? i ds.length = some j ∧ ds[j]? = some x ∧ -(ds.length : Int) ≤ i ∧ i < ds.length := by
  unfold getI at h
  split at h
  · rename_i h0
    obtain ⟨hlt, e⟩ := List.getElem?_eq_some_iff.mp h
    refine ⟨i.toNat, ?_, h, by omega, by omega⟩
    unfold seqIndex?
    have h1 : ¬ i < 0 := by omega
    simp only [h1, if_false]
    rw [if_pos (by simp; omega)]
  · split at h
    · rename_i h0 h1
      obtain ⟨hlt, e⟩ := List.getElem?_eq_some_iff.mp h
      refine ⟨(i + ds.length).toNat, ?_, h, by omega, by omega⟩
      unfold seqIndex?
      have h2 : i < 0 := by omega
      simp only [h2, if_true]
      rw [if_pos (by simp; omega)]
    · cases h

theorem getItem_L {a : Addr} {vs : Array Value} {k : Nat} (ho : s.heap.get? a = some (sobj "list" vs k)) (hsz : vs.size ≤ lineB) {i : Int} {t : Tok} {w : Value} (h : getI vs.toList i = some w) {K : Value → Shared → Prop} (q : K w s) :
    wpAny (Mo G) A (getItem (.ref a) (.int i t)) K Ex s := by
  have hl : s.heap.IsList a vs := ⟨_, ho, rfl, k, rfl⟩
  obtain ⟨j, h1, h2, h3, h4⟩ := getI_spec h
  simp only [Array.length_toList] at h3 h4
  have hb : vs.size ≤ 16777217 := hsz
  unfold getI at h
  by_cases h0 : 0 ≤ i
  · rw [if_pos h0] at h
    exact wpAny_getItem_list hl h0 (by omega) (by rw [← Array.getElem?_toList]; exact h) q
  · rw [if_neg h0, if_pos (by simp only [Array.length_toList]; omega)] at h
    simp only [Array.length_toList] at h
    exact wpAny_getItem_list_neg hl (by omega) (by omega) (by omega) (by rw [← Array.getElem?_toList]; exact h) q
theorem getI_rel {ds : List D} {vs : List Value} (rs : DRels G F ds vs) {i : Int} {d : D} (h : getI ds i = some d) : ∃ w, getI vs i = some w ∧ DRel G F d w := by
  unfold getI at h ⊢
  rw [rs.length]
  split at h
  · rename_i h0; rw [if_pos h0]; exact rs.get h
  · rename_i h0
    rw [if_neg h0]
    split at h
    · rename_i h1; rw [if_pos h1]; exact rs.get h
    · cases h

theorem getItem_Dict {α : Type} {Rl : α → Value → Prop} (hu : A.units + 9 < cLine) (S : Sub F s.heap) {k : D} (r : DRel G F k v) (kk : D.key k = true) {d : Addr} {es : Array DictEntry} {ep : Nat} (ho : s.heap.get? d = some (dobj es ep))
    {kvs : List (D × α)} (er : ERel G F Rl kvs es.toList) (once : onceA kvs) {z : α} (hz : dget kvs k = some z) {K : Value → Shared → Prop} (h : ∀ tk w, Rl z w → K w { s with toks := tk }) :
    wpAny (Mo G) A (getItem (.ref d) v) K Ex s := by
  have hT : s.TypeIs (.ref d) "dict" := ⟨_, ho, rfl⟩
  unfold getItem
  try with_reducible refine wpAny_holding ?_
  refine wpAny_bind (wpAny_sequenceKey hT (by decide) ?_)
  refine wpAny_bind (wpAny_callSpecial?_slot (name := Str.ofString "__getitem__") hT slot_dict_getitem
    (wpAny_call_entry slot_dict_getitem hT entry_dict_getitem ?_ (args_dict_getitem _ _)))
  show wpAny _ _ (dictGet d v >>= _) _ _ s
  refine wpAny_bind (dictGet_E (by show A.units + 1 + 8 < cLine; omega) S r kk ho rfl er once fun tk => ⟨fun e => ?_, fun x v' e rx => ?_⟩)
  · rw [hz] at e; cases e
  · rw [hz] at e; cases e
    exact wpAny_pure ⟨v', rfl, wpAny_pure (h tk v' rx)⟩

theorem snd_idx (I : Inv G F live s) (R : Room A ht) (ra : VRel G F x v) (rb : VRel G F y u) {value sl : Expr} (hs : isSlice sl = false) (h : vIdx x y live Q) : wpAny (Mo G) A (subscriptTail value sl v u) (PE G F live s Q) Ex s := by
  have hu : A.units + 9 < cLine := by have := R.un; unfold cLine; omega
  unfold vIdx at h
  split at h
  · exact h.elim
  · rename_i k e1
    split at h
    ·
      rename_i ds
      split at h
      · rename_i n
        split at h
        · rename_i d e2
          obtain ⟨t, rfl⟩ := rd_int rb e1
          obtain ⟨items, ⟨a, vs, m, rfl, h2, h3, h4⟩, rs⟩ := ra
          subst h3
          obtain ⟨w, hw, rw'⟩ := getI_rel rs e2
          obtain ⟨j, q1, q2, q3, q4⟩ := getI_spec hw
          simp only [Array.length_toList] at q1 q3 q4 h4
          have hb : vs.size ≤ 16777217 := h4
          have ho := I.sub _ _ h2
          refine tail_any (T := "tuple") ⟨_, ho, rfl⟩ PySem.F.slot_tuple_getitem.lookup ?_ (subs_plain hs _ _)
          exact PyProof.Rows.getItem_tuple ⟨_, ho, rfl, m, rfl⟩ (by omega) (by omega) q1 (by rw [← Array.getElem?_toList]; exact q2) (PE.val0 I (x := .d d) rw' h)
        · exact h.elim
      · exact h.elim
    ·
      rename_i cs
      split at h
      · rename_i n
        split at h
        · rename_i c e2
          obtain ⟨t, rfl⟩ := rd_int rb e1
          obtain ⟨t', rfl, hc⟩ := ra
          obtain ⟨j, q1, q2, q3, q4⟩ := getI_spec e2
          refine tail_any (T := "str") rfl PySem.F.slot_str_getitem.lookup ?_ (subs_plain hs _ _)
          have hl : cs.length ≤ 16777216 := hc.2
          refine PyProof.Rows.getItem_str ?_ ?_ (PE.val I (x := .d (.str [c])) ⟨_, rfl, fun z hz => ?_, by unfold big; simp⟩ h) (c := c)
          · simp; omega
          · rw [str_length, q1]; simpa using q2
          · simp at hz; subst hz; exact hc.1 _ (List.mem_of_getElem? q2)
        · exact h.elim
      · exact h.elim
    ·
      rename_i mm ds
      split at h
      · rename_i n
        obtain ⟨t, rfl⟩ := rd_int rb e1
        obtain ⟨items, ⟨a, vs, m, rfl, h2, h3, h4⟩, rs⟩ := ra
        have ho := I.sub _ _ h2
        have hsz : vs.size = items.length + 1 := by have := congrArg List.length h3; simpa using this
        simp only [List.length_cons] at h4
        have hb : items.length + 1 ≤ 16777217 := h4
        have go : ∀ (w : Value) (z : V), VRel G F z w → (Value.ref mm :: items)[n.toNat]? = some w → 0 ≤ n → Q z live → wpAny (Mo G) A (subscriptTail value sl (.ref a) (.int n t)) (PE G F live s Q) Ex s := by
          intro w z rz hw hn q
          obtain ⟨hlt, e⟩ := List.getElem?_eq_some_iff.mp hw
          simp only [List.length_cons] at hlt
          refine tail_any (T := "tuple") ⟨_, ho, rfl⟩ PySem.F.slot_tuple_getitem.lookup ?_ (subs_plain hs _ _)
          refine PyProof.Rows.getItem_tuple (j := n.toNat) ⟨_, ho, rfl, m, rfl⟩ (by omega) (by omega) ?_ (by rw [← Array.getElem?_toList, h3]; exact hw) (PE.val0 I rz q)
          unfold seqIndex?
          have h0 : ¬ n < 0 := by omega
          simp only [h0, if_false]
          rw [if_pos (by simp; omega)]
        split at h
        · rename_i h0
          subst h0
          exact go (.ref mm) (.loc mm) rfl rfl (by omega) h
        · rename_i h0
          split at h
          · rename_i d e2
            obtain ⟨w, hw, rw'⟩ := getI_rel rs e2
            refine go w (.d d) rw' ?_ (by omega) h.2
            unfold getI at hw
            rw [if_pos (by omega)] at hw
            have : n.toNat = (n - 1).toNat + 1 := by omega
            rw [this]; exact hw
          · exact h.elim
      · exact h.elim
    · split at h
      · rename_i ds e2
        split at h
        · rename_i n
          split at h
          · rename_i d e3
            obtain ⟨t, rfl⟩ := rd_int rb e1
            have e4 : rd live x = some (.list ds) := by
              cases x with
              | d y => cases y <;> simp [view] at e2; subst e2; rfl
              | loc n => simp only [view] at e2; simp only [rd, e2]; rfl
              | mix n ds => simp [view] at e2
            obtain ⟨a, vs, k, rfl, h1, h2, h3⟩ := rd_list I ra e4
            obtain ⟨w, hw, rw'⟩ := getI_rel h2 e3
            have hsz : vs.size ≤ lineB := by have := h2.length; rw [Array.length_toList] at this; rw [this]; exact h3
            exact tail_any (T := "list") ⟨_, h1, rfl⟩ slot_list_getitem.lookup (getItem_L h1 hsz hw (PE.val0 I (x := .d d) rw' h)) (subs_plain hs _ _)
          · exact h.elim
        · exact h.elim
      · rename_i ns e2
        split at h
        · rename_i n
          split at h
          · rename_i m e3
            obtain ⟨t, rfl⟩ := rd_int rb e1
            cases x with
            | d y => cases y <;> simp [view] at e2
            | mix n ds => simp [view] at e2
            | loc a =>
              simp only [view] at e2
              obtain ⟨vs, k, h1, h2, h3⟩ := (look_lv I e2).2
              cases ra
              have hw : getI vs.toList n = some (.ref m) := by
                rw [h2]
                unfold getI at e3 ⊢
                simp only [List.length_map, List.getElem?_map]
                split at e3
                · rename_i z; rw [if_pos z, e3]; rfl
                · rename_i z; rw [if_neg z]
                  split at e3
                  · rename_i z; rw [if_pos z, e3]; rfl
                  · cases e3
              have hsz : vs.size ≤ lineB := by have := congrArg List.length h2; simp at this; rw [this]; exact h3
              exact tail_any (T := "list") ⟨_, h1, rfl⟩ slot_list_getitem.lookup (getItem_L h1 hsz hw (PE.val0 I (x := .loc m) rfl h)) (subs_plain hs _ _)
          · exact h.elim
        · exact h.elim
      · rename_i kvs e2
        obtain ⟨kk, h⟩ := h
        split at h
        · rename_i d e3
          have e4 : rd live x = some (.dict kvs) := by
            cases x with
            | d y => cases y <;> simp [view] at e2; subst e2; rfl
            | loc n => simp only [view] at e2; simp only [rd, e2]; rfl
            | mix n ds => simp [view] at e2
          have rk : DRel G F k u := by
            cases y with
            | d y => simp only [rd, Option.some.injEq] at e1; subst e1; exact rb
            | mix n ds => cases e1
            | loc n =>
              simp only [rd] at e1
              cases q : live.look n with
              | none => rw [q] at e1; cases e1
              | some o => rw [q] at e1; cases o <;> simp [AO.toD] at e1 <;> (subst e1; cases kk)
          obtain ⟨a, es, k, rfl, h1, h2, h3, h4, h5⟩ := rd_dict I ra e4
          exact tail_any (T := "dict") ⟨_, h1, rfl⟩ slot_dict_getitem.lookup (getItem_Dict hu I.sub rk kk h1 (erel_d.mp h2) h3 e3 fun tk w rw' => PE.val I (x := .d d) rw' h) (subs_plain hs _ _)
        · exact h.elim
      · rename_i kns e2
        obtain ⟨kk, h⟩ := h
        split at h
        · rename_i m e3
          cases x with
          | d y => cases y <;> simp [view] at e2
          | mix n ds => simp [view] at e2
          | loc a =>
            simp only [view] at e2
            have rk : DRel G F k u := by
              cases y with
              | d y => simp only [rd, Option.some.injEq] at e1; subst e1; exact rb
              | mix n ds => cases e1
              | loc n =>
                simp only [rd] at e1
                cases q : live.look n with
                | none => rw [q] at e1; cases e1
                | some o => rw [q] at e1; cases o <;> simp [AO.toD] at e1 <;> (subst e1; cases kk)
            obtain ⟨es, k, h1, h2, h3, h4, h5⟩ := (look_lv I e2).2
            cases ra
            exact tail_any (T := "dict") ⟨_, h1, rfl⟩ slot_dict_getitem.lookup (getItem_Dict hu I.sub rk kk h1 (erel_n.mp h2) h3 e3 fun tk w rw' => PE.val I (x := .loc m) rw' h) (subs_plain hs _ _)
        · exact h.elim
      · exact h.elim
theorem sE_idx {a i : Mine.E} {ea ei : Expr} {pos : Pos} (hs : isSlice ei = false) (ha : SndE G cc ea a) (hi : SndE G cc ei i) : SndE G cc (.Subscript ea ei pos) (.idx a i) := by
  intro env A ρ F live s Q X eo R hX I fr h
  refine Subscript_ (wpAny_mono (ha env A ρ F live s _ X eo R hX I fr h) ?_ fun _ _ x => x)
  rintro v s1 ⟨F1, l1, x, st1, I1, r1, h1⟩
  refine wpAny_mono (hi env A ρ F1 l1 s1 _ X eo R hX I1 (fr.step st1) h1) ?_ fun _ _ x => x
  rintro u s2 ⟨F2, l2, y, st2, I2, r2, h2⟩
  exact afterE (st1.trans st2) (snd_idx I2 R (r1.mono st2.mono) r2 hs h2)
end
end Mine

set_option Elab.async false
set_option linter.unusedVariables false
namespace Mine
open PySem PySem.SeqAt PyProof.Rows

theorem range_pick {α : Type} (xs : List α) (a : Nat) : ∀ m : Nat, (List.range m).filterMap (fun k => xs[a + k]?) = (xs.drop a).take m
  | 0 => by simp
  | m + 1 => by
    rw [List.range_succ, List.filterMap_append, range_pick xs a m, List.take_add_one]
    simp only [List.filterMap_cons, List.filterMap_nil, List.getElem?_drop]
    cases xs[a + m]? <;> simp
theorem clip_nat (n : Nat) (i : Int) : max 0 (min (if i < 0 then i + n else i) (n : Int)) = (slcB n i : Nat) := by
  unfold slcB
  split <;> omega
theorem pick_slice {α : Type} (xs : List α) (a b : Nat) (hb : b ≤ xs.length) : (sliceRange a b 1).filterMap (xs[·]?) = (xs.take b).drop a := by
  unfold sliceRange
  simp only [show (1 : Int) > 0 from by omega, if_true]
  have hc : (if (a : Int) < b then ((b : Int) - a + 1 - 1) / 1 else 0).toNat = b - a := by
    split <;> omega
  rw [hc, List.filterMap_map]
  have : ((fun x => xs[x]?) ∘ fun (k : Nat) => ((a : Int) + 1 * (k : Int)).toNat) = fun k => xs[a + k]? := by
    funext k
    simp only [Function.comp]
    congr 1
    omega
  rw [this, range_pick, List.drop_take]
theorem slice_pick (items : Array Value) (lo hi : Option Int) : (slicePick items lo hi none).toList = slice items.toList lo hi := by
  unfold slicePick sliceBounds slice
  simp only [Option.getD_none, show (1 : Int) > 0 from by omega, if_true, List.toList_toArray, Array.length_toList]
  have hf : (fun (x : Nat) => items[x]?) = fun x => items.toList[x]? := by funext x; simp
  rw [hf]
  have hl : (match lo with | none => (0 : Int) | some i => max 0 (min (if i < 0 then i + (items.size : Int) else i) (items.size : Int))) = ((match lo with | some l => slcB items.size l | none => 0 : Nat) : Int) := by
    cases lo with
    | none => rfl
    | some i => exact clip_nat _ _
  have hh : (match hi with | none => (items.size : Int) | some i => max 0 (min (if i < 0 then i + (items.size : Int) else i) (items.size : Int))) = ((match hi with | some l => slcB items.size l | none => items.size : Nat) : Int) := by
    cases hi with
    | none => rfl
    | some i => exact clip_nat _ _
  refine Eq.trans ?_ (pick_slice items.toList _ _ ?_)
  · congr 2
  · cases hi with
    | none => simp
    | some i => simp only [Array.length_toList]; unfold slcB; split <;> omega

noncomputable def loB (n : Nat) : Option Int → Nat
  | some l => slcB n l
  | none => 0
noncomputable def hiB (n : Nat) : Option Int → Nat
  | some l => slcB n l
  | none => n
theorem slice_eq {α : Type} (ds : List α) (lo hi : Option Int) : slice ds lo hi = (ds.take (hiB ds.length hi)).drop (loB ds.length lo) := by
  unfold slice hiB loB
  cases lo <;> cases hi <;> rfl
theorem hiB_le (n : Nat) (hi : Option Int) : hiB n hi ≤ n := by
  cases hi with
  | none => exact Nat.le_refl _
  | some i => simp only [hiB]; unfold slcB; split <;> omega
theorem picked_eq (cs : List Nat) (l u : Option (Int × Tok)) : slicePicked ⟨cs.toArray⟩ l u none = sliceRange (loB cs.length (l.map (·.1))) (hiB cs.length (u.map (·.1))) 1 := by
  unfold slicePicked PySem.Builtin.Str.strSliceIndices
  simp only [Option.map_none, Option.getD_none, show (1 : Int) > 0 from by omega, if_true, str_length]
  generalize l.map (·.1) = lo
  generalize u.map (·.1) = hi
  congr 1
  · cases lo with
    | none => rfl
    | some i => exact clip_nat _ _
  · cases hi with
    | none => rfl
    | some i => exact clip_nat _ _
theorem sliceRange_length (a b : Nat) : (sliceRange a b 1).length = b - a := by
  unfold sliceRange
  simp only [show (1 : Int) > 0 from by omega, if_true, List.length_map, List.length_range]
  split <;> omega
theorem slice_str (cs : List Nat) (l u : Option (Int × Tok)) : (slicePicked ⟨cs.toArray⟩ l u none).filterMap ((⟨cs.toArray⟩ : Str).cps[·]?) = slice cs (l.map (·.1)) (u.map (·.1)) := by
  have hf : (fun (x : Nat) => (⟨cs.toArray⟩ : Str).cps[x]?) = fun x => cs[x]? := by funext x; simp
  rw [hf, picked_eq, slice_eq]
  exact pick_slice cs _ _ (hiB_le _ _)
theorem slice_whole (cs : List Nat) (l u : Option (Int × Tok)) (h : (slicePicked ⟨cs.toArray⟩ l u none).length = cs.length) : slice cs (l.map (·.1)) (u.map (·.1)) = cs := by
  rw [picked_eq, sliceRange_length] at h
  rw [slice_eq]
  have := hiB_le cs.length (u.map (·.1))
  refine List.Sublist.eq_of_length ((List.drop_sublist _ _).trans (List.take_sublist _ _)) ?_
  rw [List.length_drop, List.length_take]; omega

noncomputable def VRelO (G : GP) (F : FH) : Option V → Value → Prop
  | none, v => v = .none
  | some z, v => VRel G F z v
section
variable {G : GP} {cc : CC} {F F' : FH} {live live' : Hp} {s s' : Shared} {A : Around} {Ex : Value → Shared → Prop} {Q Q' : KV} {x y : V} {v u : Value} {ht : Nat}

theorem optI_part {l : Option V} {vl : Value} {i : Option Int} (e : optI live l = some i) (r : VRelO G F l vl) : ∃ p : Option (Int × Tok), vl = partValue p ∧ p.map (·.1) = i ∧ IsPart vl i := by
  cases l with
  | none =>
    simp only [optI, Option.some.injEq] at e; subst e; cases r
    exact ⟨none, rfl, rfl, .none⟩
  | some z =>
    simp only [optI] at e
    split at e
    · rename_i j q
      cases e
      obtain ⟨t, rfl⟩ := rd_int r q
      exact ⟨some (j, t), rfl, rfl, .int j t⟩
    · cases e
theorem mem_slice {α : Type} {ds : List α} {lo hi : Option Int} {z : α} (h : z ∈ slice ds lo hi) : z ∈ ds := List.mem_of_mem_take (List.mem_of_mem_drop h)
theorem slice_length {α : Type} (ds : List α) (lo hi : Option Int) : (slice ds lo hi).length ≤ ds.length := by
  unfold slice
  rw [List.length_drop, List.length_take]; omega

theorem snd_slc (I : Inv G F live s) (R : Room A ht) (ra : VRel G F x v) {l h : Option V} {vl vu : Value} (rl : VRelO G F l vl) (ru : VRelO G F h vu)
    {value : Expr} {elo ehi : Option Expr} {p : Pos} {lv : Bool} (q : vSlc lv x l h live Q) :
    wpAny (Mo G) A (subscriptTail value (.Slice elo ehi none p) v (.ref s.heap.objs.size)) (PE G F live s Q) Ex { s with heap := s.heap.push { cls := .type "slice", data := .fields #[vl, vu, .none] } } := by
  have hk : ∀ b ob, s.heap.get? b = some ob → (s.heap.push { cls := .type "slice", data := .fields #[vl, vu, .none] } : Heap).get? b = some ob := push_keep _ _
  have at' : (s.heap.push { cls := .type "slice", data := .fields #[vl, vu, .none] } : Heap).get? s.heap.objs.size = some { cls := .type "slice", data := .fields #[vl, vu, .none] } := Heap.get?_push_size _ rfl
  obtain ⟨I1, st1⟩ := I.allocF (s' := { s with heap := s.heap.push { cls := .type "slice", data := .fields #[vl, vu, .none] } }) (push_new _) hk at' rfl rfl (push_size _ _)
  unfold vSlc at q
  split at q
  · rename_i i j e1 e2
    obtain ⟨pl, hpl, hpl', isl⟩ := optI_part (G := G) (F := F) e1 rl
    obtain ⟨pu, hpu, hpu', isu⟩ := optI_part (G := G) (F := F) e2 ru
    obtain ⟨_, _, q⟩ := q
    split at q
    · rename_i ds e3
      obtain ⟨a, vs, k, rfl, h1, h2, h3⟩ := rd_list I ra e3
      have ho := hk _ _ h1
      have hsz : vs.size ≤ sizeLine := by have := h2.length; rw [Array.length_toList] at this; rw [this]; exact q.1
      refine tail_any (T := "list") ⟨_, ho, rfl⟩ slot_list_getitem.lookup ?_ (subs_slice _ _)
      refine wpAny_getItem_list_slice (items := vs) (vl := vl) (vu := vu) (vs := .none) ⟨_, ho, rfl, k, rfl⟩ ⟨_, at', rfl, rfl⟩ isl isu .none (by intro z; cases z) ?_ hsz
      refine PE.after st1 (PE.list I1 (lv := lv) (ds := slice ds i j) (vs := slicePick vs i j none) ?_ (Nat.le_trans (slice_length _ _ _) q.1) q.2 (t := 0) rfl rfl rfl)
      rw [slice_pick]
      have hlen := h2.length
      unfold slice
      rw [hlen]
      exact ((h2.mono st1.mono).take _).drop _
    · rename_i ds e3
      split at q
      · rename_i n
        obtain ⟨h1, h2, h3, q⟩ := q
        obtain ⟨items, ⟨a, vs, m, rfl, g1, g2, g3⟩, rs⟩ := rd_tup ra e3
        subst g2
        have ho := hk _ _ (I.sub _ _ g1)
        have hlen := rs.length
        rw [Array.length_toList] at hlen
        cases pl with
        | none => cases hpl'
        | some pp =>
          obtain ⟨i', t⟩ := pp
          simp only [Option.map_some, Option.some.injEq] at hpl'; subst hpl'
          have hnone : vu = .none := by
            cases pu with
            | none => exact hpu
            | some pp => cases hpu'
          subst hnone
          have hvl : vl = .int ((i'.toNat : Nat) : Int) t := by rw [hpl]; simp only [partValue]; rw [Int.toNat_of_nonneg (by omega)]
          refine tail_any (T := "tuple") ⟨_, ho, rfl⟩ PySem.F.slot_tuple_getitem.lookup ?_ (subs_slice _ _)
          refine getItem_tuple_from (a := i'.toNat) (u := t) ⟨_, ho, rfl, m, rfl⟩ ⟨_, at', rfl, by rw [hvl]⟩ (by omega) (by omega) ?_ (by rw [hlen]; exact h3)
          refine PE.after st1 (PE.tuple I1 (ds := ds.drop i'.toNat) (vs := (vs.toList.drop i'.toNat).toArray) ?_ (by rw [List.length_drop]; unfold big at h3 ⊢; omega) q rfl rfl rfl)
          rw [List.toList_toArray]
          exact (rs.mono st1.mono).drop _
      · exact q.elim
    · rename_i cs e3
      obtain ⟨t, rfl, hc⟩ := rd_str ra e3
      refine tail_any (T := "str") rfl PySem.F.slot_str_getitem.lookup ?_ (subs_slice _ _)
      refine wpAny_getItem_str_slice (l := pl) (u := pu) (st := none) ⟨_, at', rfl, by rw [hpl, hpu]; rfl⟩ rfl ?_
      have hval := slice_str cs pl pu
      rw [hpl', hpu'] at hval
      have hok : cpOk (slice cs i j) := ⟨fun c hc' => hc.1 c (mem_slice hc'), Nat.le_trans (slice_length _ _ _) hc.2⟩
      unfold sliceMade
      split
      · rename_i hw
        have : slice cs i j = cs := by
          have hlen : (slicePicked ⟨cs.toArray⟩ pl pu none).length = cs.length := by
            simp only [Bool.and_eq_true, beq_iff_eq, str_length] at hw; exact hw.2
          have := slice_whole cs pl pu hlen
          rw [hpl', hpu'] at this; exact this
        rw [this] at q
        exact PE.after st1 (PE.val0 I1 (x := .d (.str cs)) ⟨t, rfl, hc⟩ q)
      · rw [hval]
        exact ⟨by rw [str_length]; exact hok.2, PE.after st1 (PE.val I1 (x := .d (.str (slice cs i j))) ⟨_, rfl, hok⟩ q)⟩
    · exact q.elim
  · exact q.elim

theorem evalPart_none {env : PySem.Env} {K : Value → Shared → Prop} (h : K .none s) : wpAny (Mo G) A (evalPart none env) K Ex s := wpAny_pure h
noncomputable def SndO (G : GP) (cc : CC) (ee : Option Expr) (e : Option Mine.E) : Prop := match ee, e with
  | none, none => True
  | some ee, some e => SndE G cc ee e
  | _, _ => False
theorem SndO.run {ee : Option Expr} {e : Option Mine.E} (h : SndO G cc ee e) {env : PySem.Env} {ρ : Env} {K : Option V → Hp → Prop} {X : XP} (eo : EnvOk env cc) (R : Room A cc.ht) (hX : ∀ c l, ¬ X c l) (I : Inv G F live s) (fr : FrameR G env cc.C ρ F live s.heap)
    (q : vO (CallOK G) e ρ live K X) : wpAny (Mo G) A (evalPart ee env) (fun v s' => ∃ F' live' z, Step F live s F' live' s' ∧ Inv G F' live' s' ∧ VRelO G F' z v ∧ K z live') (fun _ _ => False) s := by
  cases ee with
  | none =>
    cases e with
    | none => exact evalPart_none ⟨F, live, none, .refl, I, rfl, q⟩
    | some e => exact h.elim
  | some ee =>
    cases e with
    | none => exact h.elim
    | some e =>
      refine wpAny_mono (h env A ρ F live s _ X eo R hX I fr q) ?_ fun _ _ x => x
      rintro v s1 ⟨F1, l1, x, st1, I1, r1, h1⟩
      exact ⟨F1, l1, some x, st1, I1, r1, h1⟩
theorem sE_slc {a : Mine.E} {lo hi : Option Mine.E} {ea : Expr} {elo ehi : Option Expr} {p pos : Pos} {lv : Bool} (ha : SndE G cc ea a) (hlo : SndO G cc elo lo) (hhi : SndO G cc ehi hi) :
    SndE G cc (.Subscript ea (.Slice elo ehi none p) pos) (.slc lv a lo hi) := by
  intro env A ρ F live s Q X eo R hX I fr h
  refine Subscript_ (wpAny_mono (ha env A ρ F live s _ X eo R hX I fr h) ?_ fun _ _ x => x)
  rintro v s1 ⟨F1, l1, x, st1, I1, r1, h1⟩
  refine wpAny_Slice (wpAny_mono (hlo.run eo R hX I1 (fr.step st1) h1) ?_ fun _ _ x => x)
  rintro vl s2 ⟨F2, l2, z, st2, I2, r2, h2⟩
  refine wpAny_mono (hhi.run eo R hX I2 ((fr.step st1).step st2) h2) ?_ fun _ _ x => x
  rintro vu s3 ⟨F3, l3, z', st3, I3, r3, h3⟩
  refine evalPart_none ?_
  have r2' : VRelO G F3 z vl := by
    cases z with
    | none => exact r2
    | some z => exact VRel.mono st3.mono r2
  exact wpAny_mono (snd_slc I3 R ((r1.mono st2.mono).mono st3.mono) r2' r3 h3) (fun _ _ q => PE.after ((st1.trans st2).trans st3) q) fun _ _ x => x
end
end Mine

set_option Elab.async false
set_option linter.unusedVariables false
namespace Mine
open PySem PySem.SeqAt PyProof.Rows

section
variable {G : GP} {cc : CC} {F F' : FH} {live live' : Hp} {s s' : Shared} {A : Around} {Ex : Value → Shared → Prop} {Q Q' : KV} {x y : V} {v u : Value} {ht : Nat}

noncomputable def notStar : Expr → Bool
  | .Starred .. => false
  | _ => true
theorem starEach_plain {e : Expr} (h : notStar e = true) (rest : List Expr) (env : PySem.Env) : starEach (e :: rest) env = (false, eval e env) :: starEach rest env := by
  cases e <;> first | rfl | cases h
noncomputable def SndEs (G : GP) (cc : CC) : List Expr → List Mine.E → Prop
  | [], [] => True
  | ee :: er, e :: r => notStar ee = true ∧ SndE G cc ee e ∧ SndEs G cc er r
  | _, _ => False
theorem starEach_any : ∀ {ees : List Expr} {es : List Mine.E}, SndEs G cc ees es → ∀ (pos : Pos) (env : PySem.Env), (backTo pos (starEach ees env)).any (·.1) = false
  | [], [], _, _, _ => rfl
  | ee :: er, e :: r, h, pos, env => by
    rw [starEach_plain h.1]
    show (false || (backTo pos (starEach er env)).any (·.1)) = false
    rw [starEach_any h.2.2 pos env]; rfl
  | [], _ :: _, h, _, _ => h.elim
  | _ :: _, [], h, _, _ => h.elim
theorem SndEs.length : ∀ {ees : List Expr} {es : List Mine.E}, SndEs G cc ees es → ees.length = es.length
  | [], [], _ => rfl
  | ee :: er, e :: r, h => by simp [SndEs.length h.2.2]
  | [], _ :: _, h => h.elim
  | _ :: _, [], h => h.elim
theorem SndEs.run : ∀ {ees : List Expr} {es : List Mine.E} {F : FH} {live : Hp} {s : Shared} {K : List V → Hp → Prop}, SndEs G cc ees es → ∀ {env : PySem.Env} {ρ : Env} {X : XP} {pos : Pos}, EnvOk env cc → Room A cc.ht → (∀ c l, ¬ X c l) → Inv G F live s → FrameR G env cc.C ρ F live s.heap →
    vEs (CallOK G) es ρ live K X → wpAny (Mo G) A (spliced (backTo pos (starEach ees env))) (fun vs s' => ∃ F' live' xs, Step F live s F' live' s' ∧ Inv G F' live' s' ∧ VRels G F' xs vs ∧ xs.length = es.length ∧ K xs live') (fun _ _ => False) s
  | [], [], F, live, s, K, _, env, ρ, X, pos, eo, R, hX, I, fr, q => wpAny_items_nil ⟨F, live, [], .refl, I, rfl, rfl, q⟩
  | ee :: er, e :: r, F, live, s, K, h, env, ρ, X, pos, eo, R, hX, I, fr, q => by
    refine wpAny_items_cons (wpAny_mono (h.2.1 env A ρ F live s _ X eo R hX I fr q) ?_ fun _ _ x => x) (starEach_plain h.1 _ _)
    rintro v s1 ⟨F1, l1, x, st1, I1, r1, h1⟩
    refine wpAny_mono (SndEs.run h.2.2 eo R hX I1 (fr.step st1) h1) ?_ fun _ _ x => x
    rintro vs s2 ⟨F2, l2, xs, st2, I2, r2, hl, h2⟩
    exact ⟨F2, l2, x :: xs, st1.trans st2, I2, ⟨v, vs, rfl, r1.mono st2.mono, r2⟩, by simp [hl], h2⟩
  | [], _ :: _, _, _, _, _, h, _, _, _, _, _, _, _, _, _, _ => h.elim
  | _ :: _, [], _, _, _, _, h, _, _, _, _, _, _, _, _, _, _ => h.elim

theorem evalArgs_all {f : Value} {args : List (Bool × Sem Value)} (hn : args.any (·.1) = false) {K : Args → Shared → Prop} (h : wpAny (Mo G) A (spliced args) (fun vs s' => K ⟨vs, []⟩ s') Ex s) : wpAny (Mo G) A (evalArgs f true args []) K Ex s := by
  cases args with
  | nil => exact h
  | cons p r =>
    obtain ⟨b, t⟩ := p
    have : b = false := by simp only [List.any_cons, Bool.or_eq_false_iff] at hn; exact hn.1
    subst this
    exact PySem.Calls.evalArgs_plain h
theorem cw_builtin {id : String} {first : List Value} {args : List (Bool × Sem Value)} {pos : Pos} (hn : args.any (·.1) = false) {K : Value → Shared → Prop}
    (h : wpAny (Mo G) A (spliced args) (fun vs s' => wpAny (Mo G) A (call (.builtin id) (first ++ vs)) K Ex s') Ex s) : wpAny (Mo G) A (callWith pos (.builtin id) first args []) K Ex s := by
  unfold callWith
  refine wpAny_bind (wpAny_holding (evalArgs_all hn (wpAny_mono h (fun vs s1 q => ?_) fun _ _ x => x)))
  refine wpAny_bind (wpAny_standAt ?_)
  simp only [hn, List.any_nil, Bool.or_false]
  refine wpAny_bind ?_
  show wpAny _ _ (pure Keeper.machine) _ _ _
  refine wpAny_pure ?_
  show wpAny _ _ (call (.builtin id) (first ++ vs) [] >>= _) _ _ _
  refine wpAny_bind (wpAny_mono q (fun v s2 k => ?_) fun _ _ x => x)
  exact wpAny_bind (wpAny_holding (wpAny_point (wpAny_pure k)))
theorem cw_type {T : String} {args : List (Bool × Sem Value)} {pos : Pos} (hn : args.any (·.1) = false) {K : Value → Shared → Prop}
    (h : wpAny (Mo G) A (spliced args) (fun vs s' => wpAny (Mo G) A (call (.type T) vs) K Ex s') Ex s) : wpAny (Mo G) A (callWith pos (.type T) [] args []) K Ex s := by
  unfold callWith
  refine wpAny_bind (wpAny_holding (evalArgs_all hn (wpAny_mono h (fun vs s1 q => ?_) fun _ _ x => x)))
  refine wpAny_bind (wpAny_standAt ?_)
  simp only [hn, List.any_nil, Bool.or_false]
  refine wpAny_bind ?_
  show wpAny _ _ (pure Keeper.machine) _ _ _
  refine wpAny_pure ?_
  show wpAny _ _ (call (.type T) ([] ++ vs) [] >>= _) _ _ _
  refine wpAny_bind (wpAny_mono q (fun v s2 k => ?_) fun _ _ x => x)
  exact wpAny_bind (wpAny_holding (wpAny_point (wpAny_pure k)))

theorem SndEs.runD : ∀ {ees : List Expr} {es : List Mine.E} {F : FH} {live : Hp} {s : Shared} {K : List D → Hp → Prop}, SndEs G cc ees es → ∀ {env : PySem.Env} {ρ : Env} {X : XP} {pos : Pos}, EnvOk env cc → Room A cc.ht → (∀ c l, ¬ X c l) → Inv G F live s → FrameR G env cc.C ρ F live s.heap →
    vDs (CallOK G) es ρ live K X → wpAny (Mo G) A (spliced (backTo pos (starEach ees env))) (fun vs s' => ∃ F' live' xs, Step F live s F' live' s' ∧ Inv G F' live' s' ∧ DRels G F' xs vs ∧ K xs live') (fun _ _ => False) s
  | [], [], F, live, s, K, _, env, ρ, X, pos, eo, R, hX, I, fr, q => wpAny_items_nil ⟨F, live, [], .refl, I, rfl, q⟩
  | ee :: er, e :: r, F, live, s, K, h, env, ρ, X, pos, eo, R, hX, I, fr, q => by
    refine wpAny_items_cons (wpAny_mono (h.2.1 env A ρ F live s _ X eo R hX I fr q) ?_ fun _ _ x => x) (starEach_plain h.1 _ _)
    rintro v s1 ⟨F1, l1, x, st1, I1, r1, h1⟩
    split at h1
    · rename_i d
      refine wpAny_mono (SndEs.runD h.2.2 eo R hX I1 (fr.step st1) h1) ?_ fun _ _ x => x
      rintro vs s2 ⟨F2, l2, xs, st2, I2, r2, h2⟩
      exact ⟨F2, l2, d :: xs, st1.trans st2, I2, ⟨v, vs, rfl, DRel.mono st2.mono r1, r2⟩, h2⟩
    · exact h1.elim
  | [], _ :: _, _, _, _, _, h, _, _, _, _, _, _, _, _, _, _ => h.elim
  | _ :: _, [], _, _, _, _, h, _, _, _, _, _, _, _, _, _, _ => h.elim
theorem sE_lst {ees : List Expr} {es : List Mine.E} {pos : Pos} {lv : Bool} (h : SndEs G cc ees es) : SndE G cc (.List ees pos) (.lst lv es) := by
  intro env A ρ F live s Q X eo R hX I fr q
  refine wpAny_List (wpAny_mono (h.runD eo R hX I fr q) ?_ fun _ _ x => x)
  rintro vs s1 ⟨F1, l1, ds, st1, I1, r1, h1, h2⟩
  refine ⟨by rw [r1.length]; exact h1, PE.after st1 (PE.list I1 (vs := vs.toArray) (by rw [List.toList_toArray]; exact r1) h1 h2 (t := 0) rfl rfl rfl)⟩
theorem mapM_d : ∀ {vs : List V} {ds : List D}, (vs.mapM fun v => match v with | V.d x => some x | _ => none) = some ds → vs = ds.map .d
  | [], ds, h => by simp at h; subst h; rfl
  | v :: r, ds, h => by
    rw [List.mapM_cons] at h
    cases v with
    | d x =>
      simp only [Option.bind_eq_bind, Option.bind_some] at h
      obtain ⟨ds', h1, h2⟩ := Option.bind_eq_some_iff.mp h
      cases h2
      rw [mapM_d h1]; rfl
    | loc n => simp at h
    | mix n l => simp at h
theorem vrels_map : ∀ {ds : List D} {vs : List Value}, VRels G F (ds.map .d) vs ↔ DRels G F ds vs
  | [], vs => by simp only [List.map_nil, VRels, DRels]
  | d :: r, vs => by simp only [List.map_cons, VRels, DRels, VRel, vrels_map]
theorem sE_tup {ees : List Expr} {es : List Mine.E} {k : Nat} {pos : Pos} (h : SndEs G cc ees es) (hl : es.length ≤ 30) : SndE G cc (.Tuple ees k pos) (.tup es) := by
  intro env A ρ F live s Q X eo R hX I fr q
  refine wpAny_Tuple (wpAny_mono (h.run eo R hX I fr q) ?_ fun _ _ x => x)
  · rintro vs s1 ⟨F1, l1, xs, st1, I1, r1, h0', h1⟩
    have h0 : xs.length ≤ 30 := by rw [h0']; exact hl
    clear h0'
    have hvl : vs.length ≤ 30 := by rw [r1.length]; exact h0
    refine ⟨Nat.le_trans hvl (by decide), PE.after st1 ?_⟩
    split at h1
    · rename_i n r
      split at h1
      · rename_i ds e
        have := mapM_d e; subst this
        obtain ⟨v, t, rfl, rv, rt⟩ := r1
        cases rv
        have rd := vrels_map.mp rt
        refine PE.tupleM I1 (vs := (Value.ref n :: t).toArray) (r := t) (by simp) rd ?_ h1 rfl rfl rfl
        simp only [List.length_cons, List.length_map] at h0
        unfold big; omega
      · exact h1.elim
    · split at h1
      · rename_i ds e
        have := mapM_d e; subst this
        have rd := vrels_map.mp r1
        refine PE.tuple I1 (vs := vs.toArray) (by simpa using rd) ?_ h1 rfl rfl rfl
        simp only [List.length_map] at h0
        unfold big; omega
      · exact h1.elim

noncomputable def biTab : List (Str × Value) :=
  [("len", .builtin "len"), ("isinstance", .builtin "isinstance"), ("sorted", .builtin "sorted"), ("min", .builtin "min"), ("max", .builtin "max"), ("range", .type "range"), ("list", .type "list"), ("dict", .type "dict"),
   ("tuple", .type "tuple"), ("int", .type "int"), ("str", .type "str"), ("set", .type "set"), ("zip", .type "zip"), ("enumerate", .type "enumerate"), ("reversed", .type "reversed"), ("bool", .type "bool")]
noncomputable def gcName : Nat → Str
  | 0 => "LETTERS"
  | 1 => "SHAPES"
  | _ => "MOST_ROWS"
structure GOK (G : GP) : Prop where
  ns : ∃ mg mb, G.h₀.Ns mainGlobals mg ∧ G.h₀.Ns builtinsNs mb ∧ (∀ fe ∈ G.fns, fe.glob = true → mg fe.name = some (.ref fe.addr)) ∧ (∀ x v, biTab.lookup x = some v → mg x = none ∧ mb x = some v) ∧
    (∀ k ∈ G.gcs, ∃ v, mg (gcName k) = some v ∧ DRel G (fun a => G.h₀.get? a) (gcD k) v)
  fn : ∀ fe ∈ G.fns, ∃ o fd, G.h₀.get? fe.addr = some o ∧ o.data = .func fd
  lim : G.h₀.NoLimit
theorem Inv.h0 (I : Inv G F live s) : ∀ b o, G.h₀.get? b = some o → s.heap.get? b = some o := fun b o e => I.sub _ _ (I.base _ _ e)
theorem GP.fe_mem {f : Nat} {fe : FE} (h : G.fe f = some fe) : fe ∈ G.fns := List.mem_of_find?_eq_some h
section
variable {env : PySem.Env}
theorem name_bi (ok : GOK G) (eo : EnvOk env cc) (I : Inv G F live s) {x : Str} {p : Pos} {v : Value} (hk : cc.sc.lookup x = some .globalImplicit) (hb : biTab.lookup x = some v) (hd : (x == ("__debug__" : Str)) = false) {K : Value → Shared → Prop} (q : K v s) :
    wpAny (Mo G) A (eval (.Name x p) env) K Ex s := by
  obtain ⟨mg, mb, h1, h2, h3, h4, h5⟩ := ok.ns
  obtain ⟨q1, q2⟩ := h4 x v hb
  refine PySem.Calls.Name_function_global eo.kind (by unfold Env.kindOf; rw [eo.names]; exact hk) ?_ hd
  exact PySem.Calls.loadGlobal_builtin (mg := mg) (mb := mb) (by rw [eo.globals]; exact h1.keeps I.h0) q1 (by rw [eo.builtins]; exact h2.keeps I.h0) q2 q
theorem name_fn (ok : GOK G) (eo : EnvOk env cc) (I : Inv G F live s) {x : Str} {p : Pos} {fe : FE} (hk : cc.sc.lookup x = some .globalImplicit) (hf : fe ∈ G.fns) (hn : fe.name = x) (hg : fe.glob = true) (hd : (x == ("__debug__" : Str)) = false) {K : Value → Shared → Prop} (q : K (.ref fe.addr) s) :
    wpAny (Mo G) A (eval (.Name x p) env) K Ex s := by
  obtain ⟨mg, mb, h1, h2, h3, h4, h5⟩ := ok.ns
  refine PySem.Calls.Name_function_global eo.kind (by unfold Env.kindOf; rw [eo.names]; exact hk) ?_ hd
  exact PySem.Calls.loadGlobal_global (mg := mg) (by rw [eo.globals]; exact h1.keeps I.h0) (by rw [← hn]; exact h3 fe hf hg) q
end
theorem sE_gc (ok : GOK G) {x : Str} {p : Pos} {k : Nat} (hk : cc.sc.lookup x = some .globalImplicit) (hg : k ∈ G.gcs) (hn : gcName k = x) (hd : (x == ("__debug__" : Str)) = false) : SndE G cc (.Name x p) (.gc k) := by
  intro env A ρ F live s Q X eo R hX I fr q
  obtain ⟨mg, mb, h1, h2, h3, h4, h5⟩ := ok.ns
  obtain ⟨v, q1, q2⟩ := h5 k hg
  refine PySem.Calls.Name_function_global eo.kind (by unfold Env.kindOf; rw [eo.names]; exact hk) ?_ hd
  exact PySem.Calls.loadGlobal_global (mg := mg) (by rw [eo.globals]; exact h1.keeps I.h0) (by rw [← hn]; exact q1) (PE.val0 I (x := .d (gcD k)) (q2.mono fun a o e => I.base a o e) q)
theorem sE_call (ok : GOK G) {x : Str} {p pos : Pos} {f : Nat} {fe : FE} {ees : List Expr} {es : List Mine.E} (hk : cc.sc.lookup x = some .globalImplicit) (hfe : G.fe f = some fe) (hn : fe.name = x) (hg : fe.glob = true) (hht : fe.ht ≤ cc.ht)
    (hd : (x == ("__debug__" : Str)) = false) (h : SndEs G cc ees es) : SndE G cc (.Call (.Name x p) ees [] pos) (.call f es) := by
  intro env A ρ F live s Q X eo R hX I fr q
  refine wpAny_Call_NameR (name_fn ok eo I hk (GP.fe_mem hfe) hn hg hd ?_)
  obtain ⟨o, fd, ho, hfd⟩ := ok.fn fe (GP.fe_mem hfe)
  refine PySem.Calls.callWith_function (o := o) (fd := fd) (evalArgs_all (starEach_any h pos env) (wpAny_mono (h.run eo R hX I fr q) ?_ fun _ _ x => x))
  rintro vs s1 ⟨F1, l1, xs, st1, I1, r1, hl, fe', hfe', h1⟩
  rw [hfe] at hfe'; cases hfe'
  refine ⟨⟨I1.h0 _ _ ho, hfd⟩, ?_⟩
  refine wpAny_call (codeAny_mono (h1 A F1 s1 vs ⟨R.hd, by have := R.dp; omega, by have := R.un; omega⟩ I1 r1) fun r s' z => ?_)
  cases r with
  | error e => exact z.elim
  | ok fl =>
    cases fl with
    | ret v => exact PE.after st1 z
    | _ => exact z.elim
theorem sE_isi_ok : True := trivial
end
end Mine

set_option Elab.async false
set_option linter.unusedVariables false
namespace Mine
open PySem PySem.SeqAt PyProof.Rows

theorem ns_unique {h : Heap} {a : Addr} {m m' : Str → Option Value} (x : h.Ns a m) (y : h.Ns a m') : m = m' := by
  obtain ⟨o, es, ep, h1, h2, h3, h4⟩ := x
  obtain ⟨o', es', ep', k1, k2, k3, k4⟩ := y
  rw [h1] at k1; cases k1; rw [h2] at k2; cases k2
  funext x; rw [← h4, ← k4]

section
variable {G : GP} {cc : CC} {env : PySem.Env} {W : Addr → Prop} {ρ : Env} {F F' : FH} {live live' : Hp} {s s' : Shared} {A : Around} {Ex : Value → Shared → Prop} {Q Q' : KV} {x y : V} {v u : Value} {ht : Nat}

theorem Inv.outside (I : Inv G F live s) (hW : ∀ a, W a → F a = none ∧ live a = none) (hk : ∀ b o, ¬ W b → s.heap.get? b = some o → s'.heap.get? b = some o) : Inv G F live s' :=
  ⟨I.base, fun a o e => hk a o (fun w => by rw [(hW a w).1] at e; cases e) (I.sub _ _ e), fun n o e => ⟨(I.lv n o e).1, (I.lv n o e).2.keep (fun ob q => hk n ob (fun w => by rw [(hW n w).2] at e; cases e) q)
    (fun dx q ob q' => hk dx ob (fun w => by have := I.ih n o dx e q; rw [(hW dx w).2] at this; cases this) q')⟩, I.ih, I.big⟩
theorem StepS.outside (hk : ∀ b o, ¬ W b → s.heap.get? b = some o → s'.heap.get? b = some o) (hg : s'.gens = s.gens) (ho : s'.os = s.os) : StepS W F live s F live s' :=
  ⟨FLe.refl _, fun a o e n _ => ⟨hk a o n e, rfl, id⟩, hg, ho⟩

theorem kindOf_eq (eo : EnvOk env cc) (x : Str) : env.kindOf x = cc.sc.lookup x := by unfold Env.kindOf; rw [eo.names]

noncomputable def Wr (env : PySem.Env) (cc : CC) (W : Addr → Prop) (x : Str) : Prop := (cc.sc.lookup x = some .local ∧ W env.locals) ∨ (cc.sc.lookup x = some .cell ∧ ∀ c, env.cells.lookup x = some c → W c)

theorem set_get {ρ : Env} {i j : Nat} {o r : Option V} (h : (ρ.set i o)[j]? = some r) : (j = i ∧ r = o) ∨ (j ≠ i ∧ ρ[j]? = some r) := by
  rw [List.getElem?_set] at h
  split at h
  · rename_i e
    split at h
    · exact .inl ⟨e.symm, (Option.some.inj h).symm⟩
    · cases h
  · rename_i e; exact .inr ⟨fun z => e z.symm, h⟩

theorem store_ok (eo : EnvOk env cc) (I : Inv G F live s) (fr : FrameR G env cc.C ρ F live s.heap) {x : Str} {i : Nat} {V : V} {v : Value} (hx : cc.C.lookup x = some i) (hw : Wr env cc W x) (hW : ∀ a, W a → F a = none ∧ live a = none) (r : VRel G F V v)
    {Q : Unit → Shared → Prop} (h : ∀ s', Inv G F live s' → StepS W F live s F live s' → FrameR G env cc.C (ρ.set i (some V)) F live s'.heap → Q () s') : wpAny (Mo G) A (storeName env x v) Q Ex s := by
  obtain ⟨m, hm⟩ := fr.ns
  rcases hw with ⟨hk, hw⟩ | ⟨hk, hw⟩
  · refine wpAny_storeName_local (m := m) ((kindOf_eq eo x).trans hk) hm (fun h' hns hsb => ?_) (by rw [eo.kind]; rfl)
    have hk' : ∀ b o, b ≠ env.locals → s.heap.get? b = some o → h'.get? b = some o := fun b o hb e => (hsb.2 b hb).trans e
    refine h _ (I.outside hW fun b o hb e => hk' b o (fun z => hb (z ▸ hw)) e) (StepS.outside (fun b o hb e => hk' b o (fun z => hb (z ▸ hw)) e) rfl rfl) ?_
    refine ⟨fun y j U hy hj => ?_, fun a ha => ?_, ⟨_, hns⟩, fun y c hc => ?_⟩
    · rcases set_get hj with ⟨rfl, e⟩ | ⟨hne, hj⟩
      · cases e
        have := eo.inj _ _ _ hy hx; subst this
        exact ⟨v, .inl ⟨(kindOf_eq eo _).trans hk, _, hns, by simp⟩, r⟩
      · have hyx : y ≠ x := by intro z; subst z; rw [hx] at hy; exact hne (Option.some.inj hy).symm
        obtain ⟨u, l, ru⟩ := fr.vars y j U hy hj
        refine ⟨u, ?_, ru⟩
        rcases l with ⟨k1, m', n1, n2⟩ | ⟨k1, c, k2, k3⟩
        · have := ns_unique n1 hm; subst this
          exact .inl ⟨k1, _, hns, by simp [hyx]; exact n2⟩
        · obtain ⟨o, o1, o2⟩ := k3
          exact .inr ⟨k1, c, k2, o, hk' _ _ (eo.cl _ _ k2) o1, o2⟩
    · obtain ⟨h1, h2, o, h3⟩ := fr.own a ha
      refine ⟨h1, h2, ?_⟩
      by_cases hb : a = env.locals
      · subst hb; obtain ⟨o', es, ep, q, _⟩ := hns; exact ⟨o', q⟩
      · exact ⟨o, hk' _ _ hb h3⟩
    · obtain ⟨u, o, h1, h2⟩ := fr.cel y c hc
      exact ⟨u, o, hk' _ _ (eo.cl _ _ hc) h1, h2⟩
  · obtain ⟨c, hc⟩ := eo.celled x (.inl hk)
    obtain ⟨v₀, hv₀⟩ := fr.cel x c hc
    refine wpAny_storeName_cell eo.kind ((kindOf_eq eo x).trans hk) hc hv₀ fun h' hcell hsb => ?_
    have hk' : ∀ b o, b ≠ c → s.heap.get? b = some o → h'.get? b = some o := fun b o hb e => (hsb.2 b hb).trans e
    have hw' := hw c hc
    refine h _ (I.outside hW fun b o hb e => hk' b o (fun z => hb (z ▸ hw')) e) (StepS.outside (fun b o hb e => hk' b o (fun z => hb (z ▸ hw')) e) rfl rfl) ?_
    have hlc : env.locals ≠ c := fun z => eo.cl _ _ hc z.symm
    have hns : h'.Ns env.locals m := hm.sameBut hsb hlc
    refine ⟨fun y j U hy hj => ?_, fun a ha => ?_, ⟨_, hns⟩, fun y d hd => ?_⟩
    · rcases set_get hj with ⟨rfl, e⟩ | ⟨hne, hj⟩
      · cases e
        have := eo.inj _ _ _ hy hx; subst this
        exact ⟨v, .inr ⟨.inl ((kindOf_eq eo _).trans hk), c, hc, hcell⟩, r⟩
      · have hyx : y ≠ x := by intro z; subst z; rw [hx] at hy; exact hne (Option.some.inj hy).symm
        obtain ⟨u, l, ru⟩ := fr.vars y j U hy hj
        refine ⟨u, ?_, ru⟩
        rcases l with ⟨k1, m', n1, n2⟩ | ⟨k1, d, k2, k3⟩
        · exact .inl ⟨k1, _, n1.sameBut hsb hlc, n2⟩
        · obtain ⟨o, o1, o2⟩ := k3
          exact .inr ⟨k1, d, k2, o, hk' _ _ (fun z => hyx (eo.cinj _ _ _ k2 (z ▸ hc))) o1, o2⟩
    · obtain ⟨h1, h2, o, h3⟩ := fr.own a ha
      refine ⟨h1, h2, ?_⟩
      by_cases hb : a = c
      · subst hb; obtain ⟨o', q, _⟩ := hcell; exact ⟨o', q⟩
      · exact ⟨o, hk' _ _ hb h3⟩
    · by_cases hb : d = c
      · subst hb; exact ⟨_, hcell⟩
      · obtain ⟨u, o, h1, h2⟩ := fr.cel y d hd
        exact ⟨u, o, hk' _ _ hb h1, h2⟩

noncomputable def slotIs (cc : CC) : Expr → Nat → Bool
  | .Name x _, i => cc.C.lookup x == some i
  | _, _ => false
noncomputable def slotsAre (cc : CC) : List Expr → List Nat → Bool
  | [], [] => true
  | e :: es, i :: is => slotIs cc e i && slotsAre cc es is
  | _, _ => false
noncomputable def nameKs (ok : Str → Bool) : List Expr → Bool
  | [] => true
  | .Name x _ :: r => ok x && nameKs ok r
  | _ :: _ => false
noncomputable def tgtIs (cc : CC) (tgt : Expr) (tg : List Nat) (one : Bool) : Bool := match one, tgt, tg with
  | true, .Name x _, [i] => cc.C.lookup x == some i
  | false, .Tuple es _ _, tg => slotsAre cc es tg
  | _, _, _ => false
noncomputable def tgtNames : Expr → List Str
  | .Name x _ => [x]
  | .Tuple es _ _ => es.filterMap fun e => match e with | .Name x _ => some x | _ => none
  | _ => []

noncomputable def setAll (ρ : Env) (ps : List (Nat × V)) : Env := ps.foldl (fun r p => r.set p.1 (some p.2)) ρ
noncomputable def parts : V → Option (List V)
  | .d (.tup ds) => some (ds.map .d)
  | .mix n ds => some (.loc n :: ds.map .d)
  | _ => none
theorem bindT_two {tg : List Nat} {x : V} {ρ ρ1 : Env} (h : bindT tg false x ρ = some ρ1) : ∃ xs, parts x = some xs ∧ xs.length = tg.length ∧ ρ1 = setAll ρ (tg.zip xs) ∧ ∀ i ∈ tg, i < ρ.length := by
  cases x with
  | d x =>
    cases x with
    | tup ds =>
      simp only [bindT] at h
      split at h
      · rename_i hc
        cases h
        refine ⟨ds.map .d, rfl, by simpa using hc.1, ?_, hc.2⟩
        unfold setAll
        rw [List.zip_map_right, List.foldl_map]
        rfl
      · cases h
    | _ => simp [bindT] at h
  | loc n => simp [bindT] at h
  | mix n ds =>
    simp only [bindT] at h
    split at h
    · rename_i hc
      cases h
      exact ⟨.loc n :: ds.map .d, rfl, by simpa using hc.1, rfl, hc.2⟩
    · cases h

theorem assignNames : ∀ {elts : List Expr} {tg : List Nat} {xs : List V} {vals : List Value} {ρ : Env} {s : Shared} {Q : Unit → Shared → Prop}, slotsAre cc elts tg = true → xs.length = tg.length → VRels G F xs vals → EnvOk env cc → Inv G F live s → FrameR G env cc.C ρ F live s.heap →
    (∀ a, W a → F a = none ∧ live a = none) → (∀ x ∈ (elts.filterMap fun e => match e with | .Name x _ => some x | _ => none), Wr env cc W x) →
    (∀ s', Inv G F live s' → StepS W F live s F live s' → FrameR G env cc.C (setAll ρ (tg.zip xs)) F live s'.heap → Q () s') → wpAny (Mo G) A (assignInOrder ((assignEach elts env).map (·.2)) vals) Q Ex s
  | [], [], [], vals, ρ, s, Q, _, _, r, eo, I, fr, _, _, h => by
    cases r
    exact wpAny_assignInOrder_none (h s I .refl fr)
  | e :: es, i :: is, x :: xs, vals, ρ, s, Q, hs, hl, r, eo, I, fr, hW, hw, h => by
    obtain ⟨v, t, rfl, rv, rt⟩ := r
    simp only [slotsAre, Bool.and_eq_true] at hs
    cases e with
    | Name y p =>
      simp only [slotIs, beq_iff_eq] at hs
      show wpAny _ _ (assignInOrder (assign (.Name y p) env :: (assignEach es env).map (·.2)) (v :: t)) _ _ _
      refine wpAny_assignInOrder_more (wpAny_assign_Name (store_ok eo I fr hs.1 (hw y (by simp)) hW rv fun s' I' st' fr' => ?_))
      refine assignNames hs.2 (by simpa using hl) rt eo I' fr' hW (fun z hz => hw z (by simp only [List.filterMap_cons]; exact List.mem_cons_of_mem _ hz)) fun s'' I'' st'' fr'' => h s'' I'' (st'.trans st'') fr''
    | _ => simp [slotIs] at hs
  | [], _ :: _, _, _, _, _, _, hs, _, _, _, _, _, _, _, _ => by cases hs
  | _ :: _, [], _, _, _, _, _, hs, _, _, _, _, _, _, _, _ => by cases hs
  | [], [], _ :: _, _, _, _, _, _, hl, _, _, _, _, _, _, _ => by cases hl
  | _ :: _, _ :: _, [], _, _, _, _, _, hl, _, _, _, _, _, _, _ => by cases hl

theorem slotsAre_each : ∀ {elts : List Expr} {tg : List Nat}, slotsAre cc elts tg = true → (assignEach elts env).length = tg.length ∧ (assignEach elts env).findIdx? (·.1) = none
  | [], [], _ => ⟨rfl, rfl⟩
  | e :: es, i :: is, h => by
    simp only [slotsAre, Bool.and_eq_true] at h
    obtain ⟨h1, h2⟩ := slotsAre_each (elts := es) h.2
    cases e with
    | Name y p =>
      constructor
      · show (assignEach es env).length + 1 = _; rw [h1]; rfl
      · show List.findIdx? _ ((false, _) :: assignEach es env) = _
        simp [List.findIdx?_cons, h2]
    | _ => simp [slotIs] at h
  | [], _ :: _, h => by cases h
  | _ :: _, [], h => by cases h
end
end Mine

set_option Elab.async false
set_option linter.unusedVariables false
namespace Mine
open PySem PySem.SeqAt PyProof.Rows

section
variable {G : GP} {cc : CC} {env : PySem.Env} {W : Addr → Prop} {ρ : Env} {F F' F'' : FH} {live live' live'' : Hp} {s s' s'' : Shared} {A : Around} {Ex : Value → Shared → Prop} {Q Q' : KV} {x y : V} {v u : Value} {ht : Nat}

theorem lock_eq {n : Nat} : (live n = none ∧ lock live (some n) = live) ∨ (∃ o, live n = some o ∧ o.boxy = true ∧ lock live (some n) = live.upd n (.ro o)) ∨ (∃ o, live n = some o ∧ o.boxy = false ∧ lock live (some n) = live) := by
  unfold lock
  cases e : live n with
  | none => exact .inl ⟨rfl, by simp only [e]⟩
  | some o =>
    cases hb : o.boxy with
    | true => exact .inr (.inl ⟨o, rfl, hb, by simp only [e, hb]; rfl⟩)
    | false => exact .inr (.inr ⟨o, rfl, hb, by simp only [e, hb]; rfl⟩)
theorem lock_some {n m : Nat} {o : AO} (h : lock live (some n) m = some o) : (m = n ∧ ∃ o', live n = some o' ∧ o'.boxy = true ∧ o = .ro o') ∨ live m = some o := by
  rcases lock_eq (live := live) (n := n) with ⟨_, e⟩ | ⟨o', e1, e2, e⟩ | ⟨_, _, _, e⟩
  · rw [e] at h; exact .inr h
  · rw [e] at h
    unfold Hp.upd at h
    split at h
    · rename_i hm; cases h; exact .inl ⟨hm, o', e1, e2, rfl⟩
    · exact .inr h
  · rw [e] at h; exact .inr h
theorem lock_other {n m : Nat} (h : m ≠ n) : lock live (some n) m = live m := by
  rcases lock_eq (live := live) (n := n) with ⟨_, e⟩ | ⟨o', e1, e2, e⟩ | ⟨_, _, _, e⟩
  · rw [e]
  · rw [e, Hp.upd_ne _ _ h]
  · rw [e]
theorem lock_hid {n m : Nat} (h : live m = some .hid) : lock live (some n) m = some .hid := by
  by_cases e : m = n
  · subst e
    rcases lock_eq (live := live) (n := m) with ⟨_, e⟩ | ⟨o', e1, e2, e⟩ | ⟨_, _, _, e⟩
    · rw [e]; exact h
    · rw [h] at e1; cases e1; cases e2
    · rw [e]; exact h
  · rw [lock_other e]; exact h
theorem lock_none {n m : Nat} (h : live m = none) : lock live (some n) m = none := by
  by_cases e : m = n
  · subst e
    rcases lock_eq (live := live) (n := m) with ⟨_, e⟩ | ⟨o', e1, e2, e⟩ | ⟨_, _, _, e⟩
    · rw [e]; exact h
    · rw [h] at e1; cases e1
    · rw [e]; exact h
  · rw [lock_other e]; exact h
theorem Inv.lock (I : Inv G F live s) (src : Option Nat) : Inv G F (lock live src) s := by
  cases src with
  | none => exact I
  | some n =>
    refine ⟨I.base, I.sub, fun m o e => ?_, fun m o dx e q => ?_, I.big⟩
    · rcases lock_some e with ⟨rfl, o', h1, h2, rfl⟩ | h
      · have := I.lv _ _ h1; exact ⟨this.1, this.2⟩
      · exact I.lv _ _ h
    · rcases lock_some e with ⟨rfl, o', h1, h2, rfl⟩ | h
      · exact lock_hid (I.ih _ o' dx h1 q)
      · exact lock_hid (I.ih _ o dx h q)
theorem FrameR.lock {C : List (Str × Nat)} {h : Heap} (fr : FrameR G env C ρ F live h) (src : Option Nat) : FrameR G env C ρ F (lock live src) h := by
  cases src with
  | none => exact fr
  | some n => exact ⟨fr.vars, fun a ha => by obtain ⟨h1, h2, h3⟩ := fr.own a ha; exact ⟨h1, lock_none h2, h3⟩, fr.ns, fr.cel⟩

theorem unlock_ok {src : Option Nat} (I₀ : Inv G F live s) (st : StepS W F (lock live src) s F' live' s') (hW : ∀ a, W a → s.heap.get? a = none ∨ live a = none) (I : Inv G F' live' s') :
    Inv G F' (unlock live live' src) s' ∧ StepS W F live s F' (unlock live live' src) s' ∧ ∀ a, live a = none → live' a = none → unlock live live' src a = none := by
  cases src with
  | none => exact ⟨I, st, fun a _ h => h⟩
  | some n =>
    cases e : live n with
    | none =>
      have e1 : lock live (some n) = live := by unfold lock; simp only [e]
      have e2 : unlock live live' (some n) = live' := by unfold unlock; simp only [e]
      rw [e1] at st; rw [e2]; exact ⟨I, st, fun a _ h => h⟩
    | some o =>
      by_cases hb : o.boxy = true
      · have e1 : lock live (some n) = live.upd n (.ro o) := by unfold lock; simp only [e, hb]; rfl
        have e2 : unlock live live' (some n) = live'.upd n o := by unfold unlock; simp only [e, hb]; rfl
        obtain ⟨ob, hob⟩ := (I₀.lv _ _ e).2.there
        have hWn : ¬ W n := fun w => by
          rcases hW n w with h | h
          · rw [h] at hob; cases hob
          · rw [h] at e; cases e
        have k := st.keep n ob hob hWn (by rw [e1, Hp.upd_self]; rfl)
        rw [e1, Hp.upd_self] at k
        rw [e2]
        have bo : dxOf o = none := by cases o <;> first | rfl | cases hb
        refine ⟨⟨I.base, I.sub, fun m om q => ?_, fun m om dx q z => ?_, I.big⟩, ⟨st.mono, fun a oa q nw mb => ?_, st.gens, st.os⟩, fun a h1 h2 => ?_⟩
        · unfold Hp.upd at q
          split at q
          · rename_i hm; subst hm; cases q; have h := I.lv m _ k.2.1; exact ⟨h.1, h.2⟩
          · exact I.lv _ _ q
        · unfold Hp.upd at q
          split at q
          · cases q; rw [bo] at z; cases z
          · have h := I.ih _ _ _ q z
            rw [Hp.upd_ne]; exact h
            intro y; rw [y, k.2.1] at h; cases h
        · have hne : a ≠ n := by
            intro y; subst y; rw [e] at mb
            cases o <;> simp_all [AO.boxy, mutb]
          have := st.keep a oa q nw (by rw [e1, Hp.upd_ne _ _ hne]; exact mb)
          rw [e1, Hp.upd_ne _ _ hne] at this
          rw [Hp.upd_ne _ _ hne]; exact this
        · rw [Hp.upd_ne]; exact h2
          intro y; subst y; rw [e] at h1; cases h1
      · have e1 : lock live (some n) = live := by unfold lock; simp only [e, hb]; rfl
        have e2 : unlock live live' (some n) = live' := by unfold unlock; simp only [e, hb]; rfl
        rw [e1] at st; rw [e2]; exact ⟨I, st, fun a _ h => h⟩

noncomputable def Item (G : GP) (F : FH) (h : Heap) (one : Bool) (x : V) (v : Value) : Prop := match one with
  | true => VRel G F x v
  | false => ∃ T vals xs, v = .ref T ∧ h.IsTuple T vals ∧ parts x = some xs ∧ VRels G F xs vals.toList

structure KT (M : Model) (A : Around) (tgt : Expr) (J : Addr) (fp wr : List Addr) (n : Nat) (P Md : Nat → Value → Heap → Prop) (St : Nat → Heap → Prop) : Prop where
  sub : ∀ b ∈ wr, b ∈ fp
  frame : ∀ i h h', St i h → (∀ b ∈ fp, ∀ o, h.get? b = some o → h'.get? b = some o) → St i h'
  item : ∀ i (s : Shared) (Q : Option Value → Shared → Prop) (E : Value → Shared → Prop), i < n → St i s.heap →
    (∀ v h' tk, Md i v h' → (∀ b o, b ∉ wr → s.heap.get? b = some o → h'.get? b = some o) → Q (some v) { s with heap := h', toks := tk }) → wpAny M A (pyNext (.ref J)) Q E s
  go : ∀ i v (s : Shared) (Q : Unit → Shared → Prop) (E : Value → Shared → Prop), Md i v s.heap →
    (∀ h', P i v h' → St (i + 1) h' → (∀ b o, b ∉ wr → s.heap.get? b = some o → h'.get? b = some o) → Q () { s with heap := h' }) → wpAny M A (letOwnedTupleGo tgt (.ref J) v) Q E s
  done : ∀ (s : Shared) (Q : Option Value → Shared → Prop) (E : Value → Shared → Prop), St n s.heap →
    (∀ h' tk, (∀ b o, b ∉ wr → s.heap.get? b = some o → h'.get? b = some o) → Q none { s with heap := h', toks := tk }) → wpAny M A (pyNext (.ref J)) Q E s
theorem kt_walks {J : Addr} {fp wr : List Addr} {n : Nat} {P : Nat → Value → Prop} {St : Nat → Heap → Prop} {tgt : Expr} (W : Walks G.prog G.w A J fp wr n P St)
    (hgo : ∀ i v (s : Shared) (Q : Unit → Shared → Prop) (E : Value → Shared → Prop), St i s.heap → Q () s → wpAny (Mo G) A (letOwnedTupleGo tgt (.ref J) v) Q E s) :
    KT (Mo G) A tgt J fp wr n (fun i v _ => P i v) (fun i v h => P i v ∧ St (i + 1) h) St :=
  ⟨W.sub, W.frame, fun i s Q E hi st k => W.item i s Q E hi st fun v h' tk p st' => k v h' tk ⟨p, st'⟩, fun i v s Q E m k => hgo (i + 1) v s Q E m.2 (k s.heap m.1 m.2 fun _ _ _ e => e), W.done⟩
theorem kt_walksU {elts : List Expr} {k : Nat} {pos : Pos} {J : Addr} {fp wr : List Addr} {n : Nat} {Pt : Nat → Array Value → Prop} {St : Nat → Heap → Prop} {Mid : Nat → Addr → Heap → Prop} (W : WalksU G.prog G.w A J fp wr n Pt St Mid) :
    KT (Mo G) A (.Tuple elts k pos) J fp wr n (fun i v h => ∃ T vals, v = .ref T ∧ Pt i vals ∧ h.IsTuple T vals) (fun i v h => ∃ T vals, v = .ref T ∧ Pt i vals ∧ h.IsTuple T vals ∧ Mid i T h) St := by
  refine ⟨W.sub, W.frame, fun i s Q E hi st q => W.item i s Q E hi st fun T vals h' tk hP hT hm => q (.ref T) h' tk ⟨T, vals, rfl, hP, hT, hm⟩, ?_, W.done⟩
  rintro i _ s Q E ⟨T, vals, rfl, hP, hT, hm⟩ q
  exact W.go elts k pos i T s Q E hm fun h' st hk => q h' ⟨T, vals, rfl, hP, hT.at fun o e => hk T o (W.apart i T _ hm) e⟩ st hk

structure Turn (G : GP) (A : Around) (tgt : Expr) (one : Bool) (F₀ : FH) (l₀ : Hp) (s₀ : Shared) (xs : List V) (I : Addr) (fp wr : List Addr) (P Md : Nat → Value → Heap → Prop) (St : Nat → Heap → Prop) : Prop where
  kt : KT (Mo G) A tgt I fp wr xs.length P Md St
  self : ∀ i (s : Shared) (Q : Value → Shared → Prop) (E : Value → Shared → Prop), St i s.heap → Q (.ref I) s → wpAny (Mo G) A (pyIter (.ref I)) Q E s
  new : ∀ b ∈ wr, s₀.heap.get? b = none
  live : ∀ i h, St i h → ∀ b ∈ wr, ∃ o, h.get? b = some o
  ro : ∀ b ∈ fp, b ∉ wr → mutb (l₀ b) = false ∧ ∃ o, s₀.heap.get? b = some o ∧ (F₀ b ≠ none ∨ l₀ b ≠ none)
  item : ∀ i x v h F, xs[i]? = some x → (one = false → (parts x).isSome = true) → P i v h → FLe F₀ F → Sub F h → Item G F h one x v

structure Loop (G : GP) (env : PySem.Env) (C : List (Str × Nat)) (W : Addr → Prop) (F₀ : FH) (l₀ : Hp) (s₀ : Shared) (wr : List Addr) (St : Nat → Heap → Prop) (i : Nat) (ρ : Env) (F : FH) (live : Hp) (s : Shared) : Prop where
  st : StepS W F₀ l₀ s₀ F live s
  inv : Inv G F live s
  fr : FrameR G env C ρ F live s.heap
  here : St i s.heap
  it : ∀ b ∈ wr, F b = none ∧ live b = none

variable {tgt : Expr} {one : Bool} {F₀ : FH} {l₀ : Hp} {s₀ : Shared} {xs : List V} {J : Addr} {fp wr : List Addr} {P Md : Nat → Value → Heap → Prop} {St : Nat → Heap → Prop}

theorem Loop.next (T : Turn G A tgt one F₀ l₀ s₀ xs J fp wr P Md St) (hd : ∀ b ∈ fp, ¬ W b) {C : List (Str × Nat)} {i : Nat} {ρ ρ' : Env} (L : Loop G env C W F₀ l₀ s₀ wr St i ρ F live s) (st : StepS W F live s F' live' s') (I : Inv G F' live' s') (fr : FrameR G env C ρ' F' live' s'.heap) :
    Loop G env C W F₀ l₀ s₀ wr St i ρ' F' live' s' := by
  refine ⟨L.st.trans st, I, fr, ?_, fun b hb => ?_⟩
  · refine T.kt.frame i _ _ L.here fun b hb o e => ?_
    refine (st.keep b o e (hd b hb) ?_).1
    by_cases hw : b ∈ wr
    · rw [(L.it b hw).2]; rfl
    · obtain ⟨m, o', ho', _⟩ := T.ro b hb hw
      have := L.st.keep b o' ho' (hd b hb) m
      rw [this.2.1]; exact m
  · obtain ⟨o, e⟩ := T.live i _ L.here b hb
    obtain ⟨h1, h2⟩ := L.it b hb
    have := st.keep b o e (hd b (T.kt.sub b hb)) (by rw [h2]; rfl)
    exact ⟨this.2.2 h1, this.2.1.trans h2⟩

theorem Loop.tick (T : Turn G A tgt one F₀ l₀ s₀ xs J fp wr P Md St) {C : List (Str × Nat)} {i j : Nat} (hown : ∀ b ∈ wr, ¬ Own env b) (st : StepS W F₀ l₀ s₀ F live s) (I : Inv G F live s) (fr : FrameR G env C ρ F live s.heap) (it : ∀ b ∈ wr, F b = none ∧ live b = none)
    {h' : Heap} {tk : Nat} (hk : ∀ b o, b ∉ wr → s.heap.get? b = some o → h'.get? b = some o) :
    StepS W F₀ l₀ s₀ F live { s with heap := h', toks := tk } ∧ Inv G F live { s with heap := h', toks := tk } ∧ FrameR G env C ρ F live h' := by
  refine ⟨⟨st.mono, fun a o e nw m => ?_, st.gens, st.os⟩, I.outside (W := (· ∈ wr)) it hk, ?_⟩
  · obtain ⟨h1, h2, h3⟩ := st.keep a o e nw m
    refine ⟨hk a o (fun w => ?_) h1, h2, h3⟩
    rw [T.new a w] at e; cases e
  · have hk' : ∀ a, Own env a → ∀ o, s.heap.get? a = some o → h'.get? a = some o := fun a ha o e => hk a o (fun w => hown a w ha) e
    refine ⟨fun x i V h1 h2 => ?_, fun a ha => ?_, ?_, fun x c hc => ?_⟩
    · obtain ⟨v, l, r⟩ := fr.vars x i V h1 h2
      exact ⟨v, l.keep hk', r⟩
    · obtain ⟨h1, h2, o, h3⟩ := fr.own a ha
      exact ⟨h1, h2, o, hk' a ha o h3⟩
    · obtain ⟨m, h⟩ := fr.ns
      exact ⟨m, h.at fun o e => hk' _ (.inl rfl) o e⟩
    · obtain ⟨v, o, h1, h2⟩ := fr.cel x c hc
      exact ⟨v, o, hk' _ (.inr ⟨x, hc⟩) _ h1, h2⟩

theorem FrameR.mono {C : List (Str × Nat)} {h h' : Heap} (fr : FrameR G env C ρ F live h) (hk : ∀ a, Own env a → ∀ o, h.get? a = some o → h'.get? a = some o) : FrameR G env C ρ F live h' := by
  refine ⟨fun x i V h1 h2 => ?_, fun a ha => ?_, ?_, fun x c hc => ?_⟩
  · obtain ⟨v, l, r⟩ := fr.vars x i V h1 h2
    exact ⟨v, l.keep hk, r⟩
  · obtain ⟨h1, h2, o, h3⟩ := fr.own a ha
    exact ⟨h1, h2, o, hk a ha o h3⟩
  · obtain ⟨m, h⟩ := fr.ns
    exact ⟨m, h.at fun o e => hk _ (.inl rfl) o e⟩
  · obtain ⟨v, o, h1, h2⟩ := fr.cel x c hc
    exact ⟨v, o, hk _ (.inr ⟨x, hc⟩) _ h1, h2⟩

theorem assign_ok (hh : A.handled = none) {tg : List Nat} {v : Value} {x : V} {ρ1 : Env} (eo : EnvOk env cc) (I : Inv G F live s) (fr : FrameR G env cc.C ρ F live s.heap) (hWn : ∀ a, W a → F a = none ∧ live a = none)
    (ht : tgtIs cc tgt tg one = true) (hb : bindT tg one x ρ = some ρ1) (hw : ∀ x ∈ tgtNames tgt, Wr env cc W x) (it : Item G F s.heap one x v) {Q : Unit → Shared → Prop}
    (h : ∀ s', Inv G F live s' → StepS W F live s F live s' → FrameR G env cc.C ρ1 F live s'.heap → Q () s') : wpAny (Mo G) A (assign tgt env v) Q Ex s := by
  cases one with
  | true =>
    unfold tgtIs at ht
    split at ht
    · rename_i y p i h1
      simp only [beq_iff_eq] at ht
      simp only [bindT] at hb
      split at hb
      · cases hb
        exact wpAny_assign_Name (store_ok eo I fr ht (hw y (by simp [tgtNames])) hWn it h)
      · cases hb
    · rename_i h1; cases h1
    · cases ht
  | false =>
    unfold tgtIs at ht
    split at ht
    · rename_i h1; cases h1
    · rename_i es k p h1
      obtain ⟨T, vals, xs, rfl, hT, hp, r⟩ := it
      obtain ⟨xs', hp', hl, rfl, hlt⟩ := bindT_two hb
      rw [hp] at hp'; cases hp'
      obtain ⟨q1, q2⟩ := slotsAre_each (env := env) ht
      have hsz : xs.length = vals.size := by
        have := r.length; rw [Array.length_toList] at this; exact this.symm
      refine wpAny_assign_Tuple hh hT (q1.trans (hl.symm.trans hsz)) q2 fun h' hx => ?_
      have hk : ∀ b o, s.heap.get? b = some o → h'.get? b = some o := fun b o e => hx b o (fun z => by rw [z] at e; rw [push_new] at e; cases e) e
      have I' : Inv G F live { s with heap := h' } := I.outside (W := fun _ => False) (fun _ f => f.elim) fun b o _ e => hk b o e
      refine assignNames ht hl r eo I' (fr.mono fun a _ o e => hk a o e) hWn hw fun s'' I'' st'' fr'' => h s'' I'' ?_ fr''
      exact (StepS.outside (s' := { s with heap := h' }) (fun b o _ e => hk b o e) rfl rfl).trans st''
    · cases ht

theorem turn_step (T : Turn G A tgt one F₀ l₀ s₀ xs J fp wr P Md St) (hh : A.handled = none) (eo : EnvOk env cc) (hWo : ∀ a, W a → F a = none ∧ live a = none) (hown : ∀ b ∈ wr, ¬ Own env b) (hd : ∀ b ∈ fp, ¬ W b)
    {tg : List Nat} {i : Nat} {x : V} {ρ1 : Env} (ht : tgtIs cc tgt tg one = true) (hw : ∀ x ∈ tgtNames tgt, Wr env cc W x) (hi : xs[i]? = some x) (hb : bindT tg one x ρ = some ρ1) (L : Loop G env cc.C W F₀ l₀ s₀ wr St i ρ F live s)
    {N : Shared → Prop} {K : Shared → Prop} (h : ∀ s', Loop G env cc.C W F₀ l₀ s₀ wr St (i + 1) ρ1 F live s' → (∀ b o, b ∉ wr → ¬ W b → mutb (live b) = false → s.heap.get? b = some o → s'.heap.get? b = some o) → K s') :
    wpAny (Mo G) A (pyNext (.ref J)) (fun r s₁ => match r with
      | none => N s₁
      | some v => wpAny (Mo G) A (letOwnedTupleGo tgt (.ref J) v) (fun _ s₁' => wpAny (Mo G) A (assign tgt env v) (fun _ s₂ => K s₂) Ex s₁') Ex s₁) Ex s := by
  have hlt : i < xs.length := by
    cases Nat.lt_or_ge i xs.length with
    | inl h => exact h
    | inr h => rw [List.getElem?_eq_none h] at hi; cases hi
  refine T.kt.item i s _ _ hlt L.here fun v h' tk hM hk => ?_
  obtain ⟨st1, I1, fr1⟩ := Loop.tick T (i := i) (j := i) hown L.st L.inv L.fr L.it (tk := tk) hk
  refine T.kt.go i v _ _ _ hM fun h'' hP hS hk' => ?_
  obtain ⟨st2, I2, fr2⟩ := Loop.tick T (i := i) (j := i) hown st1 I1 fr1 L.it (tk := tk) hk'
  refine assign_ok hh eo I2 fr2 hWo ht hb hw (T.item i x v h'' F hi (fun h => by subst h; obtain ⟨ps, e, _⟩ := bindT_two hb; rw [e]; rfl) hP L.st.mono I2.sub) fun s' I' st' fr' => ?_
  have L2 : Loop G env cc.C W F₀ l₀ s₀ wr St (i + 1) ρ F live { s with heap := h'', toks := tk } := ⟨st2, I2, fr2, hS, L.it⟩
  have L3 := L2.next T hd st' I' fr'
  exact h s' L3 fun b o hb hw hm e => (st'.keep b o (hk' b o hb (hk b o hb e)) hw hm).1

theorem turn_done (T : Turn G A tgt one F₀ l₀ s₀ xs J fp wr P Md St) (hown : ∀ b ∈ wr, ¬ Own env b) {C : List (Str × Nat)} (L : Loop G env C W F₀ l₀ s₀ wr St xs.length ρ F live s) {N : Option Value → Shared → Prop}
    (h : ∀ s', Inv G F live s' → StepS W F₀ l₀ s₀ F live s' → FrameR G env C ρ F live s'.heap → (∀ b o, b ∉ wr → s.heap.get? b = some o → s'.heap.get? b = some o) → N none s') : wpAny (Mo G) A (pyNext (.ref J)) N Ex s := by
  refine T.kt.done s _ _ L.here fun h' tk hk => ?_
  obtain ⟨st1, I1, fr1⟩ := Loop.tick T (i := 0) (j := 0) hown L.st L.inv L.fr L.it (tk := tk) hk
  exact h _ I1 st1 fr1 hk
end
end Mine

set_option Elab.async false
set_option linter.unusedVariables false
namespace Mine
open PySem PySem.SeqAt PyProof.Rows

noncomputable def SndS (G : GP) (cc : CC) (st : Stmt) (t : S) : Prop := ∀ (env : PySem.Env) (A : Around) (ρ : Env) (F : FH) (live : Hp) (s : Shared) (Q : KS) (X : XP), EnvOk env cc → Room A cc.ht → (∀ c l, ¬ X c l) →
  Inv G F live s → FrameR G env cc.C ρ F live s.heap → vS (CallOK G) t ρ live Q X → wpAny (Mo G) A (exec st env) (PS G env cc.C ρ.length F live s Q) (fun _ _ => False) s
noncomputable def SndSs (G : GP) (cc : CC) (st : List Stmt) (t : List S) : Prop := ∀ (env : PySem.Env) (A : Around) (ρ : Env) (F : FH) (live : Hp) (s : Shared) (Q : KS) (X : XP), EnvOk env cc → Room A cc.ht → (∀ c l, ¬ X c l) →
  Inv G F live s → FrameR G env cc.C ρ F live s.heap → vSs (CallOK G) t ρ live Q X → wpAny (Mo G) A (execs st env) (PS G env cc.C ρ.length F live s Q) (fun _ _ => False) s

noncomputable def IterAt (G : GP) (A : Around) (tgt : Expr) (one : Bool) (F : FH) (live : Hp) (s : Shared) (K : List V → Option Nat → Hp → Prop) (v : Value) (s₂ : Shared) : Prop :=
  ∃ F' live' xs src sM J fp wr P Md St, Step F live s F' live' sM ∧ Inv G F' live' sM ∧ K xs src live' ∧ v = .ref J ∧ Turn G A tgt one F' (lock live' src) sM xs J fp wr P Md St ∧ St 0 s₂.heap ∧
    (∀ b o, sM.heap.get? b = some o → s₂.heap.get? b = some o) ∧ s₂.gens = sM.gens ∧ s₂.os = sM.os
noncomputable def SndI (G : GP) (cc : CC) (iter : Expr) (it : It) (tgt : Expr) (one : Bool) : Prop := ∀ (env : PySem.Env) (A : Around) (ρ : Env) (F : FH) (live : Hp) (s : Shared) (K : List V → Option Nat → Hp → Prop) (X : XP), EnvOk env cc → Room A cc.ht → (∀ c l, ¬ X c l) →
  Inv G F live s → FrameR G env cc.C ρ F live s.heap → vIt (CallOK G) it ρ live K X → wpAny (Mo G) A (eval iter env) (fun x s₁ => wpAny (Mo G) A (pyIter x) (IterAt G A tgt one F live s K) (fun _ _ => False) s₁) (fun _ _ => False) s

section
variable {G : GP} {cc : CC} {env : PySem.Env} {W : Addr → Prop} {ρ : Env} {F F' F'' : FH} {live live' live'' : Hp} {s s' s'' : Shared} {A : Around} {Ex : Value → Shared → Prop} {Q Q' : KS} {x y : V} {v u : Value} {ht : Nat}

theorem PS.after {C : List (Str × Nat)} {n : Nat} (st : StepS (Own env) F live s F' live' s') {f : Flow} (p : PS G env C n F' live' s' Q f s'') : PS G env C n F live s Q f s'' :=
  let ⟨F₂, l₂, ρ', fl, a, b⟩ := p
  ⟨F₂, l₂, ρ', fl, st.trans a, b⟩
theorem afterS {C : List (Str × Nat)} {n : Nat} {t : Sem Flow} (st : StepS (Own env) F live s F' live' s') (h : wpAny (Mo G) A t (PS G env C n F' live' s' Q) Ex s') : wpAny (Mo G) A t (PS G env C n F live s Q) Ex s' :=
  wpAny_mono h (fun _ _ => PS.after st) fun _ _ x => x
theorem own_none {C : List (Str × Nat)} (fr : FrameR G env C ρ F live s.heap) : ∀ a, Own env a → F a = none ∧ live a = none := fun a ha => ⟨(fr.own a ha).1, (fr.own a ha).2.1⟩

theorem sSs_nil : SndSs G cc [] [] := by
  intro env A ρ F live s Q X eo R hX I fr q
  exact wpAny_execs_nil ⟨F, live, ρ, .nx, .refl, I, fr, rfl, rfl, q⟩
theorem sSs_cons {st : Stmt} {sts : List Stmt} {t : S} {ts : List S} (h : SndS G cc st t) (hs : SndSs G cc sts ts) : SndSs G cc (st :: sts) (t :: ts) := by
  intro env A ρ F live s Q X eo R hX I fr q
  refine wpAny_execs_cons (wpAny_mono (h env A ρ F live s _ X eo R hX I fr q) ?_ fun _ _ x => x)
  rintro f s1 ⟨F1, l1, ρ1, fl, st1, I1, fr1, hl, hf, h1⟩
  cases fl with
  | nx =>
    cases hf
    have := hs env A ρ1 F1 l1 s1 _ X eo R hX I1 fr1 h1
    rw [hl] at this
    exact afterS st1 this
  | ct =>
    cases hf
    exact ⟨F1, l1, ρ1, .ct, st1, I1, fr1, hl, rfl, h1⟩
  | rt v =>
    obtain ⟨w, rfl, r⟩ := hf
    exact ⟨F1, l1, ρ1, .rt v, st1, I1, fr1, hl, ⟨w, rfl, r⟩, h1⟩
theorem sS_ret {e : Mine.E} {ee : Expr} {pos : Pos} (h : SndE G cc ee e) : SndS G cc (.Return (some ee) pos) (.ret e) := by
  intro env A ρ F live s Q X eo R hX I fr q
  refine wpAny_Return_some (wpAny_mono (h env A ρ F live s _ X eo R hX I fr q) ?_ fun _ _ x => x)
  rintro v s1 ⟨F1, l1, x, st1, I1, r1, h1⟩
  exact ⟨F1, l1, ρ, .rt x, st1.toS, I1, fr.step st1, rfl, ⟨v, rfl, r1⟩, h1⟩
theorem sS_if {c : Mine.E} {ec : Expr} {a b : List Stmt} {ta tb : List S} {pos : Pos} (hc : SndC G cc ec c) (ha : SndSs G cc a ta) (hb : SndSs G cc b tb) : SndS G cc (.If ec a b pos) (.ite c ta tb) := by
  intro env A ρ F live s Q X eo R hX I fr q
  refine wpAny_If (wpAny_mono (hc env A ρ F live s _ X eo R hX I fr q) ?_ fun _ _ x => x)
  rintro r s1 ⟨F1, l1, st1, I1, h1⟩
  cases r with
  | true => exact afterS st1.toS (ha env A ρ F1 l1 s1 _ X eo R hX I1 (fr.step st1) (h1.1 rfl))
  | false => exact afterS st1.toS (hb env A ρ F1 l1 s1 _ X eo R hX I1 (fr.step st1) (h1.2 rfl))

noncomputable def noComp : Expr → Bool
  | .ListComp .. => false
  | .SetComp .. => false
  | .DictComp .. => false
  | _ => true
theorem swaps_not {e : Expr} (h : noComp e = true) (t : Option Expr) (l : Nat) (env : PySem.Env) : swapsWith e t l env = pure false := by
  cases e <;> first | rfl | cases h

theorem storeS (eo : EnvOk env cc) (I : Inv G F live s) (fr : FrameR G env cc.C ρ F live s.heap) {x : Str} {i : Nat} {V : V} {v : Value} (hx : cc.C.lookup x = some i) (hk : cc.sc.lookup x = some .local ∨ cc.sc.lookup x = some .cell) (hi : i < ρ.length) (r : VRel G F V v) (q : Q .nx (ρ.set i (some V)) live) :
    wpAny (Mo G) A (storeName env x v) (fun _ s' => PS G env cc.C ρ.length F live s Q .next s') Ex s := by
  refine store_ok (W := Own env) eo I fr hx ?_ (own_none fr) r fun s' I' st' fr' => ⟨F, live, _, .nx, st', I', fr', by simp, rfl, q⟩
  rcases hk with hk | hk
  · exact .inl ⟨hk, .inl rfl⟩
  · exact .inr ⟨hk, fun c hc => .inr ⟨x, hc⟩⟩
theorem sS_assign {e : Mine.E} {ee : Expr} {x : Str} {i : Nat} {p pos : Pos} (hn : noComp ee = true) (hx : cc.C.lookup x = some i) (hk : cc.sc.lookup x = some .local ∨ cc.sc.lookup x = some .cell) (h : SndE G cc ee e) :
    SndS G cc (.Assign [.Name x p] ee pos) (.assign i e) := by
  intro env A ρ F live s Q X eo R hX I fr q
  refine wpAny_Assign_Name (wpAny_mono (h env A ρ F live s _ X eo R hX I fr q) ?_ fun _ _ x => x) (swaps_not hn _ _ _)
  rintro v s1 ⟨F1, l1, V, st1, I1, r1, hi, h1⟩
  exact wpAny_mono (storeS eo I1 (fr.step st1) hx hk hi r1 h1) (fun _ _ => PS.after st1.toS) fun _ _ x => x
theorem interactive_not (eo : EnvOk env cc) : interactive env = false := by unfold interactive; rw [eo.kind]; rfl
theorem sS_expr {e : Mine.E} {ee : Expr} {pos : Pos} (hn : noComp ee = true) (h : SndE G cc ee e) : SndS G cc (.Expr ee pos) (.expr e) := by
  intro env A ρ F live s Q X eo R hX I fr q
  refine wpAny_Expr (wpAny_mono (h env A ρ F live s _ X eo R hX I fr q) ?_ fun _ _ x => x) (interactive_not eo) (swaps_not hn _ _ _)
  rintro v s1 ⟨F1, l1, V, st1, I1, r1, hi, h1⟩
  have fin : PS G env cc.C ρ.length F live s Q .next s1 := ⟨F1, l1, ρ, .nx, st1.toS, I1, fr.step st1, rfl, rfl, h1⟩
  cases V with
  | loc n => cases hi
  | mix n ds => cases hi
  | d x =>
    cases x with
    | none => cases r1; exact fin
    | bool b => cases r1; exact fin
    | int i => obtain ⟨t, rfl⟩ := r1; exact fin
    | str cs => obtain ⟨t, rfl, _⟩ := r1; exact fin
    | _ => cases hi

noncomputable def notTup : Expr → Bool
  | .Tuple .. => false
  | _ => true
theorem swapped_not {ts : List Expr} {k : Nat} {p : Pos} {e : Expr} (h : notTup e = true) (env : PySem.Env) : swappedStores [.Tuple ts k p] e env = pure none := by
  cases e <;> first | rfl | cases h

theorem bindT_one {tg : List Nat} {x : V} {ρ ρ1 : Env} (h : bindT tg true x ρ = some ρ1) : ∃ i, tg = [i] ∧ i < ρ.length ∧ ρ1 = ρ.set i (some x) := by
  match tg, h with
  | [], h => cases x <;> simp [bindT] at h
  | [i], h =>
    simp only [bindT] at h
    split at h
    · rename_i hi; cases h; exact ⟨i, rfl, hi, rfl⟩
    · cases h
  | _ :: _ :: _, h => cases x <;> simp [bindT] at h
theorem for_ok {tgt : Expr} {tg : List Nat} {one : Bool} {body : List Stmt} {tb : List S} {X : XP} (hb : SndSs G cc body tb) (ht : tgtIs cc tgt tg one = true) (hk : ∀ x ∈ tgtNames tgt, cc.sc.lookup x = some .local ∨ cc.sc.lookup x = some .cell) (eo : EnvOk env cc) (R : Room A cc.ht) (hX : ∀ c l, ¬ X c l)
    {F₀ : FH} {l₀ : Hp} {s₀ : Shared} {xs : List V} {J : Addr} {fp wr : List Addr} {P Md : Nat → Value → Heap → Prop} {St : Nat → Heap → Prop} (T : Turn G A tgt one F₀ l₀ s₀ xs J fp wr P Md St) (hd : ∀ b ∈ fp, ¬ Own env b)
    {n : Nat} (hn : ρ.length = n) (L : Loop G env cc.C (Own env) F₀ l₀ s₀ wr St 0 ρ F live s) (q : forL tg one (fun ρ1 live2 Q' => vSs (CallOK G) tb ρ1 live2 Q' X) xs ρ live Q) :
    codeAny (Mo G) A (.forLoop tgt (.ref J) body [] env) (fun r s' => match r with | .ok f => PS G env cc.C n F₀ l₀ s₀ Q f s' | .error _ => False) s := by
  have hWr : ∀ x ∈ tgtNames tgt, Wr env cc (Own env) x := fun x hx => (hk x hx).elim (fun h => .inl ⟨h, .inl rfl⟩) fun h => .inr ⟨h, fun c hc => .inr ⟨x, hc⟩⟩
  refine codeAny_forLoop_any (fun m s => ∃ i ρ F live, i + m = xs.length ∧ ρ.length = n ∧ Loop G env cc.C (Own env) F₀ l₀ s₀ wr St i ρ F live s ∧ forL tg one (fun ρ1 live2 Q' => vSs (CallOK G) tb ρ1 live2 Q' X) (xs.drop i) ρ live Q)
    (fun m s h => ?_) xs.length ⟨0, ρ, F, live, by simp, hn, L, q⟩
  obtain ⟨i, ρ, F, live, him, hn, L, q⟩ := h
  have hown : ∀ b ∈ wr, ¬ Own env b := fun b hb => hd b (T.kt.sub b hb)
  cases e : xs[i]? with
  | none =>
    have hge : xs.length ≤ i := by simpa using e
    have hi : i = xs.length := by omega
    subst hi
    refine turn_done T hown L fun s' I' st' fr' _ => ?_
    refine wpAny_execs_nil ?_
    rw [List.drop_eq_nil_of_le hge] at q
    exact ⟨F, live, ρ, .nx, st', I', fr', hn, rfl, q⟩
  | some x =>
    have hlt : i < xs.length := by
      cases Nat.lt_or_ge i xs.length with
      | inl h => exact h
      | inr h => rw [List.getElem?_eq_none h] at e; cases e
    have hdrop : xs.drop i = x :: xs.drop (i + 1) := by
      rw [List.drop_eq_getElem_cons hlt]
      rw [List.getElem?_eq_getElem hlt] at e
      cases e; rfl
    rw [hdrop] at q
    unfold forL at q
    split at q
    · rename_i ρ1 hb1
      have hl1 : ρ1.length = n := by
        cases one with
        | true =>
          obtain ⟨j, _, _, rfl⟩ := bindT_one hb1
          simpa using hn
        | false =>
          obtain ⟨ys, _, _, rfl, _⟩ := bindT_two hb1
          rw [← hn]
          have : ∀ (ps : List (Nat × V)) (ρ : Env), (setAll ρ ps).length = ρ.length := by
            intro ps
            induction ps with
            | nil => intro ρ; rfl
            | cons p r ih => intro ρ; show (setAll (ρ.set p.1 (some p.2)) r).length = _; rw [ih]; simp
          exact this _ _
      refine turn_step T R.hd eo (own_none L.fr) hown hd ht hWr e hb1 L fun s' L' st' => ?_
      refine noE (wpAny_mono (hb env A ρ1 F live s' _ X eo R hX L'.inv L'.fr q) ?_ fun _ _ x => x)
      rintro f s2 ⟨F2, l2, ρ2, fl, st2, I2, fr2, hl2, hf, h2⟩
      have L2 := L'.next T hd st2 I2 fr2
      cases fl with
      | nx => cases hf; exact ⟨m - 1, by omega, i + 1, ρ2, F2, l2, by omega, by rw [hl2, hl1], L2, h2⟩
      | ct => cases hf; exact ⟨m - 1, by omega, i + 1, ρ2, F2, l2, by omega, by rw [hl2, hl1], L2, h2⟩
      | rt v => obtain ⟨w, rfl, r⟩ := hf; exact ⟨F2, l2, ρ2, .rt v, L2.st, I2, fr2, by rw [hl2, hl1], ⟨w, rfl, r⟩, h2⟩
    · exact q.elim

noncomputable def noSet : Expr → Bool
  | .Set .. => false
  | _ => true
theorem folded_not {e : Expr} (h : noSet e = true) (env : PySem.Env) (x : Value) : foldedSetIterable e env x = pure x := by
  cases e <;> first | rfl | cases h

theorem sS_for {tgt iter : Expr} {tg : List Nat} {one : Bool} {it : It} {body : List Stmt} {tb : List S} {pos : Pos} (hs : noSet iter = true) (ht : tgtIs cc tgt tg one = true) (hk : ∀ x ∈ tgtNames tgt, cc.sc.lookup x = some .local ∨ cc.sc.lookup x = some .cell)
    (hi : SndI G cc iter it tgt one) (hb : SndSs G cc body tb) : SndS G cc (.For tgt iter body [] pos) (.for_ tg one it tb) := by
  intro env A ρ F live s Q X eo R hX I fr q
  refine wpAny_For (wpAny_mono (hi env A ρ F live s _ X eo R hX I fr q) (fun x s1 h => ?_) fun _ _ x => x) (folded_not hs env)
  refine wpAny_mono h (fun v s2 h2 => ?_) fun _ _ x => x
  obtain ⟨F', l', xs, src, sM, J, fp, wr, P, Md, St, st, I', q, rfl, T, h0, hk2, hg, ho⟩ := h2
  have frM := fr.step st
  have hdis : ∀ b ∈ fp, ¬ Own env b := fun b hb hown => by
    obtain ⟨h1, h2, o, h3⟩ := frM.own b hown
    by_cases hw : b ∈ wr
    · rw [T.new b hw] at h3; cases h3
    · obtain ⟨_, _, _, h5⟩ := T.ro b hb hw
      rcases h5 with h5 | h5
      · exact h5 h1
      · cases src with
        | none => exact h5 h2
        | some n => exact h5 (lock_none h2)
  have hwn : ∀ b ∈ wr, F' b = none ∧ lock l' src b = none := fun b hb => by
    have := I'.fresh (T.new b hb)
    refine ⟨this.1, ?_⟩
    cases src with
    | none => exact this.2
    | some n => exact lock_none this.2
  have stM : StepS (Own env) F' (lock l' src) sM F' (lock l' src) s2 := StepS.outside (fun b o _ e => hk2 b o e) hg ho
  have I2 : Inv G F' (lock l' src) s2 := (I'.lock src).outside (W := fun _ => False) (fun _ f => f.elim) fun b o _ e => hk2 b o e
  have L : Loop G env cc.C (Own env) F' (lock l' src) sM wr St 0 ρ F' (lock l' src) s2 := ⟨stM, I2, (frM.lock src).mono fun a _ o e => hk2 a o e, h0, hwn⟩
  refine codeAny_mono (for_ok hb ht hk eo R hX T hdis rfl L q) fun r s' p => ?_
  cases r with
  | error e => exact p.elim
  | ok f =>
    obtain ⟨F3, l3, ρ3, fl, st3, I3, fr3, hl3, hf3, q3⟩ := p
    obtain ⟨u1, u2, u3⟩ := unlock_ok (W := Own env) I' st3 (fun a ha => .inr (frM.own a ha).2.1) I3
    refine ⟨F3, _, ρ3, fl, st.toS.trans u2, u1, ⟨fr3.vars, fun a ha => ?_, fr3.ns, fr3.cel⟩, hl3, hf3, q3⟩
    obtain ⟨h1, h2, h3⟩ := fr3.own a ha
    exact ⟨h1, u3 a (frM.own a ha).2.1 h2, h3⟩

theorem sS_while {c : Mine.E} {ec : Expr} {body : List Stmt} {tb : List S} {pos : Pos} (hc : SndC G cc ec c) (hb : SndSs G cc body tb) : SndS G cc (.While ec body [] pos) (.while_ c tb) := by
  intro env A ρ F live s Q X eo R hX I fr q
  obtain ⟨J, ⟨n, hJ⟩, q⟩ := q
  refine wpAny_While ?_
  refine codeAny_whileLoop (fun n s' => ∃ ρ' F' live', ρ'.length = ρ.length ∧ StepS (Own env) F live s F' live' s' ∧ Inv G F' live' s' ∧ FrameR G env cc.C ρ' F' live' s'.heap ∧ J n ρ' live') (fun n s1 h => ?_) n ⟨ρ, F, live, rfl, .refl, I, fr, hJ⟩
  obtain ⟨ρ1, F1, l1, hl1, st1, I1, fr1, h1⟩ := h
  refine noE (wpAny_mono (hc env A ρ1 F1 l1 s1 _ X eo R hX I1 fr1 (q n ρ1 l1 h1)) ?_ fun _ _ x => x)
  rintro b s2 ⟨F2, l2, st2, I2, h2⟩
  cases b with
  | true =>
    refine noE (wpAny_mono (hb env A ρ1 F2 l2 s2 _ X eo R hX I2 (fr1.step st2) (h2.1 rfl)) ?_ fun _ _ x => x)
    rintro f s3 ⟨F3, l3, ρ3, fl, st3, I3, fr3, hl3, hf, h3⟩
    have st := (st1.trans st2.toS).trans st3
    cases fl with
    | nx => cases hf; obtain ⟨m, hm, h3⟩ := h3; exact ⟨m, hm, ρ3, F3, l3, by rw [hl3, hl1], st, I3, fr3, h3⟩
    | ct => cases hf; obtain ⟨m, hm, h3⟩ := h3; exact ⟨m, hm, ρ3, F3, l3, by rw [hl3, hl1], st, I3, fr3, h3⟩
    | rt v => obtain ⟨w, rfl, r⟩ := hf; exact ⟨F3, l3, ρ3, .rt v, st, I3, fr3, by rw [hl3, hl1], ⟨w, rfl, r⟩, h3⟩
  | false =>
    refine wpAny_execs_nil ?_
    exact ⟨F2, l2, ρ1, .nx, st1.trans st2.toS, I2, fr1.step st2, hl1, rfl, h2.2 rfl⟩
end
end Mine

set_option Elab.async false
set_option linter.unusedVariables false
namespace Mine
open PySem PySem.SeqAt PyProof.Rows

theorem setAll_over : ∀ {tg : List Nat} {xs : List V} {ρ ρ' : Env}, ρ.length = ρ'.length → (∀ j, j ∈ tg ∨ ρ[j]? = ρ'[j]?) → xs.length = tg.length → setAll ρ (tg.zip xs) = setAll ρ' (tg.zip xs)
  | [], xs, ρ, ρ', hl, h, _ => by
    have : ρ = ρ' := List.ext_getElem? fun j => (h j).elim (fun z => nomatch z) id
    rw [this]
  | i :: is, [], ρ, ρ', hl, h, hx => by cases hx
  | i :: is, x :: xs, ρ, ρ', hl, h, hx => by
    show setAll (ρ.set i (some x)) (is.zip xs) = setAll (ρ'.set i (some x)) (is.zip xs)
    refine setAll_over (by simpa using hl) (fun j => ?_) (by simpa using hx)
    by_cases e : j = i
    · subst e
      refine .inr ?_
      rw [List.getElem?_set, List.getElem?_set, hl, if_pos rfl, if_pos rfl]
    · rcases h j with z | z
      · rcases List.mem_cons.mp z with y | y
        · exact absurd y e
        · exact .inl y
      · refine .inr ?_
        rw [List.getElem?_set_ne (Ne.symm e), List.getElem?_set_ne (Ne.symm e)]; exact z
theorem setAll_off : ∀ {ps : List (Nat × V)} {ρ : Env} {j : Nat}, j ∉ ps.map (·.1) → (setAll ρ ps)[j]? = ρ[j]?
  | [], ρ, j, _ => rfl
  | p :: r, ρ, j, h => by
    show (setAll (ρ.set p.1 (some p.2)) r)[j]? = _
    rw [setAll_off (fun z => h (by simp only [List.map_cons]; exact List.mem_cons_of_mem _ z))]
    rw [List.getElem?_set_ne]
    intro z; exact h (by rw [← z]; simp)
theorem setAll_length : ∀ (ps : List (Nat × V)) (ρ : Env), (setAll ρ ps).length = ρ.length
  | [], ρ => rfl
  | p :: r, ρ => by show (setAll (ρ.set p.1 (some p.2)) r).length = _; rw [setAll_length r]; simp
noncomputable def off (tg : List Nat) (ρ ρ' : Env) : Prop := ρ.length = ρ'.length ∧ ∀ j, j ∈ tg ∨ ρ[j]? = ρ'[j]?
theorem bindT_over {tg : List Nat} {one : Bool} {x : V} {ρ ρ' ρ1 : Env} (h : off tg ρ ρ') (hb : bindT tg one x ρ = some ρ1) : bindT tg one x ρ' = some ρ1 ∧ off tg ρ ρ1 := by
  cases one with
  | true =>
    obtain ⟨i, rfl, hi, rfl⟩ := bindT_one hb
    have hi' : i < ρ'.length := by rw [← h.1]; exact hi
    constructor
    · simp only [bindT, if_pos hi', Option.some.injEq]
      exact (setAll_over (tg := [i]) (xs := [x]) h.1.symm (fun j => (h.2 j).imp id Eq.symm) rfl)
    · refine ⟨by simp, fun j => ?_⟩
      by_cases e : j = i
      · exact .inl (by simp [e])
      · exact .inr (by rw [List.getElem?_set_ne (Ne.symm e)])
  | false =>
    obtain ⟨xs, hp, hl, rfl, hlt⟩ := bindT_two hb
    have hlt' : ∀ i ∈ tg, i < ρ'.length := fun i hi => by rw [← h.1]; exact hlt i hi
    have e := setAll_over (tg := tg) (xs := xs) h.1.symm (fun j => (h.2 j).imp id Eq.symm) hl
    constructor
    · rw [← e]
      cases x with
      | d d =>
        cases d with
        | tup ds =>
          cases hp
          simp only [bindT]
          rw [if_pos ⟨by simpa using hl, hlt'⟩]
          unfold setAll
          rw [List.zip_map_right, List.foldl_map]
          rfl
        | _ => cases hp
      | loc n => cases hp
      | mix n ds =>
        cases hp
        simp only [bindT]
        rw [if_pos ⟨by simpa using hl, hlt'⟩]
        rfl
    · refine ⟨(setAll_length _ _).symm, fun j => ?_⟩
      by_cases e : j ∈ tg
      · exact .inl e
      · refine .inr (setAll_off (fun z => e ?_)).symm
        obtain ⟨p, hp, rfl⟩ := List.mem_map.mp z
        exact (List.of_mem_zip hp).1
noncomputable def clr (ρ : Env) (tg : List Nat) : Env := tg.foldl (fun r i => r.set i none) ρ
theorem clr_off : ∀ (tg : List Nat) (ρ : Env), off tg ρ (clr ρ tg)
  | [], ρ => ⟨rfl, fun j => .inr rfl⟩
  | i :: is, ρ => by
    obtain ⟨h1, h2⟩ := clr_off is (ρ.set i none)
    refine ⟨by show ρ.length = (clr (ρ.set i none) is).length; rw [← h1]; simp, fun j => ?_⟩
    by_cases e : j = i
    · exact .inl (by simp [e])
    · rcases h2 j with h | h
      · exact .inl (List.mem_cons_of_mem _ h)
      · refine .inr ?_
        show ρ[j]? = (clr (ρ.set i none) is)[j]?
        rw [← h, List.getElem?_set_ne (Ne.symm e)]
theorem clr_in : ∀ (tg : List Nat) (ρ : Env) (j : Nat), j ∈ tg → ∀ v, (clr ρ tg)[j]? ≠ some (some v)
  | [], _, _, h, _ => nomatch h
  | i :: is, ρ, j, h, v => by
    show (clr (ρ.set i none) is)[j]? ≠ _
    by_cases e : j ∈ is
    · exact clr_in is _ j e v
    · have hj : j = i := (List.mem_cons.mp h).elim id fun z => absurd z e
      subst hj
      rcases (clr_off is (ρ.set j none)).2 j with z | z
      · exact absurd z e
      · rw [← z, List.getElem?_set]
        split
        · split <;> simp
        · rename_i z; exact absurd rfl z

noncomputable def relabelN (sc names : List (Str × NameKind)) : List (Str × NameKind) := names.map fun (n, k) => if (k == .free && sc.lookup n == some .cell) then (n, .cell) else (n, k)
noncomputable def freesOf (names : List (Str × NameKind)) : List Str := names.filterMap fun (n, k) => if k == .free then some n else none
noncomputable def compC (cc : CC) (scope : Scope) (tgn : List Str) (tg : List Nat) : List (Str × Nat) := tgn.zip tg ++ (freesOf scope.names).filterMap fun n => (cc.C.lookup n).map fun i => (n, i)
noncomputable def compCC (cc : CC) (scope : Scope) (tgn : List Str) (tg : List Nat) : CC := ⟨compC cc scope tgn tg, relabelN cc.sc scope.names, cc.ht⟩

noncomputable def closL (env : PySem.Env) : List (Str × NameKind) → List (Str × Addr) → Option (List (Str × Addr))
  | [], acc => some acc
  | (n, k) :: r, acc => if k == .free then match env.cells.lookup n with
      | some a => closL env r ((n, a) :: acc)
      | none => none
    else closL env r acc
theorem closL_for (env : PySem.Env) : ∀ (names : List (Str × NameKind)) (acc cl : List (Str × Addr)), closL env names acc = some cl →
    (forIn names acc fun (p : Str × NameKind) (cs : List (Str × Addr)) => if (p.2 == .free) = true then do let a ← cellOf env p.1; pure (ForInStep.yield ((p.1, a) :: cs)) else pure (ForInStep.yield cs) : Sem (List (Str × Addr))) = pure cl
  | [], acc, cl, h => by simp only [closL, Option.some.injEq] at h; subst h; rfl
  | (n, k) :: r, acc, cl, h => by
    rw [List.forIn_cons]
    simp only [closL] at h
    split at h
    · rename_i hk
      split at h
      · rename_i a ha
        simp only [hk, if_true, cellOf, ha]
        exact closL_for env r _ cl h
      · cases h
    · rename_i hk
      simp only [hk]
      exact closL_for env r _ cl h
theorem closL_clos {env : PySem.Env} {scope : Scope} {cl : List (Str × Addr)} (h : closL env scope.names [] = some cl) : closureFor scope env = pure cl := by
  have := closL_for env scope.names [] cl h
  exact (congrArg (fun t : Sem (List (Str × Addr)) => t >>= fun r => (pure r >>= fun r => pure r)) this).trans rfl
theorem closL_look (env : PySem.Env) : ∀ (names : List (Str × NameKind)) (acc cl : List (Str × Addr)), closL env names acc = some cl → (∀ n c, acc.lookup n = some c → env.cells.lookup n = some c) →
    (∀ n c, cl.lookup n = some c → env.cells.lookup n = some c) ∧ (∀ n, (n, NameKind.free) ∈ names ∨ (acc.lookup n).isSome = true → (cl.lookup n).isSome = true)
  | [], acc, cl, h, ha => by
    simp only [closL, Option.some.injEq] at h; subst h
    exact ⟨ha, fun n h => h.elim (fun z => nomatch z) id⟩
  | (m, k) :: r, acc, cl, h, ha => by
    simp only [closL] at h
    split at h
    · rename_i hk
      split at h
      · rename_i a hm
        obtain ⟨h1, h2⟩ := closL_look env r ((m, a) :: acc) cl h (fun n c e => by
          rw [List.lookup_cons] at e
          split at e
          · rename_i z; cases e; rw [beq_iff_eq.mp z]; exact hm
          · exact ha n c e)
        refine ⟨h1, fun n hn => h2 n ?_⟩
        rcases hn with hn | hn
        · rcases List.mem_cons.mp hn with e | e
          · cases e; exact .inr (by simp)
          · exact .inl e
        · refine .inr ?_
          rw [List.lookup_cons]
          split
          · rfl
          · exact hn
      · cases h
    · rename_i hk
      obtain ⟨h1, h2⟩ := closL_look env r acc cl h ha
      refine ⟨h1, fun n hn => h2 n ?_⟩
      rcases hn with hn | hn
      · rcases List.mem_cons.mp hn with e | e
        · cases e; exact absurd rfl hk
        · exact .inl e
      · exact .inr hn
theorem closL_some (env : PySem.Env) : ∀ (names : List (Str × NameKind)) (acc : List (Str × Addr)), (∀ n, (n, NameKind.free) ∈ names → ∃ c, env.cells.lookup n = some c) → ∃ cl, closL env names acc = some cl
  | [], acc, _ => ⟨acc, rfl⟩
  | (m, k) :: r, acc, h => by
    simp only [closL]
    split
    · rename_i hk
      obtain ⟨c, hc⟩ := h m (by rw [beq_iff_eq.mp hk]; exact List.mem_cons_self)
      simp only [hc]
      exact closL_some env r _ fun n hn => h n (List.mem_cons_of_mem _ hn)
    · exact closL_some env r _ fun n hn => h n (List.mem_cons_of_mem _ hn)
end Mine

set_option Elab.async false
set_option linter.unusedVariables false
namespace Mine
open PySem PySem.SeqAt PyProof.Rows

noncomputable def injB (C : List (Str × Nat)) : Bool := decide (C.map (·.2)).Nodup
theorem lookup_mem {α : Type} : ∀ {C : List (Str × α)} {x : Str} {i : α}, C.lookup x = some i → (x, i) ∈ C
  | [], _, _, h => by cases h
  | (y, j) :: r, x, i, h => by
    rw [List.lookup_cons] at h
    split at h
    · rename_i z; cases h; rw [beq_iff_eq.mp z]; exact List.mem_cons_self
    · exact List.mem_cons_of_mem _ (lookup_mem h)
theorem inj_mem : ∀ {C : List (Str × Nat)} {x y : Str} {i : Nat}, (C.map (·.2)).Nodup → (x, i) ∈ C → (y, i) ∈ C → x = y
  | [], _, _, _, _, h, _ => nomatch h
  | (z, j) :: r, x, y, i, hn, hx, hy => by
    rw [List.map_cons, List.nodup_cons] at hn
    rcases List.mem_cons.mp hx with e | e
    · cases e
      rcases List.mem_cons.mp hy with e' | e'
      · cases e'; rfl
      · exact absurd (List.mem_map.mpr ⟨_, e', rfl⟩) hn.1
    · rcases List.mem_cons.mp hy with e' | e'
      · cases e'; exact absurd (List.mem_map.mpr ⟨_, e, rfl⟩) hn.1
      · exact inj_mem hn.2 e e'
theorem injB_ok {C : List (Str × Nat)} (h : injB C = true) : ∀ x y i, C.lookup x = some i → C.lookup y = some i → x = y := fun x y i h1 h2 =>
  inj_mem (of_decide_eq_true h) (lookup_mem h1) (lookup_mem h2)

structure CompOk (cc : CC) (scope : Scope) (tgt : Expr) (tg : List Nat) (one : Bool) : Prop where
  kind : scope.kind = .function
  nocell : ∀ x ∈ scope.names, x.2 ≠ .cell
  locals : ∀ x ∈ scope.names, x.2 = .local → scope.names.lookup x.1 = some .local
  tgs : ∀ x ∈ tgtNames tgt, scope.names.lookup x = some .local
  is : tgtIs (compCC cc scope (tgtNames tgt) tg) tgt tg one = true
  inj : injB (compC cc scope (tgtNames tgt) tg) = true
  free : ∀ n ∈ freesOf scope.names, (cc.sc.lookup n = some .cell ∨ cc.sc.lookup n = some .free) ∧ ((relabelN cc.sc scope.names).lookup n = some .cell ∨ (relabelN cc.sc scope.names).lookup n = some .free)

theorem mem_frees {names : List (Str × NameKind)} {n : Str} : n ∈ freesOf names ↔ (n, NameKind.free) ∈ names := by
  unfold freesOf
  rw [List.mem_filterMap]
  constructor
  · rintro ⟨⟨m, k⟩, h1, h2⟩
    simp only at h2
    split at h2
    · rename_i hk; cases h2; rw [← beq_iff_eq.mp hk]; exact h1
    · cases h2
  · intro h
    exact ⟨_, h, by simp⟩

section
variable {G : GP} {cc : CC} {env : PySem.Env} {W : Addr → Prop} {ρ : Env} {F F' F'' : FH} {live live' live'' : Hp} {s s' s'' : Shared} {A : Around} {Ex : Value → Shared → Prop} {Q : KV} {x y : V} {v u : Value} {ht : Nat}

theorem relabel_names (eo : EnvOk env cc) (scope : Scope) : (relabel scope env).names = relabelN cc.sc scope.names := by
  unfold relabel relabelN
  simp only
  refine List.map_congr_left fun p _ => ?_
  obtain ⟨n, k⟩ := p
  simp only [eo.kind, kindOf_eq eo, beq_self_eq_true, Bool.and_true]

theorem relabelN_local {sc : List (Str × NameKind)} : ∀ {names : List (Str × NameKind)} {x : Str}, names.lookup x = some .local → (relabelN sc names).lookup x = some .local
  | [], _, h => by cases h
  | (n, k) :: r, x, h => by
    unfold relabelN
    rw [List.map_cons]
    rw [List.lookup_cons] at h
    split at h
    · rename_i z
      cases h
      simp only [show (NameKind.local == NameKind.free) = false from rfl, Bool.false_and, Bool.false_eq_true, if_false]
      rw [List.lookup_cons, z]
    · rename_i z
      have : (relabelN sc r).lookup x = some .local := relabelN_local h
      show List.lookup x ((if (k == NameKind.free && List.lookup n sc == some NameKind.cell) = true then (n, NameKind.cell) else (n, k)) :: relabelN sc r) = _
      by_cases hc : (k == NameKind.free && List.lookup n sc == some NameKind.cell) = true
      · rw [if_pos hc, List.lookup_cons, z]; exact this
      · rw [if_neg hc, List.lookup_cons, z]; exact this

theorem compEnv_ok {scope : Scope} {tgt : Expr} {tg : List Nat} {one : Bool} {cl : List (Str × Addr)} {L : Addr} (eo : EnvOk env cc) (ok : CompOk cc scope tgt tg one) (hcl : closL env scope.names [] = some cl) (hL : ∀ a, Own env a → a ≠ L) :
    EnvOk (compEnvC scope cl L env) (compCC cc scope (tgtNames tgt) tg) := by
  obtain ⟨c1, c2⟩ := closL_look env scope.names [] cl hcl (fun n c h => by cases h)
  refine ⟨ok.kind, relabel_names eo scope, eo.globals, eo.builtins, fun x y c hx hy => eo.cinj x y c (c1 _ _ hx) (c1 _ _ hy), fun x c hx => hL c (.inr ⟨x, c1 _ _ hx⟩), fun x hx => ?_, injB_ok ok.inj⟩
  have : (x, NameKind.free) ∈ scope.names := by
    have hx' : (relabelN cc.sc scope.names).lookup x = some .cell ∨ (relabelN cc.sc scope.names).lookup x = some .free := hx
    have key : ∀ k, (k = NameKind.cell ∨ k = NameKind.free) → (relabelN cc.sc scope.names).lookup x = some k → (x, NameKind.free) ∈ scope.names := by
      intro k hk h
      have hm := lookup_mem h
      unfold relabelN at hm
      obtain ⟨⟨n, k0⟩, h1, h2⟩ := List.mem_map.mp hm
      simp only at h2
      split at h2
      · rename_i hf
        simp only [Bool.and_eq_true, beq_iff_eq] at hf
        cases h2
        rw [← hf.1]; exact h1
      · cases h2
        rcases hk with rfl | rfl
        · exact absurd rfl (ok.nocell _ h1)
        · exact h1
    rcases hx' with h | h
    · exact key _ (.inl rfl) h
    · exact key _ (.inr rfl) h
  exact Option.isSome_iff_exists.mp (c2 x (.inl this))

theorem comp_frame {scope : Scope} {tgt : Expr} {tg : List Nat} {one : Bool} {cl : List (Str × Addr)} {L : Addr} {h h' : Heap} {m : Str → Option Value} (eo : EnvOk env cc) (ok : CompOk cc scope tgt tg one) (hcl : closL env scope.names [] = some cl)
    (fr : FrameR G env cc.C ρ F live h) (hk : ∀ b o, h.get? b = some o → h'.get? b = some o) (hn : h'.Ns L m) (hF : F L = none) (hlv : live L = none) :
    FrameR G (compEnvC scope cl L env) (compC cc scope (tgtNames tgt) tg) (clr ρ tg) F live h' := by
  obtain ⟨c1, c2⟩ := closL_look env scope.names [] cl hcl (fun n c h => by cases h)
  refine ⟨fun x i V hx hi => ?_, fun a ha => ?_, ⟨m, hn⟩, fun x c hc => ?_⟩
  · have hnt : i ∉ tg := fun z => clr_in tg ρ i z V hi
    have hmem : x ∈ freesOf scope.names ∧ cc.C.lookup x = some i := by
      have hm := lookup_mem hx
      unfold compC at hm
      rcases List.mem_append.mp hm with hm | hm
      · exact absurd (List.of_mem_zip hm).2 hnt
      · obtain ⟨n, h1, h2⟩ := List.mem_filterMap.mp hm
        obtain ⟨j, h3, h4⟩ := Option.map_eq_some_iff.mp h2
        cases h4
        exact ⟨h1, h3⟩
    have hi' : ρ[i]? = some (some V) := by
      rcases (clr_off tg ρ).2 i with z | z
      · exact absurd z hnt
      · rw [z]; exact hi
    obtain ⟨v, l, r⟩ := fr.vars x i V hmem.2 hi'
    refine ⟨v, ?_, r⟩
    obtain ⟨f1, f2⟩ := ok.free x hmem.1
    rcases l with ⟨k1, _⟩ | ⟨k1, c, k2, o, k3, k4⟩
    · rw [kindOf_eq eo] at k1
      rw [k1] at f1
      rcases f1 with f1 | f1 <;> cases f1
    · obtain ⟨c', hc'⟩ := Option.isSome_iff_exists.mp (c2 x (.inl (mem_frees.mp hmem.1)))
      have e := c1 _ _ hc'
      rw [k2] at e; cases e
      refine .inr ⟨?_, c, hc', o, hk _ _ k3, k4⟩
      have hkn : (compEnvC scope cl L env).kindOf x = (relabelN cc.sc scope.names).lookup x := by
        unfold Env.kindOf
        show (relabel scope env).names.lookup x = _
        rw [relabel_names eo]
      rw [hkn]; exact f2
  · rcases ha with rfl | ⟨x, hx⟩
    · obtain ⟨o, es, ep, q, _⟩ := hn
      exact ⟨hF, hlv, o, q⟩
    · obtain ⟨h1, h2, o, h3⟩ := fr.own a (.inr ⟨x, c1 _ _ hx⟩)
      exact ⟨h1, h2, o, hk _ _ h3⟩
  · obtain ⟨u, o, h1, h2⟩ := fr.cel x c (c1 _ _ hc)
    exact ⟨u, o, hk _ _ h1, h2⟩

noncomputable def PCm (G : GP) (F : FH) (live : Hp) (s : Shared) (Q : KV) (D L : Addr) (s' : Shared) : Prop :=
  ∃ F' live' x, Step F live s F' live' s' ∧ Inv G F' live' s' ∧ VRel G F' x (.ref D) ∧ Q x live' ∧ F' L = none ∧ live' L = none ∧ (∀ o, s.heap.get? L = some o → mutb (live L) = true) ∧ ∃ m, s'.heap.Ns L m

theorem adopt {ds : List D} {D : Addr} {vs : Array Value} {lv : Bool} {L : Addr} (st : Step F live s F' live' s') (I : Inv G F' live' s') (hF : F' D = none) (hl : live' D = none) (h0 : ∀ o, s.heap.get? D = some o → mutb (live D) = true) (hp : s'.heap.PlainList D vs) (hr : DRels G F' ds vs.toList) (hz : ds.length ≤ lineB)
    (q : mk lv (.list ds) live' Q) (hLD : L ≠ D) (hLF : F' L = none) (hLl : live' L = none) (hL0 : ∀ o, s.heap.get? L = some o → mutb (live L) = true) (hLn : ∃ m, s'.heap.Ns L m) : PCm G F live s Q D L s' := by
  obtain ⟨n, e⟩ := hp
  have O : ORel G F' s'.heap D (.list ds) := ⟨vs, n, e, hr, hz⟩
  cases lv with
  | true =>
    refine ⟨F', live'.upd D (.list ds), .loc D, ⟨st.mono, fun a o h m => ?_, st.gens, st.os⟩, ⟨I.base, I.sub, fun m o h => ?_, fun m o dx h z => ?_, I.big⟩, rfl, q D hl, hLF, by rw [Hp.upd_ne _ _ hLD]; exact hLl, hL0, hLn⟩
    · have hne : a ≠ D := by intro z; subst z; rw [h0 _ h] at m; cases m
      rw [Hp.upd_ne _ _ hne]; exact st.keep a o h m
    · unfold Hp.upd at h
      split at h
      · rename_i z; subst z; cases h; exact ⟨hF, O⟩
      · exact I.lv _ _ h
    · unfold Hp.upd at h
      split at h
      · cases h; cases z
      · have := I.ih _ _ _ h z
        rw [Hp.upd_ne]; exact this
        intro y; rw [y, hl] at this; cases this
  | false =>
    have mono : FLe F' (fun a => if a = D then some (sobj "list" vs n) else F' a) := fun a ob e => by
      have : a ≠ D := by intro z; rw [z, hF] at e; cases e
      show (if a = D then _ else _) = _
      rw [if_neg this]; exact e
    refine ⟨fun a => if a = D then some (sobj "list" vs n) else F' a, live', .d (.list ds), ⟨st.mono.trans mono, fun a o h m => ?_, st.gens, st.os⟩, ⟨fun a o h => mono _ _ (I.base _ _ h), fun a o h => ?_, fun m o h => ?_, I.ih, (let ⟨a, o, h, e⟩ := I.big; ⟨a, o, h, mono _ _ e⟩)⟩,
      ⟨vs.toList, ⟨D, vs, n, rfl, by simp, rfl, by rw [hr.length]; exact hz⟩, hr.mono mono⟩, q, by simp only [hLD, if_false]; exact hLF, hLl, hL0, hLn⟩
    · have hne : a ≠ D := by intro z; subst z; rw [h0 _ h] at m; cases m
      obtain ⟨k1, k2, k3⟩ := st.keep a o h m
      exact ⟨k1, k2, fun z => by show (if a = D then _ else _) = _; rw [if_neg hne]; exact k3 z⟩
    · by_cases z : a = D
      · subst z; simp only [if_true] at h; rw [← h]; exact e
      · simp only [z, if_false] at h; exact I.sub _ _ h
    · have := I.lv _ _ h
      have hm : m ≠ D := by intro z; rw [z, hl] at h; cases h
      refine ⟨?_, this.2.mono mono⟩
      show (if m = D then _ else _) = _
      rw [if_neg hm]; exact this.1

variable {tgt : Expr} {one : Bool} {F₀ : FH} {l₀ : Hp} {s₀ : Shared} {xs : List V} {J : Addr} {fp wr : List Addr} {P Md : Nat → Value → Heap → Prop} {St : Nat → Heap → Prop}
theorem Loop.poke (T : Turn G A tgt one F₀ l₀ s₀ xs J fp wr P Md St) {C : List (Str × Nat)} {i : Nat} {D : Addr} (L : Loop G env C W F₀ l₀ s₀ wr St i ρ F live s) (hD : ¬ Own env D) (hf : D ∉ fp) (h1 : F D = none) (h2 : live D = none) (h0 : s₀.heap.get? D = none)
    {h' : Heap} (hk : ∀ b o, b ≠ D → s.heap.get? b = some o → h'.get? b = some o) : Loop G env C W F₀ l₀ s₀ wr St i ρ F live { s with heap := h' } := by
  refine ⟨⟨L.st.mono, fun a o e nw m => ?_, L.st.gens, L.st.os⟩, L.inv.outside (W := (· = D)) (fun a e => e ▸ ⟨h1, h2⟩) fun b o hb e => hk b o hb e, L.fr.mono fun a ha o e => hk a o (fun z => hD (z ▸ ha)) e, T.kt.frame i _ _ L.here fun b hb o e => hk b o (fun z => hf (z ▸ hb)) e, L.it⟩
  obtain ⟨k1, k2, k3⟩ := L.st.keep a o e nw m
  exact ⟨hk a o (fun z => by rw [z, h0] at e; cases e) k1, k2, k3⟩
end
end Mine

set_option Elab.async false
set_option linter.unusedVariables false
namespace Mine
open PySem PySem.SeqAt PyProof.Rows

section
variable {G : GP} {cc : CC} {env : PySem.Env} {ρ : Env} {F F' F'' : FH} {live live' live'' : Hp} {s s' s'' : Shared} {A : Around} {Ex : Value → Shared → Prop} {Q : KV} {x y : V} {v u : Value} {ht : Nat}
variable {tgt : Expr} {one : Bool} {F₀ : FH} {l₀ : Hp} {s₀ : Shared} {xs : List V} {J : Addr} {fp wr : List Addr} {P Md : Nat → Value → Heap → Prop} {St : Nat → Heap → Prop}

structure CL (G : GP) (cenv : PySem.Env) (C : List (Str × Nat)) (F₀ : FH) (l₀ : Hp) (s₀ : Shared) (wr fp : List Addr) (St : Nat → Heap → Prop) (D : Addr) (i : Nat) (ρ : Env) (ds : List Mine.D) (F : FH) (live : Hp) (s : Shared) : Prop where
  lp : Loop G cenv C (· = cenv.locals) F₀ l₀ s₀ wr St i ρ F live s
  acc : ∃ vs, s.heap.PlainList D vs ∧ DRels G F ds vs.toList ∧ ds.length ≤ lineB
  hF : F D = none
  hl : live D = none

structure CF (cenv : PySem.Env) (s₀ : Shared) (fp wr : List Addr) (D : Addr) : Prop where
  D0 : s₀.heap.get? D = none
  L0 : s₀.heap.get? cenv.locals = none
  Df : D ∉ fp
  Do : ¬ Own cenv D
  fo : ∀ b ∈ fp, ¬ Own cenv b

theorem CL.next (T : Turn G A tgt one F₀ l₀ s₀ xs J fp wr P Md St) {cenv : PySem.Env} {C : List (Str × Nat)} {D : Addr} {i : Nat} {ds : List Mine.D} (cf : CF cenv s₀ fp wr D) (c : CL G cenv C F₀ l₀ s₀ wr fp St D i ρ ds F live s) (st : Step F live s F' live' s') (I : Inv G F' live' s') :
    CL G cenv C F₀ l₀ s₀ wr fp St D i ρ ds F' live' s' := by
  obtain ⟨vs, ⟨n, h1⟩, h2, h3⟩ := c.acc
  have k := st.keep D _ h1 (by rw [c.hl]; rfl)
  exact ⟨c.lp.next T (fun b hb z => cf.fo b hb (.inl z)) st.toS I (c.lp.fr.step st), ⟨vs, ⟨n, k.1⟩, h2.mono st.mono, h3⟩, k.2.2 c.hF, k.2.1.trans c.hl⟩
theorem CL.push (T : Turn G A tgt one F₀ l₀ s₀ xs J fp wr P Md St) {cenv : PySem.Env} {C : List (Str × Nat)} {D : Addr} {i : Nat} {ds : List Mine.D} {d : Mine.D} {v : Value} (cf : CF cenv s₀ fp wr D) (c : CL G cenv C F₀ l₀ s₀ wr fp St D i ρ ds F live s) (r : DRel G F d v) (hz : ds.length < big) {K : Value → Shared → Prop}
    (h : ∀ s', CL G cenv C F₀ l₀ s₀ wr fp St D i ρ (ds ++ [d]) F live s' → K .none s') : wpAny (Mo G) A (call (.builtin "list.append") [.ref D, v]) K Ex s := by
  obtain ⟨vs, h1, h2, h3⟩ := c.acc
  refine wpAny_list_append_plain h1 (fun h' hp hs => h _ ⟨c.lp.poke T cf.Do cf.Df c.hF c.hl cf.D0 fun b o hb e => (hs.2 b hb).trans e, ⟨vs.push v, hp, ?_, ?_⟩, c.hF, c.hl⟩) ?_
  · rw [Array.toList_push]; exact h2.append ⟨v, [], rfl, r, rfl⟩
  · rw [List.length_append]; show ds.length + 1 ≤ _; exact Nat.le_succ_of_le hz
  · have := h2.length; rw [Array.length_toList] at this; rw [this, sizeLine_big]; exact Nat.le_of_lt hz

noncomputable def testsBy (M : Model) (A : Around) (E : Value → Shared → Prop) (env : PySem.Env) (yes no : Shared → Prop) : List Expr → Shared → Prop
  | [], s => yes s
  | [c], s => wpAny M A (isTrue c env (eval c env)) (fun b s' => match b with | true => yes s' | false => no s') E s
  | _, _ => False
theorem comp_loop {elt target iter : Expr} {ifs : List Expr} {scope : Scope} {pos : Pos} {it acc : Value} {env : PySem.Env} {R : Result → Shared → Prop} (I : Nat → Shared → Prop)
    (turn : ∀ n s, I n s → wpAny (Mo G) A (pyNext it) (fun r s₁ => match r with
      | none => R (.ok .next) s₁
      | some v => wpAny (Mo G) A (letOwnedTupleGo target it v) (fun _ s₀ => wpAny (Mo G) A (assign target env v) (fun _ s₂ =>
          testsBy (Mo G) A (notedBy (Mo G) A env fun e s' => R (.error e) s') env (fun s₃ => wpAny (Mo G) A (eval elt env) (fun x s₄ =>
            wpAny (Mo G) A (call (.builtin "list.append") [acc, x]) (fun _ s₅ => ∃ m, m < n ∧ I m s₅) (notedBy (Mo G) A env fun e s' => R (.error e) s') s₄) (notedBy (Mo G) A env fun e s' => R (.error e) s') s₃)
            (fun s₃ => ∃ m, m < n ∧ I m s₃) ifs s₂)
          (notedBy (Mo G) A env fun e s' => R (.error e) s') s₀) (notedBy (Mo G) A env fun e s' => R (.error e) s') s₁) (notedBy (Mo G) A env fun e s' => R (.error e) s') s)
    (n : Nat) (h : I n s) : codeAny (Mo G) A (.compLoop (.ListComp elt [⟨target, iter, ifs, 0⟩] scope pos) 0 it acc env) R s := by
  refine codeAny_loop rfl I (fun n s hI => wpAny_noted ?_) n h
  rw [compTurn_list]
  refine wpAny_bind (wpAny_standAt (wpAny_bind (wpAny_mono (turn n s hI) (fun r s₁ h₁ => ?_) fun _ _ z => z)))
  match r, h₁ with
  | none, h₁ => exact wpAny_pure h₁
  | some v, h₁ =>
    refine wpAny_bind (wpAny_mono h₁ (fun _ s₀ h₂ => wpAny_bind (wpAny_mono h₂ (fun _ s₂ h₃ => wpAny_bind ?_) fun _ _ z => z)) fun _ _ z => z)
    match ifs, h₃ with
    | [], h₃ => exact wpAny_tests_nil (wpAny_bind (wpAny_bind (wpAny_mono (show wpAny (Mo G) A (eval elt env) _ _ s₂ from h₃) (fun x s₄ h₄ => wpAny_bind (wpAny_mono h₄ (fun _ s₅ h₅ => wpAny_pure (wpAny_pure ⟨rfl, h₅⟩)) fun _ _ z => z)) fun _ _ z => z)))
    | [ce], h₃ =>
      refine wpAny_tests_one (wpAny_mono h₃ (fun b s₃ h₄ => ?_) fun _ _ z => z)
      match b, h₄ with
      | false, h₄ => exact wpAny_pure ⟨rfl, h₄⟩
      | true, h₄ => exact wpAny_bind (wpAny_bind (wpAny_mono h₄ (fun x s₄ h₅ => wpAny_bind (wpAny_mono h₅ (fun _ s₅ h₆ => wpAny_pure (wpAny_pure ⟨rfl, h₆⟩)) fun _ _ z => z)) fun _ _ z => z))
    | _ :: _ :: _, h₃ => exact h₃.elim
theorem comp_turns {e : Mine.E} {cond : Option Mine.E} {elt : Expr} {ifs : List Expr} {iter : Expr} {scope : Scope} {pos : Pos} {tg : List Nat} {cc' : CC} {cenv : PySem.Env} {D : Addr} {X : XP}
    (hcond : match cond with | none => ifs = [] | some c => ∃ ce, ifs = [ce] ∧ SndC G cc' ce c) (he : SndE G cc' elt e) (eo : EnvOk cenv cc') (R : Room A cc'.ht) (hX : ∀ c l, ¬ X c l) (ht : tgtIs cc' tgt tg one = true) (hw : ∀ x ∈ tgtNames tgt, cc'.sc.lookup x = some .local)
    (T : Turn G A tgt one F₀ l₀ s₀ xs J fp wr P Md St) (cf : CF cenv s₀ fp wr D) {ρ₀ : Env} (hoff : off tg ρ₀ ρ) {K : List Mine.D → Hp → Prop} (c : CL G cenv cc'.C F₀ l₀ s₀ wr fp St D 0 ρ [] F live s)
    (q : compL tg one ρ₀ (fun ρ1 live2 K => vCo (CallOK G) cond ρ1 live2 K X) (fun ρ1 live2 K => vE (CallOK G) e ρ1 live2 K X) xs [] live K) :
    codeAny (Mo G) A (.compLoop (.ListComp elt [⟨tgt, iter, ifs, 0⟩] scope pos) 0 (.ref J) (.ref D) cenv) (fun r s' => match r with
      | .ok _ => ∃ ρ' ds F' live', CL G cenv cc'.C F₀ l₀ s₀ [] fp (fun _ _ => True) D 0 ρ' ds F' live' s' ∧ K ds live'
      | .error _ => False) s := by
  have hown : ∀ b ∈ wr, ¬ Own cenv b := fun b hb => cf.fo b (T.kt.sub b hb)
  have hd : ∀ b ∈ fp, ¬ (b = cenv.locals) := fun b hb z => cf.fo b hb (.inl z)
  have hWr : ∀ x ∈ tgtNames tgt, Wr cenv cc' (· = cenv.locals) x := fun x hx => .inl ⟨hw x hx, rfl⟩
  have hDw : D ∉ wr := fun z => cf.Df (T.kt.sub D z)
  have hDL : ¬ D = cenv.locals := fun z => cf.Do (.inl z)

  have turn : ∀ {m : Nat} {s : Shared} {test : Sem Bool} {N : Shared → Prop} {Er : Value → Shared → Prop}, ∀ i ρ ds F live, i + m = xs.length → off tg ρ₀ ρ → CL G cenv cc'.C F₀ l₀ s₀ wr fp St D i ρ ds F live s →
      compL tg one ρ₀ (fun ρ1 live2 K => vCo (CallOK G) cond ρ1 live2 K X) (fun ρ1 live2 K => vE (CallOK G) e ρ1 live2 K X) (xs.drop i) ds live K → (i = xs.length → ∀ s', CL G cenv cc'.C F₀ l₀ s₀ [] fp (fun _ _ => True) D 0 ρ ds F live s' → K ds live → N s') →
      ∀ (body : Shared → Prop), (∀ ρ1 s', off tg ρ₀ ρ1 → i < xs.length → CL G cenv cc'.C F₀ l₀ s₀ wr fp St D (i + 1) ρ1 ds F live s' → vCo (CallOK G) cond ρ1 live (fun b live1 =>
        (b = true → vE (CallOK G) e ρ1 live1 (fun v live2 => match v with
          | .d y => ds.length < big ∧ compL tg one ρ₀ (fun ρ1 live2 K => vCo (CallOK G) cond ρ1 live2 K X) (fun ρ1 live2 K => vE (CallOK G) e ρ1 live2 K X) (xs.drop (i + 1)) (ds ++ [y]) live2 K
          | _ => False) X) ∧
        (b = false → compL tg one ρ₀ (fun ρ1 live2 K => vCo (CallOK G) cond ρ1 live2 K X) (fun ρ1 live2 K => vE (CallOK G) e ρ1 live2 K X) (xs.drop (i + 1)) ds live1 K)) X → body s') →
      wpAny (Mo G) A (pyNext (.ref J)) (fun r s₁ => match r with
        | none => N s₁
        | some v => wpAny (Mo G) A (letOwnedTupleGo tgt (.ref J) v) (fun _ s₁' => wpAny (Mo G) A (assign tgt cenv v) (fun _ s₂ => body s₂) Er s₁') Er s₁) Er s := by
    intro m s test N Er i ρ ds F live him hoff c q hN body hbody
    cases e1 : xs[i]? with
    | none =>
      have hge : xs.length ≤ i := by simpa using e1
      have hi : i = xs.length := by omega
      rw [List.drop_eq_nil_of_le hge] at q
      have L := c.lp
      rw [hi] at L
      refine turn_done T hown L fun s' I' st' fr' hk => ?_
      obtain ⟨vs, ⟨n, h1⟩, h2, h3⟩ := c.acc
      exact hN hi s' ⟨⟨st', I', fr', trivial, fun b hb => nomatch hb⟩, ⟨vs, ⟨n, hk _ _ hDw h1⟩, h2, h3⟩, c.hF, c.hl⟩ q
    | some x =>
      have hlt : i < xs.length := by
        cases Nat.lt_or_ge i xs.length with
        | inl h => exact h
        | inr h => rw [List.getElem?_eq_none h] at e1; cases e1
      have hdrop : xs.drop i = x :: xs.drop (i + 1) := by
        rw [List.drop_eq_getElem_cons hlt]
        rw [List.getElem?_eq_getElem hlt] at e1
        cases e1; rfl
      rw [hdrop] at q
      unfold compL at q
      split at q
      · rename_i ρ1 hb1
        obtain ⟨hb2, hoff2⟩ := bindT_over hoff hb1
        refine turn_step T R.hd eo (fun a z => z ▸ ⟨(c.lp.fr.own _ (.inl rfl)).1, (c.lp.fr.own _ (.inl rfl)).2.1⟩) hown hd ht hWr e1 hb2 c.lp fun s' L' hk => ?_
        obtain ⟨vs, ⟨n, h1⟩, h2, h3⟩ := c.acc
        exact hbody ρ1 s' hoff2 hlt ⟨L', ⟨vs, ⟨n, hk D _ hDw hDL (by rw [c.hl]; rfl) h1⟩, h2, h3⟩, c.hF, c.hl⟩ q
      · exact q.elim
  have elts : ∀ {n m i : Nat} {ρ1 : Env} {ds : List Mine.D} {F : FH} {live : Hp} {s : Shared} {Er : Value → Shared → Prop}, i + 1 + m = xs.length → m < n → off tg ρ₀ ρ1 → CL G cenv cc'.C F₀ l₀ s₀ wr fp St D (i + 1) ρ1 ds F live s → vE (CallOK G) e ρ1 live (fun v live2 => match v with
          | .d y => ds.length < big ∧ compL tg one ρ₀ (fun ρ1 live2 K => vCo (CallOK G) cond ρ1 live2 K X) (fun ρ1 live2 K => vE (CallOK G) e ρ1 live2 K X) (xs.drop (i + 1)) (ds ++ [y]) live2 K
          | _ => False) X → wpAny (Mo G) A (eval elt cenv) (fun x s₄ => wpAny (Mo G) A (call (.builtin "list.append") [.ref D, x]) (fun _ s₅ => ∃ m, m < n ∧ ∃ i ρ ds F live, i + m = xs.length ∧ off tg ρ₀ ρ ∧ CL G cenv cc'.C F₀ l₀ s₀ wr fp St D i ρ ds F live s₅ ∧
        compL tg one ρ₀ (fun ρ1 live2 K => vCo (CallOK G) cond ρ1 live2 K X) (fun ρ1 live2 K => vE (CallOK G) e ρ1 live2 K X) (xs.drop i) ds live K) Er s₄) Er s := by
    intro n m i ρ1 ds F live s Er him hmn hoff c q
    refine noE (wpAny_mono (he cenv A ρ1 F live s _ X eo R hX c.lp.inv c.lp.fr q) ?_ fun _ _ x => x.elim)
    rintro v s1 ⟨F1, l1, x, st1, I1, r1, h1⟩
    split at h1
    · rename_i d
      exact (c.next T cf st1 I1).push T cf r1 h1.1 fun s' c' => ⟨m, hmn, i + 1, ρ1, _, F1, l1, him, hoff, c', h1.2⟩
    · exact h1.elim
  refine comp_loop (fun m s => ∃ i ρ ds F live, i + m = xs.length ∧ off tg ρ₀ ρ ∧ CL G cenv cc'.C F₀ l₀ s₀ wr fp St D i ρ ds F live s ∧
      compL tg one ρ₀ (fun ρ1 live2 K => vCo (CallOK G) cond ρ1 live2 K X) (fun ρ1 live2 K => vE (CallOK G) e ρ1 live2 K X) (xs.drop i) ds live K) (fun m s h => ?_) xs.length ⟨0, ρ, [], F, live, Nat.zero_add _, hoff, c, q⟩
  obtain ⟨i, ρ, ds, F, live, him, hoff, c, q⟩ := h
  refine turn (m := m) (test := pure true) i ρ ds F live him hoff c q (fun _ s' c' k => ⟨ρ, ds, F, live, c', k⟩) _ fun ρ1 s' hoff1 hlt c1 q1 => ?_
  cases cond with
  | none =>
    subst hcond
    exact elts (i := i) (m := m - 1) (by omega) (by omega) hoff1 c1 (q1.1 rfl)
  | some t =>
    obtain ⟨ce, rfl, hce⟩ := hcond
    refine noE (wpAny_mono (hce cenv A ρ1 F live s' _ X eo R hX c1.lp.inv c1.lp.fr q1) ?_ fun _ _ x => x.elim)
    rintro b s1 ⟨F1, l1, st1, I1, h1⟩
    have c2 := c1.next T cf st1 I1
    cases b with
    | true => exact elts (i := i) (m := m - 1) (by omega) (by omega) hoff1 c2 (h1.1 rfl)
    | false => exact ⟨m - 1, by omega, i + 1, ρ1, ds, F1, l1, by omega, hoff1, c2, h1.2 rfl⟩
end
end Mine

set_option Elab.async false
set_option linter.unusedVariables false
namespace Mine
open PySem PySem.SeqAt PyProof.Rows

section
variable {G : GP} {cc : CC} {env : PySem.Env} {ρ : Env} {F F' F'' : FH} {live live' live'' : Hp} {s s' s'' : Shared} {A : Around} {Ex : Value → Shared → Prop} {Q : KV} {x y : V} {v u : Value} {ht : Nat}

theorem comp_all {lv : Bool} {e : Mine.E} {cond : Option Mine.E} {it : It} {elt tgt iter : Expr} {ifs : List Expr} {scope : Scope} {pos : Pos} {tg : List Nat} {one : Bool} {X : XP} {cl : List (Str × Addr)}
    (ok : CompOk cc scope tgt tg one) (hi : SndI G cc iter it tgt one) (hcond : match cond with | none => ifs = [] | some c => ∃ ce, ifs = [ce] ∧ SndC G (compCC cc scope (tgtNames tgt) tg) ce c) (he : SndE G (compCC cc scope (tgtNames tgt) tg) elt e)
    (hcl : closL env scope.names [] = some cl) (eo : EnvOk env cc) (R : Room A cc.ht) (hX : ∀ c l, ¬ X c l) (I : Inv G F live s) (fr : FrameR G env cc.C ρ F live s.heap) (q : vE (CallOK G) (.comp lv e tg one it cond) ρ live Q X)
    {RR : Value → Addr → Result → Shared → Prop} (hR : ∀ D L f s', PCm G F live s Q D L s' → RR (.ref D) L (.ok f) s') :
    wpAny (Mo G) A (eval iter env) (fun x s₁ => wpAny (Mo G) A (pyIter x) (fun it s₂ => wpAny (Mo G) A (newList []) (fun acc s₃ => wpAny (Mo G) A (newFunctionEnv scope env.globals cl [] env.qual none .none (some env)) (fun cenv s₄ =>
      codeAny (Mo G) A (.compStart (.ListComp elt [⟨tgt, iter, ifs, 0⟩] scope pos) 0 it acc { cenv with scope := relabel scope env }) (RR acc cenv.locals) s₄) Ex s₃) Ex s₂) Ex s₁) Ex s := by
  refine noE (wpAny_mono (hi env A ρ F live s _ X eo R hX I fr q) (fun x s1 h => noE (wpAny_mono h (fun v s2 h2 => ?_) fun _ _ x => x.elim)) fun _ _ x => x.elim)
  obtain ⟨F', l', xs, src, sM, J, fp, wr, P, Md, St, st, I', q, rfl, T, h0, hk2, hg, ho⟩ := h2
  refine wpAny_newObj_type (wpAny_newFunctionEnv ok.nocell (by intro y hy; simp at hy) (fun h₁ hns₁ hsb₁ => ?_) ok.kind)
  dsimp only at hns₁ hsb₁ ⊢
  generalize hH2 : s2.heap.push { cls := .type "list", dict := none, data := .seq ([] : List Value).toArray } = H2 at hns₁ hsb₁ ⊢
  generalize hD : s2.heap.objs.size = D at *
  generalize hL : H2.objs.size = L at *
  have hLD : L = D + 1 := by rw [← hL, ← hH2, Heap.size_push, hD]
  have k2 : ∀ b o, s2.heap.get? b = some o → h₁.get? b = some o := fun b o e => by
    have hb := Heap.lt_size e
    rw [hD] at hb
    exact hsb₁.extBut b o (by rw [hLD]; exact Nat.ne_of_lt (Nat.lt_succ_of_lt hb)) (Heap.get?_push_of_some _ (hH2 ▸ Heap.get?_push_of_some _ e))
  have hacc : h₁.PlainList D #[] := ⟨0, hsb₁.extBut D _ (by rw [hLD]; exact Nat.ne_of_lt (Nat.lt_succ_self _)) (Heap.get?_push_of_some _ (hH2 ▸ hD ▸ Heap.get?_push_size _ rfl))⟩
  have kM : ∀ b o, sM.heap.get? b = some o → h₁.get? b = some o := fun b o e => k2 b o (hk2 b o e)
  have fresh : ∀ a, D ≤ a → sM.heap.get? a = none := fun a ha => by
    cases e : sM.heap.get? a with
    | none => rfl
    | some o => exact absurd (Heap.lt_size (hk2 a o e)) (by rw [hD]; exact Nat.not_lt.mpr ha)
  have hD0 := fresh D (Nat.le_refl _)
  have hL0 := fresh L (by rw [hLD]; exact Nat.le_succ _)
  have frM := fr.step st
  have lt : ∀ b ∈ fp, b < D := fun b hb => by
    rw [← hD]
    by_cases hw : b ∈ wr
    · obtain ⟨o, e⟩ := T.live 0 _ h0 b hw
      exact Heap.lt_size e
    · obtain ⟨_, o, e, _⟩ := T.ro b hb hw
      exact Heap.lt_size (hk2 _ _ e)
  have fD := I'.fresh hD0
  have fL := I'.fresh hL0
  have lkn : ∀ {b : Addr}, l' b = none → lock l' src b = none := fun {b} h => by
    cases src with
    | none => exact h
    | some n => exact lock_none h
  have hdis : ∀ b ∈ fp, ¬ Own env b := fun b hb hown => by
    obtain ⟨h1, h2, o, h3⟩ := frM.own b hown
    by_cases hw : b ∈ wr
    · rw [T.new b hw] at h3; cases h3
    · obtain ⟨_, _, _, h5⟩ := T.ro b hb hw
      rcases h5 with h5 | h5
      · exact h5 h1
      · exact h5 (lkn h2)
  obtain ⟨c1, c2⟩ := closL_look env scope.names [] cl hcl (fun n c h => by cases h)
  have ownlt : ∀ a, Own env a → a < D := fun a ha => by
    obtain ⟨_, _, o, h3⟩ := frM.own a ha
    rw [← hD]; exact Heap.lt_size (hk2 _ _ h3)
  have eoC : EnvOk (compEnvC scope cl L env) (compCC cc scope (tgtNames tgt) tg) := compEnv_ok eo ok hcl fun a ha => Nat.ne_of_lt (Nat.lt_trans (ownlt a ha) (by rw [hLD]; exact Nat.lt_succ_self _))
  have cf : CF (compEnvC scope cl L env) sM fp wr D := ⟨hD0, hL0, fun z => Nat.lt_irrefl _ (lt D z), fun z => by
      rcases z with z | ⟨x, hx⟩
      · have z' : D = L := z
        rw [hLD] at z'; exact absurd z' (Nat.ne_of_lt (Nat.lt_succ_self _))
      · exact Nat.lt_irrefl _ (ownlt D (.inr ⟨x, c1 _ _ hx⟩)), fun b hb z => by
      rcases z with z | ⟨x, hx⟩
      · have z' : b = L := z
        have := lt b hb
        rw [z', hLD] at this; exact Nat.not_succ_lt_self this
      · exact hdis b hb (.inr ⟨x, c1 _ _ hx⟩)⟩
  have I2 : Inv G F' (lock l' src) { s2 with heap := h₁, toks := s2.toks + ([] : List (Str × Value)).length } := (I'.lock src).outside (W := fun _ => False) (fun _ f => f.elim) fun b o _ e => kM b o e
  have c : CL G (compEnvC scope cl L env) (compC cc scope (tgtNames tgt) tg) F' (lock l' src) sM wr fp St D 0 (clr ρ tg) [] F' (lock l' src) { s2 with heap := h₁, toks := s2.toks + ([] : List (Str × Value)).length } :=
    ⟨⟨StepS.outside (fun b o _ e => kM b o e) hg ho, I2, comp_frame eo ok hcl (frM.lock src) kM hns₁ fL.1 (lkn fL.2), T.kt.frame 0 _ _ h0 fun b _ o e => k2 b o e, fun b hb => ⟨(I'.fresh (T.new b hb)).1, lkn (I'.fresh (T.new b hb)).2⟩⟩, ⟨#[], hacc, rfl, Nat.zero_le _⟩, fD.1, lkn fD.2⟩
  have loop := comp_turns (G := G) (iter := iter) (scope := scope) (pos := pos) hcond he eoC R hX ok.is (fun x hx => relabelN_local (ok.tgs x hx)) T cf (clr_off tg ρ) c q
  have fin : ∀ r s', (match r with
      | Except.ok _ => ∃ ρ' ds F'' live', CL G (compEnvC scope cl L env) (compCC cc scope (tgtNames tgt) tg).C F' (lock l' src) sM [] fp (fun _ _ => True) D 0 ρ' ds F'' live' s' ∧ mk lv (.list ds) (unlock l' live' src) Q
      | .error _ => False) → RR (.ref D) L r s' := by
    intro r s' h
    cases r with
    | error e => exact h.elim
    | ok f =>
      obtain ⟨ρ3, ds, F3, l3, c3, q3⟩ := h
      have hW : ∀ a, (a = L) → sM.heap.get? a = none ∨ l' a = none := fun a z => .inl (z ▸ hL0)
      obtain ⟨u1, u2, u3⟩ := unlock_ok (W := fun a => a = L) I' c3.lp.st hW c3.lp.inv
      have stS : Step F' l' sM F3 (unlock l' l3 src) s' := ⟨u2.mono, fun a o e m => u2.keep a o e (fun z => by rw [z, hL0] at e; cases e) m, u2.gens, u2.os⟩
      obtain ⟨vs, a1, a2, a3⟩ := c3.acc
      obtain ⟨o1, o2, _⟩ := c3.lp.fr.own L (.inl rfl)
      have gone : ∀ a, sM.heap.get? a = none → ∀ o, s.heap.get? a = some o → mutb (live a) = true := fun a h o e => by
        cases hm : mutb (live a) with
        | true => rfl
        | false => rw [(st.keep a o e hm).1] at h; cases h
      exact hR D L f s' (adopt (st.trans stS) u1 c3.hF (u3 D fD.2 c3.hl) (gone D hD0) a1 a2 a3 q3 (by rw [hLD]; exact Nat.succ_ne_self D) o1 (u3 L fL.2 o2) (gone L hL0) c3.lp.fr.ns)
  have fin2 := codeAny_mono loop fin
  exact codeAny_compStart_list fin2 (T.self 0 _ _ _ c.lp.here fin2)
end
end Mine

set_option Elab.async false
set_option linter.unusedVariables false
namespace Mine
open PySem PySem.SeqAt PyProof.Rows

section
variable {G : GP} {cc : CC} {env : PySem.Env} {ρ : Env} {F F' F'' : FH} {live live' live'' : Hp} {s s' s'' : Shared} {A : Around} {Ex : Value → Shared → Prop} {Q : KV} {x y : V} {v u : Value} {ht : Nat}

theorem clos_some {scope : Scope} {tgt : Expr} {tg : List Nat} {one : Bool} (ok : CompOk cc scope tgt tg one) (eo : EnvOk env cc) : ∃ cl, closL env scope.names [] = some cl :=
  closL_some env scope.names [] fun n hn => eo.celled n (ok.free n (mem_frees.mpr hn)).1
theorem PCm.pe {D L : Addr} (h : PCm G F live s Q D L s') {h' : Heap} (hs : Heap.SameBut L s'.heap h') : PE G F live s Q (.ref D) { s' with heap := h' } := by
  obtain ⟨F', l', x, st, I, r, q, f1, f2, f3, m, hm⟩ := h
  refine ⟨F', l', x, ⟨st.mono, fun a o e mb => ?_, st.gens, st.os⟩, I.outside (W := (· = L)) (fun a z => z ▸ ⟨f1, f2⟩) fun b o hb e => (hs.2 b hb).trans e, r, q⟩
  obtain ⟨k1, k2, k3⟩ := st.keep a o e mb
  refine ⟨(hs.2 a fun z => ?_).trans k1, k2, k3⟩
  subst z; rw [f3 o e] at mb; cases mb

theorem sE_comp {lv : Bool} {e : Mine.E} {cond : Option Mine.E} {it : It} {elt tgt iter : Expr} {ifs : List Expr} {scope : Scope} {pos : Pos} {tg : List Nat} {one : Bool}
    (hs : noSet iter = true) (ok : CompOk cc scope tgt tg one) (hi : SndI G cc iter it tgt one) (hcond : match cond with | none => ifs = [] | some c => ∃ ce, ifs = [ce] ∧ SndC G (compCC cc scope (tgtNames tgt) tg) ce c)
    (he : SndE G (compCC cc scope (tgtNames tgt) tg) elt e) : SndE G cc (.ListComp elt [⟨tgt, iter, ifs, 0⟩] scope pos) (.comp lv e tg one it cond) := by
  intro env A ρ F live s Q X eo R hX I fr q
  obtain ⟨cl, hcl⟩ := clos_some ok eo
  rw [arm_eval_ListComp]
  refine wpAny_comprehension_free (g := ⟨tgt, iter, ifs, 0⟩) (gs := []) rfl (folded_not hs env) (closL_clos hcl) ok.kind ok.locals ?_
  refine comp_all (RR := compPost (Mo G) A (fun _ _ => False) none (PE G F live s Q)) ok hi hcond he hcl eo R hX I fr q fun D L f s' p => ?_
  have hn := p
  obtain ⟨_, _, _, _, _, _, _, _, _, _, hm⟩ := hn
  exact ⟨hm.choose, hm.choose_spec, fun h' hs => p.pe hs⟩

def swapB (cc : CC) (t : Str) (p pos : Pos) (scope : Scope) : Bool := cc.sc.lookup t == some .local && p.line == pos.line && !(scope.names.any fun (n, k) => n == t && (k == .local || k == .cell))
theorem swaps_comp (eo : EnvOk env cc) {elt : Expr} {gens : List Comprehension} {scope : Scope} {pos p : Pos} {t : Str} (l : Nat) : swapsWith (.ListComp elt gens scope pos) (some (.Name t p)) l env = pure (swapB cc t p pos scope) := by
  have : swapsWith (.ListComp elt gens scope pos) (some (.Name t p)) l env = pure (env.blockKind == .function && env.kindOf t == some .local && p.line == pos.line && !(scope.names.any fun (n, k) => n == t && (k == .local || k == .cell))) := rfl
  rw [this, kindOf_eq eo]
  unfold Env.blockKind swapB
  rw [eo.kind]
  rfl

theorem sS_assignC {lv : Bool} {e : Mine.E} {cond : Option Mine.E} {it : It} {elt tgt iter : Expr} {ifs : List Expr} {scope : Scope} {pos spos p : Pos} {tg : List Nat} {one : Bool} {x : Str} {i : Nat}
    (hs : noSet iter = true) (ok : CompOk cc scope tgt tg one) (hi : SndI G cc iter it tgt one) (hcond : match cond with | none => ifs = [] | some c => ∃ ce, ifs = [ce] ∧ SndC G (compCC cc scope (tgtNames tgt) tg) ce c)
    (he : SndE G (compCC cc scope (tgtNames tgt) tg) elt e) (hx : cc.C.lookup x = some i) (hk : cc.sc.lookup x = some .local ∨ cc.sc.lookup x = some .cell) :
    SndS G cc (.Assign [.Name x p] (.ListComp elt [⟨tgt, iter, ifs, 0⟩] scope pos) spos) (.assign i (.comp lv e tg one it cond)) := by
  intro env A ρ F live s Q X eo R hX I fr q
  cases hb : swapB cc x p pos scope with
  | false =>
    refine wpAny_Assign_Name (wpAny_mono (sE_comp hs ok hi hcond he env A ρ F live s _ X eo R hX I fr q) ?_ fun _ _ x => x) (by rw [swaps_comp eo, hb])
    rintro v s1 ⟨F1, l1, V, st1, I1, r1, hi, h1⟩
    exact wpAny_mono (storeS eo I1 (fr.step st1) hx hk hi r1 h1) (fun _ _ => PS.after st1.toS) fun _ _ x => x
  | true =>
    obtain ⟨cl, hcl⟩ := clos_some ok eo
    rw [exec_Assign_Name_used _ _ _ _ (by rw [swaps_comp eo, hb])]
    refine wpAny_bind (wpAny_standAt (wpAny_bind ?_))
    rw [arm_evalThenUse_ListComp]
    refine wpAny_bind ?_
    refine wpAny_comprehension_free (g := ⟨tgt, iter, ifs, 0⟩) (gs := []) rfl (folded_not hs env) (closL_clos hcl) ok.kind ok.locals ?_
    refine comp_all (RR := compPost (Mo G) A (fun _ _ => False) (some (assign (.Name x p) env)) _) ok hi hcond he hcl eo R hX I fr q fun D L f s' p => ?_
    obtain ⟨F1, l1, V, st, I1, r, ⟨hi, q1⟩, f1, f2, f3, m, hm⟩ := p
    have frS := fr.step st
    have hWr : Wr env cc (Own env) x := hk.elim (fun h => .inl ⟨h, .inl rfl⟩) fun h => .inr ⟨h, fun c hc => .inr ⟨x, hc⟩⟩
    have hLo : ¬ Own env L := fun ho => by
      obtain ⟨_, h2, o, h3⟩ := fr.own L ho
      have := f3 o h3
      rw [h2] at this; cases this
    refine wpAny_assign_Name (store_ok (W := Own env) eo I1 frS hx hWr (own_none frS) r fun s2 I2 st2 fr2 => ?_)
    have hm2 : s2.heap.Ns L m := hm.at fun o e => (st2.keep L o e hLo (by rw [f2]; rfl)).1
    refine ⟨m, hm2, fun h' hsb => ?_⟩
    refine wpAny_pure (wpAny_pure ?_)
    have I3 : Inv G F1 l1 { s2 with heap := h' } := I2.outside (W := (· = L)) (fun a z => z ▸ ⟨f1, f2⟩) fun b o hb e => (hsb.2 b hb).trans e
    have fr3 : FrameR G env cc.C (ρ.set i (some V)) F1 l1 h' := fr2.mono fun a ha o e => (hsb.2 a fun z => hLo (z ▸ ha)).trans e
    refine ⟨F1, l1, _, .nx, ?_, I3, fr3, by simp, rfl, q1⟩
    have stt := (st.toS (W := Own env)).trans st2
    refine ⟨stt.mono, fun a o e nw mb => ?_, stt.gens, stt.os⟩
    obtain ⟨k1, k2, k3⟩ := stt.keep a o e nw mb
    refine ⟨(hsb.2 a fun z => ?_).trans k1, k2, k3⟩
    subst z; rw [f3 o e] at mb; cases mb
end
end Mine

set_option Elab.async false
set_option linter.unusedVariables false
namespace Mine
open PySem PySem.SeqAt PyProof.Rows

theorem bindL_off {k : Str → Option NameKind} : ∀ {binds : List (Str × Value)} {m : Str → Option Value} {x : Str}, x ∉ binds.map (·.1) → bindL k binds m x = m x
  | [], _, _, _ => rfl
  | (n, v) :: r, m, x, h => by
    unfold bindL
    rw [bindL_off (fun z => h (by rw [List.map_cons]; exact List.mem_cons_of_mem _ z))]
    split
    · have : x ≠ n := fun z => h (by rw [z]; simp)
      simp [this]
    · rfl
theorem bindL_get {k : Str → Option NameKind} : ∀ {binds : List (Str × Value)} {m : Str → Option Value} {x : Str} {v : Value}, (binds.map (·.1)).Nodup → (x, v) ∈ binds → k x = some .local → bindL k binds m x = some v
  | [], _, _, _, _, h, _ => nomatch h
  | (n, w) :: r, m, x, v, hn, h, hk => by
    rw [List.map_cons, List.nodup_cons] at hn
    unfold bindL
    rcases List.mem_cons.mp h with e | e
    · cases e
      rw [bindL_off hn.1, if_pos hk]; simp
    · exact bindL_get hn.2 e hk
theorem bindC_off {k : Str → Option NameKind} : ∀ {binds : List (Str × Value)} {m : Str → Option Value} {x : Str}, x ∉ binds.map (·.1) → bindC k binds m x = m x
  | [], _, _, _ => rfl
  | (n, v) :: r, m, x, h => by
    unfold bindC
    rw [bindC_off (fun z => h (by rw [List.map_cons]; exact List.mem_cons_of_mem _ z))]
    split
    · rfl
    · have : x ≠ n := fun z => h (by rw [z]; simp)
      simp [this]
theorem bindC_get {k : Str → Option NameKind} : ∀ {binds : List (Str × Value)} {m : Str → Option Value} {x : Str} {v : Value}, (binds.map (·.1)).Nodup → (x, v) ∈ binds → k x ≠ some .local → bindC k binds m x = some v
  | [], _, _, _, _, h, _ => nomatch h
  | (n, w) :: r, m, x, v, hn, h, hk => by
    rw [List.map_cons, List.nodup_cons] at hn
    unfold bindC
    rcases List.mem_cons.mp h with e | e
    · cases e
      rw [bindC_off hn.1, if_neg hk]; simp
    · exact bindC_get hn.2 e hk
theorem cellsFrom_some : ∀ {names : List (Str × NameKind)} {n : Nat} {acc : List (Str × Addr)} {x : Str}, (x, NameKind.cell) ∈ names ∨ (acc.lookup x).isSome = true → ((cellsFrom n names acc).lookup x).isSome = true
  | [], _, _, _, h => h.elim (fun z => nomatch z) id
  | (y, k) :: r, n, acc, x, h => by
    unfold cellsFrom
    split
    · refine cellsFrom_some ?_
      rcases h with h | h
      · rcases List.mem_cons.mp h with e | e
        · cases e; exact .inr (by simp)
        · exact .inl e
      · refine .inr ?_
        rw [List.lookup_cons]
        split
        · rfl
        · exact h
    · rename_i hk
      refine cellsFrom_some ?_
      rcases h with h | h
      · rcases List.mem_cons.mp h with e | e
        · cases e; exact absurd rfl hk
        · exact .inl e
      · exact .inr h
theorem pair_inj : ∀ {C : List (Str × Addr)} {x y : Str} {i : Addr}, C.Pairwise (fun x y => x.2 ≠ y.2) → (x, i) ∈ C → (y, i) ∈ C → x = y
  | [], _, _, _, _, h, _ => nomatch h
  | (z, j) :: r, x, y, i, hn, hx, hy => by
    rw [List.pairwise_cons] at hn
    rcases List.mem_cons.mp hx with e | e
    · cases e
      rcases List.mem_cons.mp hy with e' | e'
      · cases e'; rfl
      · exact absurd rfl (hn.1 (y, j) e')
    · rcases List.mem_cons.mp hy with e' | e'
      · cases e'; exact absurd rfl (hn.1 (x, j) e)
      · exact pair_inj hn.2 e e'
theorem mem_zip_get {α β : Type} : ∀ {as : List α} {bs : List β} {i : Nat} {a : α} {b : β}, as[i]? = some a → bs[i]? = some b → (a, b) ∈ as.zip bs
  | [], _, _, _, _, h, _ => by simp at h
  | _ :: _, [], _, _, _, _, h => by simp at h
  | a :: as, b :: bs, 0, _, _, h1, h2 => by simp at h1 h2; subst h1; subst h2; simp
  | a :: as, b :: bs, i + 1, _, _, h1, h2 => by
    rw [List.zip_cons_cons]
    exact List.mem_cons_of_mem _ (mem_zip_get (by simpa using h1) (by simpa using h2))

structure FnOK (G : GP) (fe : FE) (d : FD) (cc : CC) (fd : FuncData) (bd : List Stmt) (names : List Str) : Prop where
  here : ∃ o, G.h₀.get? fe.addr = some o ∧ o.data = .func fd
  code : G.h₀.CodeRec fd.code fd.qualname
  body : fd.body = .stmts bd
  bind : ∀ vals : List Value, vals.length = d.np → bindArgs fd ⟨vals, []⟩ = pure (names.zip vals)
  len : names.length = d.np
  clo : fd.closure = []
  co : fd.scope.isCoroutine = false
  gen : fd.scope.isGenerator = false
  kind : fd.scope.kind = .function
  glob : fd.globals = mainGlobals
  bi : fd.builtins = builtinsNs
  sc : fd.scope.names = cc.sc
  nofree : ∀ x ∈ cc.sc, x.2 ≠ .free
  par : ∀ x ∈ names, cc.sc.lookup x = some .local ∨ cc.sc.lookup x = some .cell
  nodup : names.Nodup
  slot : ∀ i x, names[i]? = some x → cc.C.lookup x = some i
  inj : injB cc.C = true
  ht : cc.ht + 1 ≤ fe.ht
  snd : SndSs G cc bd d.body

section
variable {G : GP} {cc : CC} {env : PySem.Env} {ρ : Env} {F F' F'' : FH} {live live' live'' : Hp} {s s' s'' : Shared} {A : Around} {Ex : Value → Shared → Prop} {Q : KV} {x y : V} {v u : Value} {ht : Nat}

theorem VRels.get : ∀ {xs : List V} {vs : List Value} {i : Nat} {x : V}, VRels G F xs vs → xs[i]? = some x → ∃ v, vs[i]? = some v ∧ VRel G F x v
  | [], _, _, _, _, h => by simp at h
  | x :: xs, _, 0, _, ⟨v, t, rfl, r, _⟩, h => by simp at h; subst h; exact ⟨v, by simp, r⟩
  | x :: xs, _, i + 1, _, ⟨v, t, rfl, _, r⟩, h => by
    obtain ⟨w, h1, h2⟩ := VRels.get r (by simpa using h)
    exact ⟨w, by simpa using h1, h2⟩

theorem CallOK_intro (gk : GOK G) {f : Nat} {fe : FE} {d : FD} {fd : FuncData} {body : List Stmt} {names : List Str} (hfe : G.fe f = some fe) (ok : FnOK G fe d cc fd body names) {args : List V} {X X' : XP} (hX : ∀ c l, ¬ X c l) (q : vFn (CallOK G) d args live Q X) : CallOK G f args live Q X' := by
  refine ⟨fe, hfe, fun A F s vs R I rv => ?_⟩
  obtain ⟨hlen, q⟩ := q
  obtain ⟨o, ho, hdata⟩ := ok.here
  have hvl : vs.length = d.np := rv.length.trans hlen
  have hzip : (names.zip vs).map (·.1) = names := by rw [List.map_fst_zip]; rw [ok.len, hvl]; exact Nat.le_refl _
  have kof : ∀ x, (callEnvC fd s.heap.objs.size fe.addr).kindOf x = cc.sc.lookup x := fun x => by
    unfold Env.kindOf
    show fd.scope.names.lookup x = _
    rw [ok.sc]
  have cellmem : ∀ x, cc.sc.lookup x = some .cell → ((cellsFrom (s.heap.objs.size + 1) fd.scope.names []).lookup x).isSome = true := fun x hx => by
    rw [ok.sc]
    exact cellsFrom_some (.inl (lookup_mem hx))
  refine codeAny_call_cells (fd := fd) (body := body) (binds := names.zip vs) ?_ (I.h0 _ _ ho) hdata (gk.lim.keeps I.h0) (ok.code.keeps I.h0) ok.body (ok.bind vs hvl) ok.clo (fun x hx => ?_) (fun s1 ic => ?_) ok.co ok.gen ok.kind
  · have := R.dp
    unfold recursionLimit; omega
  · have hx1 : x.1 ∈ names := (List.of_mem_zip (a := x.1) (b := x.2) hx).1
    rcases ok.par _ hx1 with h | h
    · exact .inl (by rw [ok.sc]; exact h)
    · exact .inr ⟨by rw [ok.sc]; exact h, cellmem _ h⟩
  · generalize hE : callEnvC fd s.heap.objs.size fe.addr = env at *
    have eL : env.locals = s.heap.objs.size := by rw [← hE]; rfl
    have eC : env.cells = cellsFrom (s.heap.objs.size + 1) fd.scope.names [] := by rw [← hE]; rfl
    have ownge : ∀ a, Own env a → s.heap.objs.size ≤ a := fun a ha => by
      rcases ha with rfl | ⟨x, hx⟩
      · rw [eL]; exact Nat.le_refl _
      · have := ic.above x a (lookup_mem hx)
        rw [eL] at this; exact Nat.le_of_lt this
    have ownnew : ∀ a, Own env a → s.heap.get? a = none := fun a ha => by
      cases e : s.heap.get? a with
      | none => rfl
      | some o => exact absurd (Heap.lt_size e) (Nat.not_lt.mpr (ownge a ha))
    have eo : EnvOk env cc := by
      refine ⟨by rw [← hE]; exact ok.kind, by rw [← hE]; exact ok.sc, by rw [← hE]; exact ok.glob, by rw [← hE]; exact ok.bi, fun x y c hx hy => pair_inj ic.apart (lookup_mem hx) (lookup_mem hy), fun x c hx => ?_, fun x hx => ?_, injB_ok ok.inj⟩
      · exact Ne.symm (Nat.ne_of_lt (ic.above x c (lookup_mem hx)))
      · rcases hx with hx | hx
        · rw [eC]; exact Option.isSome_iff_exists.mp (cellmem x hx)
        · exact absurd rfl (ok.nofree _ (lookup_mem hx))
    obtain ⟨h1, tk, rfl⟩ := ic.toInCall.same
    have keep : ∀ b o, s.heap.get? b = some o → h1.get? b = some o := ic.toInCall.keep
    have st1 : Step F live s F live { s with heap := h1, toks := tk } := ⟨FLe.refl _, fun a o e _ => ⟨keep a o e, rfl, id⟩, rfl, rfl⟩
    have I1 : Inv G F live { s with heap := h1, toks := tk } := I.outside (W := fun _ => False) (fun _ z => z.elim) fun b o _ e => keep b o e
    have fr : FrameR G env cc.C (args.map some ++ List.replicate (d.ns - d.np) none) F live h1 := by
      refine ⟨fun x i V hx hi => ?_, fun a ha => ⟨(I.fresh (ownnew a ha)).1, (I.fresh (ownnew a ha)).2, ?_⟩, ⟨_, ic.toInCall.ns⟩, fun x c hc => ⟨_, ic.cell x c hc⟩⟩
      · have hil : i < args.length := by
          cases Nat.lt_or_ge i args.length with
          | inl h => exact h
          | inr h =>
            rw [List.getElem?_append_right (by simpa using h), List.getElem?_replicate] at hi
            split at hi <;> cases hi
        rw [List.getElem?_append_left (by simpa using hil), List.getElem?_map] at hi
        obtain ⟨V', hV, e⟩ := Option.map_eq_some_iff.mp hi
        cases e
        obtain ⟨v, hv, r⟩ := rv.get hV
        have hin : i < names.length := by rw [ok.len, ← hlen]; exact hil
        have hnm : names[i]? = some names[i] := List.getElem?_eq_getElem hin
        have hxn : x = names[i] := injB_ok ok.inj _ _ _ hx (ok.slot i _ hnm)
        rw [hxn]
        have hmem : (names[i], v) ∈ names.zip vs := mem_zip_get hnm hv
        refine ⟨v, ?_, r⟩
        rcases ok.par names[i] (List.getElem_mem hin) with h | h
        · exact .inl ⟨(kof _).trans h, _, ic.toInCall.ns, bindL_get (by rw [hzip]; exact ok.nodup) hmem ((kof _).trans h)⟩
        · obtain ⟨c, hc⟩ := Option.isSome_iff_exists.mp (cellmem _ h)
          refine .inr ⟨.inl ((kof _).trans h), c, by rw [eC]; exact hc, ?_⟩
          have := ic.cell _ c (by rw [eC]; exact hc)
          rw [bindC_get (by rw [hzip]; exact ok.nodup) hmem (by rw [kof, h]; intro z; cases z)] at this
          exact this
      · rcases ha with rfl | ⟨x, hx⟩
        · obtain ⟨o, _, _, e, _⟩ := ic.toInCall.ns; exact ⟨o, e⟩
        · obtain ⟨o, e, _⟩ := ic.cell x a hx; exact ⟨o, e⟩
    have R1 : Room (A.deeper env) cc.ht := ⟨R.hd, by have := R.dp; have := ok.ht; show A.depth + 1 + cc.ht ≤ 900; omega, by have := R.un; have := ok.ht; show A.units + 3 + 16 * cc.ht ≤ 9000; omega⟩
    refine wpAny_mono (ok.snd env (A.deeper env) _ F live _ _ X eo R1 hX I1 fr q) ?_ fun _ _ x => False.elim x
    rintro f s2 ⟨F2, l2, ρ2, fl, st2, I2, fr2, _, hf, q2⟩
    have st : Step F live s F2 l2 s2 := by
      refine ⟨st1.mono.trans st2.mono, fun a o e m => ?_, st2.gens.trans st1.gens, st2.os.trans st1.os⟩
      exact st2.keep a o (keep a o e) (fun ha => by rw [ownnew a ha] at e; cases e) m
    cases fl with
    | nx =>
      cases hf
      obtain ⟨l3, dr, q3⟩ := q2
      exact ⟨F2, l3, .d .none, st.drop dr, I2.drop dr, rfl, q3⟩
    | ct => exact q2.elim
    | rt V =>
      obtain ⟨w, rfl, r⟩ := hf
      obtain ⟨V', l3, ⟨dr, hz⟩, q3⟩ := q2
      obtain ⟨F3, st3, I3, hf3⟩ := I2.freeze dr
      refine ⟨F3, l3, V', st.trans st3, I3, ?_, q3⟩
      rcases hz with rfl | ⟨dd, rfl, fz⟩
      · exact r.mono st3.mono
      · exact hf3 _ _ _ fz r
end
end Mine

set_option Elab.async false
set_option linter.unusedVariables false
namespace Mine
open PySem PySem.SeqAt PyProof.Rows

section
variable {G : GP} {cc : CC} {env : PySem.Env} {ρ : Env} {F F' F'' : FH} {live live' live'' : Hp} {s s' s'' : Shared} {A : Around} {Ex : Value → Shared → Prop} {Q : KV} {x y : V} {v u : Value} {ht : Nat} {tgt : Expr} {one : Bool}

noncomputable def owners : List String := ["enumerate", "zip", "dict_itemiterator", "dict_reverseitemiterator", "odict_iterator", "itertools.zip_longest", "itertools.pairwise"]
theorem letOwned_plain {J : Addr} {o : Obj} {T : String} {fs : Array Value} (ho : s.heap.get? J = some o) (hc : o.cls = .type T) (hd : o.data = .fields fs) (hT : owners.contains T = false) {K : Unit → Shared → Prop} (h : K () s) : wpAny (Mo G) A (letOwnedTupleGo tgt (.ref J) v) K Ex s := by
  have body : ∀ a, wpAny (Mo G) A (do
      let o ← load J
      match o.cls, o.data with
      | .type n, .fields vs =>
        if ["enumerate", "zip", "dict_itemiterator", "dict_reverseitemiterator", "odict_iterator", "itertools.zip_longest", "itertools.pairwise"].contains n && vs[0]? == some (rawInt a) then
          rule "for.unpacks-the-owned-tuple"
          updateField J 0 .none
      | _, _ => pure ()) K Ex s := by
    intro a
    refine wpAny_bind (wpAny_load ho ?_)
    rw [hc, hd]
    show wpAny _ A (if (owners.contains T && fs[0]? == some (rawInt a)) = true then _ else _) K Ex s
    rw [hT, Bool.false_and, if_neg Bool.false_ne_true]
    exact wpAny_pure h
  cases tgt <;> first
    | exact wpAny_pure h
    | (unfold letOwnedTupleGo; cases v <;> first | exact wpAny_pure h | exact body _)

theorem Item.rel (r : VRel G F x v) {h : Heap} (hS : Sub F h) (hp : one = false → (parts x).isSome = true) : Item G F h one x v := by
  cases one with
  | true => exact r
  | false =>
    obtain ⟨ps, e⟩ := Option.isSome_iff_exists.mp (hp rfl)
    cases x with
    | d d =>
      cases d with
      | tup ds =>
        cases e
        obtain ⟨items, ⟨a, vs, n, rfl, h2, h3, h4⟩, h5⟩ := r
        subst h3
        exact ⟨a, vs, _, rfl, ⟨_, hS _ _ h2, rfl, n, rfl⟩, rfl, vrels_map.mpr h5⟩
      | _ => cases e
    | loc n => cases e
    | mix n ds =>
      cases e
      obtain ⟨items, ⟨a, vs, k, rfl, h2, h3, h4⟩, h5⟩ := r
      refine ⟨a, vs, _, rfl, ⟨_, hS _ _ h2, rfl, k, rfl⟩, rfl, ?_⟩
      rw [h3]
      exact ⟨.ref n, items, rfl, rfl, vrels_map.mpr h5⟩

theorem Turn.ofWalks {F₀ : FH} {l₀ : Hp} {s₀ : Shared} {xs : List V} {J : Addr} {fp wr : List Addr} {P : Nat → Value → Prop} {St : Nat → Heap → Prop} (W : Walks G.prog G.w A J fp wr xs.length P St)
    (hgo : ∀ i h, St i h → ∃ o T fs, h.get? J = some o ∧ o.cls = .type T ∧ o.data = .fields fs ∧ owners.contains T = false)
    (new : ∀ b ∈ wr, s₀.heap.get? b = none) (lv : ∀ i h, St i h → ∀ b ∈ wr, ∃ o, h.get? b = some o)
    (ro : ∀ b ∈ fp, b ∉ wr → mutb (l₀ b) = false ∧ ∃ o, s₀.heap.get? b = some o ∧ (F₀ b ≠ none ∨ l₀ b ≠ none)) (item : ∀ i x v, xs[i]? = some x → P i v → VRel G F₀ x v) :
    Turn G A tgt one F₀ l₀ s₀ xs J fp wr (fun i v _ => P i v) (fun i v h => P i v ∧ St (i + 1) h) St := by
  refine ⟨kt_walks W fun i v s Q E st hQ => ?_, fun i s Q E st hQ => W.self i s Q E st hQ, new, lv, ro, fun i x v h F hx hp hP hF hS => Item.rel ((item i x v hx hP).mono hF) hS hp⟩
  obtain ⟨o, T, fs, h1, h2, h3, h4⟩ := hgo i _ st
  exact letOwned_plain h1 h2 h3 h4 hQ

theorem iter_list (hh : A.handled = none) {a : Addr} {vs : Array Value} {k : Nat} {xs : List V} {K : List V → Option Nat → Hp → Prop} {src : Option Nat} (I : Inv G F live s) (ha : s.heap.get? a = some (sobj "list" vs k)) (hro : mutb (lock live src a) = false) (hk : F a ≠ none ∨ lock live src a ≠ none)
    (r : VRels G F xs vs.toList) (q : K xs src live) : wpAny (Mo G) A (pyIter (.ref a)) (IterAt G A tgt one F live s K) Ex s := by
  have hl : s.heap.IsList a vs := ⟨_, ha, rfl, k, rfl⟩
  have hne : a ≠ s.heap.objs.size := Nat.ne_of_lt (Heap.lt_size ha)
  have hxs : xs.length = vs.size := by rw [← r.length, Array.length_toList]
  refine wpAny_pyIter_list hl ⟨F, live, xs, src, s, s.heap.objs.size, [s.heap.objs.size, a], [s.heap.objs.size], _, _, _, .refl, I, q, rfl, Turn.ofWalks (by rw [hxs]; exact Walks.list hh s.heap.objs.size a hne vs) ?_ ?_ ?_ ?_ ?_, ?_, fun b o e => Heap.get?_push_of_some _ e, rfl, rfl⟩
  · rintro i h ⟨⟨o, h1, h2, h3⟩, _⟩
    exact ⟨o, _, _, h1, h2, h3, by decide⟩
  · intro b hb; rw [List.mem_singleton.mp hb]; exact push_new _
  · rintro i h ⟨⟨o, h1, _⟩, _⟩ b hb; rw [List.mem_singleton.mp hb]; exact ⟨o, h1⟩
  · intro b hb hn
    have : b = a := by
      rcases List.mem_cons.mp hb with e | e
      · exact absurd (by rw [e]; simp) hn
      · exact List.mem_singleton.mp e
    subst this
    exact ⟨hro, _, ha, hk⟩
  · intro i x v hx hP
    obtain ⟨w, h1, h2⟩ := r.get hx
    rw [Array.getElem?_toList] at h1
    have hP' : vs[i]? = some v := hP
    rw [hP'] at h1; cases h1; exact h2
  · exact ⟨⟨_, Heap.get?_push_size _ rfl, rfl, rfl⟩, ⟨_, Heap.get?_push_of_some _ ha, rfl, k, rfl⟩⟩
theorem iter_tuple (hh : A.handled = none) {a : Addr} {vs : Array Value} {k : Nat} {xs : List V} {K : List V → Option Nat → Hp → Prop} (I : Inv G F live s) (ha : F a = some (sobj "tuple" vs k)) (r : VRels G F xs vs.toList) (q : K xs none live) :
    wpAny (Mo G) A (pyIter (.ref a)) (IterAt G A tgt one F live s K) Ex s := by
  have ha' := I.sub _ _ ha
  have hl : s.heap.IsTuple a vs := ⟨_, ha', rfl, k, rfl⟩
  have hne : a ≠ s.heap.objs.size := Nat.ne_of_lt (Heap.lt_size ha')
  have hxs : xs.length = vs.size := by rw [← r.length, Array.length_toList]
  have hlv : live a = none := by
    cases e : live a with
    | none => rfl
    | some o => have := (I.lv _ _ e).1; rw [ha] at this; cases this
  refine wpAny_pyIter_tuple hl ⟨F, live, xs, none, s, s.heap.objs.size, [s.heap.objs.size, a], [s.heap.objs.size], _, _, _, .refl, I, q, rfl, Turn.ofWalks (by rw [hxs]; exact Walks.tuple hh s.heap.objs.size a hne vs) ?_ ?_ ?_ ?_ ?_, ?_, fun b o e => Heap.get?_push_of_some _ e, rfl, rfl⟩
  · rintro i h ⟨⟨o, h1, h2, h3⟩, _⟩
    exact ⟨o, _, _, h1, h2, h3, by decide⟩
  · intro b hb; rw [List.mem_singleton.mp hb]; exact push_new _
  · rintro i h ⟨⟨o, h1, _⟩, _⟩ b hb; rw [List.mem_singleton.mp hb]; exact ⟨o, h1⟩
  · intro b hb hn
    have : b = a := by
      rcases List.mem_cons.mp hb with e | e
      · exact absurd (by rw [e]; simp) hn
      · exact List.mem_singleton.mp e
    subst this
    exact ⟨by show mutb (live b) = false; rw [hlv]; rfl, _, ha', .inl (by rw [ha]; intro z; cases z)⟩
  · intro i x v hx hP
    obtain ⟨w, h1, h2⟩ := r.get hx
    rw [Array.getElem?_toList] at h1
    have hP' : vs[i]? = some v := hP
    rw [hP'] at h1; cases h1; exact h2
  · exact ⟨⟨_, Heap.get?_push_size _ rfl, rfl, rfl⟩, ⟨_, Heap.get?_push_of_some _ ha', rfl, k, rfl⟩⟩
theorem iter_str (hh : A.handled = none) {cs : List Nat} {t : Tok} {K : List V → Option Nat → Hp → Prop} (I : Inv G F live s) (hc : cpOk cs) (q : K (cs.map fun c => .d (.str [c])) none live) :
    wpAny (Mo G) A (pyIter (.str ⟨cs.toArray⟩ t)) (IterAt G A tgt one F live s K) Ex s := by
  have go : ∀ (ty : String), owners.contains ty = false → (Walks G.prog G.w A s.heap.objs.size [s.heap.objs.size] [s.heap.objs.size] (⟨cs.toArray⟩ : Str).cps.size (SignAt ⟨cs.toArray⟩) (fun i h => h.IsStrIter s.heap.objs.size ty ⟨cs.toArray⟩ t i)) →
      IterAt G A tgt one F live s K (.ref s.heap.objs.size) { s with heap := s.heap.push { cls := .type ty, data := .fields #[.str ⟨cs.toArray⟩ t, .int 0 0] } } := by
    intro ty hty W
    refine ⟨F, live, _, none, s, s.heap.objs.size, [s.heap.objs.size], [s.heap.objs.size], _, _, _, .refl, I, q, rfl, Turn.ofWalks (xs := cs.map fun c => .d (.str [c])) (by rw [List.length_map]; simpa using W) ?_ ?_ ?_ ?_ ?_, ?_, fun b o e => Heap.get?_push_of_some _ e, rfl, rfl⟩
    · rintro i h ⟨o, h1, h2, h3⟩
      exact ⟨o, _, _, h1, h2, h3, hty⟩
    · intro b hb; rw [List.mem_singleton.mp hb]; exact push_new _
    · rintro i h ⟨o, h1, _⟩ b hb; rw [List.mem_singleton.mp hb]; exact ⟨o, h1⟩
    · intro b hb hn; exact absurd hb hn
    · rintro i x v hx ⟨c, u, h1, rfl⟩
      rw [List.getElem?_map] at hx
      obtain ⟨c', h2, rfl⟩ := Option.map_eq_some_iff.mp hx
      have h1' : cs[i]? = some c := by simpa using h1
      rw [h1'] at h2; cases h2
      exact ⟨u, rfl, fun d hd => by rw [List.mem_singleton.mp hd]; exact hc.1 _ (List.mem_of_getElem? h1'), by show 1 ≤ big; decide⟩
    · exact ⟨_, Heap.get?_push_size _ rfl, rfl, rfl⟩
  cases ha : (⟨cs.toArray⟩ : Str).cps.all (· < 128)
  · exact wpAny_pyIter_wide ha (go "str_iterator" (by decide) (Walks.strWide hh _ _ t))
  · exact wpAny_pyIter_ascii ha (go "str_ascii_iterator" (by decide) (Walks.strAscii hh _ _ t))

theorem itemsOf_ok (hh : A.handled = none) {xs : List V} {src : Option Nat} {K : List V → Option Nat → Hp → Prop} (I : Inv G F live s) (r : VRel G F x v) (e : itemsOf live x = some (xs, src)) (q : K xs src live) : wpAny (Mo G) A (pyIter v) (IterAt G A tgt one F live s K) Ex s := by
  cases x with
  | mix n ds => cases e
  | d d =>
    cases d with
    | tup ds =>
      cases e
      obtain ⟨items, ⟨a, vs, n, rfl, h2, h3, h4⟩, h5⟩ := r
      subst h3
      exact iter_tuple hh I h2 (vrels_map.mpr h5) q
    | list ds =>
      cases e
      obtain ⟨items, ⟨a, vs, n, rfl, h2, h3, h4⟩, h5⟩ := r
      subst h3
      have hlv : live a = none := by
        cases e : live a with
        | none => rfl
        | some o => have := (I.lv _ _ e).1; rw [h2] at this; cases this
      exact iter_list hh I (I.sub _ _ h2) (by show mutb (live a) = false; rw [hlv]; rfl) (.inl (by rw [h2]; intro z; cases z)) (vrels_map.mpr h5) q
    | str cs =>
      cases e
      obtain ⟨t, rfl, hc⟩ := r
      exact iter_str hh I hc q
    | _ => cases e
  | loc n =>
    cases r
    simp only [itemsOf] at e
    have lk : ∀ o, live.look n = some o → o.boxy = true → mutb (lock live (some n) n) = false ∧ lock live (some n) n ≠ none := by
      intro o h hb
      unfold Hp.look at h
      rcases lock_eq (live := live) (n := n) with ⟨z, e'⟩ | ⟨o', e1, e2, e'⟩ | ⟨o', e1, e2, e'⟩
      · rw [z] at h; cases h
      · rw [e', Hp.upd_self]; exact ⟨rfl, fun z => by cases z⟩
      · rw [e', e1]
        rw [e1] at h
        refine ⟨?_, fun z => by cases z⟩
        split at h
        · rename_i o2 e3; cases e3; rfl
        · cases h; rw [hb] at e2; cases e2
    split at e
    · rename_i ds h
      cases e
      obtain ⟨vs, k, h1, h2, h3⟩ := (look_lv I h).2
      obtain ⟨q1, q2⟩ := lk _ h rfl
      exact iter_list hh I h1 q1 (.inr q2) (vrels_map.mpr h2) q
    · rename_i ns h
      cases e
      obtain ⟨vs, k, h1, h2, h3⟩ := (look_lv I h).2
      obtain ⟨q1, q2⟩ := lk _ h rfl
      refine iter_list hh I h1 q1 (.inr q2) ?_ q
      rw [h2]
      clear h h1 h2 h3 q lk q1 q2
      induction ns with
      | nil => exact rfl
      | cons m ms ih => exact ⟨.ref m, _, rfl, rfl, ih⟩
    · cases e

theorem IterAt.after {K : List V → Option Nat → Hp → Prop} (st : Step F live s F' live' s') {w : Value} {s₂ : Shared} (h : IterAt G A tgt one F' live' s' K w s₂) : IterAt G A tgt one F live s K w s₂ :=
  let ⟨F2, l2, xs, src, sM, J, fp, wr, P, Md, St, st2, r⟩ := h
  ⟨F2, l2, xs, src, sM, J, fp, wr, P, Md, St, st.trans st2, r⟩
theorem sI_e {e : Mine.E} {ee : Expr} (h : SndE G cc ee e) : SndI G cc ee (.e e) tgt one := by
  intro env A ρ F live s K X eo R hX I fr q
  refine wpAny_mono (h env A ρ F live s _ X eo R hX I fr q) ?_ fun _ _ x => x
  rintro v s1 ⟨F1, l1, x, st1, I1, r1, h1⟩
  split at h1
  · rename_i xs src e1
    exact wpAny_mono (itemsOf_ok R.hd I1 r1 e1 h1) (fun _ _ => IterAt.after st1) fun _ _ x => x
  · exact h1.elim

theorem rangeV_get {k : Int} {i : Nat} {x : V} (h : (rangeV k)[i]? = some x) : x = .d (.int (i : Int)) := by
  unfold rangeV at h
  rw [List.getElem?_map] at h
  obtain ⟨j, h1, rfl⟩ := Option.map_eq_some_iff.mp h
  have hj : j = i := by
    rw [List.getElem?_range] at h1
    · exact (Option.some.inj h1).symm
    · cases Nat.lt_or_ge i k.toNat with
      | inl h => exact h
      | inr h => rw [List.getElem?_eq_none (by simpa using h)] at h1; cases h1
  rw [hj]
theorem iter_range (hh : A.handled = none) {k : Int} {t : Tok} {K : List V → Option Nat → Hp → Prop} (I : Inv G F live s) (hk : k ≤ big) (hlo : -(2 ^ 62) ≤ k) (q : K (rangeV k) none live) :
    wpAny (Mo G) A (call (.type "range") [.int k t]) (fun x s₁ => wpAny (Mo G) A (pyIter x) (IterAt G A tgt one F live s K) Ex s₁) Ex s := by
  refine call_range_1 ?_
  have hn : Builtin.Range.rangeSize 0 k 1 = ((rangeV k).length : Int) := by
    unfold rangeV Builtin.Range.rangeSize
    simp only [List.length_map, List.length_range]
    split <;> omega
  refine wpAny_pyIter_range (Heap.get?_push_size _ rfl) (small_one (by decide) (by decide) hlo (by unfold big at hk; omega)) ?_
  simp only [Heap.size_push]
  have hk1 : ∀ b o, s.heap.get? b = some o → ((s.heap.push { cls := .type "range", data := .fields #[.int 0 s.toks, .int k t, .int 1 (s.toks + 1)] }).push { cls := .type "range_iterator", data := .fields #[rawInt 0, rawInt (Builtin.Range.rangeSize 0 k 1), rawInt 1] }).get? b = some o :=
    fun b o e => Heap.get?_push_of_some _ (Heap.get?_push_of_some _ e)
  refine ⟨F, live, _, none, s, s.heap.objs.size + 1, [s.heap.objs.size + 1], [s.heap.objs.size + 1], _, _, _, .refl, I, q, rfl, Turn.ofWalks (Walks.range hh (s.heap.objs.size + 1) 0 1 (rangeV k).length) ?_ ?_ ?_ ?_ ?_, ?_, hk1, rfl, rfl⟩
  · rintro i h e
    exact ⟨_, _, _, e, rfl, rfl, by decide⟩
  · intro b hb; rw [List.mem_singleton.mp hb]
    cases e : s.heap.get? (s.heap.objs.size + 1) with
    | none => rfl
    | some o => exact absurd (Heap.lt_size e) (Nat.not_succ_lt_self)
  · rintro i h e b hb; rw [List.mem_singleton.mp hb]; exact ⟨_, e⟩
  · intro b hb hn; exact absurd hb hn
  · rintro i x v hx ⟨t, rfl⟩
    rw [rangeV_get hx]
    exact ⟨t, by simp⟩
  · show Heap.get? _ _ = _
    have := Heap.get?_push_size (s.heap.push { cls := .type "range", data := .fields #[.int 0 s.toks, .int k t, .int 1 (s.toks + 1)] }) (o := { cls := .type "range_iterator", data := .fields #[rawInt 0, rawInt (Builtin.Range.rangeSize 0 k 1), rawInt 1] }) rfl
    rw [Heap.size_push] at this
    rw [this, hn]
    simp
theorem sI_range (ok : GOK G) {e : Mine.E} {ee : Expr} {p pos : Pos} (hk : cc.sc.lookup ("range" : Str) = some .globalImplicit) (hs : notStar ee = true) (h : SndE G cc ee e) : SndI G cc (.Call (.Name "range" p) [ee] [] pos) (.range e) tgt one := by
  intro env A ρ F live s K X eo R hX I fr q
  refine wpAny_Call_NameR (name_bi ok eo I hk (v := .type "range") rfl rfl ?_)
  refine cw_type (starEach_any (G := G) (cc := cc) (ees := [ee]) (es := [e]) ⟨hs, h, trivial⟩ pos env) ?_
  refine wpAny_items_cons (wpAny_mono (h env A ρ F live s _ X eo R hX I fr q) ?_ fun _ _ x => x) (starEach_plain hs _ _)
  rintro v s1 ⟨F1, l1, x, st1, I1, r1, h1⟩
  split at h1
  · obtain ⟨t, rfl⟩ := r1
    refine wpAny_items_nil ?_
    exact wpAny_mono (iter_range R.hd I1 h1.2.1 (Int.le_trans (by decide) h1.1) h1.2.2) (fun _ _ h => wpAny_mono h (fun _ _ => IterAt.after st1) fun _ _ x => x) fun _ _ x => x
  · exact h1.elim
end
end Mine

set_option Elab.async false
set_option linter.unusedVariables false
namespace Mine
open PySem PySem.SeqAt PyProof.Rows

section
variable {G : GP} {cc : CC} {F F' : FH} {live live' : Hp} {s s' : Shared} {A : Around} {Ex : Value → Shared → Prop} {Q Q' : KV} {x y : V} {v u : Value} {ht : Nat}

noncomputable def tyName : TY → Option String
  | .int => some "int"
  | .bool => some "bool"
  | .str => some "str"
  | .list => some "list"
  | .tuple => some "tuple"
  | .dict => some "dict"
  | .exc _ => none

theorem isi_int {n : Int} {t : Tok} {ty : TY} {T : String} (h : tyName ty = some T) {K : Value → Shared → Prop} (q : ∀ tk, K (.bool (isiD ty (.int n))) { s with toks := tk }) : wpAny (Mo G) A (call (.builtin "isinstance") [.int n t, .type T]) K Ex s := by
  cases ty <;> cases h
  · exact IsiPair.int_int (q s.toks)
  · exact IsiPair.int_bool (q _)
  · exact IsiPair.int_str (q _)
  · exact IsiPair.int_list (q _)
  · exact IsiPair.int_tuple (q _)
  · exact IsiPair.int_dict (q _)
theorem isi_bool {b : Bool} {ty : TY} {T : String} (h : tyName ty = some T) {K : Value → Shared → Prop} (q : ∀ tk, K (.bool (isiD ty (.bool b))) { s with toks := tk }) : wpAny (Mo G) A (call (.builtin "isinstance") [.bool b, .type T]) K Ex s := by
  cases ty <;> cases h
  · exact IsiPair.bool_int (q s.toks)
  · exact IsiPair.bool_bool (q s.toks)
  · exact IsiPair.bool_str (q _)
  · exact IsiPair.bool_list (q _)
  · exact IsiPair.bool_tuple (q _)
  · exact IsiPair.bool_dict (q _)
theorem isi_str {z : Str} {t : Tok} {ty : TY} {T : String} (h : tyName ty = some T) {K : Value → Shared → Prop} (q : ∀ tk, K (.bool (isiD ty (.str []))) { s with toks := tk }) : wpAny (Mo G) A (call (.builtin "isinstance") [.str z t, .type T]) K Ex s := by
  cases ty <;> cases h
  · exact IsiPair.str_int (q _)
  · exact IsiPair.str_bool (q _)
  · exact IsiPair.str_str (q s.toks)
  · exact IsiPair.str_list (q _)
  · exact IsiPair.str_tuple (q _)
  · exact IsiPair.str_dict (q _)
theorem isi_list {a : Addr} {o : Obj} (ho : s.heap.get? a = some o) (hc : o.cls = .type "list") {ty : TY} {T : String} (h : tyName ty = some T) {K : Value → Shared → Prop} (q : ∀ tk, K (.bool (isiD ty (.list []))) { s with toks := tk }) : wpAny (Mo G) A (call (.builtin "isinstance") [.ref a, .type T]) K Ex s := by
  cases ty <;> cases h
  · exact IsiPair.list_int ho hc (q _)
  · exact IsiPair.list_bool ho hc (q _)
  · exact IsiPair.list_str ho hc (q _)
  · exact IsiPair.list_list ho hc (q s.toks)
  · exact IsiPair.list_tuple ho hc (q _)
  · exact IsiPair.list_dict ho hc (q _)
theorem isi_tuple {a : Addr} {o : Obj} (ho : s.heap.get? a = some o) (hc : o.cls = .type "tuple") {ty : TY} {T : String} (h : tyName ty = some T) {K : Value → Shared → Prop} (q : ∀ tk, K (.bool (isiD ty (.tup []))) { s with toks := tk }) : wpAny (Mo G) A (call (.builtin "isinstance") [.ref a, .type T]) K Ex s := by
  cases ty <;> cases h
  · exact IsiPair.tuple_int ho hc (q _)
  · exact IsiPair.tuple_bool ho hc (q _)
  · exact IsiPair.tuple_str ho hc (q _)
  · exact IsiPair.tuple_list ho hc (q _)
  · exact IsiPair.tuple_tuple ho hc (q s.toks)
  · exact IsiPair.tuple_dict ho hc (q _)
theorem isi_dict {a : Addr} {o : Obj} (ho : s.heap.get? a = some o) (hc : o.cls = .type "dict") {ty : TY} {T : String} (h : tyName ty = some T) {K : Value → Shared → Prop} (q : ∀ tk, K (.bool (isiD ty (.dict []))) { s with toks := tk }) : wpAny (Mo G) A (call (.builtin "isinstance") [.ref a, .type T]) K Ex s := by
  cases ty <;> cases h
  · exact IsiPair.dict_int ho hc (q _)
  · exact IsiPair.dict_bool ho hc (q _)
  · exact IsiPair.dict_str ho hc (q _)
  · exact IsiPair.dict_list ho hc (q _)
  · exact IsiPair.dict_tuple ho hc (q _)
  · exact IsiPair.dict_dict ho hc (q s.toks)

theorem snd_isi (I : Inv G F live s) (r : VRel G F x v) {ty : TY} {T : String} {b : Bool} (h : tyName ty = some T) (e : isiV ty live x = some b) {K : Value → Shared → Prop} (q : ∀ tk, K (.bool b) { s with toks := tk }) : wpAny (Mo G) A (call (.builtin "isinstance") [v, .type T]) K Ex s := by
  cases x with
  | d d =>
    cases d with
    | none => cases e
    | exc c => cases e
    | inst fs => cases e
    | int i => obtain ⟨t, rfl⟩ := r; cases e; exact isi_int h q
    | bool i => cases r; cases e; exact isi_bool h q
    | str i => obtain ⟨t, rfl, _⟩ := r; cases e; exact isi_str h q
    | tup ds => obtain ⟨items, ⟨a, vs, n, rfl, h2, _⟩, _⟩ := r; cases e; exact isi_tuple (I.sub _ _ h2) rfl h q
    | list ds => obtain ⟨items, ⟨a, vs, n, rfl, h2, _⟩, _⟩ := r; cases e; exact isi_list (I.sub _ _ h2) rfl h q
    | dict ds => obtain ⟨a, o, es, n, rfl, h2, h3, _⟩ := r; cases e; exact isi_dict (I.sub _ _ h2) h3.1 h q
  | mix n ds =>
    obtain ⟨items, ⟨a, vs, n, rfl, h2, _⟩, _⟩ := r
    cases e
    exact isi_tuple (I.sub _ _ h2) rfl h q
  | loc n =>
    cases r
    simp only [isiV] at e
    split at e
    · rename_i ds hl; cases e; obtain ⟨vs, k, h1, _⟩ := (look_lv I hl).2; exact isi_list h1 rfl h q
    · rename_i ds hl; cases e; obtain ⟨vs, k, h1, _⟩ := (look_lv I hl).2; exact isi_list h1 rfl h q
    · rename_i ds hl; cases e; obtain ⟨vs, k, h1, _⟩ := (look_lv I hl).2; exact isi_dict h1 rfl h q
    · rename_i ds hl; cases e; obtain ⟨vs, k, h1, _⟩ := (look_lv I hl).2; exact isi_dict h1 rfl h q
    · cases e

theorem isi_call (ok : GOK G) {a : Mine.E} {ea : Expr} {ty : TY} {T : Str} {Ts : String} {p pT pos : Pos} (ha : SndE G cc ea a) (hs : notStar ea = true) (hk : cc.sc.lookup ("isinstance" : Str) = some .globalImplicit) (hkT : cc.sc.lookup T = some .globalImplicit) (hT : tyName ty = some Ts) (hb : biTab.lookup T = some (.type Ts))
    (hd : (T == ("__debug__" : Str)) = false) {env : PySem.Env} {ρ : Env} {X : XP} (eo : EnvOk env cc) (R : Room A cc.ht) (hX : ∀ c l, ¬ X c l) (I : Inv G F live s) (fr : FrameR G env cc.C ρ F live s.heap) {K : V → Hp → Prop} (q : vE (CallOK G) a ρ live K X) {Z : Value → Shared → Prop}
    (h : ∀ F1 l1 s1 x tk, Step F live s F1 l1 s1 → Inv G F1 l1 s1 → K x l1 → ∃ b, isiV ty l1 x = some b ∧ Z (.bool b) { s1 with toks := tk }) : wpAny (Mo G) A (eval (.Call (.Name "isinstance" p) [ea, .Name T pT] [] pos) env) Z (fun _ _ => False) s := by
  refine wpAny_Call_NameR (name_bi ok eo I hk (v := .builtin "isinstance") rfl rfl ?_)
  refine cw_builtin (first := []) (by rw [starEach_plain hs, starEach_plain (e := .Name T pT) rfl]; rfl) ?_
  refine wpAny_items_cons (wpAny_mono (ha env A ρ F live s _ X eo R hX I fr q) ?_ fun _ _ x => x) (starEach_plain hs _ _)
  rintro v s1 ⟨F1, l1, x, st1, I1, r1, h1⟩
  refine wpAny_items_cons (name_bi ok eo I1 hkT hb hd ?_) (starEach_plain (e := .Name T pT) rfl _ _)
  refine wpAny_items_nil ?_
  obtain ⟨b, e, _⟩ := h F1 l1 s1 x s1.toks st1 I1 h1
  refine snd_isi I1 r1 hT e fun tk => ?_
  obtain ⟨b', e', z⟩ := h F1 l1 s1 x tk st1 I1 h1
  rw [e] at e'; cases e'; exact z
theorem sE_isi (ok : GOK G) {a : Mine.E} {ea : Expr} {ty : TY} {T : Str} {Ts : String} {p pT pos : Pos} (ha : SndE G cc ea a) (hs : notStar ea = true) (hk : cc.sc.lookup ("isinstance" : Str) = some .globalImplicit) (hkT : cc.sc.lookup T = some .globalImplicit) (hT : tyName ty = some Ts) (hb : biTab.lookup T = some (.type Ts))
    (hd : (T == ("__debug__" : Str)) = false) : SndE G cc (.Call (.Name "isinstance" p) [ea, .Name T pT] [] pos) (.isi a ty) := by
  intro env A ρ F live s Q X eo R hX I fr q
  refine isi_call ok ha hs hk hkT hT hb hd eo R hX I fr q fun F1 l1 s1 x tk st1 I1 h1 => ?_
  split at h1
  · rename_i b e; exact ⟨b, e, PE.after st1 (PE.val I1 (x := .d (.bool b)) rfl h1)⟩
  · exact h1.elim

noncomputable def BiOK (G : GP) (b : BI) (val : Value) : Prop := ∀ (A : Around) (F : FH) (live : Hp) (s : Shared) (Q : KV) (ht : Nat) (xs : List V) (vs : List Value), Room A ht → Inv G F live s → VRels G F xs vs → vBi b xs live Q → wpAny (Mo G) A (call val vs) (PE G F live s Q) (fun _ _ => False) s

noncomputable def callable : Value → Bool
  | .builtin _ => true
  | .type _ => true
  | _ => false
theorem len_dictE {a : Addr} {es : Array DictEntry} {k : Nat} {K : Value → Shared → Prop} (h1 : s.heap.get? a = some (dobj es k)) (hs : (a == sysModules) = false) (hf : (es.size : Int) < 2 ^ 63) (h : K (.int es.size (s.toks + 1)) { s with toks := s.toks + 1 + 1 }) :
    wpAny (Mo G) A (call (.builtin "len") [.ref a]) K Ex s := by
  have hT : s.TypeIs (.ref a) "dict" := ⟨_, h1, rfl⟩
  refine PySem.Calls.call_function_entry kind_len plain_len entry_len (args_len1 _) ?_
  unfold Builtin.«len»
  refine wpAny_bind (m := oneArg "len" _) (wpAny_pure ?_)
  refine wpAny_bind (m := callSpecial? (.ref a) (Str.ofString "__len__")) (wpAny_callSpecial?_slot (name := Str.ofString "__len__") hT PySem.F.slot_dict_len
    (wpAny_call_entry PySem.F.slot_dict_len hT PySem.F.entry_dict_len ?_ (PySem.F.args_dict_len_1 _)))
  show wpAny _ _ (dictSize a >>= _) _ _ s
  unfold dictSize
  refine wpAny_bind (wpAny_bind (wpAny_dictEntries h1 rfl (wpAny_pure ?_)))
  show wpAny _ _ (Builtin.Dict.pendingCount a >>= _) _ _ s
  refine wpAny_bind (wpAny_pendingCount_other hs ?_)
  rw [show ((es.size : Nat) : Int) + ((0 : Nat) : Int) = (es.size : Int) from Int.add_zero _]
  refine wpAny_bind (wpAny_mkInt (wpAny_pure ⟨_, rfl, ?_⟩))
  show wpAny _ _ _ _ _ { s with toks := s.toks + 1 }
  refine wpAny_bind (wpAny_holding (wpAny_pure ?_))
  refine wpAny_bind (wpAny_letGo ?_)
  show wpAny _ _ (if ((es.size : Nat) : Int) < 0 then _ else _) _ _ _
  rw [if_neg (by omega)]
  show wpAny _ _ (if ((es.size : Nat) : Int) ≥ 2 ^ 63 then _ else _) _ _ _
  rw [if_neg (by omega)]
  exact wpAny_bind (wpAny_mkInt (wpAny_pure ⟨_, rfl, h⟩))
theorem sE_bi (ok : GOK G) {b : BI} {x : Str} {val : Value} {p pos : Pos} {ees : List Expr} {es : List Mine.E} (hk : cc.sc.lookup x = some .globalImplicit) (hv : biTab.lookup x = some val) (hb : BiOK G b val) (hc : callable val = true) (hd : (x == ("__debug__" : Str)) = false) (h : SndEs G cc ees es) :
    SndE G cc (.Call (.Name x p) ees [] pos) (.bi b es) := by
  intro env A ρ F live s Q X eo R hX I fr q
  refine wpAny_Call_NameR (name_bi ok eo I hk hv hd ?_)
  have go : wpAny (Mo G) A (spliced (backTo pos (starEach ees env))) (fun vs s' => wpAny (Mo G) A (call val vs) (PE G F live s Q) (fun _ _ => False) s') (fun _ _ => False) s := by
    refine wpAny_mono (h.run eo R hX I fr q) ?_ fun _ _ x => x
    rintro vs s1 ⟨F1, l1, xs, st1, I1, r1, _, h1⟩
    exact afterE st1 (hb A F1 l1 s1 Q cc.ht xs vs R I1 r1 h1)
  cases val with
  | builtin id => exact cw_builtin (first := []) (starEach_any h pos env) go
  | type T => exact cw_type (starEach_any h pos env) go
  | _ => cases hc

theorem seq_ok (I : Inv G F live s) (r : VRel G F x v) {ds : List D} (e : seqOf live x = some ds) : ∃ a vs k T, (T = "list" ∨ T = "tuple") ∧ v = .ref a ∧ s.heap.get? a = some (sobj T vs k) ∧ DRels G F ds vs.toList ∧ ds.length ≤ lineB := by
  cases x with
  | mix n ds => cases e
  | d d =>
    cases d with
    | tup ds =>
      cases e
      obtain ⟨items, ⟨a, vs, n, rfl, h2, h3, h4⟩, h5⟩ := r
      subst h3
      exact ⟨a, vs, n, "tuple", .inr rfl, rfl, I.sub _ _ h2, h5, by rw [← h5.length]; exact h4⟩
    | list ds =>
      cases e
      obtain ⟨items, ⟨a, vs, n, rfl, h2, h3, h4⟩, h5⟩ := r
      subst h3
      exact ⟨a, vs, n, "list", .inl rfl, rfl, I.sub _ _ h2, h5, by rw [← h5.length]; exact h4⟩
    | _ => cases e
  | loc n =>
    cases r
    simp only [seqOf] at e
    split at e
    · rename_i ds' hl
      cases e
      obtain ⟨vs, k, h1, h2, h3⟩ := (look_lv I hl).2
      exact ⟨n, vs, k, "list", .inl rfl, rfl, h1, h2, h3⟩
    · cases e

theorem bi_int : BiOK G .int (.type "int") := by
  intro A F live s Q ht xs vs R I r q
  match xs, q with
  | [v], q =>
    obtain ⟨w, t, rfl, rv, rt⟩ := r
    cases rt
    replace q : vbInt [v] live Q := q
    unfold vbInt at q
    dsimp only at q
    split at q
    · rename_i c
      cases rv
      exact call_int_bool (PE.int I (by cases c <;> exact q))
    · exact q.elim
  | [], q => exact q.elim
  | _ :: _ :: _, q => exact q.elim
theorem bi_list {lv : Bool} : BiOK G (.list lv) (.type "list") := by
  intro A F live s Q ht xs vs R I r q
  match xs, q with
  | [v], q =>
    obtain ⟨w, t, rfl, rv, rt⟩ := r
    cases rt
    replace q : vbList lv [v] live Q := q
    unfold vbList at q
    dsimp only at q
    split at q
    · rename_i ds e
      obtain ⟨a, vs, k, T, hT, rfl, h1, h2, h3⟩ := seq_ok I rv e
      refine call_list_seq a hT h1 rfl rfl (fun h' c' hk hn => ?_) ?_
      · have hz : s.heap.objs.size ≤ h'.objs.size := Nat.le_of_lt (Heap.lt_size hn)
        cases lv with
        | true =>
          obtain ⟨I', st⟩ := I.allocL (s' := { s with heap := h' }) (n := s.heap.objs.size) (o := .list ds) (push_new _) hk ⟨vs, c', hn, h2, h3⟩ rfl rfl rfl hz
          exact ⟨_, _, .loc _, st, I', rfl, q.2 _ (I.fresh (push_new _)).2⟩
        | false =>
          obtain ⟨I', st⟩ := I.allocF (s' := { s with heap := h' }) (n := s.heap.objs.size) (push_new _) hk hn rfl rfl hz
          exact ⟨_, _, .d (.list ds), st, I', ⟨vs.toList, ⟨_, vs, c', rfl, by simp; rfl, rfl, by rw [h2.length]; exact h3⟩, h2.mono st.mono⟩, q.2⟩
      · have := h2.length; rw [Array.length_toList] at this; rw [this, sizeLine_big]; exact q.1
    · exact q.elim
  | [], q => exact q.elim
  | _ :: _ :: _, q => exact q.elim
theorem keysV_ok {kvs : List (D × D)} (h : keysV kvs) : ∀ p ∈ kvs, D.keyV p.1 = true := fun p hp => by
  have := h p hp
  cases e : p.1 <;> rw [e] at this <;> first | rfl | cases this
theorem bi_dict {lv : Bool} : BiOK G (.dict lv) (.type "dict") := by
  intro A F live s Q ht xs vs R I r q
  match xs, q with
  | [v], q =>
    obtain ⟨w, t, rfl, rv, rt⟩ := r
    cases rt
    replace q : vbDict lv [v] live Q := q
    unfold vbDict at q
    dsimp only at q
    split at q
    · rename_i kvs e
      obtain ⟨hkv, hlen, q⟩ := q
      obtain ⟨a, es, k, rfl, h1, h2, h3, h4, h5⟩ := rd_dict I rv e
      refine dict_copy (R := DRel G F) (by have := R.un; unfold cLine; omega) I.sub h1 (I.fresh (push_new _)).1 h5 (erel_d.mp h2) h3 (keysV_ok hkv) hlen fun es' s' ep hn hk hz hg ho er => ?_
      have hsys : (s.heap.objs.size == sysModules) = false := sysN I.size
      cases lv with
      | true =>
        obtain ⟨I', st⟩ := I.allocL (s' := s') (n := s.heap.objs.size) (o := .dict kvs) (push_new _) hk ⟨es', ep, hn, erel_d.mpr er, h3, h4, hsys⟩ rfl hg ho hz
        exact ⟨_, _, .loc _, st, I', rfl, q _ (I.fresh (push_new _)).2⟩
      | false =>
        obtain ⟨I', st⟩ := I.allocF (s' := s') (n := s.heap.objs.size) (push_new _) hk hn hg ho hz
        refine ⟨_, _, .d (.dict kvs), st, I', ⟨_, _, es', ep, rfl, by simp; rfl, ⟨rfl, rfl, rfl⟩, rfl, ?_, (erel_d.mpr er).mono st.mono, h3, hsys⟩, q⟩
        have := er.length
        rw [Array.length_toList] at this; rw [this]; exact h4
    · exact q.elim
  | [], q => exact q.elim
  | _ :: _ :: _, q => exact q.elim
theorem bi_len : BiOK G .len (.builtin "len") := by
  intro A F live s Q ht xs vs R I r q
  have fitn : ∀ {n : Nat}, n ≤ lineB → (n : Int) < 2 ^ 63 := fun {n} h => by unfold lineB at h; omega
  match xs, q with
  | [v], q =>
    obtain ⟨w, t, rfl, rv, rt⟩ := r
    cases rt
    replace q : vLen v live (fun n => Q (.d (.int n)) live) := q
    unfold vLen at q
    have fin : ∀ {n : Nat} {tk tk' : Nat}, Q (.d (.int (n : Int))) live → PE G F live s Q (.int (n : Int) tk) { s with toks := tk' } := fun h => PE.int I h
    have tup : ∀ {a : Addr} {vs : Array Value} {k n : Nat}, s.heap.get? a = some (sobj "tuple" vs k) → vs.size = n → n ≤ lineB → Q (.d (.int (n : Int))) live → wpAny (Mo G) A (call (.builtin "len") [.ref a]) (PE G F live s Q) (fun _ _ => False) s := by
      intro a vs k n h1 h2 h3 h4
      subst h2
      exact PySem.P.len_tuple (n := k) h1 (by have := fitn h3; omega) (fin h4)
    have lst : ∀ {a : Addr} {vs : Array Value} {k n : Nat}, s.heap.get? a = some (sobj "list" vs k) → vs.size = n → n ≤ lineB → Q (.d (.int (n : Int))) live → wpAny (Mo G) A (call (.builtin "len") [.ref a]) (PE G F live s Q) (fun _ _ => False) s := by
      intro a vs k n h1 h2 h3 h4
      subst h2
      exact PySem.Calls.call_len_list ⟨_, h1, rfl, k, rfl⟩ (fitn h3) (fin h4)
    have dct : ∀ {a : Addr} {es : Array DictEntry} {k n : Nat}, s.heap.get? a = some (dobj es k) → (a == sysModules) = false → es.size = n → n ≤ lineB → Q (.d (.int (n : Int))) live → wpAny (Mo G) A (call (.builtin "len") [.ref a]) (PE G F live s Q) (fun _ _ => False) s := by
      intro a es k n h1 hs h2 h3 h4
      subst h2
      exact len_dictE h1 hs (fitn h3) (fin h4)
    split at q
    · rename_i ds
      obtain ⟨items, ⟨a, vs, n, rfl, h2, h3, h4⟩, h5⟩ := rv
      subst h3
      have := h5.length; rw [Array.length_toList] at this
      exact tup (I.sub _ _ h2) this (by rw [← this]; simpa using h4) q
    · rename_i cs
      obtain ⟨t, rfl, hc⟩ := rv
      refine PySem.P.len_str ?_ ?_
      · rw [str_length]; have := hc.2; unfold big at this; omega
      · rw [str_length]; exact fin q
    · rename_i n ds
      obtain ⟨items, ⟨a, vs, k, rfl, h2, h3, h4⟩, h5⟩ := rv
      have e1 : vs.size = ds.length + 1 := by
        have := congrArg List.length h3
        rw [Array.length_toList] at this
        rw [this, List.length_cons, h5.length]
      refine tup (I.sub _ _ h2) e1 ?_ ?_
      · have := h4; rw [List.length_cons, h5.length] at this; exact this
      · exact_mod_cast q
    · split at q
      · rename_i ds e
        have e4 : rd live v = some (.list ds) := by
          cases v with
          | d y => cases y <;> simp [view] at e; subst e; rfl
          | loc n => simp only [view] at e; simp only [rd, e]; rfl
          | mix n ds => simp [view] at e
        obtain ⟨a, vs, k, rfl, h1, h2, h3⟩ := rd_list I rv e4
        have := h2.length; rw [Array.length_toList] at this
        exact lst h1 this h3 q
      · rename_i kvs e
        have e4 : rd live v = some (.dict kvs) := by
          cases v with
          | d y => cases y <;> simp [view] at e; subst e; rfl
          | loc n => simp only [view] at e; simp only [rd, e]; rfl
          | mix n ds => simp [view] at e
        obtain ⟨a, es, k, rfl, h1, h2, h3, h4, h5⟩ := rd_dict I rv e4
        have := h2.length; rw [Array.length_toList] at this
        exact dct h1 h5 this h4 q
      · rename_i ns e
        cases v with
        | d y => cases y <;> simp [view] at e
        | mix n ds => simp [view] at e
        | loc n =>
          simp only [view] at e
          cases rv
          obtain ⟨vs, k, h1, h2, h3⟩ := (look_lv I e).2
          have := congrArg List.length h2
          rw [Array.length_toList, List.length_map] at this
          exact lst h1 this h3 q
      · rename_i kns e
        cases v with
        | d y => cases y <;> simp [view] at e
        | mix n ds => simp [view] at e
        | loc n =>
          simp only [view] at e
          cases rv
          obtain ⟨es, k, h1, h2, h3, h4, h5⟩ := (look_lv I e).2
          have := (erel_n.mp h2).length; rw [Array.length_toList] at this
          exact dct h1 h5 this h4 q
      · exact q.elim
  | [], q => exact q.elim
  | _ :: _ :: _, q => exact q.elim
end
end Mine

set_option Elab.async false
set_option linter.unusedVariables false
namespace Mine
open PySem PySem.SeqAt PyProof.Rows

section
variable {G : GP} {cc : CC} {F F' : FH} {live live' : Hp} {s s' : Shared} {A : Around} {Ex : Value → Shared → Prop} {Q Q' : KV} {x y : V} {v u : Value} {ht : Nat}

theorem dof_some {z : V} {y : Mine.D} (h : dof z = some y) : z = .d y := by
  cases z with
  | d a => simp only [dof, Option.some.injEq] at h; rw [h]
  | loc m => cases h
  | mix m l => cases h
noncomputable def plainBase : Expr → Bool
  | .Call (.Name _ _) [] [] _ => false
  | _ => true
theorem attrBase_plain {o : Expr} (h : plainBase o = true) (name : Str) (env : PySem.Env) (w : Sem Value) : attributeBase o name env w = w := by
  unfold attributeBase
  split
  · cases h
  · rfl
noncomputable def Ty (s : Shared) (v : Value) (T : String) : Prop := s.TypeIs v T ∧ ∀ a, v = .ref a → ∃ ob, s.heap.get? a = some ob ∧ ob.dict = none
theorem ty_list (I : Inv G F live s) (r : VRel G F x v) (h : isListV live x = true) : Ty s v "list" := by
  have go : ∀ {a : Addr} {vs : Array Value} {k : Nat}, s.heap.get? a = some (sobj "list" vs k) → Ty s (.ref a) "list" := fun h => ⟨⟨_, h, rfl⟩, fun a e => by cases e; exact ⟨_, h, rfl⟩⟩
  cases x with
  | d d =>
    cases d with
    | list ds => obtain ⟨items, ⟨a, vs, n, rfl, h2, _⟩, _⟩ := r; exact go (I.sub _ _ h2)
    | _ => cases h
  | mix n ds => cases h
  | loc n =>
    cases r
    simp only [isListV] at h
    split at h
    · rename_i hl; obtain ⟨vs, k, h1, _⟩ := (look_lv I hl).2; exact go h1
    · rename_i hl; obtain ⟨vs, k, h1, _⟩ := (look_lv I hl).2; exact go h1
    · cases h
theorem ty_dict (I : Inv G F live s) (r : VRel G F x v) (h : isDictV live x = true) : Ty s v "dict" := by
  have go : ∀ {a : Addr} {o : Obj}, s.heap.get? a = some o → o.cls = .type "dict" → o.dict = none → Ty s (.ref a) "dict" := fun h h1 h2 => ⟨⟨_, h, h1⟩, fun a e => by cases e; exact ⟨_, h, h2⟩⟩
  cases x with
  | d d =>
    cases d with
    | dict ds => obtain ⟨a, o, es, n, rfl, h2, h3, _⟩ := r; exact go (I.sub _ _ h2) h3.1 h3.2.1
    | _ => cases h
  | mix n ds => cases h
  | loc n =>
    cases r
    simp only [isDictV] at h
    split at h
    · rename_i hl; obtain ⟨vs, k, h1, _⟩ := (look_lv I hl).2; exact go h1 rfl rfl
    · rename_i hl; obtain ⟨vs, k, h1, _⟩ := (look_lv I hl).2; exact go h1 rfl rfl
    · cases h
theorem ty_str (r : VRel G F x v) (h : isStrV x = true) : Ty s v "str" := by
  cases x with
  | d d =>
    cases d with
    | str cs => obtain ⟨t, rfl, _⟩ := r; exact ⟨typeIs_str _ _ _, fun a e => by cases e⟩
    | _ => cases h
  | mix n ds => cases h
  | loc n => cases h

structure MthOK (G : GP) (m : MT) (T id : String) (name : Str) : Prop where
  attrs : PlainAttrs T
  slot : Slot T name id
  ty : typeOf (.builtin id) = pure (.type "method_descriptor")
  is : ∀ {F : FH} {live : Hp} {s : Shared} {x : V} {v : Value}, Inv G F live s → VRel G F x v → mthTy m live x = true → Ty s v T
  run : ∀ (A : Around) (F : FH) (live : Hp) (s : Shared) (Q : KV) (ht : Nat) (x : V) (v : Value) (xs : List V) (vs : List Value), Room A ht → Inv G F live s → VRel G F x v → VRels G F xs vs → vMth m x xs live Q → wpAny (Mo G) A (call (.builtin id) (v :: vs)) (PE G F live s Q) (fun _ _ => False) s

theorem sE_mth {m : MT} {T id : String} {name : Str} {apos pos : Pos} {o : Mine.E} {eo' : Expr} {ees : List Expr} {es : List Mine.E} (ok : MthOK G m T id name) (hb : plainBase eo' = true) (hline : (apos.endLine == pos.line) = true) (hn : es.length ≤ 4) (ho : SndE G cc eo' o) (h : SndEs G cc ees es) :
    SndE G cc (.Call (.Attribute eo' name apos) ees [] pos) (.mth m o es) := by
  intro env A ρ F live s Q X eo R hX I fr q
  have hany := starEach_any h pos env
  have hfew : ((backTo pos (starEach ees env)).all (fun x => !x.1) && (backToKw pos (keywordEach [] env)).all (fun x => x.1.isSome) && decide (ees.length + ([] : List Keyword).length + (if ([] : List Keyword).isEmpty then 0 else 1) < 30)) = true := by
    rw [Bool.and_eq_true, Bool.and_eq_true]
    refine ⟨⟨?_, rfl⟩, ?_⟩
    · rw [List.all_eq_true]
      intro p hp
      rw [List.any_eq_false] at hany
      simpa using hany p hp
    · have := h.length
      simp only [List.length_nil, List.isEmpty_nil, if_true, decide_eq_true_eq]
      omega
  refine wpAny_Call_method (T := T) (id := id) (attrBase_plain hb _ _ _) hfew hline ok.attrs ok.slot ok.ty (wpAny_mono (ho env A ρ F live s _ X eo R hX I fr q) ?_ fun _ _ x => x)
  rintro ov s1 ⟨F1, l1, x, st1, I1, r1, hty, h1⟩
  obtain ⟨t1, t2⟩ := ok.is I1 r1 hty
  refine ⟨t1, t2, cw_builtin hany (wpAny_mono (h.run eo R hX I1 (fr.step st1) h1) ?_ fun _ _ x => x)⟩
  rintro vs s2 ⟨F2, l2, xs, st2, I2, r2, _, h2⟩
  exact afterE (st1.trans st2) (ok.run A F2 l2 s2 Q cc.ht x ov xs vs R I2 (r1.mono st2.mono) r2 h2)

theorem m_get2 : MthOK G .get2 "dict" "dict.get" "get" := by
  refine ⟨PySem.F.plainAttrs_dict, PySem.F.slot_dict_get, PySem.F.type_dict_get, fun I r h => ty_dict I r h, ?_⟩
  intro A F live s Q ht x v xs vs R I r rs q
  match xs, q with
  | [k, d], q =>
    obtain ⟨vk, t, rfl, rk, t2, t3, rfl, rd', e⟩ := rs
    cases e
    replace q : vmGet2 x [k, d] live Q := q
    unfold vmGet2 at q
    dsimp only at q
    split at q
    · rename_i kvs kd e1 e2
      obtain ⟨kk, q⟩ := q
      obtain ⟨a, es, n, rfl, h1, h2, h3, h4, h5⟩ := rd_dict I r e1
      have rk' : DRel G F kd vk := by
        cases k with
        | d y => simp only [rd, Option.some.injEq] at e2; subst e2; exact rk
        | mix n ds => cases e2
        | loc n =>
          simp only [rd] at e2
          cases q : live.look n with
          | none => rw [q] at e2; cases e2
          | some o => rw [q] at e2; cases o <;> simp [AO.toD] at e2 <;> (subst e2; cases kk)
      have hT : s.TypeIs (.ref a) "dict" := ⟨_, h1, rfl⟩
      refine wpAny_call_entry PySem.F.slot_dict_get hT PySem.F.entry_dict_get ?_ (PySem.F.args_dict_get_3 _ _ _)
      show wpAny _ _ (dictGet a vk >>= _) _ _ s
      refine wpAny_bind (dictGet_E (by have := R.un; show A.units + 1 + 8 < cLine; unfold cLine; omega) I.sub rk' kk h1 rfl (erel_d.mp h2) h3 fun tk => ⟨fun e => ?_, fun z w e rz => ?_⟩)
      · rw [e] at q
        show wpAny _ _ (Builtin.Dict.missed a vk >>= _) _ _ _
        exact wpAny_bind (wpAny_missed_other h5 (wpAny_pure ⟨t2, rfl, PE.val I rd' q⟩))
      · rw [e] at q
        exact wpAny_pure ⟨w, rfl, PE.val I (x := .d z) rz q⟩
    · exact q.elim
  | [], q => cases x <;> exact q.elim
  | [_], q => cases x <;> exact q.elim
  | _ :: _ :: _ :: _, q => cases x <;> exact q.elim

theorem m_append : MthOK G .append "list" "list.append" "append" := by
  refine ⟨PySem.F.plainAttrs_list, PySem.F.slot_list_append, PySem.F.type_list_append, fun I r h => ty_list I r h, ?_⟩
  intro A F live s Q ht x v xs vs R I r rs q
  match x, xs, q with
  | .loc n, [z], q =>
    cases r
    obtain ⟨w, t, rfl, rw', e⟩ := rs
    cases e
    replace q : vmAppend (.loc n) [z] live Q := q
    unfold vmAppend at q
    dsimp only at q
    have grow : ∀ {vs : Array Value} {k : Nat} {o : AO} {o' : AO}, live n = some o → o.boxy = true → s.heap.get? n = some (lobj vs k) → vs.size ≤ big → dxOf o' = none → (∀ h' : Heap, h'.PlainList n (vs.push w) → ORel G F h' n o') → Q (.d .none) (live.upd n o') →
        wpAny (Mo G) A (call (.builtin "list.append") [.ref n, w]) (PE G F live s Q) (fun _ _ => False) s := by
      intro vs k o o' hl hb h1 hz hd hO hQ
      refine wpAny_list_append_plain ⟨k, h1⟩ (fun h' hp hs => ?_) (by rw [sizeLine_big]; exact hz)
      obtain ⟨I', st⟩ := I.change (s' := { s with heap := h' }) hl (by cases o <;> first | rfl | cases hb) (by intro e; subst e; cases hb) (fun b ob hb e => (hs.2 b hb).trans e) (hO h' hp) hd rfl rfl (by rw [hs.1]; exact Nat.le_refl _)
      exact ⟨_, _, .d .none, st, I', rfl, hQ⟩
    split at q
    · rename_i ds hl
      obtain ⟨vs, k, h1, h2, h3⟩ := (I.lv _ _ hl).2
      have hlen := h2.length
      rw [Array.length_toList] at hlen
      split at q
      · rename_i m
        obtain ⟨rfl, hne, q⟩ := q
        cases rw'
        refine grow hl rfl h1 (by rw [hlen]; exact Nat.zero_le _) rfl (fun h' hp => ?_) q
        obtain ⟨k', e⟩ := hp
        refine ⟨_, k', e, ?_, by show 1 ≤ lineB; decide⟩
        have : vs = #[] := Array.eq_empty_of_size_eq_zero hlen
        subst this
        rfl
      · split at q
        · rename_i y hy
          have hzy := dof_some hy
          rw [hzy] at rw'
          refine grow hl rfl h1 (by rw [hlen]; exact Nat.le_of_lt q.1) rfl (fun h' hp => ?_) q.2
          obtain ⟨k', e⟩ := hp
          refine ⟨_, k', e, ?_, ?_⟩
          · rw [Array.toList_push]; exact h2.append ⟨w, [], rfl, rw', rfl⟩
          · rw [List.length_append]; exact Nat.le_succ_of_le q.1
        · exact q.elim
    · rename_i ns hl
      obtain ⟨vs, k, h1, h2, h3⟩ := (I.lv _ _ hl).2
      have hlen := congrArg List.length h2
      rw [Array.length_toList, List.length_map] at hlen
      split at q
      · rename_i m
        obtain ⟨hz, hne, q⟩ := q
        cases rw'
        refine grow hl rfl h1 (by rw [hlen]; exact Nat.le_of_lt hz) rfl (fun h' hp => ?_) q
        obtain ⟨k', e⟩ := hp
        refine ⟨_, k', e, ?_, ?_⟩
        · rw [Array.toList_push, h2, List.map_append]; rfl
        · rw [List.length_append]; exact Nat.le_succ_of_le hz
      · exact q.elim
    · exact q.elim
  | .loc n, [], q => exact q.elim
  | .loc n, _ :: _ :: _, q => exact q.elim
  | .d _, _, q => exact q.elim
  | .mix _ _, _, q => exact q.elim

theorem strs_rel : ∀ {ds : List Mine.D} {vs : List Value} {ss : List (List Nat)}, DRels G F ds vs → strsOf ds = some ss → ∃ l : List (Str × Tok), vs = strValues l ∧ l.map (·.1) = ss.map (fun t => ⟨t.toArray⟩) ∧ ∀ t ∈ ss, cpOk t
  | [], vs, ss, r, e => by
    have : vs = [] := r
    subst this
    cases e
    exact ⟨[], rfl, rfl, fun t h => nomatch h⟩
  | d :: r, vs, ss, hr, e => by
    obtain ⟨v, t, rfl, rv, rt⟩ := hr
    cases d with
    | str cs =>
      simp only [strsOf] at e
      obtain ⟨ss', e', rfl⟩ := Option.map_eq_some_iff.mp e
      obtain ⟨tk, rfl, hc⟩ := rv
      obtain ⟨l, h1, h2, h3⟩ := strs_rel rt e'
      refine ⟨(⟨cs.toArray⟩, tk) :: l, by rw [h1]; rfl, by simp [h2], fun t ht => ?_⟩
      rcases List.mem_cons.mp ht with q | q
      · rw [q]; exact hc
      · exact h3 t q
    | _ => cases e
theorem join_flat : ∀ (ss : List (List Nat)), Str.join ⟨([] : List Nat).toArray⟩ (ss.map fun t => (⟨t.toArray⟩ : Str)) = ⟨ss.flatten.toArray⟩
  | [] => rfl
  | [t] => by simp [Str.join]
  | t :: t' :: r => by
    show (⟨t.toArray⟩ : Str) ++ ⟨([] : List Nat).toArray⟩ ++ Str.join ⟨([] : List Nat).toArray⟩ ((t' :: r).map fun t => (⟨t.toArray⟩ : Str)) = _
    rw [join_flat (t' :: r), str_append, str_append]
    simp
theorem join_len : ∀ (ss : List (List Nat)) (n : Nat), (ss.map fun t => (⟨t.toArray⟩ : Str)).foldl (fun a t => a + t.length + (⟨([] : List Nat).toArray⟩ : Str).length) n = n + ss.flatten.length
  | [], n => rfl
  | t :: r, n => by
    rw [List.map_cons, List.foldl_cons, join_len r, str_length, str_length]
    simp; omega
theorem m_join : MthOK G .join "str" "str.join" "join" := by
  refine ⟨PySem.F.plainAttrs_str, PySem.F.slot_str_join, PySem.F.type_str_join, fun I r h => ty_str r h, ?_⟩
  intro A F live s Q ht x v xs vs R I r rs q
  match x, xs, q with
  | .d (.str sep), [z], q =>
    obtain ⟨w, t, rfl, rw', e⟩ := rs
    cases e
    obtain ⟨t0, rfl, _⟩ := r
    replace q : vmJoin (.d (.str sep)) [z] live Q := q
    unfold vmJoin at q
    dsimp only at q
    split at q
    · rename_i ds e1
      split at q
      · rename_i ss e2
        obtain ⟨rfl, hz, q⟩ := q
        obtain ⟨a, vs, k, rfl, h1, h2, h3⟩ := rd_list I rw' e1
        obtain ⟨l, g1, g2, g3⟩ := strs_rel h2 e2
        have hl : s.heap.IsList a (strValues l).toArray := ⟨_, h1, rfl, k, by rw [← g1]; rfl⟩
        refine SC.join hl g2 ?_ fun t' k => ?_
        · unfold JoinOk
          rw [Bool.not_eq_true', List.foldl_toArray, join_len, Nat.zero_add]
          unfold Builtin.Str.tooLong
          rw [sizeLine_big]
          simpa using hz
        · have : Txt.join ⟨([] : List Nat).toArray⟩ (ss.map fun t => (⟨t.toArray⟩ : Str)) = ⟨ss.flatten.toArray⟩ := by
            unfold Txt.join
            rw [StrLaws.glued_eq_join, join_flat]
          rw [this]
          refine PE.val I (x := .d (.str ss.flatten)) ⟨t', rfl, fun c hc => ?_, hz⟩ q
          obtain ⟨t, ht, hc⟩ := List.mem_flatten.mp hc
          exact (g3 t ht).1 c hc
      · exact q.elim
    · exact q.elim
  | .d (.str sep), [], q => exact q.elim
  | .d (.str sep), _ :: _ :: _, q => exact q.elim
  | .loc n, _, q => exact q.elim
  | .mix n _, _, q => exact q.elim
  | .d .none, _, q => exact q.elim
  | .d (.bool _), _, q => exact q.elim
  | .d (.int _), _, q => exact q.elim
  | .d (.tup _), _, q => exact q.elim
  | .d (.list _), _, q => exact q.elim
  | .d (.dict _), _, q => exact q.elim
  | .d (.inst _), _, q => exact q.elim
  | .d (.exc _), _, q => exact q.elim
theorem occ_letters : ∀ i : Fin 26, Builtin.Str.occurrences ⟨letters.toArray⟩ ⟨[97 + i.val].toArray⟩ 0 26 1 = [i.val] := by decide +kernel
theorem m_index : MthOK G .index "str" "str.index" "index" := by
  refine ⟨PySem.F.plainAttrs_str, PySem.F.slot_str_index, PySem.F.type_str_index, fun I r h => ty_str r h, ?_⟩
  intro A F live s Q ht x v xs vs R I r rs q
  match x, xs, q with
  | .d (.str cs), [.d (.str [c])], q =>
    obtain ⟨w, t, rfl, rw', e⟩ := rs
    cases e
    obtain ⟨t0, rfl, _⟩ := r
    obtain ⟨t1, rfl, _⟩ := rw'
    obtain ⟨rfl, h1, h2, q⟩ := q
    have := occ_letters ⟨c - 97, by omega⟩
    simp only [show 97 + (c - 97) = c by omega] at this
    refine SC.index (i := c - 97) (rest := []) this ?_
    rw [show ((c : Int) - 97) = ((c - 97 : Nat) : Int) by omega] at q
    exact PE.int I q
  | .d (.str cs), [], q => exact q.elim
  | .d (.str cs), [.d (.str [])], q => exact q.elim
  | .d (.str cs), [.d (.str (_ :: _ :: _))], q => exact q.elim
  | .d (.str cs), [.d .none], q => exact q.elim
  | .d (.str cs), [.d (.bool _)], q => exact q.elim
  | .d (.str cs), [.d (.int _)], q => exact q.elim
  | .d (.str cs), [.d (.tup _)], q => exact q.elim
  | .d (.str cs), [.d (.list _)], q => exact q.elim
  | .d (.str cs), [.d (.dict _)], q => exact q.elim
  | .d (.str cs), [.d (.inst _)], q => exact q.elim
  | .d (.str cs), [.d (.exc _)], q => exact q.elim
  | .d (.str cs), [.loc _], q => exact q.elim
  | .d (.str cs), [.mix _ _], q => exact q.elim
  | .d (.str cs), _ :: _ :: _, q => exact q.elim
  | .loc n, _, q => exact q.elim
  | .mix n _, _, q => exact q.elim
  | .d .none, _, q => exact q.elim
  | .d (.bool _), _, q => exact q.elim
  | .d (.int _), _, q => exact q.elim
  | .d (.tup _), _, q => exact q.elim
  | .d (.list _), _, q => exact q.elim
  | .d (.dict _), _, q => exact q.elim
  | .d (.inst _), _, q => exact q.elim
  | .d (.exc _), _, q => exact q.elim
end
end Mine

set_option Elab.async false
set_option linter.unusedVariables false
namespace Mine
open PySem PySem.SeqAt PyProof.Rows

structure Src (a : Value) (o : Obj) (H : Heap → Prop) : Prop where
  iter : ∀ {prog : Program} {w : World} {A : Around} {E : Value → Shared → Prop} {s : Shared} {Q : Value → Shared → Prop}, H s.heap → Q (.ref s.heap.objs.size) { s with heap := s.heap.push o } → wpAny (model prog w) A (pyIter a) Q E s
  push : ∀ h o', H h → H (h.push o')

abbrev zH1 (h : Heap) (o1 : Obj) : Heap := h.push o1
abbrev zH2 (h : Heap) (o1 o2 : Obj) : Heap := (zH1 h o1).push o2
abbrev zH3 (h : Heap) (o1 o2 : Obj) : Heap := (zH2 h o1 o2).push { cls := .type "tuple", data := .seq #[.ref h.objs.size, .ref (zH1 h o1).objs.size] }
abbrev zH4 (h : Heap) (o1 o2 : Obj) : Heap := (zH3 h o1 o2).push { cls := .type "tuple", data := .seq #[.none, .none] }
abbrev zH5 (h : Heap) (o1 o2 : Obj) : Heap := (zH4 h o1 o2).push { cls := .type "zip", data := .fields #[.none, .bool false, .bool false, .ref (zH2 h o1 o2).objs.size, .ref (zH3 h o1 o2).objs.size] }

theorem meets_zip {a1 a2 : Value} {o1 o2 : Obj} {H1 H2 : Heap → Prop} (S1 : Src a1 o1 H1) (S2 : Src a2 o2 H2) :
    Meets (Builtin.«zip.__new__» ⟨[.type "zip", a1, a2], []⟩) (fun _ R s => H1 s.heap ∧ H2 s.heap ∧ R (.ok (.ret (.ref (zH4 s.heap o1 o2).objs.size))) { s with heap := zH5 s.heap o1 o2 }) :=
  .of_wp fun prog w A R s h => by
    obtain ⟨hp, g, d, tk, os⟩ := s; obtain ⟨hl1, hl2, h⟩ := h
    have hsub := PySem.sub_zip
    have hL1 : H1 (Shared.heap ⟨hp, g, d, tk, os⟩) := hl1
    have hL2 : H2 (Shared.heap ⟨hp.push o1, g, d, tk, os⟩) := S2.push _ _ hl2
    wp_walk using S1.iter hL1, S2.iter hL2
    exact ⟨_, rfl, h⟩

section
variable {prog : Program} {w : World} {A : Around} {E : Value → Shared → Prop} {s : Shared}
theorem call_zip {a1 a2 : Value} {o1 o2 : Obj} {H1 H2 : Heap → Prop} (S1 : Src a1 o1 H1) (S2 : Src a2 o2 H2) {Q : Value → Shared → Prop} (h1 : H1 s.heap) (h2 : H2 s.heap) (f1 : o1.isFreed = false) (f2 : o2.isFreed = false)
    (h : ∀ h', IsZip h' (s.heap.objs.size + 4) (s.heap.objs.size + 2) (s.heap.objs.size + 3) .none → IsPair h' (s.heap.objs.size + 2) (.ref s.heap.objs.size) (.ref (s.heap.objs.size + 1)) →
      IsPair h' (s.heap.objs.size + 3) .none .none → h'.get? s.heap.objs.size = some o1 → h'.get? (s.heap.objs.size + 1) = some o2 →
      (∀ c o, s.heap.get? c = some o → h'.get? c = some o) → Q (.ref (s.heap.objs.size + 4)) { s with heap := h' }) :
    wpAny (model prog w) A (call (.type "zip") [a1, a2]) Q E s := by
  refine callType_new PySem.F.called_zip (by decide) (PySem.F.typeCall_zip_2 _ _) (PySem.F.newCall_zip_2 _ _) (fun obj => PySem.F.args_object_init_3 obj _ _) PySem.F.entry_zip_new
    (meets_zip S1 S2) ⟨h1, h2, ?_⟩
  have z1 : (zH1 s.heap o1).objs.size = s.heap.objs.size + 1 := Heap.size_push ..
  have z2 : (zH2 s.heap o1 o2).objs.size = s.heap.objs.size + 2 := by rw [Heap.size_push, z1]
  have z3 : (zH3 s.heap o1 o2).objs.size = s.heap.objs.size + 3 := by rw [Heap.size_push, z2]
  have z4 : (zH4 s.heap o1 o2).objs.size = s.heap.objs.size + 4 := by rw [Heap.size_push, z3]
  have g5 : (zH5 s.heap o1 o2).get? (zH4 s.heap o1 o2).objs.size = some _ := Heap.get?_push_size _ rfl
  have g4 : (zH5 s.heap o1 o2).get? (zH3 s.heap o1 o2).objs.size = some _ := Heap.get?_push_of_some _ (Heap.get?_push_size _ rfl)
  have g3 : (zH5 s.heap o1 o2).get? (zH2 s.heap o1 o2).objs.size = some _ := Heap.get?_push_of_some _ (Heap.get?_push_of_some _ (Heap.get?_push_size _ rfl))
  have g2 : (zH5 s.heap o1 o2).get? (zH1 s.heap o1).objs.size = some _ := Heap.get?_push_of_some _ (Heap.get?_push_of_some _ (Heap.get?_push_of_some _ (Heap.get?_push_size _ f2)))
  have g1 : (zH5 s.heap o1 o2).get? s.heap.objs.size = some _ := Heap.get?_push_of_some _ (Heap.get?_push_of_some _ (Heap.get?_push_of_some _ (Heap.get?_push_of_some _ (Heap.get?_push_size _ f1))))
  show _ ∧ _
  rw [z2, z3, z4] at g5
  rw [z1, z2] at g3
  rw [z3] at g4
  rw [z1] at g2
  rw [z4]
  exact ⟨⟨_, g5, rfl⟩, h _ g5 g3 g4 g1 g2 fun c o x =>
    Heap.get?_push_of_some _ (Heap.get?_push_of_some _ (Heap.get?_push_of_some _ (Heap.get?_push_of_some _ (Heap.get?_push_of_some _ x))))⟩

structure ZAp (z TI TO i1 i2 : Addr) (fp1 fp2 : List Addr) : Prop where
  TIz : TI ≠ z
  TOz : TO ≠ z
  i1z : i1 ≠ z
  i2z : i2 ≠ z
  TITO : TI ≠ TO
  TIi1 : TI ≠ i1
  TIi2 : TI ≠ i2
  TOi1 : TO ≠ i1
  TOi2 : TO ≠ i2
  i12 : i1 ≠ i2
  m1 : i1 ∈ fp1
  m2 : i2 ∈ fp2
  f1 : ∀ b ∈ fp1, b ≠ z ∧ b ≠ TO ∧ b ≠ i2
  f2 : ∀ b ∈ fp2, b ≠ z ∧ b ≠ TO ∧ b ≠ i1

variable {z TI TO i1 i2 : Addr} {fp1 fp2 : List Addr} {n1 n2 i : Nat} {P1 P2 : Nat → Value → Prop} {St1 St2 : Nat → Heap → Prop}
theorem zip_item (D : ZAp z TI TO i1 i2 fp1 fp2) (D1 : Draws prog w A i1 fp1 n1 P1 St1) (D2 : Draws prog w A i2 fp2 n2 P2 St2) {a b : Value} {Q : Value → Shared → Prop}
    (hz : IsZip s.heap z TI TO .none) (hTI : IsPair s.heap TI (.ref i1) (.ref i2)) (hTO : IsPair s.heap TO a b) (h1 : St1 i s.heap) (h2 : St2 i s.heap) (hi1 : i < n1) (hi2 : i < n2)
    (hQ : ∀ h' tk x y, P1 i x → P2 i y → IsZip h' z TI TO (rawInt s.heap.objs.size) → IsPair h' TO x y → St1 (i + 1) h' → St2 (i + 1) h' → IsPair h' s.heap.objs.size x y →
      (∀ c o, c ≠ z → c ≠ TO → c ≠ i1 → c ≠ i2 → s.heap.get? c = some o → h'.get? c = some o) → Q (.ref s.heap.objs.size) { s with heap := h', toks := tk }) :
    wpAny (model prog w) A (Builtin.«zip.__next__» ⟨[.ref z], []⟩) (fun fin s' => ∃ v, fin = .done (.ret v) ∧ Q v s') E s := by
  show wpAny _ _ (field (.ref z) 2 >>= _) _ _ _
  refine wpAny_bind (wpAny_field hz rfl (x := .bool false) rfl ?_)
  show wpAny _ _ (field (.ref z) 3 >>= _) _ _ _
  refine wpAny_bind (wpAny_field hz rfl (x := .ref TI) rfl ?_)
  refine wpAny_bind (wpAny_seqItems hTI rfl ?_)
  show wpAny _ _ (Builtin.SmallTypes.ownedTupleIsFree (.ref z) >>= _) _ _ _
  refine wpAny_bind ?_
  unfold Builtin.SmallTypes.ownedTupleIsFree
  refine wpAny_bind (wpAny_field hz rfl (x := .none) rfl (wpAny_pure ?_))
  simp only [if_true]
  refine wpAny_bind (wpAny_rule ?_)
  refine wpAny_bind (wpAny_field hz rfl (x := .ref TO) rfl ?_)
  refine wpAny_bind (wpAny_setField_rec hz (by simp) fun h₁ hz₁ hs₁ => ?_)
  replace hz₁ : IsZip h₁ z TI TO .ellipsis := hz₁
  refine wpAny_bind ?_
  simp only [List.zipIdx_cons, List.zipIdx_nil, List.forIn_cons, List.forIn_nil]
  have s1₁ : St1 i h₁ := D1.frame _ _ _ h1 fun b hb o e => hs₁.extBut b o (D.f1 b hb).1 e
  have s2₁ : St2 i h₁ := D2.frame _ _ _ h2 fun b hb o e => hs₁.extBut b o (D.f2 b hb).1 e
  refine wpAny_bind (wpAny_bind (wpAny_onRaise ?_))
  show wpAny _ _ (Builtin.SmallTypes.nextOf (.ref i1) >>= _) _ _ _
  refine wpAny_bind (D1.item i _ _ _ hi1 s1₁ fun x h₂ tk₂ hx s1₂ hs₂ => wpAny_pure ?_)
  have hTO₂ : IsPair h₂ TO a b := hs₂.extBut _ _ D.TOi1 (hs₁.extBut _ _ D.TOz hTO)
  refine wpAny_bind (wpAny_seqItems hTO₂ rfl ?_)
  refine wpAny_bind (wpAny_updateSeq_pair hTO₂ fun h₃ hTO₃ hs₃ => ?_)
  replace hTO₃ : IsPair h₃ TO x b := hTO₃
  refine wpAny_bind (wpAny_letGo (wpAny_pure ?_))
  have s2₃ : St2 i h₃ := D2.frame _ _ _ s2₁ fun b hb o e => hs₃.extBut b o (D.f2 b hb).2.1 (hs₂.extBut b o (D.f2 b hb).2.2 e)
  refine wpAny_bind (wpAny_bind (wpAny_onRaise ?_))
  show wpAny _ _ (Builtin.SmallTypes.nextOf (.ref i2) >>= _) _ _ _
  refine wpAny_bind (D2.item i _ _ _ hi2 s2₃ fun y h₄ tk₄ hy s2₄ hs₄ => wpAny_pure ?_)
  have hTO₄ : IsPair h₄ TO x b := hs₄.extBut _ _ D.TOi2 hTO₃
  refine wpAny_bind (wpAny_seqItems hTO₄ rfl ?_)
  refine wpAny_bind (wpAny_updateSeq_pair hTO₄ fun h₅ hTO₅ hs₅ => ?_)
  replace hTO₅ : IsPair h₅ TO x y := hTO₅
  refine wpAny_bind (wpAny_letGo (wpAny_pure (wpAny_pure ?_)))
  refine wpAny_bind (wpAny_seqItems hTO₅ rfl ?_)
  refine wpAny_bind (wpAny_newTuple ?_)
  have hsz : h₅.objs.size = s.heap.objs.size := by rw [hs₅.1, hs₄.1, hs₃.1, hs₂.1, hs₁.1]
  have hz₅ : IsZip h₅ z TI TO .ellipsis := hs₅.extBut _ _ D.TOz.symm (hs₄.extBut _ _ D.i2z.symm (hs₃.extBut _ _ D.TOz.symm (hs₂.extBut _ _ D.i1z.symm hz₁)))
  have hk₅ : ∀ c o, c ≠ z → c ≠ TO → c ≠ i1 → c ≠ i2 → s.heap.get? c = some o → h₅.get? c = some o := fun c o c1 c2 c3 c4 e =>
    hs₅.extBut _ _ c2 (hs₄.extBut _ _ c4 (hs₃.extBut _ _ c2 (hs₂.extBut _ _ c3 (hs₁.extBut _ _ c1 e))))
  have s1₅ : St1 (i + 1) h₅ := D1.frame _ _ _ s1₂ fun b hb o e => hs₅.extBut b o (D.f1 b hb).2.1 (hs₄.extBut b o (D.f1 b hb).2.2 (hs₃.extBut b o (D.f1 b hb).2.1 e))
  have s2₅ : St2 (i + 1) h₅ := D2.frame _ _ _ s2₄ fun b hb o e => hs₅.extBut b o (D.f2 b hb).2.1 e
  have hzlt : z < h₅.objs.size := Heap.lt_size hz₅
  show wpAny _ _ (Builtin.SmallTypes.ownedTupleHandOut (.ref z) (.ref h₅.objs.size) >>= _) _ _ _
  refine wpAny_bind ?_
  unfold Builtin.SmallTypes.ownedTupleHandOut
  have hz₆ : IsZip (h₅.push { cls := .type "tuple", data := .seq #[x, y] }) z TI TO .ellipsis := Heap.get?_push_of_some _ hz₅
  refine wpAny_bind (wpAny_setField_rec hz₆ (by simp) fun h₇ hz₇ hs₇ => ?_)
  replace hz₇ : IsZip h₇ z TI TO (rawInt h₅.objs.size) := hz₇
  refine wpAny_setField_rec hz₇ (by simp) fun h₈ hz₈ hs₈ => ?_
  replace hz₈ : IsZip h₈ z TI TO (rawInt h₅.objs.size) := hz₈
  have up : ∀ c o, c ≠ z → h₅.get? c = some o → h₈.get? c = some o := fun c o c1 e => hs₈.extBut _ _ c1 (hs₇.extBut _ _ c1 (Heap.get?_push_of_some _ e))
  have hT₈ : IsPair h₈ h₅.objs.size x y := hs₈.extBut _ _ (Nat.ne_of_gt hzlt) (hs₇.extBut _ _ (Nat.ne_of_gt hzlt) (Heap.get?_push_size _ rfl))
  rw [hsz] at hz₈ hT₈
  refine wpAny_pure ⟨_, rfl, ?_⟩
  show Q (.ref h₅.objs.size) _
  rw [hsz]
  exact hQ h₈ _ x y hx hy hz₈ (up _ _ D.TOz hTO₅) (D1.frame _ _ _ s1₅ fun b hb o e => up b o (D.f1 b hb).1 e) (D2.frame _ _ _ s2₅ fun b hb o e => up b o (D.f2 b hb).1 e) hT₈ fun c o c1 c2 c3 c4 e => up c o c1 (hk₅ c o c1 c2 c3 c4 e)

theorem zip_end (D : ZAp z TI TO i1 i2 fp1 fp2) (D1 : Draws prog w A i1 fp1 n1 P1 St1) (D2 : Draws prog w A i2 fp2 n2 P2 St2) {a b : Value} {Q : Fin → Shared → Prop}
    (hz : IsZip s.heap z TI TO .none) (hTI : IsPair s.heap TI (.ref i1) (.ref i2)) (hTO : IsPair s.heap TO a b) (h1 : St1 i s.heap) (h2 : St2 i s.heap) (hend : i = n1 ∨ (i < n1 ∧ i = n2))
    (hE : ∀ h' tk e, (∀ c o, c ≠ z → c ≠ TO → c ≠ i1 → c ≠ i2 → s.heap.get? c = some o → h'.get? c = some o) → (∃ o, h'.get? e = some o ∧ o.cls = .type "StopIteration") → E (.ref e) { s with heap := h', toks := tk }) :
    wpAny (model prog w) A (Builtin.«zip.__next__» ⟨[.ref z], []⟩) Q E s := by
  show wpAny _ _ (field (.ref z) 2 >>= _) _ _ _
  refine wpAny_bind (wpAny_field hz rfl (x := .bool false) rfl ?_)
  show wpAny _ _ (field (.ref z) 3 >>= _) _ _ _
  refine wpAny_bind (wpAny_field hz rfl (x := .ref TI) rfl ?_)
  refine wpAny_bind (wpAny_seqItems hTI rfl ?_)
  show wpAny _ _ (Builtin.SmallTypes.ownedTupleIsFree (.ref z) >>= _) _ _ _
  refine wpAny_bind ?_
  unfold Builtin.SmallTypes.ownedTupleIsFree
  refine wpAny_bind (wpAny_field hz rfl (x := .none) rfl (wpAny_pure ?_))
  simp only [if_true]
  refine wpAny_bind (wpAny_rule ?_)
  refine wpAny_bind (wpAny_field hz rfl (x := .ref TO) rfl ?_)
  refine wpAny_bind (wpAny_setField_rec hz (by simp) fun h₁ hz₁ hs₁ => ?_)
  replace hz₁ : IsZip h₁ z TI TO .ellipsis := hz₁
  refine wpAny_bind ?_
  simp only [List.zipIdx_cons, List.zipIdx_nil, List.forIn_cons, List.forIn_nil]
  have s1₁ : St1 i h₁ := D1.frame _ _ _ h1 fun b hb o e => hs₁.extBut b o (D.f1 b hb).1 e
  have s2₁ : St2 i h₁ := D2.frame _ _ _ h2 fun b hb o e => hs₁.extBut b o (D.f2 b hb).1 e
  refine wpAny_bind (wpAny_bind (wpAny_onRaise ?_))
  show wpAny _ _ (Builtin.SmallTypes.nextOf (.ref i1) >>= _) _ _ _
  rcases hend with hend | ⟨hi1, hend⟩
  · subst hend
    refine wpAny_bind (D1.done _ _ _ s1₁ fun h₂ e hs₂ he => ?_)
    obtain ⟨oe, hoe, hce⟩ := he
    have hz₂ : IsZip h₂ z TI TO .ellipsis := hs₂ _ _ D.i1z.symm hz₁
    have hez : e ≠ z := fun x => by subst x; rw [hz₂] at hoe; cases hoe; simp at hce
    exact wpAny_setField_rec hz₂ (by simp) fun h₃ _ hs₃ => hE h₃ _ e (fun c o c1 _ c3 _ x => hs₃.extBut _ _ c1 (hs₂ _ _ c3 (hs₁.extBut _ _ c1 x))) ⟨oe, hs₃.extBut _ _ hez hoe, hce⟩
  · subst hend
    refine wpAny_bind (D1.item i _ _ _ hi1 s1₁ fun x h₂ tk₂ hx s1₂ hs₂ => wpAny_pure ?_)
    have hTO₂ : IsPair h₂ TO a b := hs₂.extBut _ _ D.TOi1 (hs₁.extBut _ _ D.TOz hTO)
    refine wpAny_bind (wpAny_seqItems hTO₂ rfl ?_)
    refine wpAny_bind (wpAny_updateSeq_pair hTO₂ fun h₃ hTO₃ hs₃ => ?_)
    refine wpAny_bind (wpAny_letGo (wpAny_pure ?_))
    have s2₃ : St2 i h₃ := D2.frame _ _ _ s2₁ fun b hb o e => hs₃.extBut b o (D.f2 b hb).2.1 (hs₂.extBut b o (D.f2 b hb).2.2 e)
    refine wpAny_bind (wpAny_bind (wpAny_onRaise ?_))
    show wpAny _ _ (Builtin.SmallTypes.nextOf (.ref i2) >>= _) _ _ _
    refine wpAny_bind (D2.done _ _ _ s2₃ fun h₄ e hs₄ he => ?_)
    obtain ⟨oe, hoe, hce⟩ := he
    have hz₄ : IsZip h₄ z TI TO .ellipsis := hs₄ _ _ D.i2z.symm (hs₃.extBut _ _ D.TOz.symm (hs₂.extBut _ _ D.i1z.symm hz₁))
    have hez : e ≠ z := fun x => by subst x; rw [hz₄] at hoe; cases hoe; simp at hce
    exact wpAny_setField_rec hz₄ (by simp) fun h₅ _ hs₅ => hE h₅ _ e (fun c o c1 c2 c3 c4 x => hs₅.extBut _ _ c1 (hs₄ _ _ c4 (hs₃.extBut _ _ c2 (hs₂.extBut _ _ c3 (hs₁.extBut _ _ c1 x))))) ⟨oe, hs₅.extBut _ _ hez hoe, hce⟩

theorem walksZip (D : ZAp z TI TO i1 i2 fp1 fp2) (D1 : Draws prog w A.in1 i1 fp1 n1 P1 St1) (D2 : Draws prog w A.in1 i2 fp2 n2 P2 St2) :
    WalksT prog w A z (z :: TI :: TO :: (fp1 ++ fp2)) [z, TO, i1, i2] (min n1 n2)
      (fun i vals => ∃ x y, P1 i x ∧ P2 i y ∧ vals = #[x, y])
      (fun i h => IsZip h z TI TO .none ∧ IsPair h TI (.ref i1) (.ref i2) ∧ (∃ a b, IsPair h TO a b) ∧ St1 i h ∧ St2 i h)
      (fun i T h => IsZip h z TI TO (rawInt T) ∧ IsPair h TI (.ref i1) (.ref i2) ∧ (∃ a b, IsPair h TO a b) ∧ St1 (i + 1) h ∧ St2 (i + 1) h ∧ T ≠ z ∧ T ≠ TO ∧ T ≠ i1 ∧ T ≠ i2) where
  sub := fun c hc => by
    simp only [List.mem_cons, List.mem_append, List.not_mem_nil, or_false] at hc ⊢
    rcases hc with h | h | h | h
    · exact .inl h
    · exact .inr (.inr (.inl h))
    · exact .inr (.inr (.inr (.inl (h ▸ D.m1))))
    · exact .inr (.inr (.inr (.inr (h ▸ D.m2))))
  frame := fun i h h' hst hk => by
    obtain ⟨hz, hTI, ⟨a, b, hTO⟩, h1, h2⟩ := hst
    exact ⟨hk z (by simp) _ hz, hk TI (by simp) _ hTI, ⟨a, b, hk TO (by simp) _ hTO⟩, D1.frame _ _ _ h1 fun b hb o e => hk b (by simp [hb]) o e, D2.frame _ _ _ h2 fun b hb o e => hk b (by simp [hb]) o e⟩
  item := fun i s Q E hi hst hQ => by
    obtain ⟨hz, hTI, ⟨a, b, hTO⟩, h1, h2⟩ := hst
    have hix : i < n1 := Nat.lt_of_lt_of_le hi (Nat.min_le_left ..)
    have hiy : i < n2 := Nat.lt_of_lt_of_le hi (Nat.min_le_right ..)
    have hT : s.TypeIs (.ref z) "zip" := ⟨_, hz, rfl⟩
    have lt : ∀ {c o}, s.heap.get? c = some o → s.heap.objs.size ≠ c := fun e => Nat.ne_of_gt (Heap.lt_size e)
    unfold pyNext
    refine wpAny_bind (wpAny_attempt (wpAny_callSpecial?_slot (name := Str.ofString "__next__") hT PySem.F.slot_zip_next
      (wpAny_call_entry PySem.F.slot_zip_next hT PySem.F.entry_zip_next
        (zip_item D D1 D2 hz hTI hTO h1 h2 hix hiy fun h' tk x y p1 p2 a1 a2 a3 a4 a5 hk => wpAny_pure ?_) (PySem.F.args_zip_next_1 _))))
    obtain ⟨o1, e1⟩ := D1.live _ _ h1
    obtain ⟨o2, e2⟩ := D2.live _ _ h2
    exact hQ s.heap.objs.size #[x, y] h' tk ⟨x, y, p1, p2, rfl⟩ (Nat.le_refl _) ⟨_, a5, rfl, _, rfl⟩
      ⟨a1, hk _ _ D.TIz D.TITO D.TIi1 D.TIi2 hTI, ⟨_, _, a2⟩, a3, a4, lt hz, lt hTO, lt e1, lt e2⟩
      fun c o hc e => hk c o (fun x => hc (by simp [x])) (fun x => hc (by simp [x])) (fun x => hc (by simp [x])) (fun x => hc (by simp [x])) e
  go := fun elts k pos i T s Q E hm hQ => by
    obtain ⟨hz, hTI, ⟨a, b, hTO⟩, h1, h2, _⟩ := hm
    refine wpAny_letOwnedTupleGo_zip hz fun h' hz' hs' => hQ h' ⟨hz', hs'.extBut _ _ D.TIz hTI, ⟨a, b, hs'.extBut _ _ D.TOz hTO⟩, D1.frame _ _ _ h1 fun b hb o e => hs'.extBut b o (D.f1 b hb).1 e, D2.frame _ _ _ h2 fun b hb o e => hs'.extBut b o (D.f2 b hb).1 e⟩
      fun c o hc e => hs'.extBut _ _ (fun x => hc (by simp [x])) e
  apart := fun i T h hm hT => by
    obtain ⟨_, _, _, _, _, t1, t2, t3, t4⟩ := hm
    simp at hT
    rcases hT with rfl | rfl | rfl | rfl
    · exact t1 rfl
    · exact t2 rfl
    · exact t3 rfl
    · exact t4 rfl
  done := fun s Q E hst hQ => by
    obtain ⟨hz, hTI, ⟨a, b, hTO⟩, h1, h2⟩ := hst
    have hend : min n1 n2 = n1 ∨ (min n1 n2 < n1 ∧ min n1 n2 = n2) := by omega
    have hT : s.TypeIs (.ref z) "zip" := ⟨_, hz, rfl⟩
    unfold pyNext
    refine wpAny_bind (wpAny_attempt (wpAny_callSpecial?_slot (name := Str.ofString "__next__") hT PySem.F.slot_zip_next
      (wpAny_call_entry PySem.F.slot_zip_next hT PySem.F.entry_zip_next (zip_end D D1 D2 hz hTI hTO h1 h2 hend fun h' tk e hk he => ?_) (PySem.F.args_zip_next_1 _))))
    obtain ⟨o, ho, hc⟩ := he
    refine wpAny_bind (wpAny_isInstance (T := "StopIteration") (b := true) ⟨o, ho, hc⟩ isSubtype_stop ?_)
    exact wpAny_pure (hQ h' tk fun c o hc e => hk c o (fun x => hc (by simp [x])) (fun x => hc (by simp [x])) (fun x => hc (by simp [x])) (fun x => hc (by simp [x])) e)
  self := fun i s Q E hst hQ => wpAny_pyIter_zip hst.1 hQ
end
end Mine

set_option Elab.async false
set_option linter.unusedVariables false
namespace Mine
open PySem PySem.SeqAt PyProof.Rows

section
variable {prog : Program} {w : World} {A : Around} {E : Value → Shared → Prop} {s : Shared}
theorem nextOf_tuple_item {it t : Addr} {i : Nat} {items : Array Value} {x : Value} {Q : Value → Shared → Prop} (hit : s.heap.IsTupleIter it t i) (ht : s.heap.IsTuple t items) (hx : items[i]? = some x)
    (hQ : ∀ h', h'.IsTupleIter it t (i + 1) → Heap.SameBut it s.heap h' → Q x { s with heap := h' }) : wpAny (model prog w) A (Builtin.SmallTypes.nextOf (.ref it)) Q E s := by
  obtain ⟨o, ho, hc, hd⟩ := id hit
  obtain ⟨ol, hol, _, nl, hdl⟩ := ht
  unfold Builtin.SmallTypes.nextOf
  refine wpAny_bind (wpAny_callSpecial?_slot (name := Str.ofString "__next__") hit.typeIs PySem.F.slot_tuple_iterator_next
    (wpAny_call_entry PySem.F.slot_tuple_iterator_next hit.typeIs PySem.F.entry_tuple_iterator_next ?_ (PySem.F.args_tuple_iterator_next_1 _)))
  show wpAny _ _ (field (.ref it) 0 >>= _) _ _ s
  refine wpAny_bind (wpAny_field ho hd (x := .ref t) rfl ?_)
  show wpAny _ _ (if (Value.ref t == Value.none) = true then _ else _) _ _ s
  rw [if_neg (show ¬ ((Value.ref t == Value.none) = true) from Bool.false_ne_true)]
  show wpAny _ _ (field (.ref it) 1 >>= _) _ _ s
  refine wpAny_bind (wpAny_field ho hd (x := .int i 0) rfl ?_)
  show wpAny _ _ (seqItems? (.ref t) >>= _) _ _ s
  refine wpAny_bind (wpAny_seqItems hol hdl ?_)
  simp only [Int.toNat_natCast, hx]
  refine wpAny_bind (wpAny_setField ho hd (by simp) (wpAny_pure ⟨x, rfl, wpAny_pure (hQ _ ?_ (Heap.SameBut.update ..))⟩))
  exact ⟨_, Heap.get?_update_self _ ho (Obj.isFreed_of_fields (Obj.data_mapFields hd _)), (Obj.cls_mapFields ..).trans hc, by
    rw [Obj.data_mapFields hd]; simp [rawInt]⟩
theorem nextOf_tuple_end {it t : Addr} {i : Nat} {items : Array Value} {Q : Value → Shared → Prop} (hh : A.handled = none) (hit : s.heap.IsTupleIter it t i) (ht : s.heap.IsTuple t items) (hx : items[i]? = none)
    (hE : ∀ h' e, Heap.ExtBut it s.heap h' → (∃ o, h'.get? e = some o ∧ o.cls = .type "StopIteration") → E (.ref e) { s with heap := h' }) :
    wpAny (model prog w) A (Builtin.SmallTypes.nextOf (.ref it)) Q E s := by
  obtain ⟨o, ho, hc, hd⟩ := id hit
  obtain ⟨ol, hol, _, nl, hdl⟩ := ht
  unfold Builtin.SmallTypes.nextOf
  refine wpAny_bind (wpAny_callSpecial?_slot (name := Str.ofString "__next__") hit.typeIs PySem.F.slot_tuple_iterator_next
    (wpAny_call_entry PySem.F.slot_tuple_iterator_next hit.typeIs PySem.F.entry_tuple_iterator_next ?_ (PySem.F.args_tuple_iterator_next_1 _)))
  show wpAny _ _ (field (.ref it) 0 >>= _) _ _ s
  refine wpAny_bind (wpAny_field ho hd (x := .ref t) rfl ?_)
  show wpAny _ _ (if (Value.ref t == Value.none) = true then _ else _) _ _ s
  rw [if_neg (show ¬ ((Value.ref t == Value.none) = true) from Bool.false_ne_true)]
  show wpAny _ _ (field (.ref it) 1 >>= _) _ _ s
  refine wpAny_bind (wpAny_field ho hd (x := .int i 0) rfl ?_)
  show wpAny _ _ (seqItems? (.ref t) >>= _) _ _ s
  refine wpAny_bind (wpAny_seqItems hol hdl ?_)
  simp only [Int.toNat_natCast, hx]
  refine wpAny_bind (wpAny_rule (wpAny_bind (wpAny_setField ho hd (by simp) ?_)))
  show wpAny _ _ (newExc (.type "StopIteration") [] >>= _) _ _ _
  refine wpAny_bind ?_
  simp only [newExc, newTuple]
  refine wpAny_bind (wpAny_newObj_type ?_ (by size_fits))
  refine wpAny_bind (m := firstArgMember _ _) (wpAny_of_eq (a := Value.none) (by first | rfl | (simp only [firstArgMember]; rfl)) ?_)
  refine wpAny_newObj_type ?_ (by size_fits)
  simp only [raiseNew]
  refine wpAny_bind (wpAny_handled ?_)
  first | rw [show A.in1.handled = none from hh] | rw [hh]
  refine wpAny_bind (wpAny_pure (wpAny_throw ?_))
  exact hE _ _ (((Heap.SameBut.update ..).extBut.push _).push _) ⟨_, Heap.get?_push_size _ rfl, rfl⟩
theorem drawsTuple (hh : A.handled = none) (it l : Addr) (hne : l ≠ it) (items : Array Value) :
    Draws prog w A it [it, l] items.size (fun i v => items[i]? = some v) (fun i h => h.IsTupleIter it l i ∧ h.IsTuple l items) where
  live := fun _ _ st => let ⟨o, ho, _⟩ := st.1; ⟨o, ho⟩
  frame := fun _ _ _ st hk => ⟨st.1.at fun o e => hk it (by simp) o e, st.2.at fun o e => hk l (by simp) o e⟩
  item := fun i s Q E hi st hQ => by
    refine nextOf_tuple_item st.1 st.2 (x := items[i]) (by simp [hi]) fun h' hit' hs' => ?_
    exact hQ _ h' s.toks (by simp [hi]) ⟨hit', st.2.extBut hs'.extBut hne⟩ hs'
  done := fun s Q E st hE => nextOf_tuple_end hh st.1 st.2 (by simp) hE
end

section
variable {G : GP} {cc : CC} {env : PySem.Env} {ρ : Env} {F F' F'' : FH} {live live' live'' : Hp} {s s' s'' : Shared} {A : Around} {Ex : Value → Shared → Prop} {Q : KV} {x y : V} {v u : Value} {ht : Nat} {tgt : Expr}

noncomputable def ZSrc (G : GP) (F : FH) (v : Value) (ds : List D) : Prop := ∃ (o : Obj) (H : Heap → Prop) (fps : List Addr), Src v o H ∧ o.isFreed = false ∧ (∀ h, Sub F h → H h) ∧ (∀ b ∈ fps, F b ≠ none) ∧
  ∀ (A : Around) (it : Addr), A.handled = none → it ∉ fps → ∃ (P : Nat → Value → Prop) (St : Nat → Heap → Prop), Draws G.prog G.w A it (it :: fps) ds.length P St ∧ (∀ i v d, P i v → ds[i]? = some d → DRel G F d v) ∧ (∀ h, Sub F h → h.get? it = some o → St 0 h)

theorem DRels.at : ∀ {xs : List D} {vs : List Value} {i : Nat} {x : D}, DRels G F xs vs → xs[i]? = some x → ∃ v, vs[i]? = some v ∧ DRel G F x v
  | [], _, _, _, _, h => by simp at h
  | x :: xs, _, 0, _, hr, h => by
    obtain ⟨v, t, rfl, r, _⟩ := hr
    simp at h; subst h; exact ⟨v, by simp, r⟩
  | x :: xs, _, i + 1, _, hr, h => by
    obtain ⟨v, t, rfl, _, r⟩ := hr
    obtain ⟨w, h1, h2⟩ := DRels.at r (by simpa using h)
    exact ⟨w, by simpa using h1, h2⟩

theorem zsrc_ok {d : D} {ds : List D} (e : zsrc d = some ds) (r : DRel G F d v) : ZSrc G F v ds := by
  cases d with
  | tup ds' =>
    cases e
    obtain ⟨items, ⟨a, vs, n, rfl, h2, h3, h4⟩, h5⟩ := r
    subst h3
    have hl : ds.length = vs.size := by rw [← h5.length, Array.length_toList]
    refine ⟨{ cls := .type "tuple_iterator", data := .fields #[.ref a, .int 0 0] }, fun h => h.IsTuple a vs, [a], ⟨fun hH hQ => wpAny_pyIter_tuple hH hQ, fun h o' hH => hH.at fun o e => Heap.get?_push_of_some _ e⟩, rfl,
      fun h hS => ⟨_, hS _ _ h2, rfl, n, rfl⟩, (fun b hb => by rw [List.mem_singleton.mp hb, h2]; intro z; cases z), fun A it hh hit => ?_⟩
    refine ⟨_, _, hl ▸ drawsTuple hh it a (fun z => hit (by simp [z])) vs, fun i v d hP hd => ?_, fun h hS hg => ⟨⟨_, hg, rfl, rfl⟩, ⟨_, hS _ _ h2, rfl, n, rfl⟩⟩⟩
    obtain ⟨w, q1, q2⟩ := h5.at hd
    rw [Array.getElem?_toList] at q1
    have hP' : vs[i]? = some v := hP
    rw [hP'] at q1; cases q1; exact q2
  | list ds' =>
    cases e
    obtain ⟨items, ⟨a, vs, n, rfl, h2, h3, h4⟩, h5⟩ := r
    subst h3
    have hl : ds.length = vs.size := by rw [← h5.length, Array.length_toList]
    refine ⟨{ cls := .type "list_iterator", data := .fields #[.ref a, .int 0 0] }, fun h => h.IsList a vs, [a], ⟨fun hH hQ => wpAny_pyIter_list hH hQ, fun h o' hH => hH.at fun o e => Heap.get?_push_of_some _ e⟩, rfl,
      fun h hS => ⟨_, hS _ _ h2, rfl, n, rfl⟩, (fun b hb => by rw [List.mem_singleton.mp hb, h2]; intro z; cases z), fun A it hh hit => ?_⟩
    refine ⟨_, _, hl ▸ Draws.list hh it a (fun z => hit (by simp [z])) vs, fun i v d hP hd => ?_, fun h hS hg => ⟨⟨_, hg, rfl, rfl⟩, ⟨_, hS _ _ h2, rfl, n, rfl⟩⟩⟩
    obtain ⟨w, q1, q2⟩ := h5.at hd
    rw [Array.getElem?_toList] at q1
    have hP' : vs[i]? = some v := hP
    rw [hP'] at q1; cases q1; exact q2
  | str cs =>
    cases e
    obtain ⟨t, rfl, hc⟩ := r
    have hl : (cs.map fun c => D.str [c]).length = (⟨cs.toArray⟩ : Str).cps.size := by simp
    have item : ∀ (i : Nat) (v : Value) (d : D), (∃ c u, (⟨cs.toArray⟩ : Str).cps[i]? = some c ∧ v = .str ⟨#[c]⟩ u) → (cs.map fun c => D.str [c])[i]? = some d → DRel G F d v := by
      rintro i v d ⟨c, u, h1, rfl⟩ hd
      rw [List.getElem?_map] at hd
      obtain ⟨c', h2, rfl⟩ := Option.map_eq_some_iff.mp hd
      have h1' : cs[i]? = some c := by simpa using h1
      rw [h1'] at h2; cases h2
      exact ⟨u, rfl, fun d hd => by rw [List.mem_singleton.mp hd]; exact hc.1 _ (List.mem_of_getElem? h1'), by show 1 ≤ big; decide⟩
    cases ha : (⟨cs.toArray⟩ : Str).cps.all (· < 128)
    · refine ⟨{ cls := .type "str_iterator", data := .fields #[.str ⟨cs.toArray⟩ t, .int 0 0] }, fun _ => True, [], ⟨fun _ hQ => wpAny_pyIter_wide ha hQ, fun _ _ _ => trivial⟩, rfl, fun _ _ => trivial, (fun b hb => nomatch hb), fun A it hh hit => ?_⟩
      exact ⟨_, _, hl ▸ Draws.strWide hh it _ t, item, fun h _ hg => ⟨_, hg, rfl, rfl⟩⟩
    · refine ⟨{ cls := .type "str_ascii_iterator", data := .fields #[.str ⟨cs.toArray⟩ t, .int 0 0] }, fun _ => True, [], ⟨fun _ hQ => wpAny_pyIter_ascii ha hQ, fun _ _ _ => trivial⟩, rfl, fun _ _ => trivial, (fun b hb => nomatch hb), fun A it hh hit => ?_⟩
      exact ⟨_, _, hl ▸ Draws.strAscii hh it _ t, item, fun h _ hg => ⟨_, hg, rfl, rfl⟩⟩
  | _ => cases e

theorem wider {tg : Expr} {J : Addr} {fp wr : List Addr} {n : Nat} {P Md : Nat → Value → Heap → Prop} {St : Nat → Heap → Prop} (K : KT (Mo G) A tg J fp wr n P Md St) {b : Addr} (hb : b ∈ fp) : KT (Mo G) A tg J fp (b :: wr) n P Md St where
  sub := fun c hc => (List.mem_cons.mp hc).elim (fun e => e ▸ hb) (K.sub c)
  frame := K.frame
  item := fun i s Q E hi st hQ => K.item i s Q E hi st fun v h' tk hM hk => hQ v h' tk hM fun c o hc e => hk c o (fun z => hc (List.mem_cons_of_mem _ z)) e
  go := fun i v s Q E hM hQ => K.go i v s Q E hM fun h' hP hS hk => hQ h' hP hS fun c o hc e => hk c o (fun z => hc (List.mem_cons_of_mem _ z)) e
  done := fun s Q E st hQ => K.done s Q E st fun h' tk hk => hQ h' tk fun c o hc e => hk c o (fun z => hc (List.mem_cons_of_mem _ z)) e
theorem ne_add (N : Nat) {a b : Nat} (h : a ≠ b) : N + a ≠ N + b := fun e => h (Nat.add_left_cancel e)
theorem zipV_length : ∀ (xs ys : List D), (zipV xs ys).length = min xs.length ys.length
  | [], ys => by simp [zipV]
  | _ :: _, [] => by simp [zipV]
  | x :: xs, y :: ys => by simp only [zipV, List.length_cons, zipV_length xs ys]; omega
theorem zipV_get : ∀ {xs ys : List D} {i : Nat} {z : V}, (zipV xs ys)[i]? = some z → ∃ x y, xs[i]? = some x ∧ ys[i]? = some y ∧ z = .d (.tup [x, y])
  | [], ys, i, z, h => by simp [zipV] at h
  | _ :: _, [], i, z, h => by simp [zipV] at h
  | x :: xs, y :: ys, 0, z, h => by simp [zipV] at h; subst h; exact ⟨x, y, by simp, by simp, rfl⟩
  | x :: xs, y :: ys, i + 1, z, h => by
    obtain ⟨a, b, h1, h2, h3⟩ := zipV_get (xs := xs) (ys := ys) (i := i) (by simpa [zipV] using h)
    exact ⟨a, b, by simpa using h1, by simpa using h2, h3⟩

theorem iter_zip {elts : List Expr} {k : Nat} {pos : Pos} (hh : A.handled = none) {xs ys : List D} {K : List V → Option Nat → Hp → Prop} (I : Inv G F live s) (S1 : ZSrc G F v xs) (S2 : ZSrc G F u ys) (q : K (zipV xs ys) none live) :
    wpAny (Mo G) A (call (.type "zip") [v, u]) (fun x s₁ => wpAny (Mo G) A (pyIter x) (IterAt G A (.Tuple elts k pos) false F live s K) Ex s₁) Ex s := by
  obtain ⟨o1, H1, f1, s1, fr1, hH1, hF1, d1⟩ := S1
  obtain ⟨o2, H2, f2, s2, fr2, hH2, hF2, d2⟩ := S2
  refine call_zip s1 s2 (hH1 _ I.sub) (hH2 _ I.sub) fr1 fr2 fun h' hz hTI hTO hi1 hi2 hk => ?_
  refine wpAny_pyIter_zip hz ?_
  have S' : Sub F h' := fun a o e => hk a o (I.sub a o e)
  have ltf : ∀ b, F b ≠ none → b < s.heap.objs.size := fun b hb => by
    cases e : F b with
    | none => exact absurd e hb
    | some o => exact Heap.lt_size (I.sub _ _ e)
  have lt1 : ∀ b ∈ f1, b < s.heap.objs.size := fun b hb => ltf b (hF1 b hb)
  have lt2 : ∀ b ∈ f2, b < s.heap.objs.size := fun b hb => ltf b (hF2 b hb)
  generalize hN : s.heap.objs.size = N at *
  obtain ⟨P1, St1, D1, p1, t1⟩ := d1 A.in1 N hh fun z => Nat.lt_irrefl _ (lt1 _ z)
  obtain ⟨P2, St2, D2, p2, t2⟩ := d2 A.in1 (N + 1) hh fun z => absurd (lt2 _ z) (Nat.not_lt.mpr (Nat.le_succ N))
  have ap : ZAp (N + 4) (N + 2) (N + 3) N (N + 1) (N :: f1) ((N + 1) :: f2) := by
    refine ⟨ne_add N (by decide), ne_add N (by decide), ne_add N (a := 0) (by decide), ne_add N (by decide), ne_add N (by decide), ne_add N (b := 0) (by decide), ne_add N (by decide), ne_add N (b := 0) (by decide), ne_add N (by decide), ne_add N (a := 0) (by decide), by simp, by simp, fun b hb => ?_, fun b hb => ?_⟩
    · have hb' : b ≤ N := by
        rcases List.mem_cons.mp hb with e | e
        · exact Nat.le_of_eq e
        · exact Nat.le_of_lt (lt1 b e)
      exact ⟨Nat.ne_of_lt (Nat.lt_of_le_of_lt hb' (Nat.lt_add_of_pos_right (by decide))), Nat.ne_of_lt (Nat.lt_of_le_of_lt hb' (Nat.lt_add_of_pos_right (by decide))), Nat.ne_of_lt (Nat.lt_of_le_of_lt hb' (Nat.lt_add_of_pos_right (by decide)))⟩
    · rcases List.mem_cons.mp hb with e | e
      · subst e; exact ⟨ne_add N (by decide), ne_add N (by decide), ne_add N (b := 0) (by decide)⟩
      · have hb' := Nat.le_of_lt (lt2 b e)
        exact ⟨Nat.ne_of_lt (Nat.lt_of_le_of_lt hb' (Nat.lt_add_of_pos_right (by decide))), Nat.ne_of_lt (Nat.lt_of_le_of_lt hb' (Nat.lt_add_of_pos_right (by decide))), Nat.ne_of_lt (lt2 b e)⟩
  have W := (walksZip (prog := G.prog) (w := G.w) (A := A) ap D1 D2).toU
  have newN : ∀ b, N ≤ b → s.heap.get? b = none := fun b hb => by
    cases e : s.heap.get? b with
    | none => rfl
    | some o => have := Heap.lt_size e; rw [hN] at this; exact absurd this (Nat.not_lt.mpr hb)
  refine ⟨F, live, _, none, s, N + 4, _, _, _, _, _, .refl, I, q, rfl, ⟨by rw [zipV_length]; exact wider (kt_walksU W) (b := N + 2) (by simp), fun i s Q E st hQ => W.self i s Q E st hQ, ?_, ?_, ?_, ?_⟩, ?_, hk, rfl, rfl⟩
  · intro b hb
    simp only [List.mem_cons, List.not_mem_nil, or_false] at hb
    rcases hb with rfl | rfl | rfl | rfl | rfl <;> exact newN _ (by first | exact Nat.le_refl _ | exact Nat.le_add_right _ _)
  · rintro i h ⟨hz, hTI, ⟨a, b, hTO⟩, st1, st2⟩ c hc
    simp only [List.mem_cons, List.not_mem_nil, or_false] at hc
    rcases hc with rfl | rfl | rfl | rfl | rfl
    · exact ⟨_, hTI⟩
    · exact ⟨_, hz⟩
    · exact ⟨_, hTO⟩
    · exact D1.live _ _ st1
    · exact D2.live _ _ st2
  · intro b hb hn
    have hlv : ∀ b, F b ≠ none → live b = none := fun b hb => by
      cases e : live b with
      | none => rfl
      | some o => exact absurd (I.lv _ _ e).1 hb
    have fin : F b ≠ none → mutb (lock live none b) = false ∧ ∃ o, s.heap.get? b = some o ∧ (F b ≠ none ∨ lock live none b ≠ none) := fun h => by
      have h' := h
      cases e : F b with
      | none => exact absurd e h
      | some o => exact ⟨by show mutb (live b) = false; rw [hlv b h]; rfl, o, I.sub _ _ e, .inl (by intro z; cases z)⟩
    simp only [List.mem_cons, List.mem_append, List.not_mem_nil, or_false, not_or] at hb hn
    obtain ⟨n1, n2, n3, n4, n5⟩ := hn
    rcases hb with rfl | rfl | rfl | (rfl | h) | (rfl | h)
    · exact absurd rfl n2
    · exact absurd rfl n1
    · exact absurd rfl n3
    · exact absurd rfl n4
    · exact fin (hF1 b h)
    · exact absurd rfl n5
    · exact fin (hF2 b h)
  · rintro i x v h F' hx _ ⟨T, vals, rfl, ⟨a, b, q1, q2, rfl⟩, hT⟩ hF hS
    obtain ⟨x1, y1, g1, g2, rfl⟩ := zipV_get hx
    exact ⟨T, _, _, rfl, hT, rfl, a, [b], rfl, (p1 i a x1 q1 g1).mono hF, b, [], rfl, (p2 i b y1 q2 g2).mono hF, rfl⟩
  · exact ⟨hz, hTI, ⟨_, _, hTO⟩, t1 _ S' hi1, t2 _ S' hi2⟩
theorem sI_zip (ok : GOK G) {a b : Mine.E} {ea eb : Expr} {p pos tpos : Pos} {elts : List Expr} {k : Nat} (hk : cc.sc.lookup ("zip" : Str) = some .globalImplicit) (hsa : notStar ea = true) (hsb : notStar eb = true) (ha : SndE G cc ea a) (hb : SndE G cc eb b) :
    SndI G cc (.Call (.Name "zip" p) [ea, eb] [] pos) (.zip a b) (.Tuple elts k tpos) false := by
  intro env A ρ F live s K X eo R hX I fr q
  refine wpAny_Call_NameR (name_bi ok eo I hk (v := .type "zip") rfl rfl ?_)
  refine cw_type (starEach_any (G := G) (cc := cc) (ees := [ea, eb]) (es := [a, b]) ⟨hsa, ha, hsb, hb, trivial⟩ pos env) ?_
  refine wpAny_items_cons (wpAny_mono (ha env A ρ F live s _ X eo R hX I fr q) ?_ fun _ _ x => x) (starEach_plain hsa _ _)
  rintro v s1 ⟨F1, l1, x, st1, I1, r1, h1⟩
  refine wpAny_items_cons (wpAny_mono (hb env A ρ F1 l1 s1 _ X eo R hX I1 (fr.step st1) h1) ?_ fun _ _ x => x) (starEach_plain hsb _ _)
  rintro u s2 ⟨F2, l2, y, st2, I2, r2, h2⟩
  refine wpAny_items_nil ?_
  split at h2
  · rename_i dx dy
    split at h2
    · rename_i xs ys e1 e2
      exact wpAny_mono (iter_zip R.hd I2 (zsrc_ok e1 (DRel.mono st2.mono r1)) (zsrc_ok e2 r2) h2) (fun _ _ h => wpAny_mono h (fun _ _ => IterAt.after (st1.trans st2)) fun _ _ x => x) fun _ _ x => x
    · exact h2.elim
  · exact h2.elim
end
end Mine

set_option Elab.async false
set_option linter.unusedVariables false
namespace Mine
open PySem PySem.SeqAt PyProof.Rows

section
variable {G : GP} {cc : CC} {env : PySem.Env} {ρ : Env} {F F' : FH} {live live' : Hp} {s s' : Shared} {A : Around} {Ex : Value → Shared → Prop} {Q : KS} {x y : V} {v u : Value} {ht : Nat}

theorem key_rel (r : VRel G F x v) {k : D} (e : rd live x = some k) (kk : D.key k = true) : DRel G F k v := by
  cases x with
  | d y => simp only [rd, Option.some.injEq] at e; subst e; exact r
  | mix n ds => cases e
  | loc n =>
    simp only [rd] at e
    cases q : live.look n with
    | none => rw [q] at e; cases e
    | some o => rw [q] at e; cases o <;> simp [AO.toD] at e <;> (subst e; cases kk)

theorem unpack_L {elts : List Expr} {k : Nat} {pos : Pos} {a : Addr} {vs : Array Value} {n : Nat} {K : Unit → Shared → Prop} (ha : s.heap.get? a = some (sobj "list" vs n)) (hh : A.handled = none) (hn : (assignEach elts env).length = vs.size) (hstar : (assignEach elts env).findIdx? (·.1) = none)
    (h : ∀ h' : Heap, (∀ b o, s.heap.get? b = some o → h'.get? b = some o) → wpAny (Mo G) A (assignInOrder ((assignEach elts env).map (·.2)) vs.toList) K Ex { s with heap := h' }) : wpAny (Mo G) A (assign (.Tuple elts k pos) env (.ref a)) K Ex s := by
  rw [PyProof.Rows.assign_Tuple]
  refine wpAny_bind (wpAny_standAt ?_)
  unfold unpack
  rw [hn, hstar]
  refine wpAny_bind (wpAny_holding (PySem.W.kun_itemsOf hh ⟨_, ha, rfl, n, rfl⟩ fun h' hx => h h' fun b o e => hx b o (fun z => ?_) e))
  rw [z, push_new] at e; cases e
theorem setItem_E {α : Type} {Rl : α → Value → Prop} (hu : A.units + 9 < cLine) (S : Sub F s.heap) {k : D} (r : DRel G F k u) (kk : D.key k = true) {d : Addr} {es : Array DictEntry} {ep : Nat} (ho : s.heap.get? d = some (dobj es ep))
    {kvs : List (D × α)} (er : ERel G F Rl kvs es.toList) (once : onceA kvs) {z : α} {w : Value} (hx : Rl z w) (hz : kvs.length ≤ big) {K : Unit → Shared → Prop}
    (h : ∀ es' s', DictCh s d es' s' → ERel G F Rl (dput kvs k z) es'.toList → K () s') : wpAny (Mo G) A (setItem (.ref d) u w) K Ex s := by
  have hT : s.TypeIs (.ref d) "dict" := ⟨_, ho, rfl⟩
  unfold setItem
  try with_reducible refine wpAny_holding ?_
  first | refine wpAny_bind (wpAny_pure ?_) | skip
  refine wpAny_bind (wpAny_sequenceKey hT (by decide) ?_)
  refine wpAny_bind (wpAny_callSpecial?_slot (name := Str.ofString "__setitem__") hT slot_dict_setitem
    (wpAny_call_entry slot_dict_setitem hT entry_dict_setitem ?_ (args_dict_setitem _ _ _)))
  show wpAny _ _ (Builtin.Dict.notOrdered "__setitem__" ⟨[.ref d, u, w], []⟩ >>= _) _ _ s
  refine wpAny_bind (wpAny_notOrdered_dict hT ?_)
  show wpAny _ _ (dictSet d u w >>= _) _ _ s
  exact wpAny_bind (dictSet_E (by show A.units + 1 + 8 < cLine; omega) S r kk ho er once hx hz fun es' s' ch er' => wpAny_pure ⟨.none, rfl, wpAny_pure (h es' s' ch er')⟩)

theorem setItem_L {l : Addr} {items : Array Value} {n : Nat} {k : Int} {t : Tok} {w : Value} {K : Unit → Shared → Prop} (hl : s.heap.get? l = some (lobj items n)) (h0 : 0 ≤ k) (hfit : k < 2 ^ 63) (hn : k < items.size)
    (hQ : ∀ h' n', h'.get? l = some (lobj (items.setIfInBounds k.toNat w) n') → Heap.SameBut l s.heap h' → K () { s with heap := h' }) : wpAny (Mo G) A (setItem (.ref l) (.int k t) w) K Ex s := by
  have hT : s.TypeIs (.ref l) "list" := ⟨_, hl, rfl⟩
  unfold setItem
  try with_reducible refine wpAny_holding ?_
  first | refine wpAny_bind (wpAny_pure ?_) | skip
  refine wpAny_bind (wpAny_sequenceKey hT (by decide) ?_)
  refine wpAny_bind (wpAny_callSpecial?_slot (name := Str.ofString "__setitem__") hT slot_list_setitem
    (wpAny_call_entry slot_list_setitem hT entry_list_setitem ?_ (args_list_setitem _ _ _)))
  show wpAny _ _ (Builtin.List.listSubscript? (.int k t) >>= _) _ _ s
  refine wpAny_bind (wpAny_listSubscript_int (fitsIndex_of h0 hfit) ?_)
  clear hfit
  obtain ⟨j, rfl⟩ := Int.eq_ofNat_of_zero_le h0
  have hj : j < items.size := by omega
  have hx' : items[j]? = some items[j] := Array.getElem?_eq_getElem hj
  show wpAny _ _ ((seqItemAt l j >>= fun r => pure (r.map (j, ·))) >>= _) _ _ s
  refine wpAny_bind (wpAny_bind (wpAny_seqItemAt hl rfl (wpAny_pure ?_)))
  rw [hx']
  show wpAny _ _ (setSeqItemAt l j w >>= _) _ _ s
  have hfin : ∃ n', (s.heap.update l (Obj.mapSeq (·.setIfInBounds j w))).get? l = some (lobj (items.setIfInBounds j w) n') := ⟨_, Heap.get?_update_self _ hl rfl⟩
  obtain ⟨n', hfin⟩ := hfin
  refine wpAny_bind (wpAny_setSeqItemAt hl rfl ?_)
  first
    | exact wpAny_bind (wpAny_pure (wpAny_pure ⟨.none, rfl, wpAny_pure (hQ _ n' hfin (Heap.SameBut.update ..))⟩))
    | exact wpAny_pure ⟨.none, rfl, wpAny_pure (hQ _ n' hfin (Heap.SameBut.update ..))⟩

theorem once_put {kvs : List (D × D)} {k x : D} (h : onceK kvs) : onceK (dput kvs k x) := dput_once kvs k x h
theorem once_putN {kvs : List (D × Nat)} {k : D} {x : Nat} (h : onceN kvs) : onceN (dput kvs k x) := dput_once kvs k x h
theorem snd_setIdx (R : Room A ht) (I : Inv G F live s) {o i e : V} {vo vi ve : Value} (ro : VRel G F o vo) (ri : VRel G F i vi) (re : VRel G F e ve) {K : Hp → Prop} (q : vSetIdx o i e live K) {Z : Unit → Shared → Prop}
    (h : ∀ l' s', Inv G F l' s' → Step F live s F l' s' → K l' → Z () s') : wpAny (Mo G) A (setItem vo vi ve) Z Ex s := by
  have hu : A.units + 9 < cLine := by have := R.un; unfold cLine; omega
  match o, q with
  | .loc n, q =>
    cases ro
    simp only [vSetIdx] at q
    split at q
    · rename_i ds k hl e1
      split at q
      · rename_i d _
        obtain ⟨h0, h1, q⟩ := q
        obtain ⟨t, rfl⟩ := rd_int ri e1
        obtain ⟨vs, c, h2, h3, h4⟩ := (I.lv _ _ hl).2
        have hlen := h3.length
        rw [Array.length_toList] at hlen
        refine setItem_L h2 h0 (by unfold lineB at h4; omega) (by rw [hlen]; exact h1) fun h' n' hn hs => ?_
        obtain ⟨I', st⟩ := I.change (s' := { s with heap := h' }) (o' := .list (ds.set k.toNat d)) hl rfl (by intro z; cases z) (fun b ob hb e => (hs.2 b hb).trans e) ⟨_, n', hn, by rw [Array.toList_setIfInBounds]; exact h3.set re _, by simpa using h4⟩ rfl rfl rfl (by rw [hs.1]; exact Nat.le_refl _)
        exact h _ _ I' st q
      · exact q.elim
    · rename_i ns k hl e1
      split at q
      · rename_i m _
        obtain ⟨h0, h1, hne, q⟩ := q
        obtain ⟨t, rfl⟩ := rd_int ri e1
        obtain ⟨vs, c, h2, h3, h4⟩ := (I.lv _ _ hl).2
        have hlen := congrArg List.length h3
        rw [Array.length_toList, List.length_map] at hlen
        cases re
        refine setItem_L h2 h0 (by unfold lineB at h4; omega) (by rw [hlen]; exact h1) fun h' n' hn hs => ?_
        obtain ⟨I', st⟩ := I.change (s' := { s with heap := h' }) (o' := .llist (ns.set k.toNat m)) hl rfl (by intro z; cases z) (fun b ob hb e => (hs.2 b hb).trans e) ⟨_, n', hn, by rw [Array.toList_setIfInBounds, h3, List.map_set], by simpa using h4⟩ rfl rfl rfl (by rw [hs.1]; exact Nat.le_refl _)
        exact h _ _ I' st q
      · exact q.elim
    · rename_i kvs k hl e1
      obtain ⟨kk, hz, q⟩ := q
      obtain ⟨es, c, h1, h2, h3, h4, h5⟩ := (I.lv _ _ hl).2
      have rk := key_rel ri e1 kk
      split at q
      · rename_i d _
        refine setItem_E (Rl := DRel G F) hu I.sub rk kk h1 (erel_d.mp h2) h3 re (Nat.le_of_lt hz) fun es' s' ch er => ?_
        obtain ⟨ep, hat⟩ := ch.at_
        obtain ⟨I', st⟩ := I.change (s' := s') (o' := .dict (dput kvs k d)) hl rfl (by intro z; cases z) ch.keep ⟨es', ep, hat, erel_d.mpr er, once_put h3, Nat.le_trans (dput_length _ _ _) (Nat.succ_le_succ (Nat.le_of_lt hz)), h5⟩ rfl ch.gens ch.os ch.size
        exact h _ _ I' st q
      · rename_i m _
        obtain ⟨rfl, hne, q⟩ := q
        cases re
        have hes : es = #[] := by
          have := h2.length
          rw [Array.length_toList] at this
          exact Array.eq_empty_of_size_eq_zero this
        subst hes
        refine setItem_E (Rl := fun n v => v = Value.ref n) (kvs := []) hu I.sub rk kk h1 rfl List.Pairwise.nil rfl (Nat.zero_le _) fun es' s' ch er => ?_
        obtain ⟨ep, hat⟩ := ch.at_
        obtain ⟨I', st⟩ := I.change (s' := s') (o' := .ldict [(k, m)]) hl rfl (by intro z; cases z) ch.keep ⟨es', ep, hat, erel_n.mpr er, List.pairwise_singleton _ _, by show 1 ≤ lineB; decide, h5⟩ rfl ch.gens ch.os ch.size
        exact h _ _ I' st q
      · exact q.elim
    · rename_i kns k hl e1
      obtain ⟨kk, hz, q⟩ := q
      obtain ⟨es, c, h1, h2, h3, h4, h5⟩ := (I.lv _ _ hl).2
      have rk := key_rel ri e1 kk
      split at q
      · rename_i m _
        obtain ⟨hne, q⟩ := q
        cases re
        refine setItem_E (Rl := fun n v => v = Value.ref n) hu I.sub rk kk h1 (erel_n.mp h2) h3 rfl (Nat.le_of_lt hz) fun es' s' ch er => ?_
        obtain ⟨ep, hat⟩ := ch.at_
        obtain ⟨I', st⟩ := I.change (s' := s') (o' := .ldict (lput kns k m)) hl rfl (by intro z; cases z) ch.keep ⟨es', ep, hat, erel_n.mpr er, once_putN h3, Nat.le_trans (dput_length _ _ _) (Nat.succ_le_succ (Nat.le_of_lt hz)), h5⟩ rfl ch.gens ch.os ch.size
        exact h _ _ I' st q
      · exact q.elim
    · exact q.elim
  | .d _, q => exact q.elim
  | .mix _ _, q => exact q.elim

theorem swaps_sub (e : Expr) (o i : Expr) (p : Pos) (l : Nat) (env : PySem.Env) : swapsWith e (some (.Subscript o i p)) l env = pure false := by
  cases e <;> rfl
theorem sS_setIdx {o i e : Mine.E} {eo' ei ee : Expr} {p pos : Pos} (ho : SndE G cc eo' o) (hi : SndE G cc ei i) (he : SndE G cc ee e) : SndS G cc (.Assign [.Subscript eo' ei p] ee pos) (.setIdx o i e) := by
  intro env A ρ F live s Q X eo R hX I fr q
  refine wpAny_Assign_Subscript (wpAny_mono (he env A ρ F live s _ X eo R hX I fr q) ?_ fun _ _ x => x) (swaps_sub _ _ _ _ _ _)
  rintro v s1 ⟨F1, l1, x, st1, I1, r1, h1⟩
  refine wpAny_mono (ho env A ρ F1 l1 s1 _ X eo R hX I1 (fr.step st1) h1) ?_ fun _ _ x => x
  rintro vo s2 ⟨F2, l2, y, st2, I2, r2, h2⟩
  refine wpAny_mono (hi env A ρ F2 l2 s2 _ X eo R hX I2 ((fr.step st1).step st2) h2) ?_ fun _ _ x => x
  rintro vi s3 ⟨F3, l3, z, st3, I3, r3, h3⟩
  have fr3 := ((fr.step st1).step st2).step st3
  refine snd_setIdx R I3 (r2.mono st3.mono) r3 (r1.mono (st2.mono.trans st3.mono)) h3 fun l' s' I' st' q' => ?_
  exact ⟨F3, l', ρ, .nx, ((st1.trans st2).trans (st3.trans st')).toS, I', fr3.step st', rfl, rfl, q'⟩

theorem sE_dct0 {lv : Bool} {pos : Pos} : SndE G cc (.Dict [] [] pos) (.dct lv [] []) := by
  intro env A ρ F live s Q X eo R hX I fr q
  refine wpAny_Dict_empty ?_
  obtain ⟨_, _, _, q⟩ := q
  have at' : (s.heap.push { cls := .type "dict", data := .dict #[] }).get? s.heap.objs.size = some (dobj #[] 0) := Heap.get?_push_size _ rfl
  have hsys : (s.heap.objs.size == sysModules) = false := sysN I.size
  cases lv with
  | true =>
    obtain ⟨I', st⟩ := I.allocL (s' := { s with heap := s.heap.push { cls := .type "dict", data := .dict #[] } }) (n := s.heap.objs.size) (o := .dict []) (push_new _) (push_keep _ _) ⟨#[], 0, at', rfl, List.Pairwise.nil, Nat.zero_le _, hsys⟩ rfl rfl rfl (push_size _ _)
    exact ⟨_, _, .loc _, st, I', rfl, q _ (I.fresh (push_new _)).2⟩
  | false =>
    obtain ⟨I', st⟩ := I.allocF (s' := { s with heap := s.heap.push { cls := .type "dict", data := .dict #[] } }) (n := s.heap.objs.size) (push_new _) (push_keep _ _) at' rfl rfl (push_size _ _)
    exact ⟨_, _, .d (.dict []), st, I', ⟨_, _, #[], 0, rfl, by simp; rfl, ⟨rfl, rfl, rfl⟩, rfl, Nat.zero_le _, rfl, List.Pairwise.nil, hsys⟩, q⟩

theorem sS_assignT {ts : List Expr} {k : Nat} {tpos pos : Pos} {is : List Nat} {e : Mine.E} {ee : Expr} (hn : noComp ee = true) (ht : notTup ee = true) (hs : slotsAre cc ts is = true) (hk : ∀ x ∈ tgtNames (.Tuple ts k tpos), cc.sc.lookup x = some .local ∨ cc.sc.lookup x = some .cell) (he : SndE G cc ee e) :
    SndS G cc (.Assign [.Tuple ts k tpos] ee pos) (.assignT is e) := by
  intro env A ρ F live s Q X eo R hX I fr q
  refine Assign_Tuple (wpAny_mono (he env A ρ F live s _ X eo R hX I fr q) ?_ fun _ _ x => x) (show swapsWith ee (some (.Tuple ts k tpos)) pos.line env = pure false from swaps_not hn _ _ _) (swapped_not ht env)
  rintro v s1 ⟨F1, l1, x, st1, I1, r1, h1⟩
  have fr1 := fr.step st1
  have hWr : ∀ x ∈ tgtNames (.Tuple ts k tpos), Wr env cc (Own env) x := fun x hx => (hk x hx).elim (fun h => .inl ⟨h, .inl rfl⟩) fun h => .inr ⟨h, fun c hc => .inr ⟨x, hc⟩⟩
  split at h1
  · rename_i ρ1 hb
    obtain ⟨xs, hp, hl, rfl, _⟩ := bindT_two hb
    refine assign_ok (tgt := .Tuple ts k tpos) (one := false) (tg := is) (W := Own env) R.hd eo I1 fr1 (own_none fr1) hs hb hWr (Item.rel r1 I1.sub fun _ => by rw [hp]; rfl) fun s' I' st' fr' => ?_
    exact ⟨F1, l1, _, .nx, st1.toS.trans st', I', fr', setAll_length _ _, rfl, h1⟩
  · rename_i hb0
    split at h1
    · rename_i ds
      split at h1
      · rename_i ρ1 hb
        obtain ⟨xs, hp, hl, rfl, _⟩ := bindT_two hb
        obtain ⟨items, ⟨a, vs, n, rfl, h2, h3, h4⟩, h5⟩ := r1
        subst h3
        cases hp
        obtain ⟨q1, q2⟩ := slotsAre_each (env := env) hs
        have hlen : vs.size = is.length := by
          have := h5.length; rw [Array.length_toList] at this; rw [this]; simpa using hl
        refine unpack_L (I1.sub _ _ h2) R.hd (q1.trans hlen.symm) q2 fun h' hk' => ?_
        have I' : Inv G F1 l1 { s1 with heap := h' } := I1.outside (W := fun _ => False) (fun _ f => f.elim) fun b o _ e => hk' b o e
        refine assignNames hs hl (vrels_map.mpr h5) eo I' (fr1.mono fun a _ o e => hk' a o e) (own_none fr1) hWr fun s'' I'' st'' fr'' => ?_
        exact ⟨F1, l1, _, .nx, st1.toS.trans ((StepS.outside (s' := { s1 with heap := h' }) (fun b o _ e => hk' b o e) rfl rfl).trans st''), I'', fr'', setAll_length _ _, rfl, h1⟩
      · exact h1.elim
    · exact h1.elim
end
end Mine

set_option Elab.async false
set_option linter.unusedVariables false
namespace Mine
open PySem PySem.SeqAt PyProof.Rows

structure Tab where
  fns : List (Nat × Str × Nat)
  gcs : List Nat
structure TabOK (G : GP) (t : Tab) : Prop where
  gok : GOK G
  fns : ∀ p ∈ t.fns, ∃ fe, G.fe p.1 = some fe ∧ fe.name = p.2.1 ∧ fe.ht = p.2.2 ∧ fe.glob = true
  gcs : ∀ k ∈ t.gcs, k ∈ G.gcs

theorem or2 {a b : Bool} (h : (a || b) = true) : a = true ∨ b = true := by cases a <;> cases b <;> first | exact .inl rfl | exact .inr rfl | cases h
theorem not1 {a : Bool} (h : (!a) = true) : a = false := by cases a <;> first | rfl | cases h
noncomputable def lc (cc : CC) (x : Str) : Bool := cc.sc.lookup x == some .local || cc.sc.lookup x == some .cell
theorem lc_ok {cc : CC} {x : Str} (h : lc cc x = true) : cc.sc.lookup x = some .local ∨ cc.sc.lookup x = some .cell := (or2 h).imp eq_of_beq eq_of_beq
noncomputable def lcs (cc : CC) (t : Expr) : Bool := (tgtNames t).all (lc cc)
theorem lcs_ok {cc : CC} {t : Expr} (h : lcs cc t = true) : ∀ x ∈ tgtNames t, cc.sc.lookup x = some .local ∨ cc.sc.lookup x = some .cell := fun x hx => lc_ok (List.all_eq_true.mp h x hx)

noncomputable def isCF (k : Option NameKind) : Bool := k == some .cell || k == some .free
theorem isCF_ok {k : Option NameKind} (h : isCF k = true) : k = some .cell ∨ k = some .free := (or2 h).imp eq_of_beq eq_of_beq
noncomputable def isFun : ScopeKind → Bool
  | .function => true
  | _ => false
theorem isFun_ok {k : ScopeKind} (h : isFun k = true) : k = .function := by cases k <;> first | rfl | cases h
noncomputable def compOkB (cc : CC) (scope : Scope) (tgt : Expr) (tg : List Nat) (one : Bool) : Bool :=
  isFun scope.kind && (scope.names.all (fun x => !(x.2 == .cell)) && (scope.names.all (fun x => !(x.2 == .local) || scope.names.lookup x.1 == some .local) &&
  ((tgtNames tgt).all (fun x => scope.names.lookup x == some .local) && (tgtIs (compCC cc scope (tgtNames tgt) tg) tgt tg one && (injB (compC cc scope (tgtNames tgt) tg) &&
  (freesOf scope.names).all (fun n => isCF (cc.sc.lookup n) && isCF ((relabelN cc.sc scope.names).lookup n)))))))
theorem compOk_ok {cc : CC} {scope : Scope} {tgt : Expr} {tg : List Nat} {one : Bool} (h : compOkB cc scope tgt tg one = true) : CompOk cc scope tgt tg one := by
  obtain ⟨h1, h⟩ := and2 h
  obtain ⟨h2, h⟩ := and2 h
  obtain ⟨h3, h⟩ := and2 h
  obtain ⟨h4, h⟩ := and2 h
  obtain ⟨h5, h⟩ := and2 h
  obtain ⟨h6, h7⟩ := and2 h
  refine ⟨isFun_ok h1, fun x hx e => ?_, fun x hx e => ?_, fun x hx => eq_of_beq (List.all_eq_true.mp h4 x hx), h5, h6, fun n hn => ?_⟩
  · have := List.all_eq_true.mp h2 x hx
    rw [e] at this; cases this
  · have := List.all_eq_true.mp h3 x hx
    rw [e] at this
    rcases or2 this with z | z
    · cases z
    · exact eq_of_beq z
  · obtain ⟨a, b⟩ := and2 (List.all_eq_true.mp h7 n hn)
    exact ⟨isCF_ok a, isCF_ok b⟩
section
variable {G : GP} {t : Tab} {cc : CC}
theorem sE_gcT (tk : TabOK G t) {x : Str} {p : Pos} {k : Nat} (hk : cc.sc.lookup x = some .globalImplicit) (hg : t.gcs.contains k = true) (hn : gcName k = x) (hd : (x == ("__debug__" : Str)) = false) : SndE G cc (.Name x p) (.gc k) :=
  sE_gc tk.gok hk (tk.gcs _ (List.contains_iff_mem.mp hg)) hn hd
theorem sE_callT (tk : TabOK G t) {x : Str} {p pos : Pos} {f n : Nat} {ees : List Expr} {es : List Mine.E} (hk : cc.sc.lookup x = some .globalImplicit) (hf : t.fns.find? (fun q => q.1 == f) = some (f, x, n)) (hht : n ≤ cc.ht)
    (hd : (x == ("__debug__" : Str)) = false) (h : SndEs G cc ees es) : SndE G cc (.Call (.Name x p) ees [] pos) (.call f es) := by
  obtain ⟨fe, f1, f2, f3, f4⟩ := tk.fns _ (List.mem_of_find?_eq_some hf)
  exact sE_call tk.gok hk f1 f2 f4 (by rw [f3]; exact hht) hd h
theorem boolK (K : Bool → Hp → Prop) : (fun (v : V) (l : Hp) => match v with | .d (.bool b) => K b l | _ => False) = (fun v l => ∃ b, v = .d (.bool b) ∧ K b l) := by
  funext v l
  refine propext ⟨fun h => ?_, fun h => ?_⟩
  · split at h
    · exact ⟨_, rfl, h⟩
    · exact h.elim
  · obtain ⟨b, rfl, h⟩ := h; exact h
theorem sC_call {f : Expr} {as : List Expr} {ks : List Keyword} {p : Pos} {g : Nat} {es : List E} (h : SndE G cc (.Call f as ks p) (.call g es)) : SndC G cc (.Call f as ks p) (.call g es) := by
  refine sC_plain h (fun _ _ => rfl) fun Φ ρ live K X q => ?_
  exact Eq.mp (congrArg (fun Z => vEs Φ es ρ live Z X) (funext fun vs => funext fun l' => congrArg (fun Z => Φ g vs l' Z X) (boolK K))) q
theorem isiK (ty : TY) (K : Bool → Hp → Prop) : (fun (x : V) (live1 : Hp) => match isiV ty live1 x with | some b => K b live1 | none => False) = (fun x live1 => match isiV ty live1 x with | some b => ∃ b_1, V.d (D.bool b) = .d (.bool b_1) ∧ K b_1 live1 | none => False) := by
  funext x l
  cases isiV ty l x with
  | none => rfl
  | some b => exact propext ⟨fun h => ⟨_, rfl, h⟩, fun ⟨b', e, h⟩ => by cases e; exact h⟩
theorem sC_isi {f : Expr} {as : List Expr} {ks : List Keyword} {p : Pos} {a : E} {ty : TY} (h : SndE G cc (.Call f as ks p) (.isi a ty)) : SndC G cc (.Call f as ks p) (.isi a ty) := by
  refine sC_plain h (fun _ _ => rfl) fun Φ ρ live K X q => ?_
  exact Eq.mp (congrArg (fun Z => vE Φ a ρ live Z X) (isiK ty K)) q
theorem sC_last1 {b : E} {eb : Expr} {pos : Pos} (hb : SndC G cc eb b) : SndC G cc (.BoolOp .And [eb] pos) b := (sC_one hb).1
theorem sC_last2 {b : E} {eb : Expr} {pos : Pos} (hb : SndC G cc eb b) : SndC G cc (.BoolOp .Or [eb] pos) b := (sC_one hb).2
theorem sS_raise {st : Stmt} {c : Nat} : SndS G cc st (.raise_ c) := fun env A ρ F live s Q X eo R hX I fr q => (hX _ _ q).elim
end
noncomputable def bodyAt (p : Program) (i : Nat) : List Stmt := match p.main.body[i]? with
  | some (.FunctionDef _ _ b _ _ _ _ _ _ _) => b
  | _ => []
noncomputable def scAt (p : Program) (i : Nat) : List (Str × NameKind) := match p.main.body[i]? with
  | some (.FunctionDef _ _ _ _ _ _ sc _ _ _) => sc.names
  | _ => []
noncomputable def slotsC (ns : List Str) : List (Str × Nat) := ns.zip (List.range ns.length)
end Mine

set_option Elab.async false
namespace Mine
open PySem
theorem zip_lookup : ∀ {ns : List Str} {vs : List Value} {n : Str}, n ∈ ns → vs.length = ns.length → ((ns.zip vs).lookup n).isSome = true
  | [], _, _, h, _ => nomatch h
  | m :: ns, [], _, _, h => by simp at h
  | m :: ns, v :: vs, n, h, hl => by
    rw [List.zip_cons_cons, List.lookup_cons]
    split
    · rfl
    · rename_i e
      rcases List.mem_cons.mp h with rfl | h
      · simp at e
      · exact zip_lookup h (by simpa using hl)
theorem zip_filterMap : ∀ {ns : List Str} {vs : List Value} (pre : List (Str × Value)), ns.Nodup → vs.length = ns.length → (∀ n ∈ ns, pre.lookup n = none) → ns.filterMap (fun n => ((pre ++ ns.zip vs).lookup n).map (n, ·)) = ns.zip vs
  | [], vs, pre, _, _, _ => rfl
  | m :: ns, [], _, _, h, _ => by simp at h
  | m :: ns, v :: vs, pre, hn, hl, hp => by
    rw [List.nodup_cons] at hn
    have e1 : (pre ++ (m :: ns).zip (v :: vs)).lookup m = some v := by
      rw [List.lookup_append, hp m (.head _), List.zip_cons_cons, List.lookup_cons]
      simp
    rw [List.filterMap_cons, e1]
    have e2 : pre ++ (m :: ns).zip (v :: vs) = (pre ++ [(m, v)]) ++ ns.zip vs := by simp
    rw [e2, zip_filterMap (pre ++ [(m, v)]) hn.2 (by simpa using hl) fun n hm => ?_]
    · rfl
    · rw [List.lookup_append, hp n (.tail _ hm)]
      have : (n == m) = false := by
        rw [beq_eq_false_iff_ne]; intro e; subst e; exact hn.1 hm
      simp [List.lookup_cons, this]
theorem bind_plain {fd : FuncData} {vals : List Value} (h1 : fd.params.posonlyargs = []) (h2 : fd.params.vararg = none) (h3 : fd.params.kwonlyargs = []) (h4 : fd.params.kwarg = none) (h5 : fd.defaults = .none) (hn : (fd.params.args.map (·.arg)).Nodup) (hl : vals.length = (fd.params.args.map (·.arg)).length) :
    bindArgs fd ⟨vals, []⟩ = pure ((fd.params.args.map (·.arg)).zip vals) := by
  have hm : (fd.params.args.map (·.arg)).filter (fun n => (((fd.params.args.map (·.arg)).zip vals).lookup n).isNone) = [] := by
    rw [List.filter_eq_nil_iff]
    intro n hn
    have := zip_lookup hn hl
    simpa using this
  have hf := zip_filterMap (vs := vals) [] hn hl (fun _ _ => rfl)
  rw [List.nil_append] at hf
  have hgt : (decide (vals.length > (fd.params.args.map (·.arg)).length) && true) = false := by
    rw [hl]; simp
  have hgt' : ¬ ((decide (vals.length > (fd.params.args.map (·.arg)).length) && (none : Option Arg).isNone) = true) := by
    rw [hl]; simp
  unfold bindArgs
  simp only [h1, h2, h3, h4, h5, List.map_nil, List.nil_append, List.append_nil, List.forIn_nil, pure_bind]
  have e0 : seqItems? .none = pure none := rfl
  rw [e0, pure_bind]
  simp only [Option.getD_none]
  rw [if_neg hgt']
  simp only [Array.toList_empty, List.length_nil, List.drop_nil, Nat.sub_zero, List.zip_nil_right, List.take_length, hm, List.isEmpty_nil, Bool.not_true, Bool.false_eq_true, if_false, pure_bind, List.forIn_nil, hf]
end Mine

set_option Elab.async false
set_option linter.unusedVariables false
namespace Mine
open PySem (CmpOp Operator)
def Ora (Φ : CP) (f : Nat) (d : FD) : Prop := ∀ args live Q X, vFn Φ d args live Q (fun _ _ => False) → Φ f args live Q X
theorem ret_id {live : Hp} {Q : KV} {v : V} (q : Q v live) : ∃ v' live'', Rz live live'' v v' ∧ Q v' live'' := ⟨_, _, ⟨Drop.refl _, .inl rfl⟩, q⟩
theorem nx_id {live : Hp} {Q : KV} (q : Q (.d .none) live) : ∃ live'', Drop live live'' ∧ Q (.d .none) live'' := ⟨_, Drop.refl _, q⟩
section
variable {A B : Prop}
theorem yes (h : A) : (true = true → A) ∧ (true = false → B) := ⟨fun _ => h, fun e => nomatch e⟩
theorem no (h : B) : (false = true → A) ∧ (false = false → B) := ⟨fun e => (nomatch e), fun _ => h⟩
theorem onT {b : Bool} (e : b = true) (h : A) : (b = true → A) ∧ (b = false → B) := by subst e; exact yes h
theorem onF {b : Bool} (e : b = false) (h : B) : (b = true → A) ∧ (b = false → B) := by subst e; exact no h
theorem okS {a b : List Nat} : okEq (.str a) (.str b) := ⟨rfl, rfl, Nat.zero_le _, Nat.zero_le _⟩
theorem okI2 {a b : Int} : okEq (.int a) (.int b) := ⟨rfl, rfl, Nat.zero_le _, Nat.zero_le _⟩
end
theorem beqI {a b : Int} (h : (a == b) = true) : a = b := eq_of_beq h
theorem beqIf {a b : Int} (h : (a == b) = false) : a ≠ b := fun e => by rw [e, beq_self_eq_true] at h; cases h

inductive Op where
  | nm (cs : List Nat)
  | num (i : Int)
noncomputable def Op.d : Op → D
  | .nm cs => .str cs
  | .num i => .int i
inductive Ar where
  | add | sub | less
noncomputable def Ar.w : Ar → List Nat
  | .add => wAdd
  | .sub => wSub
  | .less => wLess
inductive Rw where
  | set (n : List Nat) (a : Op)
  | ar (k : Ar) (n : List Nat) (a b : Op)
  | say (a : Op)
  | jump (t : Nat)
  | nought (a : Op) (t : Nat)
  | stop
noncomputable def Rw.d : Rw → D
  | .set n a => .tup [.str wSet, .str n, a.d]
  | .ar k n a b => .tup [.str k.w, .str n, a.d, b.d]
  | .say a => .tup [.str wSay, a.d]
  | .jump t => .tup [.str wJump, .int t]
  | .nought a t => .tup [.str wNought, a.d, .int t]
  | .stop => .tup [.str wStop]
def nameOk (cs : List Nat) : Prop := 1 ≤ cs.length ∧ cs.length ≤ 8 ∧ ∀ c ∈ cs, c ∈ letters
def Op.ok : Op → Prop
  | .nm cs => nameOk cs
  | .num _ => True
def Rw.ok (n : Nat) : Rw → Prop
  | .set x a => nameOk x ∧ a.ok
  | .ar _ x a b => nameOk x ∧ a.ok ∧ b.ok
  | .say a => a.ok
  | .jump t => t ≤ n
  | .nought a t => a.ok ∧ t ≤ n
  | .stop => True

variable {Φ : CP} {live : Hp} {Q : KV} {X : XP}
theorem c_whole_int (h : Ora Φ f_is_whole d_is_whole) {i : Int} (q : Q (.d (.bool true)) live) : Φ f_is_whole [.d (.int i)] live Q X :=
  h _ _ _ _ ⟨rfl, yes (ret_id q)⟩
theorem c_lwhole_int (h : Ora Φ f__law_whole d__law_whole) {i : Int} (q : Q (.d (.bool true)) live) : Φ f__law_whole [.d (.int i)] live Q X :=
  h _ _ _ _ ⟨rfl, yes (ret_id q)⟩
theorem c_name_int (h : Ora Φ f_is_name d_is_name) {i : Int} (q : Q (.d (.bool false)) live) : Φ f_is_name [.d (.int i)] live Q X :=
  h _ _ _ _ ⟨rfl, yes (yes (ret_id q))⟩
theorem forL_inv {tg : List Nat} {one : Bool} {body : Env → Hp → KS → Prop} {R : KS} (I : List V → Env → Hp → Prop)
    (hs : ∀ x xs ρ live, I (x :: xs) ρ live → ∃ ρ1, bindT tg one x ρ = some ρ1 ∧ ∀ K : KS, (∀ ρ' live', I xs ρ' live' → K .nx ρ' live' ∧ K .ct ρ' live') → (∀ v ρ' live', R (.rt v) ρ' live' → K (.rt v) ρ' live') → body ρ1 live K)
    (h0 : ∀ ρ live, I [] ρ live → R .nx ρ live) : ∀ {xs : List V} {ρ : Env} {live : Hp}, I xs ρ live → forL tg one body xs ρ live R
  | [], ρ, live, h => h0 ρ live h
  | x :: xs, ρ, live, h => by
    obtain ⟨ρ1, e, hb⟩ := hs x xs ρ live h
    show match bindT tg one x ρ with | some ρ1 => _ | none => False
    rw [e]
    exact hb _ (fun ρ' live' h' => ⟨forL_inv I hs h0 h', forL_inv I hs h0 h'⟩) fun v ρ' live' h' => h'
theorem compL_rel {tg : List Nat} {one : Bool} {ρ : Env} {test : Env → Hp → (Bool → Hp → Prop) → Prop} {elt : Env → Hp → KV → Prop} (P : V → D → Prop) {K : List D → Hp → Prop} :
    ∀ {xs : List V} {acc : List D}, (∀ x ∈ xs, ∃ ρ1, bindT tg one x ρ = some ρ1 ∧ (∀ K : Bool → Hp → Prop, K true live → test ρ1 live K) ∧ ∀ K : KV, (∀ y, P x y → K (.d y) live) → elt ρ1 live K) → acc.length + xs.length ≤ big →
    (∀ ys : List D, ys.length = xs.length → (∀ y ∈ ys, ∃ x ∈ xs, P x y) → K (acc ++ ys) live) → compL tg one ρ test elt xs acc live K
  | [], acc, h, hl, q => by
    have := q [] rfl (fun _ h => nomatch h)
    rw [List.append_nil] at this
    exact this
  | x :: xs, acc, h, hl, q => by
    obtain ⟨ρ1, e, h1, h2⟩ := h x (.head _)
    show match bindT tg one x ρ with | some ρ1 => _ | none => False
    rw [e]
    refine h1 _ (yes (h2 _ fun y hy => ⟨Nat.lt_of_lt_of_le (Nat.lt_add_of_pos_right (Nat.succ_pos _)) hl, compL_rel P (fun x hx => h x (.tail _ hx)) (by rw [List.length_append, Nat.add_assoc, List.length_singleton, Nat.add_comm 1]; exact hl) fun ys hys hp => ?_⟩))
    rw [List.append_assoc]
    refine q (y :: ys) (congrArg (· + 1) hys) fun z hz => ?_
    rcases List.mem_cons.mp hz with rfl | hz
    · exact ⟨x, .head _, hy⟩
    · obtain ⟨x', hx', hp'⟩ := hp z hz
      exact ⟨x', .tail _ hx', hp'⟩
theorem compL_fun {tg : List Nat} {one : Bool} {ρ : Env} {test : Env → Hp → (Bool → Hp → Prop) → Prop} {elt : Env → Hp → KV → Prop} (g : V → Option D) {K : List D → Hp → Prop} :
    ∀ {xs : List V} {acc : List D}, (∀ x ∈ xs, ∃ ρ1, bindT tg one x ρ = some ρ1 ∧ (∀ K : Bool → Hp → Prop, K (g x).isSome live → test ρ1 live K) ∧ ∀ y, g x = some y → ∀ K : KV, K (.d y) live → elt ρ1 live K) → acc.length + xs.length ≤ big →
    K (acc ++ xs.filterMap g) live → compL tg one ρ test elt xs acc live K
  | [], acc, h, hl, q => by
    rw [List.filterMap_nil, List.append_nil] at q
    exact q
  | x :: xs, acc, h, hl, q => by
    obtain ⟨ρ1, e, h1, h2⟩ := h x (.head _)
    show match bindT tg one x ρ with | some ρ1 => _ | none => False
    rw [e]
    rw [List.filterMap_cons] at q
    cases hg : g x with
    | none =>
      rw [hg] at h1 q
      exact h1 _ (no (compL_fun g (fun x hx => h x (.tail _ hx)) (Nat.le_trans (Nat.add_le_add_left (Nat.le_succ _) _) hl) q))
    | some y =>
      rw [hg] at h1 q
      refine h1 _ (yes (h2 y hg _ ⟨Nat.lt_of_lt_of_le (Nat.lt_add_of_pos_right (Nat.succ_pos _)) hl, compL_fun g (fun x hx => h x (.tail _ hx)) (by rw [List.length_append, Nat.add_assoc, List.length_singleton, Nat.add_comm 1]; exact hl) ?_⟩))
      rw [List.append_assoc]
      exact q
theorem c_name_str (h : Ora Φ f_is_name d_is_name) {cs : List Nat} (ok : nameOk cs) (q : Q (.d (.bool true)) live) : Φ f_is_name [.d (.str cs)] live Q X := by
  obtain ⟨h1, h2, h3⟩ := ok
  have e1 : decide ((1 : Int) ≤ (cs.length : Int)) = true := decide_eq_true (by omega)
  have e2 : decide ((cs.length : Int) ≤ 8) = true := decide_eq_true (by omega)
  refine h _ _ _ _ ⟨rfl, no (onT e1 ?_)⟩
  refine (onF (b := !decide ((cs.length : Int) ≤ 8)) (by rw [e2]; rfl) ?_)
  refine forL_inv (fun xs ρ l => l = live ∧ (∃ w, ρ = [some (.d (.str cs)), w]) ∧ ∀ x ∈ xs, ∃ c ∈ letters, x = .d (.str [c])) ?_ ?_ ⟨rfl, ⟨_, rfl⟩, ?_⟩
  · rintro x xs ρ l ⟨rfl, ⟨w, rfl⟩, hx⟩
    obtain ⟨c, hc, rfl⟩ := hx _ (.head _)
    refine ⟨_, rfl, fun K hn hr => onF (b := !(letters.contains c)) (by rw [List.contains_iff_mem.mpr hc]; rfl) ?_⟩
    exact (hn _ _ ⟨rfl, ⟨_, rfl⟩, fun x h => hx x (.tail _ h)⟩).1
  · rintro ρ l ⟨rfl, ⟨w, rfl⟩, _⟩
    exact ret_id q
  · intro x hx
    obtain ⟨c, hc, rfl⟩ := List.mem_map.mp hx
    exact ⟨c, h3 c hc, rfl⟩
end Mine

set_option Elab.async false
set_option linter.unusedVariables false
namespace Mine
open PySem (CmpOp Operator)
variable {Φ : CP} {live : Hp} {Q : KV} {X : XP}
theorem lt_ok {n m : Nat} (h : Nat.blt n m = true) : n < m := Nat.le_of_ble_eq_true h
theorem le_ok {n m : Nat} (h : Nat.ble n m = true) : n ≤ m := Nat.le_of_ble_eq_true h
theorem sm1 : small 1 := ⟨by decide, by decide⟩
theorem one_le {n : Nat} : (1 : Int) ≤ ((n + 1 : Nat) : Int) := Int.ofNat_le.mpr (Nat.succ_le_succ (Nat.zero_le _))
theorem key_str (cs : List Nat) : D.key (.str cs) = true := rfl
theorem key_int (i : Int) : D.key (.int i) = true := rfl
theorem op_chk (h1 : Ora Φ f_is_name d_is_name) (h2 : Ora Φ f_is_whole d_is_whole) {a : Op} (ok : a.ok) {A B : Hp → Prop} (q : B live) :
    Φ f_is_name [.d a.d] live (fun v l => match v with
      | .d (.bool b) => ((!b) = true → Φ f_is_whole [.d a.d] l (fun v l => match v with
          | .d (.bool b) => ((!b) = true → A l) ∧ ((!b) = false → B l)
          | _ => False) X) ∧ ((!b) = false → ((false = true → A l) ∧ (false = false → B l)))
      | _ => False) X := by
  cases a with
  | nm cs => exact c_name_str h1 ok (no (no q))
  | num i => exact c_name_int h1 (yes (c_whole_int h2 (no q)))
theorem c_row (h1 : Ora Φ f_is_name d_is_name) (h2 : Ora Φ f_is_whole d_is_whole) (h : Ora Φ f_is_row d_is_row) {r : Rw} {n : Nat} (ok : r.ok n) (q : Q (.d (.bool true)) live) : Φ f_is_row [.d r.d] live Q X := by
  refine h _ _ _ _ ⟨rfl, ?_⟩
  cases r with
  | set x a =>
    refine no ⟨okI2, no (no ⟨rfl, rfl, lt_ok rfl, no ⟨okI2, no ⟨sm1, trivial, Int.le_refl _, one_le, le_ok rfl, ?_⟩⟩⟩)⟩
    refine ⟨okS, yes (c_name_str h1 ok.1 (no ⟨okS, no (no ?_)⟩))⟩
    exact ⟨okS, no (no ⟨okS, yes (op_chk h1 h2 ok.2 (ret_id q))⟩)⟩
  | ar k x a b =>
    cases k <;>
    (refine no ⟨okI2, no (no ⟨rfl, rfl, lt_ok rfl, no ⟨okI2, no ⟨sm1, trivial, Int.le_refl _, one_le, le_ok rfl, ?_⟩⟩⟩)⟩
     refine ⟨okS, yes (c_name_str h1 ok.1 (no ⟨okS, no (no ?_)⟩))⟩
     refine ⟨okS, no (no ⟨okS, yes (op_chk h1 h2 ok.2.1 ?_)⟩)⟩
     exact ⟨okS, no (no ⟨okS, yes (op_chk h1 h2 ok.2.2 (ret_id q))⟩)⟩)
  | say a =>
    refine no ⟨okI2, no (no ⟨rfl, rfl, lt_ok rfl, no ⟨okI2, no ⟨sm1, trivial, Int.le_refl _, one_le, le_ok rfl, ?_⟩⟩⟩)⟩
    exact ⟨okS, no (no ⟨okS, yes (op_chk h1 h2 ok (ret_id q))⟩)⟩
  | jump t =>
    refine no ⟨okI2, no (no ⟨rfl, rfl, lt_ok rfl, no ⟨okI2, no ⟨sm1, trivial, Int.le_refl _, one_le, le_ok rfl, ?_⟩⟩⟩)⟩
    exact ⟨okS, no (no ⟨okS, no (no (ret_id q))⟩)⟩
  | nought a t =>
    refine no ⟨okI2, no (no ⟨rfl, rfl, lt_ok rfl, no ⟨okI2, no ⟨sm1, trivial, Int.le_refl _, one_le, le_ok rfl, ?_⟩⟩⟩)⟩
    refine ⟨okS, no (no ⟨okS, yes (op_chk h1 h2 ok.1 ?_)⟩)⟩
    exact ⟨okS, no (no ⟨okS, no (no (ret_id q))⟩)⟩
  | stop =>
    refine no ⟨okI2, no (no ⟨rfl, rfl, lt_ok rfl, no ⟨okI2, no ⟨sm1, trivial, Int.le_refl _, one_le, le_ok rfl, ?_⟩⟩⟩)⟩
    exact ret_id q
theorem le_int {t n : Nat} (h : t ≤ n) : decide ((t : Int) ≤ (n : Int)) = true := decide_eq_true (Int.ofNat_le.mpr h)
theorem ge_int {t : Nat} : decide ((0 : Int) ≤ (t : Int)) = true := decide_eq_true (Int.natCast_nonneg t)
theorem c_need (h1 : Ora Φ f_is_name d_is_name) (h2 : Ora Φ f_is_whole d_is_whole) (h3 : Ora Φ f_is_row d_is_row) (h : Ora Φ f_need_rows d_need_rows) {rs : List Rw} (ok : ∀ r ∈ rs, r.ok rs.length) (q : Q (.d .none) live) : Φ f_need_rows [.d (.list (rs.map Rw.d))] live Q X := by
  refine h _ _ _ _ ⟨rfl, no ?_⟩
  refine forL_inv (fun xs ρ l => l = live ∧ (∃ w, ρ = [some (.d (.list (rs.map Rw.d))), w]) ∧ ∀ x ∈ xs, ∃ r : Rw, r.ok rs.length ∧ x = .d r.d) ?_ ?_ ⟨rfl, ⟨_, rfl⟩, ?_⟩
  · rintro x xs ρ l ⟨rfl, ⟨w, rfl⟩, hx⟩
    obtain ⟨r, hr, rfl⟩ := hx _ (.head _)
    refine ⟨_, rfl, fun K hn hk => ?_⟩
    have hn := (hn [some (.d (.list (rs.map Rw.d))), some (.d r.d)] l ⟨rfl, ⟨_, rfl⟩, fun x h => hx x (.tail _ h)⟩).1
    refine c_row h1 h2 h3 hr (no ?_)
    cases r with
    | set x a => exact ⟨okS, no ⟨okS, no hn⟩⟩
    | ar k x a b => cases k <;> exact ⟨okS, no ⟨okS, no hn⟩⟩
    | say a => exact ⟨okS, no ⟨okS, no hn⟩⟩
    | stop => exact ⟨okS, no ⟨okS, no hn⟩⟩
    | jump t =>
      refine ⟨okS, yes (yes (c_whole_int h2 (no (onT ge_int ?_))))⟩
      refine onF (b := !decide ((t : Int) ≤ ((rs.map Rw.d).length : Int))) (by rw [le_int (by rw [List.length_map]; exact hr)]; rfl) hn
    | nought a t =>
      refine ⟨okS, no ⟨okS, yes (c_whole_int h2 (no (onT ge_int ?_)))⟩⟩
      refine onF (b := !decide ((t : Int) ≤ ((rs.map Rw.d).length : Int))) (by rw [le_int (by rw [List.length_map]; exact hr.2)]; rfl) hn
  · rintro ρ l ⟨rfl, ⟨w, rfl⟩, _⟩
    exact nx_id q
  · intro x hx
    obtain ⟨y, hy, rfl⟩ := List.mem_map.mp hx
    obtain ⟨r, hr, rfl⟩ := List.mem_map.mp hy
    exact ⟨r, ok r hr, rfl⟩

noncomputable def Rw.asks : Rw → List Op
  | .set _ a => [a]
  | .ar _ _ a b => [a, b]
  | .say a => [a]
  | .nought a _ => [a]
  | _ => []
noncomputable def Rw.own : Rw → Option (List Nat)
  | .set n _ => some n
  | .ar _ n _ _ => some n
  | _ => none
theorem c_asked (h : Ora Φ f_asked_of d_asked_of) {r : Rw} (q : Q (.d (.list (r.asks.map Op.d))) live) : Φ f_asked_of [.d r.d] live Q X := by
  refine h _ _ _ _ ⟨rfl, ?_⟩
  cases r with
  | set x a => exact ⟨rfl, rfl, lt_ok rfl, sm1, trivial, Int.le_refl _, one_le, le_ok rfl, okS, no ⟨okS, yes ⟨lt_ok rfl, ret_id q⟩⟩⟩
  | ar k x a b => cases k <;> exact ⟨rfl, rfl, lt_ok rfl, sm1, trivial, Int.le_refl _, one_le, le_ok rfl, okS, no ⟨okS, yes ⟨lt_ok rfl, okS, yes ⟨lt_ok rfl, ret_id q⟩⟩⟩⟩
  | say a => exact ⟨rfl, rfl, lt_ok rfl, sm1, trivial, Int.le_refl _, one_le, le_ok rfl, okS, yes ⟨lt_ok rfl, ret_id q⟩⟩
  | jump t => exact ⟨rfl, rfl, lt_ok rfl, sm1, trivial, Int.le_refl _, one_le, le_ok rfl, okS, no (ret_id q)⟩
  | nought a t => exact ⟨rfl, rfl, lt_ok rfl, sm1, trivial, Int.le_refl _, one_le, le_ok rfl, okS, yes ⟨lt_ok rfl, okS, no (ret_id q)⟩⟩
  | stop => exact ⟨rfl, rfl, lt_ok rfl, sm1, trivial, Int.le_refl _, one_le, le_ok rfl, ret_id q⟩
theorem sm2 : small 2 := ⟨by decide, by decide⟩
theorem two_le {n : Nat} : (2 : Int) ≤ ((n + 2 : Nat) : Int) := Int.ofNat_le.mpr (Nat.le_add_left 2 n)
theorem c_lasks (h : Ora Φ f__law_asks d__law_asks) {r : Rw} (q : Q (.d (.list (r.asks.map Op.d))) live) : Φ f__law_asks [.d r.d] live Q X := by
  refine h _ _ _ _ ⟨rfl, ?_⟩
  cases r with
  | set x a => exact ⟨⟨rfl, rfl, le_ok rfl⟩, yes ⟨sm2, trivial, by decide, two_le, le_ok rfl, le_ok rfl, ret_id q⟩⟩
  | ar k x a b => cases k <;> exact ⟨⟨rfl, rfl, le_ok rfl⟩, yes ⟨sm2, trivial, by decide, two_le, le_ok rfl, le_ok rfl, ret_id q⟩⟩
  | say a => exact ⟨⟨rfl, rfl, le_ok rfl⟩, no ⟨okS, yes (yes ⟨le_ok rfl, ret_id q⟩)⟩⟩
  | nought a t => exact ⟨⟨rfl, rfl, le_ok rfl⟩, no ⟨okS, no ⟨okS, yes ⟨le_ok rfl, ret_id q⟩⟩⟩⟩
  | jump t => exact ⟨⟨rfl, rfl, le_ok rfl⟩, no ⟨okS, no ⟨okS, no ⟨le_ok rfl, ret_id q⟩⟩⟩⟩
  | stop => exact ⟨⟨rfl, rfl, le_ok rfl⟩, no ⟨okS, no ⟨okS, no ⟨le_ok rfl, ret_id q⟩⟩⟩⟩
noncomputable def ownD : Option (List Nat) → D
  | some n => .str n
  | none => .none
theorem c_written (h : Ora Φ f_written_by d_written_by) {r : Rw} (q : Q (.d (ownD r.own)) live) : Φ f_written_by [.d r.d] live Q X := by
  refine h _ _ _ _ ⟨rfl, ?_⟩
  cases r with
  | set x a => exact ⟨⟨rfl, rfl, le_ok rfl⟩, yes (ret_id q)⟩
  | ar k x a b => cases k <;> exact ⟨⟨rfl, rfl, le_ok rfl⟩, yes (ret_id q)⟩
  | _ => exact ⟨⟨rfl, rfl, le_ok rfl⟩, no (ret_id q)⟩
noncomputable def Rw.res : Rw → List Int → Int
  | .set _ _, [a] => a
  | .ar .add _ _ _, [a, b] => a + b
  | .ar .sub _ _ _, [a, b] => a - b
  | .ar .less _ _ _, [a, b] => b2i (decide (a < b))
  | _, _ => 0
noncomputable def Rw.word : Rw → List Nat
  | .set _ _ => wSet
  | .ar k _ _ _ => k.w
  | .say _ => wSay
  | .jump _ => wJump
  | .nought _ _ => wNought
  | .stop => wStop
theorem c_result (h : Ora Φ f_result_of d_result_of) {r : Rw} {is : List Int} (hl : is.length = r.asks.length) (ho : r.own ≠ none) (q : Q (.d (.int (r.res is))) live) : Φ f_result_of [.d (.str r.word), .d (.list (is.map .int))] live Q X := by
  refine h _ _ _ _ ⟨rfl, ?_⟩
  cases r with
  | set x a =>
    match is, hl with
    | [a], _ => exact ⟨okS, yes (ret_id q)⟩
  | ar k x a b =>
    match is, hl with
    | [a, b], _ =>
      cases k with
      | add => exact ⟨okS, no ⟨okS, yes (ret_id q)⟩⟩
      | sub => exact ⟨okS, no ⟨okS, no ⟨okS, yes (ret_id q)⟩⟩⟩
      | less => exact ⟨okS, no ⟨okS, no ⟨okS, no (ret_id q)⟩⟩⟩
  | _ => exact absurd rfl ho
noncomputable def Rw.nxt (r : Rw) (size place : Nat) (is : List Int) : Nat := match r, is with
  | .stop, _ => size
  | .jump t, _ => t
  | .nought _ t, [a] => if a = 0 then t else place + 1
  | _, _ => place + 1
theorem c_behind (h : Ora Φ f_place_behind d_place_behind) {r : Rw} {is : List Int} (hl : is.length = r.asks.length) {p n : Nat} (q : Q (.d (.int (r.nxt n p is))) live) : Φ f_place_behind [.d r.d, .d (.int p), .d (.list (is.map .int)), .d (.int n)] live Q X := by
  refine h _ _ _ _ ⟨rfl, ?_⟩
  cases r with
  | ar k x a b => cases k <;> exact ⟨okS, no ⟨okS, no ⟨okS, no (no (ret_id q))⟩⟩⟩
  | nought a t =>
    match is, hl with
    | [a], _ =>
      refine ⟨okS, no ⟨okS, no ⟨okS, yes ⟨okI2, fun e => ?_, fun e => ?_⟩⟩⟩⟩
      · have e' : Rw.nxt (.nought ‹Op› t) n p [a] = t := if_pos (beqI e)
        rw [e'] at q
        exact ret_id q
      · have e' : Rw.nxt (.nought ‹Op› t) n p [a] = p + 1 := if_neg (beqIf e)
        rw [e'] at q
        exact ret_id q
  | stop => exact ⟨okS, yes (ret_id q)⟩
  | jump t => exact ⟨okS, no ⟨okS, yes (yes (ret_id q))⟩⟩
  | set x a => exact ⟨okS, no ⟨okS, no ⟨okS, no (no (ret_id q))⟩⟩⟩
  | say a => exact ⟨okS, no ⟨okS, no ⟨okS, no (no (ret_id q))⟩⟩⟩
end Mine

set_option Elab.async false
set_option linter.unusedVariables false
namespace Mine
open PySem (CmpOp Operator)
variable {Φ : CP} {live : Hp} {Q : KV} {X : XP}
noncomputable def valOf (held : List (D × D)) : Op → Int
  | .num i => i
  | .nm cs => match dget held (.str cs) with
    | some (.int i) => i
    | _ => 0
noncomputable def HeldOk (held : List (D × D)) : Prop := ∀ p ∈ held, ∃ cs i, p = (.str cs, .int i)
abbrev wEnd : List Nat := [101, 110, 100]
abbrev wTired : List Nat := [116, 105, 114, 101, 100]
noncomputable def finR (rows : List Rw) (said : List Int) (p k : Nat) : D := .tup [.list (said.map .int), .str (if p < rows.length then wTired else wEnd), .int k]
noncomputable def heldN (held : List (D × D)) (r : Rw) : List (D × D) := match r.own with
  | some n => dput held (.str n) (.int (r.res (r.asks.map (valOf held))))
  | none => held
noncomputable def saidN (held : List (D × D)) (said : List Int) : Rw → List Int
  | .say a => said ++ [valOf held a]
  | _ => said
noncomputable def runR (rows : List Rw) (most : Nat) : Nat → List (D × D) → List Int → Nat → Nat → D
  | 0, _, said, p, k => finR rows said p k
  | n + 1, held, said, p, k => match rows[p]? with
    | some r => if k < most then runR rows most n (heldN held r) (saidN held said r) (r.nxt rows.length p (r.asks.map (valOf held))) (k + 1) else finR rows said p k
    | none => finR rows said p k
theorem dget_held {held : List (D × D)} (h : HeldOk held) (cs : List Nat) : (∃ i, dget held (.str cs) = some (.int i) ∧ valOf held (.nm cs) = i) ∨ (dget held (.str cs) = none ∧ valOf held (.nm cs) = 0) := by
  cases e : dget held (.str cs) with
  | none => exact .inr ⟨rfl, by simp only [valOf, e]⟩
  | some y =>
    have e' := e
    unfold dget at e
    obtain ⟨p, hp, rfl⟩ := Option.map_eq_some_iff.mp e
    obtain ⟨c, i, rfl⟩ := h p (List.mem_of_find?_eq_some hp)
    exact .inl ⟨i, rfl, by simp only [valOf, e']⟩
theorem mem_dputK {α : Type} : ∀ {kvs : List (D × α)} {k : D} {v : α} {p : D × α}, p ∈ dput kvs k v → p ∈ kvs ∨ (p.2 = v ∧ (p.1 = k))
  | [], k, v, p, h => by
    cases h with
    | head => exact .inr ⟨rfl, rfl⟩
    | tail _ h => cases h
  | (k', v') :: r, k, v, p, h => by
    replace h : p ∈ (if D.eqb k' k then (k', v) :: r else (k', v') :: dput r k v) := h
    split at h
    · rename_i hk
      rcases List.mem_cons.mp h with rfl | h
      · exact .inr ⟨rfl, D.eqb_eq hk⟩
      · exact .inl (.tail _ h)
    · rcases List.mem_cons.mp h with rfl | h
      · exact .inl (.head _)
      · exact (mem_dputK h).imp (fun h => .tail _ h) id
theorem dput_len {α : Type} : ∀ (kvs : List (D × α)) (k : D) (v : α), (dput kvs k v).length ≤ kvs.length + 1
  | [], k, v => Nat.le_refl _
  | (k', v') :: r, k, v => by
    show (if D.eqb k' k then (k', v) :: r else (k', v') :: dput r k v).length ≤ r.length + 1 + 1
    split
    · exact Nat.le_succ _
    · exact Nat.succ_le_succ (dput_len r k v)
theorem HeldOk.put {held : List (D × D)} (h : HeldOk held) (cs : List Nat) (i : Int) : HeldOk (dput held (.str cs) (.int i)) := fun p hp => by
  rcases mem_dputK hp with hp | ⟨h1, h2⟩
  · exact h p hp
  · exact ⟨cs, i, by rw [← h1, ← h2]⟩
theorem HeldOk.next {held : List (D × D)} (h : HeldOk held) (r : Rw) : HeldOk (heldN held r) ∧ (heldN held r).length ≤ held.length + 1 := by
  unfold heldN
  split
  · exact ⟨h.put _ _, dput_len _ _ _⟩
  · exact ⟨h, by omega⟩
theorem HeldOk.keysV {held : List (D × D)} (h : HeldOk held) : keysV held := fun p hp => by
  obtain ⟨cs, i, rfl⟩ := h p hp
  rfl
theorem nxt_le {r : Rw} {n p : Nat} {is : List Int} (ok : r.ok n) (hp : p < n) : r.nxt n p is ≤ n := by
  cases r with
  | stop => exact Nat.le_refl _
  | jump t => exact ok
  | nought a t =>
    match is with
    | [] => exact hp
    | [c] =>
      show (if c = 0 then t else p + 1) ≤ n
      split
      · exact ok.2
      · exact hp
    | _ :: _ :: _ => exact hp
  | _ => exact hp

structure Two (live l : Hp) (a b : Nat) (oa ob : AO) : Prop where
  fa : live a = none
  fb : live b = none
  ne : a ≠ b
  la : l a = some oa
  lb : l b = some ob
  fr : ∀ m, m ≠ a → m ≠ b → l m = live m
theorem Two.setA {l : Hp} {a b : Nat} {oa ob oa' : AO} (t : Two live l a b oa ob) : Two live (l.upd a oa') a b oa' ob :=
  ⟨t.fa, t.fb, t.ne, Hp.upd_self _ _ _, by rw [Hp.upd_ne _ _ t.ne.symm]; exact t.lb, fun m h1 h2 => by rw [Hp.upd_ne _ _ h1]; exact t.fr m h1 h2⟩
theorem Two.setB {l : Hp} {a b : Nat} {oa ob ob' : AO} (t : Two live l a b oa ob) : Two live (l.upd b ob') a b oa ob' :=
  ⟨t.fa, t.fb, t.ne, by rw [Hp.upd_ne _ _ t.ne]; exact t.la, Hp.upd_self _ _ _, fun m h1 h2 => by rw [Hp.upd_ne _ _ h2]; exact t.fr m h1 h2⟩
theorem Two.mk2 {a b : Nat} {oa ob : AO} (ha : live a = none) (hb : (live.upd a oa) b = none) : Two live ((live.upd a oa).upd b ob) a b oa ob := by
  have ne : a ≠ b := fun e => by rw [← e, Hp.upd_self] at hb; cases hb
  refine ⟨ha, by rw [Hp.upd_ne _ _ ne.symm] at hb; exact hb, ne, by rw [Hp.upd_ne _ _ ne, Hp.upd_self], Hp.upd_self _ _ _, fun m h1 h2 => by rw [Hp.upd_ne _ _ h2, Hp.upd_ne _ _ h1]⟩
theorem Two.drop {l : Hp} {a b : Nat} {oa ob : AO} (t : Two live l a b oa ob) (pa : oa.plain = true) (pb : ob.plain = true) : Drop l live := by
  refine ⟨fun n o e => ?_, fun n o e => ?_, fun n o dx e q h => ?_⟩
  · have h1 : n ≠ a := fun z => by rw [z, t.fa] at e; cases e
    have h2 : n ≠ b := fun z => by rw [z, t.fb] at e; cases e
    rw [t.fr n h1 h2]; exact e
  · have h1 : n ≠ a := fun z => by rw [z, t.la] at e; cases e; cases pa
    have h2 : n ≠ b := fun z => by rw [z, t.lb] at e; cases e; cases pb
    rw [← t.fr n h1 h2]; exact e
  · have h1 : dx ≠ a := fun z => by rw [z, t.la] at h; cases h; cases pa
    have h2 : dx ≠ b := fun z => by rw [z, t.lb] at h; cases h; cases pb
    rw [← t.fr dx h1 h2]; exact h
theorem ret_mix {l : Hp} {a b : Nat} {held : List (D × D)} {said ds : List D} (t : Two live l a b (.dict held) (.list said)) (q : Q (.d (.tup (.list said :: ds))) live) : ∃ v' live'', Rz l live'' (.mix b ds) v' ∧ Q v' live'' :=
  ⟨_, live, ⟨t.drop rfl rfl, .inr ⟨_, rfl, .mix t.lb t.fb rfl⟩⟩, q⟩

theorem getI_row {rs : List Rw} {p : Nat} {r : Rw} (e : rs[p]? = some r) : getI (rs.map Rw.d) (p : Int) = some r.d := by
  unfold getI
  rw [if_pos (Int.natCast_nonneg p), Int.toNat_natCast, List.getElem?_map, e]; rfl
noncomputable def opOf : V → Option Op
  | .d (.str cs) => some (.nm cs)
  | .d (.int i) => some (.num i)
  | _ => none
theorem opOf_d (o : Op) : opOf (.d o.d) = some o := by cases o <;> rfl
theorem asks_comp (held : List (D × D)) (os : List Op) : ((os.map Op.d).map V.d).filterMap (fun v => (opOf v).map fun o => D.int (valOf held o)) = (os.map (valOf held)).map .int := by
  induction os with
  | nil => rfl
  | cons o os ih =>
    rw [List.map_cons, List.map_cons, List.filterMap_cons, opOf_d, List.map_cons, List.map_cons, ← ih]
    rfl
theorem asks_le (r : Rw) : r.asks.length ≤ 2 := by cases r <;> exact le_ok rfl


theorem look_plain {l : Hp} {n : Nat} {o : AO} (h : l n = some o) (hp : o.plain = true) : l.look n = some o := by
  unfold Hp.look
  rw [h]
  cases o <;> first | rfl | cases hp
structure RunInv (live : Hp) (rs : List Rw) (vals : List (D × D)) (most a b : Nat) (R : D) (n : Nat) (ρ : Env) (l : Hp) (held : List (D × D)) (said : List Int) (p k : Nat) : Prop where
  two : Two live l a b (.dict held) (.list (said.map .int))
  env : ∃ w7 w8 w9, ρ = [some (.d (.list (rs.map Rw.d))), some (.d (.dict vals)), some (.d (.int most)), some (.loc a), some (.loc b), some (.d (.int p)), some (.d (.int k)), w7, w8, w9]
  ho : HeldOk held
  hl : held.length ≤ 1000 + k
  hs : said.length ≤ k
  hk : k ≤ most
  hp : p ≤ rs.length
  hn : n = most - k
  run : runR rs most n held said p k = R
section
variable {rs : List Rw} {vals held : List (D × D)} {most a b : Nat} {R : KS} {l : Hp} {said : List Int} {r : Rw} {rest : List S} {e0 e1 e2 e5 e6 w8 w9 : Option V} {ob : AO}
theorem get_held {K : KV} (la : l a = some (.dict held)) (ho : HeldOk held) {cs : List Nat} (hK : K (.d (.int (valOf held (.nm cs)))) l) : vMth .get2 (.loc a) [.d (.str cs), .d (.int 0)] l K := by
  show match (l.look a).bind AO.toD, some (D.str cs) with
    | some (.dict kvs), some x => D.key x = true ∧ match dget kvs x with
      | some y => K (.d y) l
      | none => K (.d (.int 0)) l
    | _, _ => False
  rw [look_plain la rfl]
  refine ⟨rfl, ?_⟩
  rcases dget_held ho cs with ⟨i, e1, e2⟩ | ⟨e1, e2⟩
  · rw [e1]; rw [e2] at hK; exact hK
  · rw [e1]; rw [e2] at hK; exact hK
theorem isD {n : Nat} {kvs : List (D × D)} (la : l n = some (.dict kvs)) : isDictV l (.loc n) = true := by
  show (match l.look n with | some (.dict _) => true | some (.ldict _) => true | _ => false) = true
  rw [look_plain la rfl]
theorem isL {n : Nat} {ds : List D} (la : l n = some (.list ds)) : isListV l (.loc n) = true := by
  show (match l.look n with | some (.list _) => true | some (.llist _) => true | _ => false) = true
  rw [look_plain la rfl]
theorem asks_big : ([] : List D).length + ((r.asks.map Op.d).map V.d).length ≤ big := by
  rw [List.length_map, List.length_map, List.length_nil, Nat.zero_add]
  exact Nat.le_trans (asks_le r) (le_ok rfl)
theorem ask_mem {x : V} (hx : x ∈ (r.asks.map Op.d).map V.d) : ∃ o : Op, x = .d o.d := by
  obtain ⟨y, hy, rfl⟩ := List.mem_map.mp hx
  obtain ⟨o, _, rfl⟩ := List.mem_map.mp hy
  exact ⟨o, rfl⟩
theorem num_ok (h5 : Ora Φ f_asked_of d_asked_of) (la : l a = some (.dict held)) (ho : HeldOk held) (h : vSs Φ rest [e0, e1, e2, some (.loc a), some (.loc b), e5, e6, some (.d r.d), some (.d (.list ((r.asks.map (valOf held)).map .int))), w9] l R X) :
    vSs Φ (.assign 8 (.comp false (.ite (.isi (.var 9) .str) (.mth .get2 (.var 3) [(.var 9), (.cst (.int 0))]) (.var 9)) [9] true (.e (.call f_asked_of [(.var 7)])) none) :: rest) [e0, e1, e2, some (.loc a), some (.loc b), e5, e6, some (.d r.d), w8, w9] l R X := by
  refine c_asked h5 (compL_fun (fun v => (opOf v).map fun o => D.int (valOf held o)) (fun x hx => ?_) asks_big ?_)
  · obtain ⟨o, rfl⟩ := ask_mem hx
    refine ⟨_, rfl, fun K hK => ?_, fun y hy K hK => ?_⟩
    · rw [opOf_d] at hK; exact hK
    · rw [opOf_d] at hy; cases hy
      cases o with
      | num i => exact no hK
      | nm cs => exact yes ⟨isD la, get_held la ho hK⟩
  · rw [List.nil_append, asks_comp]
    exact ⟨lt_ok rfl, h⟩
theorem lnum_ok (h5 : Ora Φ f__law_asks d__law_asks) (la : l a = some (.dict held)) (ho : HeldOk held) (h : vSs Φ rest [e0, e1, e2, some (.loc a), some (.loc b), e5, e6, some (.d r.d), some (.d (.list ((r.asks.map (valOf held)).map .int))), w9] l R X) :
    vSs Φ (.assign 8 (.comp false (.ite (.isi (.var 9) .int) (.var 9) (.mth .get2 (.var 3) [(.var 9), (.cst (.int 0))])) [9] true (.e (.call f__law_asks [(.var 7)])) none) :: rest) [e0, e1, e2, some (.loc a), some (.loc b), e5, e6, some (.d r.d), w8, w9] l R X := by
  refine c_lasks h5 (compL_fun (fun v => (opOf v).map fun o => D.int (valOf held o)) (fun x hx => ?_) asks_big ?_)
  · obtain ⟨o, rfl⟩ := ask_mem hx
    refine ⟨_, rfl, fun K hK => ?_, fun y hy K hK => ?_⟩
    · rw [opOf_d] at hK; exact hK
    · rw [opOf_d] at hy; cases hy
      cases o with
      | num i => exact yes hK
      | nm cs => exact no ⟨isD la, get_held la ho hK⟩
  · rw [List.nil_append, asks_comp]
    exact ⟨lt_ok rfl, h⟩
theorem set_str {K : Hp → Prop} (la : l a = some (.dict held)) (hl : held.length < big) {cs : List Nat} {x : D} (h : K (l.upd a (.dict (dput held (.str cs) x)))) : vSetIdx (.loc a) (.d (.str cs)) (.d x) l K := by
  show match l a, some (D.str cs) with
    | some (.list ds), some (.int k) => 0 ≤ k ∧ k < ds.length ∧ K (l.upd a (.list (ds.set k.toNat x)))
    | some (.llist ns), some (.int k) => False
    | some (.dict kvs), some k => D.key k = true ∧ kvs.length < big ∧ K (l.upd a (.dict (dput kvs k x)))
    | some (.ldict kns), some k => D.key k = true ∧ kns.length < big ∧ False
    | _, _ => False
  rw [la]
  exact ⟨rfl, hl, h⟩
theorem write_ok (h6 : Ora Φ f_written_by d_written_by) (h7 : Ora Φ f_result_of d_result_of) (T : Two live l a b (.dict held) ob) (hl : held.length < big)
    (h : ∀ l1, Two live l1 a b (.dict (heldN held r)) ob → vSs Φ rest [e0, e1, e2, some (.loc a), some (.loc b), e5, e6, some (.d r.d), some (.d (.list ((r.asks.map (valOf held)).map .int))), w9] l1 R X) :
    vSs Φ (.ite (.isNone (.call f_written_by [(.var 7)]) true) [.setIdx (.var 3) (.call f_written_by [(.var 7)]) (.call f_result_of [(.idx (.var 7) (.cst (.int 0))), (.var 8)])] [] :: rest) [e0, e1, e2, some (.loc a), some (.loc b), e5, e6, some (.d r.d), some (.d (.list ((r.asks.map (valOf held)).map .int))), w9] l R X := by
  cases r with
  | set x o => exact c_written (r := .set x o) h6 (yes (c_result (r := .set x o) h7 (List.length_map _) (fun z => nomatch z) (c_written (r := .set x o) h6 (set_str T.la hl (h _ T.setA)))))
  | ar k x o o' =>
    cases k with
    | add => exact c_written (r := .ar .add x o o') h6 (yes (c_result (r := .ar .add x o o') h7 (List.length_map _) (fun z => nomatch z) (c_written (r := .ar .add x o o') h6 (set_str T.la hl (h _ T.setA)))))
    | sub => exact c_written (r := .ar .sub x o o') h6 (yes (c_result (r := .ar .sub x o o') h7 (List.length_map _) (fun z => nomatch z) (c_written (r := .ar .sub x o o') h6 (set_str T.la hl (h _ T.setA)))))
    | less => exact c_written (r := .ar .less x o o') h6 (yes (c_result (r := .ar .less x o o') h7 (List.length_map _) (fun z => nomatch z) (c_written (r := .ar .less x o o') h6 (set_str T.la hl (h _ T.setA)))))
  | say o => exact c_written (r := .say o) h6 (no (h l T))
  | jump t => exact c_written (r := .jump t) h6 (no (h l T))
  | nought o t => exact c_written (r := .nought o t) h6 (no (h l T))
  | stop => exact c_written (r := .stop) h6 (no (h l T))
theorem say_ok (T : Two live l a b (.dict held) (.list (said.map .int))) (hl : said.length < big) {held₀ : List (D × D)}
    (h : ∀ l1, Two live l1 a b (.dict held) (.list ((saidN held₀ said r).map .int)) → vSs Φ rest [e0, e1, e2, some (.loc a), some (.loc b), e5, e6, some (.d r.d), some (.d (.list ((r.asks.map (valOf held₀)).map .int))), w9] l1 R X) :
    vSs Φ (.ite (.cmp .Eq (.idx (.var 7) (.cst (.int 0))) (.cst (.str [115, 97, 121]))) [.expr (.mth .append (.var 4) [(.idx (.var 8) (.cst (.int 0)))])] [] :: rest) [e0, e1, e2, some (.loc a), some (.loc b), e5, e6, some (.d r.d), some (.d (.list ((r.asks.map (valOf held₀)).map .int))), w9] l R X := by
  cases r with
  | say o =>
    refine ⟨okS, yes ⟨isL T.lb, ?_⟩⟩
    show (match l b with | some (.list ds) => _ | some (.llist _) => _ | _ => _)
    rw [T.lb]
    refine ⟨by rw [List.length_map]; exact hl, rfl, h _ ?_⟩
    show Two live _ a b _ (.list ((said ++ [valOf held₀ o]).map .int))
    rw [List.map_append]
    exact T.setB
  | ar k x c d => cases k <;> exact ⟨okS, no (h l T)⟩
  | set x c => exact ⟨okS, no (h l T)⟩
  | jump t => exact ⟨okS, no (h l T)⟩
  | nought c t => exact ⟨okS, no (h l T)⟩
  | stop => exact ⟨okS, no (h l T)⟩
end
theorem lt_dec {a b : Nat} (h : a < b) : decide ((a : Int) < (b : Int)) = true := decide_eq_true (Int.ofNat_lt.mpr h)
theorem ge_dec {a b : Nat} (h : b ≤ a) : decide ((a : Int) < (b : Int)) = false := decide_eq_false fun z => Nat.not_lt.mpr h (Int.ofNat_lt.mp z)
theorem saidN_len (held : List (D × D)) (said : List Int) (r : Rw) : (saidN held said r).length ≤ said.length + 1 := by
  cases r <;> first | exact Nat.le_succ _ | (show (said ++ [_]).length ≤ _; rw [List.length_append]; exact Nat.le_refl _)
theorem runR_step {rs : List Rw} {most k p : Nat} {held : List (D × D)} {said : List Int} {r : Rw} {R : D} (er : rs[p]? = some r) (hlt : k < most) (hr : runR rs most (most - k) held said p k = R) :
    runR rs most (most - (k + 1)) (heldN held r) (saidN held said r) (r.nxt rs.length p (r.asks.map (valOf held))) (k + 1) = R := by
  have e1 : most - k = (most - (k + 1)) + 1 := by omega
  rw [e1] at hr
  rw [← hr]
  show _ = match rs[p]? with | some r => if k < most then runR rs most (most - (k + 1)) (heldN held r) (saidN held said r) (r.nxt rs.length p (r.asks.map (valOf held))) (k + 1) else finR rs said p k | none => finR rs said p k
  rw [er]
  exact (if_pos hlt).symm
theorem runR_end {rs : List Rw} {most k p n : Nat} {held : List (D × D)} {said : List Int} (h : p < rs.length → ¬ k < most) : runR rs most n held said p k = finR rs said p k := by
  cases n with
  | zero => rfl
  | succ n =>
    show (match rs[p]? with | some r => if k < most then runR rs most n (heldN held r) (saidN held said r) (r.nxt rs.length p (r.asks.map (valOf held))) (k + 1) else finR rs said p k | none => finR rs said p k) = _
    cases e2 : rs[p]? with
    | none => rfl
    | some r =>
      have : p < rs.length := by
        rcases Nat.lt_or_ge p rs.length with h | h
        · exact h
        · rw [List.getElem?_eq_none h] at e2; cases e2
      exact if_neg (h this)
theorem RunInv.next {live : Hp} {rs : List Rw} {vals held : List (D × D)} {most a b p k : Nat} {R : D} {said : List Int} {r : Rw} {l2 : Hp} {ρ : Env} (ok : ∀ r ∈ rs, r.ok rs.length) (er : rs[p]? = some r) (hlt : p < rs.length) (hlt2 : k < most) (ho : HeldOk held) (hl : held.length ≤ 1000 + k) (hs : said.length ≤ k)
    (hr : runR rs most (most - k) held said p k = R) (T2 : Two live l2 a b (.dict (heldN held r)) (.list ((saidN held said r).map .int)))
    (e : ∃ w7 w8 w9, ρ = [some (.d (.list (rs.map Rw.d))), some (.d (.dict vals)), some (.d (.int most)), some (.loc a), some (.loc b), some (.d (.int (r.nxt rs.length p (r.asks.map (valOf held))))), some (.d (.int ((k + 1 : Nat) : Int))), w7, w8, w9]) :
    ∃ m, m < most - k ∧ ∃ held said p k, RunInv live rs vals most a b R m ρ l2 held said p k :=
  ⟨most - (k + 1), by omega, heldN held r, saidN held said r, _, k + 1, T2, e, (ho.next r).1, Nat.le_trans (ho.next r).2 (Nat.succ_le_succ hl), Nat.le_trans (saidN_len held said r) (Nat.succ_le_succ hs), hlt2, nxt_le (ok r (List.mem_of_getElem? er)) hlt, rfl, runR_step er hlt2 hr⟩
theorem c_run (h1 : Ora Φ f_is_name d_is_name) (h2 : Ora Φ f_is_whole d_is_whole) (h3 : Ora Φ f_is_row d_is_row) (h4 : Ora Φ f_need_rows d_need_rows) (h5 : Ora Φ f_asked_of d_asked_of) (h6 : Ora Φ f_written_by d_written_by) (h7 : Ora Φ f_result_of d_result_of)
    (h8 : Ora Φ f_place_behind d_place_behind) (h : Ora Φ f_run d_run) {rs : List Rw} (ok : ∀ r ∈ rs, r.ok rs.length) {vals : List (D × D)} (hv : HeldOk vals) (hvl : vals.length ≤ 1000) {most : Nat} (hm : most ≤ 1000) (q : Q (.d (runR rs most most vals [] 0 0)) live) :
    Φ f_run [.d (.list (rs.map Rw.d)), .d (.dict vals), .d (.int most)] live Q X := by
  refine h _ _ _ _ ⟨rfl, c_need h1 h2 h3 h4 ok ⟨rfl, hv.keysV, Nat.le_trans hvl (le_ok rfl), fun a ha => ⟨lt_ok rfl, Nat.zero_le _, fun b hb => ⟨lt_ok rfl, lt_ok rfl, lt_ok rfl, ?_⟩⟩⟩⟩
  generalize hR : runR rs most most vals [] 0 0 = RR at q
  refine ⟨fun n ρ l => ∃ held said p k, RunInv live rs vals most a b RR n ρ l held said p k, ⟨most, vals, [], 0, 0, Two.mk2 ha hb, ⟨_, _, _, rfl⟩, hv, Nat.le_add_right_of_le hvl, Nat.le_refl _, Nat.zero_le _, Nat.zero_le _, rfl, hR⟩, ?_⟩
  rintro n ρ l ⟨held, said, p, k, T, ⟨w7, w8, w9, rfl⟩, ho, hl, hs, hk, hp, rfl, hr⟩
  have hlen : ((rs.map Rw.d).length : Int) = (rs.length : Int) := by rw [List.length_map]
  rcases Nat.lt_or_ge p rs.length with hlt | hge
  · refine onT (b := decide ((p : Int) < ((rs.map Rw.d).length : Int))) (by rw [hlen]; exact lt_dec hlt) ?_
    obtain ⟨r, er⟩ : ∃ r, rs[p]? = some r := ⟨rs[p], List.getElem?_eq_getElem hlt⟩
    rcases Nat.lt_or_ge k most with hlt2 | hge2
    · refine onF (b := decide ((k : Int) ≥ (most : Int))) (decide_eq_false fun z => Nat.not_le.mpr hlt2 (Int.ofNat_le.mp z)) ?_
      show (match getI (rs.map Rw.d) (p : Int) with | some x => _ | none => False)
      rw [getI_row er]
      refine ⟨lt_ok rfl, num_ok h5 T.la ho (write_ok h6 h7 T (Nat.lt_of_le_of_lt hl (by unfold big; omega)) fun l1 T1 => say_ok T1 (Nat.lt_of_le_of_lt hs (by unfold big; omega)) fun l2 T2 => ?_)⟩
      have c := c_behind (Φ := Φ) (live := l2) (X := fun _ _ => False) h8 (r := r) (is := r.asks.map (valOf held)) (List.length_map _) (p := p) (n := (rs.map Rw.d).length) (Q := ?_) ?_
      exact c
      refine ⟨lt_ok rfl, lt_ok rfl, ?_⟩
      rw [List.length_map]
      exact RunInv.next ok er hlt hlt2 ho hl hs hr T2 ⟨_, _, _, rfl⟩
    · refine onT (b := decide ((k : Int) ≥ (most : Int))) (decide_eq_true (Int.ofNat_le.mpr hge2)) (ret_mix T ?_)
      rw [runR_end (fun _ => Nat.not_lt.mpr hge2)] at hr
      rw [← hr] at q
      unfold finR at q
      rw [if_pos hlt] at q
      exact q
  · refine onF (b := decide ((p : Int) < ((rs.map Rw.d).length : Int))) (by rw [hlen]; exact ge_dec hge) (ret_mix T ?_)
    rw [runR_end (fun z => absurd hge (Nat.not_le.mpr z))] at hr
    rw [← hr] at q
    unfold finR at q
    rw [if_neg (Nat.not_lt.mpr hge)] at q
    exact q
end Mine

set_option Elab.async false
set_option linter.unusedVariables false
namespace Mine
open PySem (CmpOp Operator)
variable {Φ : CP} {live : Hp} {Q : KV} {X : XP}
theorem lrun_fin {rs : List Rw} {vals held : List (D × D)} {most a b p k : Nat} {said : List Int} {l : Hp} {w7 w8 w9 : Option V} (T : Two live l a b (.dict held) (.list (said.map .int))) (hp : p ≤ rs.length) (q : Q (.d (finR rs said p k)) live) :
    vSs Φ [.ret (.tup [(.var 4), (.ite (.cmp .Eq (.var 5) (.bi .len [(.var 0)])) (.cst (.str [101, 110, 100])) (.cst (.str [116, 105, 114, 101, 100]))), (.var 6)])]
      [some (.d (.list (rs.map Rw.d))), some (.d (.dict vals)), some (.d (.int most)), some (.loc a), some (.loc b), some (.d (.int p)), some (.d (.int k)), w7, w8, w9] l (fun f _ live' => match f with
    | .rt v => ∃ v' live'', Rz live' live'' v v' ∧ Q v' live''
    | .nx => ∃ live'', Drop live' live'' ∧ Q (.d .none) live''
    | .ct => False) X := by
  have hlen : ((rs.map Rw.d).length : Int) = (rs.length : Int) := by rw [List.length_map]
  unfold finR at q
  by_cases hpl : p = rs.length
  · rw [if_neg (by omega)] at q
    exact ⟨okI2, onT (b := ((p : Int) == ((rs.map Rw.d).length : Int))) (by rw [hlen, hpl]; exact beq_self_eq_true _) (ret_mix T q)⟩
  · rw [if_pos (by omega)] at q
    refine ⟨okI2, onF (b := ((p : Int) == ((rs.map Rw.d).length : Int))) ?_ (ret_mix T q)⟩
    rw [hlen, beq_eq_false_iff_ne]; omega
theorem c_lrun (h5 : Ora Φ f__law_asks d__law_asks) (h : Ora Φ f__law_run d__law_run) {rs : List Rw} (ok : ∀ r ∈ rs, r.ok rs.length) {vals : List (D × D)} (hv : HeldOk vals) (hvl : vals.length ≤ 1000) {most : Nat} (hm : most ≤ 1000) (q : Q (.d (runR rs most most vals [] 0 0)) live) :
    Φ f__law_run [.d (.list (rs.map Rw.d)), .d (.dict vals), .d (.int most)] live Q X := by
  refine h _ _ _ _ ⟨rfl, hv.keysV, Nat.le_trans hvl (le_ok rfl), fun a ha => ⟨lt_ok rfl, Nat.zero_le _, fun b hb => ⟨lt_ok rfl, lt_ok rfl, lt_ok rfl, ?_⟩⟩⟩
  generalize hR : runR rs most most vals [] 0 0 = RR at q
  refine ⟨fun n ρ l => ∃ held said p k, RunInv live rs vals most a b RR n ρ l held said p k, ⟨most, vals, [], 0, 0, Two.mk2 ha hb, ⟨_, _, _, rfl⟩, hv, Nat.le_add_right_of_le hvl, Nat.le_refl _, Nat.zero_le _, Nat.zero_le _, rfl, hR⟩, ?_⟩
  rintro n ρ l ⟨held, said, p, k, T, ⟨w7, w8, w9, rfl⟩, ho, hl, hs, hk, hp, rfl, hr⟩
  have hlen : ((rs.map Rw.d).length : Int) = (rs.length : Int) := by rw [List.length_map]
  have fin := fun (z : p < rs.length → ¬ k < most) => lrun_fin (Φ := Φ) (X := fun _ _ => False) (vals := vals) (most := most) (w7 := w7) (w8 := w8) (w9 := w9) (k := k) T hp (Q := Q) (by rw [runR_end z] at hr; rw [hr]; exact q)
  rcases Nat.lt_or_ge p rs.length with hlt | hge
  · refine onT (b := decide ((p : Int) < ((rs.map Rw.d).length : Int))) (by rw [hlen]; exact lt_dec hlt) ?_
    rcases Nat.lt_or_ge k most with hlt2 | hge2
    · refine onT (b := decide ((k : Int) < (most : Int))) (lt_dec hlt2) ?_
      clear fin q
      obtain ⟨r, er⟩ : ∃ r, rs[p]? = some r := ⟨rs[p], List.getElem?_eq_getElem hlt⟩
      show (match getI (rs.map Rw.d) (p : Int) with | some x => _ | none => False)
      rw [getI_row er]
      refine ⟨lt_ok rfl, lt_ok rfl, lnum_ok h5 T.la ho ⟨lt_ok rfl, ?_⟩⟩
      have done := fun l2 ρ => RunInv.next (live := live) (a := a) (b := b) (vals := vals) (l2 := l2) (ρ := ρ) ok er hlt hlt2 ho hl hs hr
      have hlb : held.length < big := Nat.lt_of_le_of_lt hl (by unfold big; omega)
      have hsb : (said.map D.int).length < big := by rw [List.length_map]; exact Nat.lt_of_le_of_lt hs (by unfold big; omega)
      clear hr er hlen
      cases r with
      | set x o => exact ⟨okS, yes (set_str T.la hlb (done _ _ T.setA ⟨_, _, _, rfl⟩))⟩
      | ar j x o o' =>
        cases j with
        | add => exact ⟨okS, no ⟨okS, yes (set_str T.la hlb (done _ _ T.setA ⟨_, _, _, rfl⟩))⟩⟩
        | sub => exact ⟨okS, no ⟨okS, no ⟨okS, yes (set_str T.la hlb (done _ _ T.setA ⟨_, _, _, rfl⟩))⟩⟩⟩
        | less => exact ⟨okS, no ⟨okS, no ⟨okS, no ⟨okS, yes (set_str T.la hlb (done _ _ T.setA ⟨_, _, _, rfl⟩))⟩⟩⟩⟩
      | say o =>
        refine ⟨okS, no ⟨okS, no ⟨okS, no ⟨okS, no ⟨okS, yes ⟨isL T.lb, ?_⟩⟩⟩⟩⟩⟩
        show (match l b with | some (.list ds) => _ | some (.llist _) => _ | _ => _)
        rw [T.lb]
        refine ⟨hsb, rfl, done _ _ ?_ ⟨_, _, _, rfl⟩⟩
        show Two live _ a b _ (.list ((said ++ [valOf held o]).map .int))
        rw [List.map_append]
        exact T.setB
      | jump t => exact ⟨okS, no ⟨okS, no ⟨okS, no ⟨okS, no ⟨okS, no ⟨okS, yes ⟨lt_ok rfl, done _ _ T ⟨_, _, _, rfl⟩⟩⟩⟩⟩⟩⟩⟩
      | stop =>
        refine ⟨okS, no ⟨okS, no ⟨okS, no ⟨okS, no ⟨okS, no ⟨okS, no ⟨okS, yes ⟨lt_ok rfl, ?_⟩⟩⟩⟩⟩⟩⟩⟩
        refine done _ _ T ?_
        rw [List.length_map]
        exact ⟨_, _, _, rfl⟩
      | nought o t =>
        refine ⟨okS, no ⟨okS, no ⟨okS, no ⟨okS, no ⟨okS, no ⟨okS, no ⟨okS, no ⟨okI2, fun e => ?_, fun e => ?_⟩⟩⟩⟩⟩⟩⟩⟩
        · have en : (Rw.nought o t).nxt rs.length p ((Rw.nought o t).asks.map (valOf held)) = t := if_pos (beqI e)
          refine ⟨lt_ok rfl, done _ _ T ?_⟩
          rw [en]
          exact ⟨_, _, _, rfl⟩
        · have en : (Rw.nought o t).nxt rs.length p ((Rw.nought o t).asks.map (valOf held)) = p + 1 := if_neg (beqIf e)
          refine done _ _ T ?_
          rw [en]
          exact ⟨_, _, _, rfl⟩
    · exact onF (b := decide ((k : Int) < (most : Int))) (ge_dec hge2) (fin fun _ => Nat.not_lt.mpr hge2)
  · exact onF (b := decide ((p : Int) < ((rs.map Rw.d).length : Int))) (by rw [hlen]; exact ge_dec hge) (no (fin fun z => absurd hge (Nat.not_le.mpr z)))
theorem ints_flat : ∀ is : List Int, D.flats (is.map .int) = true ∧ D.nbs (is.map .int) = true ∧ D.depths (is.map .int) = 0
  | [] => ⟨rfl, rfl, rfl⟩
  | i :: is => by
    obtain ⟨h1, h2, h3⟩ := ints_flat is
    refine ⟨?_, ?_, ?_⟩
    · show (true && D.flats (is.map .int)) = true; rw [h1]; rfl
    · show (true && D.nbs (is.map .int)) = true; rw [h2]; rfl
    · show max 0 (D.depths (is.map .int)) = 0; rw [h3]; rfl
theorem filt_none {α β : Type} : ∀ xs : List α, xs.filterMap (fun _ => (none : Option β)) = []
  | [] => rfl
  | x :: xs => by rw [List.filterMap_cons]; exact filt_none xs
theorem c_told (h1 : Ora Φ f__law_whole d__law_whole) (h : Ora Φ f__law_told d__law_told) {said : List Int} {w : List Nat} {k : Int} (hl : said.length ≤ big) (q : Q (.d (.bool true)) live) :
    Φ f__law_told [.d (.tup [.list (said.map .int), .str w, .int k]), .d (.tup [.list (said.map .int), .str w, .int k])] live Q X := by
  refine h _ _ _ _ ⟨rfl, no ⟨okI2, no (no (no (c_lwhole_int h1 (no ?_))))⟩⟩
  refine compL_fun (fun _ => none) (fun x hx => ?_) (by rw [List.length_map, List.length_map, List.length_nil, Nat.zero_add]; exact hl) ?_
  · obtain ⟨y, hy, rfl⟩ := List.mem_map.mp hx
    obtain ⟨i, hi, rfl⟩ := List.mem_map.mp hy
    exact ⟨_, rfl, fun K hK => c_lwhole_int h1 hK, fun y hy => nomatch hy⟩
  · rw [filt_none]
    obtain ⟨fl, nb, dp⟩ := ints_flat said
    have eq : D.eqvs (said.map .int) (said.map .int) = true := (D.eqvs_nb nb nb).mpr rfl
    have e1 : D.eqv (.tup [.list (said.map .int), .str w, .int k]) (.tup [.list (said.map .int), .str w, .int k]) = true := by
      show (D.eqvs (said.map .int) (said.map .int) && ((w == w) && ((k == k) && true))) = true
      rw [eq, beq_self_eq_true, beq_self_eq_true]; rfl
    have f1 : D.flat (.tup [.list (said.map .int), .str w, .int k]) = true := by
      show (D.flats (said.map .int) && true) = true
      rw [fl]; rfl
    have d1 : D.depth (.tup [.list (said.map .int), .str w, .int k]) ≤ 64 := by
      show max (D.depths (said.map .int) + 1) 0 + 1 ≤ 64
      rw [dp]; exact le_ok rfl
    refine ⟨Nat.zero_le _, ⟨rfl, rfl, le_ok rfl, le_ok rfl⟩, no ⟨⟨f1, f1, d1, d1⟩, ?_⟩⟩
    rw [e1]
    exact ret_id q
end Mine

set_option Elab.async false
set_option linter.unusedVariables false
namespace Mine
open PySem (CmpOp Operator)
variable {Φ : CP} {live : Hp} {Q : KV} {X : XP}
noncomputable def scr (is : List Int) : V := .d (.list (is.map .int))
noncomputable def cell (is : List Int) (k : Nat) : Int := is[k]?.getD 0
theorem c_cell (h : Ora Φ f__law_cell_at d__law_cell_at) {is : List Int} {k : Nat} (q : Q (.d (.int (cell is k))) live) : Φ f__law_cell_at [scr is, .d (.int k)] live Q X := by
  refine h _ _ _ _ ⟨rfl, ?_⟩
  have hlen : ((is.map D.int).length : Int) = (is.length : Int) := by rw [List.length_map]
  unfold cell at q
  rcases Nat.lt_or_ge k is.length with hk | hk
  · refine onT (b := decide ((k : Int) < ((is.map D.int).length : Int))) (by rw [hlen]; exact lt_dec hk) ?_
    have e : is[k]? = some is[k] := List.getElem?_eq_getElem hk
    have e' : getI (is.map D.int) (k : Int) = some (.int is[k]) := by
      unfold getI
      rw [if_pos (Int.natCast_nonneg k), Int.toNat_natCast, List.getElem?_map, e]; rfl
    show (match getI (is.map D.int) (k : Int) with | some x => _ | none => False)
    rw [e']
    rw [e] at q
    exact ret_id q
  · refine onF (b := decide ((k : Int) < ((is.map D.int).length : Int))) (by rw [hlen]; exact ge_dec hk) ?_
    rw [List.getElem?_eq_none hk] at q
    exact ret_id q
theorem small_mod {i : Int} : small (i % 2147483647) := ⟨by omega, by omega⟩
theorem mod_pos : (0 : Int) < 2147483647 := by decide
theorem c_mixed (h : Ora Φ f__law_mixed d__law_mixed) {c k : Int} (q : ∀ i, 0 ≤ i → i < 2147483647 → Q (.d (.int i)) live) : Φ f__law_mixed [.d (.int c), .d (.int k)] live Q X :=
  h _ _ _ _ ⟨rfl, .inr ⟨by decide, by decide⟩, .inl ⟨by decide, by decide⟩, mod_pos, lt_ok rfl, .inl small_mod, mod_pos, .inr small_mod, mod_pos, ret_id (q _ (Int.emod_nonneg _ (by decide)) (Int.emod_lt_of_pos _ mod_pos))⟩
theorem letters_get {i : Int} (h0 : 0 ≤ i) (h1 : i < 26) : ∃ c ∈ letters, getI letters i = some c := by
  have hl : i.toNat < letters.length := by show i.toNat < 26; omega
  refine ⟨letters[i.toNat], List.getElem_mem hl, ?_⟩
  unfold getI
  rw [if_pos h0]
  exact List.getElem?_eq_getElem hl
theorem letters_in {c : Nat} (h : c ∈ letters) : 97 ≤ c ∧ c ≤ 122 := by
  have : ∀ c ∈ letters, Nat.ble 97 c = true ∧ Nat.ble c 122 = true := by decide
  exact ⟨le_ok (this c h).1, le_ok (this c h).2⟩
theorem strs_of : ∀ {ys : List D}, (∀ y ∈ ys, ∃ c ∈ letters, y = .str [c]) → ∃ cs : List Nat, cs.length = ys.length ∧ (∀ c ∈ cs, c ∈ letters) ∧ strsOf ys = some (cs.map fun c => [c])
  | [], _ => ⟨[], rfl, fun _ h => (nomatch h), rfl⟩
  | y :: ys, h => by
    obtain ⟨c, hc, rfl⟩ := h y (.head _)
    obtain ⟨cs, h1, h2, h3⟩ := strs_of fun y hy => h y (.tail _ hy)
    refine ⟨c :: cs, congrArg (· + 1) h1, fun z hz => ?_, ?_⟩
    · rcases List.mem_cons.mp hz with rfl | hz
      · exact hc
      · exact h2 z hz
    · show (strsOf ys).map ([c] :: ·) = _
      rw [h3]; rfl
theorem flat_one : ∀ cs : List Nat, (cs.map fun c => [c]).flatten = cs
  | [] => rfl
  | c :: cs => congrArg (c :: ·) (flat_one cs)
theorem slice_hi {α : Type} {cs : List α} {a : Int} (h0 : 0 ≤ a) (h1 : a ≤ cs.length) : slice cs none (some a) = cs.take a.toNat := by
  show (cs.take (if a < 0 then (a + cs.length).toNat else min a.toNat cs.length)).drop 0 = _
  rw [if_neg (Int.not_lt.mpr h0), List.drop_zero, Nat.min_eq_left (Int.toNat_le.mpr h1)]
theorem slice_lo {α : Type} {cs : List α} {a : Int} (h0 : 0 ≤ a) (h1 : a ≤ cs.length) : slice cs (some a) none = cs.drop a.toNat := by
  show (cs.take cs.length).drop (if a < 0 then (a + cs.length).toNat else min a.toNat cs.length) = _
  rw [if_neg (Int.not_lt.mpr h0), List.take_length, Nat.min_eq_left (Int.toNat_le.mpr h1)]
theorem range_mem {k : Int} {x : V} (h : x ∈ rangeV k) : ∃ i : Nat, (i : Int) < k ∧ x = .d (.int i) := by
  obtain ⟨i, hi, rfl⟩ := List.mem_map.mp h
  exact ⟨i, by have := List.mem_range.mp hi; omega, rfl⟩
theorem range_len (k : Int) : (rangeV k).length = k.toNat := by
  show ((List.range k.toNat).map _).length = _
  rw [List.length_map, List.length_range]
noncomputable def nstrs (ns : List (List Nat)) : D := .list (ns.map .str)
theorem getI_mem {α : Type} {ds : List α} {i : Int} (h0 : 0 ≤ i) (h1 : i < ds.length) : ∃ x ∈ ds, getI ds i = some x := by
  have hl : i.toNat < ds.length := by omega
  refine ⟨ds[i.toNat], List.getElem_mem hl, ?_⟩
  unfold getI
  rw [if_pos h0]
  exact List.getElem?_eq_getElem hl
theorem strs_back : ∀ {ys : List D}, (∀ y ∈ ys, ∃ cs, nameOk cs ∧ y = .str cs) → ∃ ns : List (List Nat), ns.length = ys.length ∧ (∀ n ∈ ns, nameOk n) ∧ ys = ns.map .str
  | [], _ => ⟨[], rfl, fun _ h => (nomatch h), rfl⟩
  | y :: ys, h => by
    obtain ⟨c, hc, rfl⟩ := h y (.head _)
    obtain ⟨cs, h1, h2, h3⟩ := strs_back fun y hy => h y (.tail _ hy)
    refine ⟨c :: cs, congrArg (· + 1) h1, fun z hz => ?_, congrArg (D.str c :: ·) h3⟩
    rcases List.mem_cons.mp hz with rfl | hz
    · exact hc
    · exact h2 z hz
theorem big_of {n : Nat} (h : n ≤ 100) : n ≤ big := Nat.le_trans h (le_ok rfl)
theorem bigI {k : Int} (h : k ≤ 100) : k ≤ (big : Int) := Int.le_trans h (by decide)
theorem big_range {k : Int} (h : k ≤ 100) : ([] : List D).length + (rangeV k).length ≤ big := by
  rw [range_len, List.length_nil]; exact big_of (by omega)
theorem small_of {a : Int} (h0 : 0 ≤ a) (h1 : a ≤ 1000) : small a := ⟨by omega, by omega⟩
theorem name_put {cs : List Nat} {a : Int} {d : Nat} (c2 : ∀ c ∈ cs, c ∈ letters) (hd : d ∈ letters) (h0 : 0 ≤ a) (h1 : a < cs.length) (h8 : cs.length ≤ 8) :
    nameOk (slice cs none (some a) ++ [d] ++ slice cs (some (a + 1)) none) ∧ (slice cs none (some a) ++ [d]).length ≤ big := by
  rw [slice_hi h0 (Int.le_of_lt h1), slice_lo (Int.le_add_one h0) h1]
  refine ⟨⟨?_, ?_, fun z hz => ?_⟩, ?_⟩
  · rw [List.length_append, List.length_append, List.length_singleton]; omega
  · rw [List.length_append, List.length_append, List.length_singleton, List.length_take, List.length_drop]; omega
  · rcases List.mem_append.mp hz with hz | hz
    · rcases List.mem_append.mp hz with hz | hz
      · exact c2 z (List.mem_of_mem_take hz)
      · cases hz with
        | head => exact hd
        | tail _ hz => cases hz
    · exact c2 z (List.mem_of_mem_drop hz)
  · rw [List.length_append, List.length_singleton, List.length_take]; exact big_of (by omega)
theorem name_app {cs : List Nat} {d : Nat} (c2 : ∀ c ∈ cs, c ∈ letters) (hd : d ∈ letters) (h8 : cs.length ≤ 7) : nameOk (cs ++ [d]) := by
  refine ⟨?_, ?_, fun y hy => ?_⟩
  · rw [List.length_append, List.length_singleton]; exact Nat.le_add_left _ _
  · rw [List.length_append, List.length_singleton]; exact Nat.succ_le_succ h8
  · rcases List.mem_append.mp hy with hy | hy
    · exact c2 y hy
    · cases hy with
      | head => exact hd
      | tail _ hy => cases hy
theorem c_names (h1 : Ora Φ f__law_mixed d__law_mixed) (h : Ora Φ f__law_names_by d__law_names_by) {c : Int} (q : ∀ ns : List (List Nat), 3 ≤ ns.length → ns.length ≤ 5 → (∀ n ∈ ns, nameOk n) → Q (.d (nstrs ns)) live) : Φ f__law_names_by [.d (.int c)] live Q X := by
  have m0 : 1 ≤ 1 + c % 7 := by omega
  have m1 : 1 + c % 7 ≤ 7 := by omega
  refine h _ _ _ _ ⟨rfl, lt_ok rfl, by decide, lt_ok rfl, rfl, Int.le_trans (by decide) m0, bigI (Int.le_trans m1 (by decide)), ?_⟩
  refine compL_rel (fun _ y => ∃ c ∈ letters, y = .str [c]) (fun x hx => ?_) (big_range (Int.le_trans m1 (by decide))) fun ys hyl hys => ?_
  · obtain ⟨i, hi, rfl⟩ := range_mem hx
    refine ⟨_, rfl, fun K hK => hK, fun K hK => ⟨by decide, by decide, c_mixed h1 fun j j0 j1 => ⟨by decide, ?_⟩⟩⟩
    obtain ⟨d, hd, e⟩ := letters_get (i := j % 26) (Int.emod_nonneg _ (by decide)) (Int.emod_lt_of_pos _ (by decide))
    show (match getI letters (j % 26) with | some c => _ | none => False)
    rw [e]
    exact hK _ ⟨d, hd, rfl⟩
  obtain ⟨cs, c1, c2, c3⟩ := strs_of (ys := ys) fun y hy => (hys y hy).elim fun _ h => h.2
  rw [range_len] at hyl
  clear hys
  generalize hm : 1 + c % 7 = m at m0 m1 hyl
  have cl : cs.length = m.toNat := by rw [c1, hyl]
  show (match strsOf ys with | some ss => _ | none => False)
  rw [c3]
  have fo := flat_one cs
  obtain ⟨a0, a1⟩ : 0 ≤ c / 7 % m ∧ c / 7 % m < m := ⟨Int.emod_nonneg _ (by omega), Int.emod_lt_of_pos _ (by omega)⟩
  refine ⟨rfl, by rw [fo]; exact big_of (by omega), lt_ok rfl, by decide, by decide, by omega, lt_ok rfl, rfl, ?_⟩
  rw [fo]
  generalize c / 7 % m = a at a0 a1
  obtain ⟨b, hb, eb⟩ := getI_mem (ds := cs) (i := a) a0 (by omega)
  have lb := letters_in (c2 b hb)
  show (match getI cs a with | some c => _ | none => False)
  rw [eb]
  have w1 : 2 + c / 49 % 3 ≤ 4 := by omega
  have w0 : 2 ≤ 2 + c / 49 % 3 := by omega
  refine ⟨rfl, lb.1, lb.2, lt_ok rfl, by decide, by decide, by decide, Int.le_trans (by decide) w0, bigI (Int.le_trans w1 (by decide)), ?_⟩
  have sa : small a := small_of a0 (by omega)
  have sa1 : small (a + 1) := small_of (by omega) (by omega)
  refine compL_rel (fun _ y => ∃ cs, nameOk cs ∧ y = .str cs) (fun x hx => ?_) (big_range (Int.le_trans w1 (by decide))) fun zs hzl hzs => ?_
  · obtain ⟨i, hi, rfl⟩ := range_mem hx
    obtain ⟨d, hd, e⟩ := letters_get (i := ((b : Int) - 97 + (i : Int)) % 26) (Int.emod_nonneg _ (by decide)) (Int.emod_lt_of_pos _ (by decide))
    refine ⟨_, rfl, fun K hK => hK, fun K hK => ⟨trivial, sa, by decide, ?_⟩⟩
    show (match getI letters (((b : Int) - 97 + (i : Int)) % 26) with | some c => _ | none => False)
    rw [e]
    obtain ⟨nk, nl⟩ := name_put (a := a) c2 hd a0 (by omega) (by omega)
    exact ⟨nl, sa1, trivial, big_of (Nat.le_trans nk.2.1 (le_ok rfl)), hK _ ⟨_, nk, rfl⟩⟩
  obtain ⟨ns, n1, n2, rfl⟩ := strs_back (ys := zs) fun y hy => (hzs y hy).elim fun _ h => h.2
  rw [range_len, List.length_map] at hzl
  obtain ⟨d, hd, e⟩ := letters_get (i := c / 147 % 26) (Int.emod_nonneg _ (by decide)) (Int.emod_lt_of_pos _ (by decide))
  refine ⟨lt_ok rfl, by decide, by decide, by decide, ?_⟩
  show (match getI letters (c / 147 % 26) with | some c => _ | none => False)
  rw [e]
  have nk := name_app c2 hd (by omega)
  refine ⟨big_of (Nat.le_trans nk.2.1 (le_ok rfl)), le_ok rfl, ?_, ret_id ?_⟩
  · rw [List.nil_append, List.length_append, List.length_map, List.length_singleton]; exact big_of (by omega)
  · have := q (ns ++ [cs ++ [d]]) (by rw [List.length_append, List.length_singleton]; omega) (by rw [List.length_append, List.length_singleton]; omega) fun z hz => by
      rcases List.mem_append.mp hz with hz | hz
      · exact n2 z hz
      · cases hz with
        | head => exact nk
        | tail _ hz => cases hz
    unfold nstrs at this
    rw [List.map_append] at this
    exact this
end Mine

set_option Elab.async false
set_option linter.unusedVariables false
namespace Mine
open PySem (CmpOp Operator)
variable {Φ : CP} {live : Hp} {Q : KV} {X : XP}
theorem emod_in (a : Int) {n : Int} (h : 0 < n) : 0 ≤ a % n ∧ a % n < n := ⟨Int.emod_nonneg _ (by omega), Int.emod_lt_of_pos _ h⟩
theorem lenI {ns : List (List Nat)} : ((ns.map D.str).length : Int) = (ns.length : Int) := by rw [List.length_map]
theorem nget {ns : List (List Nat)} {i : Int} (h : 0 < ns.length) : ∃ n ∈ ns, getI (ns.map D.str) (i % ((ns.map D.str).length : Int)) = some (.str n) := by
  rw [lenI]
  obtain ⟨h0, h1⟩ := emod_in i (n := ns.length) (by omega)
  obtain ⟨n, hn, e⟩ := getI_mem (ds := ns) h0 h1
  refine ⟨n, hn, ?_⟩
  unfold getI at e ⊢
  rw [if_pos h0] at e ⊢
  rw [List.getElem?_map, e]; rfl
theorem lenP {ns : List (List Nat)} (h : 0 < ns.length) : (0 : Int) < ((ns.map D.str).length : Int) := by rw [lenI]; exact Int.ofNat_lt.mpr h
theorem c_operand (h : Ora Φ f__law_operand_by d__law_operand_by) {n : Int} {ns : List (List Nat)} (hl : 0 < ns.length) (hn : ∀ x ∈ ns, nameOk x) (q : ∀ o : Op, o.ok → Q (.d o.d) live) : Φ f__law_operand_by [.d (.int n), .d (nstrs ns)] live Q X := by
  refine h _ _ _ _ ⟨rfl, by decide, fun _ => ?_, fun _ => ⟨by decide, by decide, by decide, okI2, fun _ => ?_, fun _ => ⟨by decide, by decide, by decide, ret_id (q (.num _) trivial)⟩⟩⟩
  · obtain ⟨x, hx, ex⟩ := nget (ns := ns) (i := n / 4) hl
    refine ⟨by decide, by decide, lenP hl, ?_⟩
    show (match getI (ns.map D.str) (n / 4 % ((ns.map D.str).length : Int)) with | some x => _ | none => False)
    rw [ex]
    exact ret_id (q (.nm x) (hn x hx))
  · refine ⟨le_ok rfl, by decide, by decide, by decide, ?_⟩
    show (match getI [D.int 1, D.int (-1)] (n / 20 % 2) with | some x => _ | none => False)
    rcases (show n / 20 % 2 = 0 ∨ n / 20 % 2 = 1 by omega) with e | e
    · rw [e]; exact ⟨rfl, by decide, by decide, by decide, by decide, by decide, .inl sm1, ret_id (q (.num _) trivial)⟩
    · rw [e]; exact ⟨rfl, by decide, by decide, by decide, by decide, by decide, .inl ⟨by decide, by decide⟩, ret_id (q (.num _) trivial)⟩
theorem Rw.ok.mono {r : Rw} {n m : Nat} (h : r.ok n) (hm : n ≤ m) : r.ok m := by
  cases r with
  | jump t => exact Nat.le_trans h hm
  | nought a t => exact ⟨h.1, Nat.le_trans h.2 hm⟩
  | set _ _ => exact h
  | ar _ _ _ _ => exact h
  | say _ => exact h
  | stop => exact h
theorem dtrue {p : Prop} [Decidable p] (h : decide p = true) : p := of_decide_eq_true h
theorem dfalse {p : Prop} [Decidable p] (h : decide p = false) : ¬ p := of_decide_eq_false h
theorem c_row_by (h1 : Ora Φ f__law_operand_by d__law_operand_by) (h : Ora Φ f__law_row_by d__law_row_by) {n : Int} {ns : List (List Nat)} (hl : 0 < ns.length) (hn : ∀ x ∈ ns, nameOk x) {size : Nat} (q : ∀ r : Rw, r.ok size → Q (.d r.d) live) : Φ f__law_row_by [.d (.int n), .d (nstrs ns), .d (.int size)] live Q X := by
  obtain ⟨x, hx, ex⟩ := nget (ns := ns) (i := n / 9) hl
  refine h _ _ _ _ ⟨rfl, by decide, by decide, lenP hl, ?_⟩
  show (match getI (ns.map D.str) (n / 9 % ((ns.map D.str).length : Int)) with | some x => _ | none => False)
  rw [ex]
  refine ⟨lt_ok rfl, by decide, by decide, by decide, c_operand h1 hl hn fun o ho => ⟨lt_ok rfl, by decide, by decide, by decide, c_operand h1 hl hn fun o' ho' => ⟨lt_ok rfl, by decide, by decide, by decide, by omega, lt_ok rfl, by decide, lt_ok rfl, ?_⟩⟩⟩
  obtain ⟨g0, g1⟩ := emod_in (n / 64 % 5003) (n := (size : Int) + 1) (by omega)
  generalize n / 64 % 5003 % ((size : Int) + 1) = g at g0 g1
  obtain ⟨t, rfl⟩ := Int.eq_ofNat_of_zero_le g0
  have ht : t ≤ size := by omega
  have k0 : 0 ≤ n % 9 ∧ n % 9 < 9 := emod_in n (by decide)
  have e2 : n / 27 % 4 = 0 ∨ n / 27 % 4 = 1 ∨ n / 27 % 4 = 2 ∨ n / 27 % 4 = 3 := by omega
  generalize n % 9 = k at k0
  clear g0 g1 ex hl
  refine ⟨fun _ => ret_id (q (.set x o) ⟨hn x hx, ho⟩), fun h2 => ⟨fun h5 => ?_, fun h5 => ⟨okI2, fun e => ret_id (q (.say o) ho), fun e5 => ⟨okI2, fun e6 => ?_, fun e6 => ret_id (q (.nought o t) ⟨ho, ht⟩)⟩⟩⟩⟩
  · have a2 := dfalse h2
    have a5 := dtrue h5
    refine ⟨le_ok rfl, ?_⟩
    show (match getI [D.str wAdd, D.str wSub, D.str wLess] (k - 2) with | some x => _ | none => False)
    rcases (show k - 2 = 0 ∨ k - 2 = 1 ∨ k - 2 = 2 by omega) with e | e | e
    · rw [e]; exact ret_id (q (.ar .add x o o') ⟨hn x hx, ho, ho'⟩)
    · rw [e]; exact ret_id (q (.ar .sub x o o') ⟨hn x hx, ho, ho'⟩)
    · rw [e]; exact ret_id (q (.ar .less x o o') ⟨hn x hx, ho, ho'⟩)
  · refine ⟨le_ok rfl, by decide, by decide, by decide, ?_⟩
    show (match getI [(Rw.jump t).d, Rw.stop.d, (Rw.jump t).d, (Rw.say o).d] (n / 27 % 4) with | some x => _ | none => False)
    rcases e2 with e | e | e | e
    · rw [e]; exact ret_id (q (.jump t) ht)
    · rw [e]; exact ret_id (q .stop trivial)
    · rw [e]; exact ret_id (q (.jump t) ht)
    · rw [e]; exact ret_id (q (.say o) ho)
theorem c_size (h : Ora Φ f__law_size_by d__law_size_by) {c : Int} (q : ∀ n : Nat, n ≤ 13 → Q (.d (.int n)) live) : Φ f__law_size_by [.d (.int c)] live Q X := by
  refine h _ _ _ _ ⟨rfl, by decide, by decide, by decide, okI2, fun _ => ⟨by decide, by decide, by decide, ?_⟩, fun _ => ⟨by decide, ?_⟩⟩
  · obtain ⟨n, e⟩ := Int.eq_ofNat_of_zero_le (show 0 ≤ 10 + c / 54 % 4 by omega)
    refine ret_id (v := .d (.int (10 + c / 54 % 4))) ?_
    rw [e]
    exact q n (by omega)
  · obtain ⟨n, e⟩ := Int.eq_ofNat_of_zero_le (show 0 ≤ c % 10 by omega)
    refine ret_id (v := .d (.int (c % 10))) ?_
    rw [e]
    exact q n (by omega)
theorem rows_back {n : Nat} : ∀ {ys : List D}, (∀ y ∈ ys, ∃ r : Rw, r.ok n ∧ y = r.d) → ∃ rs : List Rw, rs.length = ys.length ∧ (∀ r ∈ rs, r.ok n) ∧ ys = rs.map Rw.d
  | [], _ => ⟨[], rfl, fun _ h => (nomatch h), rfl⟩
  | y :: ys, h => by
    obtain ⟨c, hc, rfl⟩ := h y (.head _)
    obtain ⟨cs, h1, h2, h3⟩ := rows_back fun y hy => h y (.tail _ hy)
    refine ⟨c :: cs, congrArg (· + 1) h1, fun z hz => ?_, congrArg (c.d :: ·) h3⟩
    rcases List.mem_cons.mp hz with rfl | hz
    · exact hc
    · exact h2 z hz
end Mine

set_option Elab.async false
set_option linter.unusedVariables false
namespace Mine
open PySem (CmpOp Operator)
variable {Φ : CP} {live l : Hp} {Q : KV} {X : XP}
theorem Drop.new {n : Nat} {o : AO} (d : Drop l live) (h : l n = none) (ho : o.plain = true) : Drop (l.upd n o) live := (Drop.upd h ho).trans d
theorem Drop.chg {n : Nat} {o o' : AO} (d : Drop l live) (hn : live n = none) (hl : l n = some o') (h' : o'.plain = true) (ho : o.plain = true) : Drop (l.upd n o) live := by
  refine ⟨fun m p e => ?_, fun m p e => ?_, fun m p dx e q h => ?_⟩
  · have : m ≠ n := fun z => by rw [z, hn] at e; cases e
    rw [Hp.upd_ne _ _ this]; exact d.le _ _ e
  · by_cases z : m = n
    · rw [z, Hp.upd_self] at e; cases e; cases ho
    · rw [Hp.upd_ne _ _ z] at e; exact d.ro _ _ e
  · by_cases z : dx = n
    · rw [z, Hp.upd_self] at h; cases h; cases ho
    · rw [Hp.upd_ne _ _ z] at h; exact d.hid _ _ _ e q h
theorem Drop.none {n : Nat} (d : Drop l live) (h : l n = none) : live n = none := by
  cases e : live n with
  | none => rfl
  | some o => rw [d.le _ _ e] at h; cases h
theorem ret_loc {n : Nat} {o : AO} {x : D} (d : Drop l live) (hl : l n = some o) (hn : live n = .none) (ht : o.toD = some x) (q : Q (.d x) live) : ∃ v' live'', Rz l live'' (.loc n) v' ∧ Q v' live'' :=
  ⟨_, live, ⟨d, .inr ⟨_, rfl, .ao hl hn ht⟩⟩, q⟩
theorem look_list {n : Nat} {ds : List D} (h : l n = some (.list ds)) : l.look n = some (.list ds) := look_plain h rfl
theorem names_d (ns : List (List Nat)) : (ns.map D.str).length = ns.length := by simp
noncomputable def sayD : V → Option D
  | .d y => some (.tup [.str wSay, y])
  | _ => none
theorem say_all : ∀ ns : List (List Nat), ((ns.map D.str).map V.d).filterMap sayD = ns.map fun n => (Rw.say (.nm n)).d
  | [] => rfl
  | n :: ns => by
    rw [List.map_cons, List.map_cons, List.filterMap_cons, say_all ns]; rfl
theorem rows_tail {rs : List Rw} {b : Nat} {ns : List (List Nat)} {e0 e1 e5 e6 e7 e8 e9 e10 : Option V} {m : Int} (d : Drop l live) (hb : l b = some (.list (rs.map Rw.d))) (hn : live b = none) (hns : ∀ x ∈ ns, nameOk x) (hnl : ns.length ≤ 5) (hrl : rs.length ≤ 17) (ok : ∀ r ∈ rs, r.ok rs.length)
    (q : ∀ rs : List Rw, rs.length ≤ 22 → (∀ r ∈ rs, r.ok rs.length) → Q (.d (.list (rs.map Rw.d))) live) :
    vSs Φ [.ite (.cmp .Lt (.bin false .Mod (.bin false .FloorDiv (.var 4) (.cst (.int 1009))) (.cst (.int 3))) (.cst (.int 2)))
    [.assign 3 (.bin true .Add (.var 3) (.comp false (.tup [(.cst (.str [115, 97, 121])), (.var 10)]) [10] true (.e (.var 2)) none))]
    [],
  .ret (.var 3)] [e0, e1, some (.d (nstrs ns)), some (.loc b), some (.d (.int m)), e5, e6, e7, e8, e9, e10] l (fun f _ live' => match f with
    | .rt v => ∃ v' live'', Rz live' live'' v v' ∧ Q v' live''
    | .nx => ∃ live'', Drop live' live'' ∧ Q (.d .none) live''
    | .ct => False) X := by
  refine ⟨by decide, by decide, by decide, fun _ => ?_, fun _ => ret_loc d hb hn rfl (q rs (Nat.le_trans hrl (le_ok rfl)) ok)⟩
  refine compL_fun sayD (fun x hx => ?_) (by rw [List.length_map, List.length_map, List.length_nil, Nat.zero_add]; exact big_of (by omega)) ?_
  · obtain ⟨y, hy, rfl⟩ := List.mem_map.mp hx
    refine ⟨_, rfl, fun K hK => hK, fun y hy K hK => ?_⟩
    cases hy
    exact hK
  · rw [say_all, List.nil_append]
    show (match (l.look b).bind AO.toD, some (D.list (ns.map fun n => (Rw.say (.nm n)).d)) with | some (.int _), some (.int _) => _ | some (.str _), some (.str _) => _ | some (.list _), some (.list _) => _ | some (.tup _), some (.tup _) => _ | _, _ => _)
    rw [look_list hb]
    refine ⟨by rw [List.length_append, List.length_map, List.length_map]; exact big_of (by omega), fun c hc => ⟨lt_ok rfl, ret_loc (d.new hc rfl) (Hp.upd_self _ _ _) (d.none hc) rfl ?_⟩⟩
    have := q (rs ++ ns.map fun n => Rw.say (.nm n)) (by rw [List.length_append, List.length_map]; omega) fun r hr => by
      rcases List.mem_append.mp hr with hr | hr
      · exact (ok r hr).mono (by rw [List.length_append]; exact Nat.le_add_right _ _)
      · obtain ⟨n, hn, rfl⟩ := List.mem_map.mp hr
        exact hns n hn
    rw [List.map_append, List.map_map] at this
    exact this
theorem three {ns : List (List Nat)} (h : 3 ≤ ns.length) {t : Int} (h0 : 0 ≤ t) (h1 : t < ns.length) : ∃ x ∈ ns, ∃ y ∈ ns, ∃ z ∈ ns, slice (slice (ns.map D.str) (some t) none ++ slice (ns.map D.str) none (some t)) none (some 3) = [.str x, .str y, .str z] ∧ (slice (ns.map D.str) (some t) none ++ slice (ns.map D.str) none (some t)).length = ns.length := by
  have hm : (ns.map D.str).length = ns.length := List.length_map _
  rw [slice_lo h0 (by rw [hm]; exact Int.le_of_lt h1), slice_hi h0 (by rw [hm]; exact Int.le_of_lt h1), ← List.map_drop, ← List.map_take, ← List.map_append]
  have hl : (ns.drop t.toNat ++ ns.take t.toNat).length = ns.length := by
    rw [List.length_append, List.length_drop, List.length_take]; omega
  have hmem : ∀ x ∈ ns.drop t.toNat ++ ns.take t.toNat, x ∈ ns := fun x hx => by
    rcases List.mem_append.mp hx with h | h
    · exact List.mem_of_mem_drop h
    · exact List.mem_of_mem_take h
  generalize ns.drop t.toNat ++ ns.take t.toNat = zs at hl hmem
  rw [slice_hi (by decide) (by rw [List.length_map, hl]; exact Int.ofNat_le.mpr h), List.length_map, hl]
  match zs, hl with
  | x :: y :: z :: r, _ => exact ⟨x, hmem x (.head _), y, hmem y (.tail _ (.head _)), z, hmem z (.tail _ (.tail _ (.head _))), rfl, rfl⟩
  | [], hl => exact absurd (hl ▸ h) (by decide)
  | [_], hl => exact absurd (hl ▸ h) (by show ¬ 3 ≤ 1; decide)
  | [_, _], hl => exact absurd (hl ▸ h) (by show ¬ 3 ≤ 2; decide)
set_option maxHeartbeats 2000000 in
theorem c_rows_by (h1 : Ora Φ f__law_mixed d__law_mixed) (h2 : Ora Φ f__law_names_by d__law_names_by) (h3 : Ora Φ f__law_operand_by d__law_operand_by) (h4 : Ora Φ f__law_row_by d__law_row_by) (h5 : Ora Φ f__law_size_by d__law_size_by) (h6 : Ora Φ f__law_cell_at d__law_cell_at)
    (h : Ora Φ f__law_rows_by d__law_rows_by) {is : List Int} (q : ∀ rs : List Rw, rs.length ≤ 22 → (∀ r ∈ rs, r.ok rs.length) → Q (.d (.list (rs.map Rw.d))) live) : Φ f__law_rows_by [scr is] live Q X := by
  refine h _ _ _ _ ⟨rfl, c_cell h6 (k := 0) (c_size h5 fun n hn => ⟨lt_ok rfl, c_cell h6 (k := 1) (c_names h1 h2 fun ns n3 n5 hns => ⟨lt_ok rfl, Int.le_trans (by decide) (Int.natCast_nonneg n), bigI (by omega), ?_⟩)⟩)⟩
  refine compL_rel (fun _ y => ∃ r : Rw, r.ok n ∧ y = r.d) (fun x hx => ?_) (big_range (by omega)) fun ys hyl hys => ?_
  · obtain ⟨i, hi, rfl⟩ := range_mem hx
    refine ⟨_, rfl, fun K hK => hK, fun K hK => ?_⟩
    exact c_cell h6 (k := 4 + i) (c_mixed h1 fun j j0 j1 => c_row_by h3 h4 (by omega) hns fun r hr => hK _ ⟨r, hr, rfl⟩)
  obtain ⟨rs, r1, r2, rfl⟩ := rows_back (ys := ys) fun y hy => (hys y hy).elim fun _ h => h.2
  rw [range_len] at hyl
  clear hys
  have hrn : rs.length = n := by rw [r1, hyl]; exact Int.toNat_natCast n
  refine fun a ha => ⟨lt_ok rfl, c_cell h6 (k := 0) (c_cell h6 (k := 1) ⟨.inl ⟨by decide, by decide⟩, c_mixed h1 (k := 50) fun m m0 m1 => ⟨lt_ok rfl, by decide, fun _ => ?_, fun _ => ?_⟩⟩)⟩
  rotate_left
  · exact rows_tail (Drop.upd ha rfl) (Hp.upd_self _ _ _) ha hns n5 (by omega) (by rw [hrn]; exact r2) q
  have d1 : Drop (live.upd a (.list (rs.map Rw.d))) live := Drop.upd ha rfl
  have hla := Hp.upd_self live a (.list (rs.map Rw.d))
  obtain ⟨t0, t1⟩ := emod_in (m / 3) (n := ns.length) (by omega)
  obtain ⟨x, hx, y, hy, z, hz, e3, e4⟩ := three n3 t0 t1
  rw [← lenI] at t0 t1 e3 e4
  have st : small (m / 3 % ((ns.map D.str).length : Int)) := small_of t0 (by rw [lenI] at t1 ⊢; omega)
  refine ⟨by decide, by decide, lenP (by omega), lt_ok rfl, st, trivial, big_of (by rw [List.length_map]; omega), trivial, st, big_of (by rw [List.length_map]; omega), ?_⟩
  generalize m / 3 % ((ns.map D.str).length : Int) = t at e3 e4
  refine ⟨big_of (by rw [e4]; omega), trivial, ⟨by decide, by decide⟩, big_of (by rw [e4]; omega), ?_⟩
  rw [e3]
  clear e3 e4 st t0 t1
  refine ⟨le_ok rfl, ?_⟩
  show (match (Hp.look (live.upd a (.list (rs.map Rw.d))) a).bind AO.toD, some (D.list [(Rw.set z (.nm x)).d, (Rw.set x (.nm y)).d, (Rw.set y (.nm z)).d]) with | some (.int _), some (.int _) => _ | some (.str _), some (.str _) => _ | some (.list _), some (.list _) => _ | some (.tup _), some (.tup _) => _ | _, _ => _)
  rw [look_list hla]
  refine ⟨by rw [List.length_append, List.length_map]; exact big_of (by show rs.length + 3 ≤ 100; omega), fun b hb => ⟨lt_ok rfl, ?_⟩⟩
  replace hb : (live.upd a (.list (rs.map Rw.d))) b = none := hb
  have hab : live b = none := d1.none hb
  have d2 := d1.new (o := .list (rs.map Rw.d ++ [(Rw.set z (.nm x)).d, (Rw.set x (.nm y)).d, (Rw.set y (.nm z)).d])) hb rfl
  have hl2b := Hp.upd_self (live.upd a (.list (rs.map Rw.d))) b (.list (rs.map Rw.d ++ [(Rw.set z (.nm x)).d, (Rw.set x (.nm y)).d, (Rw.set y (.nm z)).d]))
  have hlen : ((rs.map Rw.d ++ [(Rw.set z (.nm x)).d, (Rw.set x (.nm y)).d, (Rw.set y (.nm z)).d]).length : Int) = (rs.length : Int) + 3 := by rw [List.length_append, List.length_map]; rfl
  have key : ∀ (o : Op) (g : Int), o.ok → 0 ≤ g → g < rs.length + 3 → vSs Φ [.ite (.cmp .Lt (.bin false .Mod (.bin false .FloorDiv (.var 4) (.cst (.int 1009))) (.cst (.int 3))) (.cst (.int 2)))
    [.assign 3 (.bin true .Add (.var 3) (.comp false (.tup [(.cst (.str [115, 97, 121])), (.var 10)]) [10] true (.e (.var 2)) none))]
    [],
  .ret (.var 3)] [some (scr is), some (.d (.int n)), some (.d (nstrs ns)), some (.loc b), some (.d (.int m)), some (.d (.int t)), some (.d (.str x)), some (.d (.str y)), some (.d (.str z)), none, none] (((live.upd a (.list (rs.map Rw.d))).upd b (.list (rs.map Rw.d ++ [(Rw.set z (.nm x)).d, (Rw.set x (.nm y)).d, (Rw.set y (.nm z)).d]))).upd b (.list (rs.map Rw.d ++ [(Rw.set z (.nm x)).d, (Rw.set x (.nm y)).d, (Rw.set y (.nm z)).d] ++ [.tup [.str wNought, o.d, .int g]]))) (fun f _ live' => match f with
    | .rt v => ∃ v' live'', Rz live' live'' v v' ∧ Q v' live''
    | .nx => ∃ live'', Drop live' live'' ∧ Q (.d .none) live''
    | .ct => False) (fun _ _ => False) := by
    intro o g ho g0 g1
    obtain ⟨j, rfl⟩ := Int.eq_ofNat_of_zero_le g0
    have hlr : (rs ++ [Rw.set z (.nm x), .set x (.nm y), .set y (.nm z), .nought o j]).length = rs.length + 4 := by rw [List.length_append]; rfl
    refine rows_tail (rs := rs ++ [.set z (.nm x), .set x (.nm y), .set y (.nm z), .nought o j]) (d2.chg hab hl2b rfl rfl) ?_ hab hns n5 (by rw [hlr]; omega) (fun r hr => ?_) q
    · rw [Hp.upd_self, List.map_append, List.append_assoc]; rfl
    · rw [hlr]
      rcases List.mem_append.mp hr with hr | hr
      · exact (r2 r hr).mono (by omega)
      · simp only [List.mem_cons, List.not_mem_nil, or_false] at hr
        rcases hr with rfl | rfl | rfl | rfl
        · exact ⟨hns z hz, hns x hx⟩
        · exact ⟨hns x hx, hns y hy⟩
        · exact ⟨hns y hy, hns z hz⟩
        · exact ⟨ho, by omega⟩
  obtain ⟨g0, g1⟩ := emod_in (m / 36) (n := (rs.length : Int) + 3) (by omega)
  have b1 : (rs.map Rw.d ++ [(Rw.set z (.nm x)).d, (Rw.set x (.nm y)).d, (Rw.set y (.nm z)).d]).length < big := by
    rw [List.length_append, List.length_map]; exact Nat.lt_of_le_of_lt (show rs.length + 3 ≤ 100 by omega) (lt_ok rfl)
  obtain ⟨o, ho, eo⟩ : ∃ o : Op, o.ok ∧ getI [D.str x, D.str y, D.int 0, D.str z] (m / 9 % 4) = some o.d := by
    rcases (show m / 9 % 4 = 0 ∨ m / 9 % 4 = 1 ∨ m / 9 % 4 = 2 ∨ m / 9 % 4 = 3 by omega) with e | e | e | e
    · rw [e]; exact ⟨.nm x, hns x hx, rfl⟩
    · rw [e]; exact ⟨.nm y, hns y hy, rfl⟩
    · rw [e]; exact ⟨.num 0, trivial, rfl⟩
    · rw [e]; exact ⟨.nm z, hns z hz, rfl⟩
  refine ⟨isL hl2b, le_ok rfl, by decide, by decide, by decide, ?_⟩
  show (match getI [D.str x, D.str y, D.int 0, D.str z] (m / 9 % 4) with | some x => _ | none => False)
  rw [eo]
  refine ⟨by decide, by decide, ?_⟩
  show (match Hp.look ((live.upd a (.list (rs.map Rw.d))).upd b (.list (rs.map Rw.d ++ [(Rw.set z (.nm x)).d, (Rw.set x (.nm y)).d, (Rw.set y (.nm z)).d]))) b with | some (.list _) => _ | some (.dict _) => _ | some (.llist _) => _ | some (.ldict _) => _ | _ => _)
  rw [look_list hl2b]
  refine ⟨by rw [hlen]; omega, ?_⟩
  show (match ((live.upd a (.list (rs.map Rw.d))).upd b (.list (rs.map Rw.d ++ [(Rw.set z (.nm x)).d, (Rw.set x (.nm y)).d, (Rw.set y (.nm z)).d]))) b with | some (.list _) => _ | some (.llist _) => _ | _ => _)
  rw [hl2b]
  exact ⟨b1, rfl, key o _ ho (by rw [hlen]; exact g0) (by rw [hlen]; exact g1)⟩
end Mine

set_option Elab.async false
set_option linter.unusedVariables false
namespace Mine
open PySem PySem.SeqAt PyProof.Rows

structure FnT where
  id : Nat
  name : Str
  ht : Nat
  slots : List Str
  d : FD
  at_ : Nat
noncomputable def argsAt (p : Program) (i : Nat) : Arguments := match p.main.body[i]? with
  | some (.FunctionDef _ a _ _ _ _ _ _ _ _) => a
  | _ => ⟨[], [], none, [], [], none, []⟩
noncomputable def scopeAt (p : Program) (i : Nat) : Scope := match p.main.body[i]? with
  | some (.FunctionDef _ _ _ _ _ _ sc _ _ _) => sc
  | _ => { kind := .module, names := [], isGenerator := false, isCoroutine := false }
noncomputable def kwNone (a : Arguments) : Bool := match kwLiteralsOf? a.kwonlyargs a.kw_defaults with
  | some [] => true
  | _ => false
theorem kwNone_ok {a : Arguments} (h : kwNone a = true) : kwLiteralsOf? a.kwonlyargs a.kw_defaults = some [] := by
  unfold kwNone at h
  split at h
  · assumption
  · cases h
noncomputable def ccOf (p : Program) (f : FnT) : CC := ⟨slotsC f.slots, (scopeAt p f.at_).names, f.ht - 1⟩
noncomputable def fnB (p : Program) (f : FnT) : Bool :=
  (argsAt p f.at_).posonlyargs.isEmpty && ((argsAt p f.at_).vararg.isNone && ((argsAt p f.at_).kwonlyargs.isEmpty && ((argsAt p f.at_).kwarg.isNone && ((argsAt p f.at_).defaults.isEmpty && (kwNone (argsAt p f.at_) &&
  (((argsAt p f.at_).args.map (·.arg)).length == f.d.np && (((argsAt p f.at_).args.map (·.arg)) == f.slots.take f.d.np && (decide f.slots.Nodup &&
  (!(scopeAt p f.at_).isCoroutine && (!(scopeAt p f.at_).isGenerator && (isFun (scopeAt p f.at_).kind && ((scopeAt p f.at_).names.all (fun x => !(x.2 == .free)) &&
  (((argsAt p f.at_).args.map (·.arg)).all (lc (ccOf p f)) && decide (1 ≤ f.ht))))))))))))))
theorem rec_of {p : Program} {nm : Str} {a : Arguments} {b : List Stmt} {sc : Scope} (h : p.theDef nm = some (a, b, sc)) (hd : a.defaults = []) (hk : kwLiteralsOf? a.kwonlyargs a.kw_defaults = some []) : ∃ pos, (⟨nm, a, b, sc, pos⟩ : DefRec) ∈ recsOf p := by
  have h' := h
  unfold Program.theDef at h'
  split at h'
  · rename_i n args body r scope ts bd pos e
    cases h'
    have hm : Stmt.FunctionDef n a b [] r [] sc ts bd pos ∈ [Stmt.FunctionDef n a b [] r [] sc ts bd pos] := .head _
    rw [← e] at hm
    obtain ⟨m1, m2⟩ := List.mem_filter.mp hm
    have hn : n = nm := eq_of_beq m2
    subst hn
    refine ⟨pos, List.mem_filterMap.mpr ⟨_, m1, ?_⟩⟩
    simp only [h, hd, hk]
  · cases h'
theorem zip_range {ns : List Str} {x : Str} : ∀ (k : Nat), ns.Nodup → ∀ i, ns[i]? = some x → (ns.zip (List.range' k ns.length)).lookup x = some (k + i) := by
  induction ns with
  | nil => intro k _ i h; cases h
  | cons m ns ih =>
    intro k hn i h
    rw [List.nodup_cons] at hn
    rw [List.length_cons, List.range'_succ, List.zip_cons_cons, List.lookup_cons]
    cases i with
    | zero =>
      cases h
      rw [beq_self_eq_true]
      rfl
    | succ i =>
      have h' : ns[i]? = some x := h
      have : (x == m) = false := by rw [beq_eq_false_iff_ne]; intro e; subst e; exact hn.1 (List.mem_of_getElem? h')
      rw [this, ih (k + 1) hn.2 i h']
      show some (k + 1 + i) = some (k + (i + 1))
      rw [Nat.add_assoc, Nat.add_comm 1 i]
structure FnS (view prog : Program) (t : Tab) (f : FnT) : Prop where
  def_ : view.theDef f.name = some (argsAt prog f.at_, bodyAt prog f.at_, scopeAt prog f.at_)
  looks : fnB prog f = true
  snd : ∀ {G : GP}, TabOK G t → SndSs G (ccOf prog f) (bodyAt prog f.at_) f.d.body
section
variable {view prog : Program} {t : Tab} {f : FnT} {h : Heap} {loose : List Str} {mean : ExcName → Option Value} {mg mb : Str → Option Value}
theorem FnS.there (S : FnS view prog t f) (T : Top view loose mean mg mb h) :
    ∃ ad o pm code doc, mg f.name = some (.ref ad) ∧ h.get? ad = some o ∧ o.data = .func (Calls.docDef f.name (argsAt prog f.at_) (bodyAt prog f.at_) (scopeAt prog f.at_) pm code doc) ∧ h.CodeRec code f.name := by
  obtain ⟨_, h'⟩ := and2 S.looks
  obtain ⟨_, h'⟩ := and2 h'
  obtain ⟨_, h'⟩ := and2 h'
  obtain ⟨_, h'⟩ := and2 h'
  obtain ⟨h5, h'⟩ := and2 h'
  obtain ⟨h6, h'⟩ := and2 h'
  obtain ⟨pos, hrec⟩ := rec_of S.def_ (List.isEmpty_iff.mp h5) (kwNone_ok h6)
  exact T.fn _ hrec
theorem FnS.ok {G : GP} (S : FnS view prog t f) (T : Top view loose mean mg mb G.h₀) (tk : TabOK G t) {fe : FE} (hfe : mg f.name = some (.ref fe.addr)) (hht : fe.ht = f.ht) : ∃ fd names, FnOK G fe f.d (ccOf prog f) fd (bodyAt prog f.at_) names := by
  obtain ⟨ad, o, pm, code, doc, q1, q2, q3, q4⟩ := S.there T
  rw [hfe] at q1
  cases q1
  obtain ⟨h1, h'⟩ := and2 S.looks
  obtain ⟨h2, h'⟩ := and2 h'
  obtain ⟨h3, h'⟩ := and2 h'
  obtain ⟨h4, h'⟩ := and2 h'
  obtain ⟨h5, h'⟩ := and2 h'
  obtain ⟨h6, h'⟩ := and2 h'
  obtain ⟨h7, h'⟩ := and2 h'
  obtain ⟨h8, h'⟩ := and2 h'
  obtain ⟨h9, h'⟩ := and2 h'
  obtain ⟨h10, h'⟩ := and2 h'
  obtain ⟨h11, h'⟩ := and2 h'
  obtain ⟨h12, h'⟩ := and2 h'
  obtain ⟨h13, h'⟩ := and2 h'
  obtain ⟨h14, h15⟩ := and2 h'
  have hnames : ((argsAt prog f.at_).args.map (·.arg)) = f.slots.take f.d.np := eq_of_beq h8
  have hnod : f.slots.Nodup := of_decide_eq_true h9
  have hnn : ((argsAt prog f.at_).args.map (·.arg)).Nodup := by rw [hnames]; exact hnod.sublist (List.take_sublist _ _)
  refine ⟨Calls.docDef f.name (argsAt prog f.at_) (bodyAt prog f.at_) (scopeAt prog f.at_) pm code doc, (argsAt prog f.at_).args.map (·.arg), ⟨o, q2, q3⟩, q4, rfl, fun vals hl => bind_plain (fd := Calls.docDef f.name (argsAt prog f.at_) (bodyAt prog f.at_) (scopeAt prog f.at_) pm code doc) (List.isEmpty_iff.mp h1) (Option.isNone_iff_eq_none.mp h2) (List.isEmpty_iff.mp h3) (Option.isNone_iff_eq_none.mp h4) rfl hnn (hl.trans (eq_of_beq h7).symm), eq_of_beq h7, rfl, not1 h10, not1 h11, isFun_ok h12, rfl, rfl, rfl, fun x hx he => ?_, fun x hx => lc_ok (List.all_eq_true.mp h14 x hx), hnn, fun i x hx => ?_, ?_, ?_, S.snd tk⟩
  · have := List.all_eq_true.mp h13 x hx
    rw [he] at this; cases this
  · rw [hnames, List.getElem?_take] at hx
    split at hx
    · show (f.slots.zip (List.range f.slots.length)).lookup x = some i
      rw [List.range_eq_range', zip_range 0 hnod i hx, Nat.zero_add]
    · cases hx
  · show decide (((f.slots.zip (List.range f.slots.length)).map (·.2)).Nodup) = true
    rw [List.map_snd_zip (by rw [List.length_range]; exact Nat.le_refl _)]
    exact decide_eq_true List.nodup_range
  · show f.ht - 1 + 1 ≤ fe.ht
    rw [hht, Nat.sub_add_cancel (of_decide_eq_true h15)]
    exact Nat.le_refl _
end
noncomputable def addrOf (mg : Str → Option Value) (x : Str) : Addr := match mg x with
  | some (.ref a) => a
  | _ => 0
noncomputable def feOf (mg : Str → Option Value) (f : FnT) : FE := ⟨f.id, f.name, addrOf mg f.name, f.ht, true⟩
noncomputable def gOf (pr : Program) (w : World) (h : Heap) (mg : Str → Option Value) (fs : List FnT) (gcs : List Nat) : GP := ⟨pr, w, h, 0, fs.map (feOf mg), gcs⟩
noncomputable def tabOf (fs : List FnT) (gcs : List Nat) : Tab := ⟨fs.map fun f => (f.id, f.name, f.ht), gcs⟩
theorem fe_find {mg : Str → Option Value} : ∀ {fs : List FnT} {f : FnT}, (fs.map (·.id)).Nodup → f ∈ fs → (fs.map (feOf mg)).find? (fun e => e.id == f.id) = some (feOf mg f)
  | [], _, _, h => nomatch h
  | g :: fs, f, hn, h => by
    rw [List.map_cons, List.nodup_cons] at hn
    rw [List.map_cons, List.find?_cons]
    rcases List.mem_cons.mp h with rfl | h
    · have : ((feOf mg f).id == f.id) = true := beq_self_eq_true _
      rw [this]
    · have : ((feOf mg g).id == f.id) = false := by
        rw [beq_eq_false_iff_ne]
        intro e
        exact hn.1 (List.mem_map.mpr ⟨f, h, e.symm⟩)
      rw [this]
      exact fe_find hn.2 h
noncomputable def biFree (p : Program) (loose : List Str) : Bool := biTab.all fun b => !(startupNames.contains b.1) && (!(loose.contains b.1) && (!((recsOf p).any fun d => d.name == b.1) && (!((litsOf p).any fun c => c.1 == b.1) && !((clssOf p loose).any fun c => c.name == b.1))))
theorem boot_biTab : biTab.all (fun b => bootBuiltins b.1 == some b.2 && !(b.1 == ("__name__" : Str))) = true := by decide +kernel
theorem not_any {α : Type} {l : List α} {f : α → Str} {x : Str} (h : (!(l.any fun d => f d == x)) = true) (hx : x ∈ l.map f) : False := by
  obtain ⟨d, hd, e⟩ := List.mem_map.mp hx
  have := not1 h
  rw [List.any_eq_false] at this
  exact this d hd (beq_iff_eq.mpr e)
theorem not_has {l : List Str} {x : Str} (h : (!(l.contains x)) = true) (hx : x ∈ l) : False := by
  rw [List.contains_iff_mem.mpr hx] at h; cases h
theorem glue {view pr : Program} {w : World} {h : Heap} {loose : List Str} {mean : ExcName → Option Value} {mg mb : Str → Option Value} (T : Top view loose mean mg mb h) {fs : List FnT} {gcs : List Nat}
    (nod : (fs.map (·.id)).Nodup) (hbi : biFree view loose = true) (hgc : ∀ k ∈ gcs, ∃ v, mg (gcName k) = some v ∧ DRel (gOf pr w h mg fs gcs) (fun a => h.get? a) (gcD k) v)
    (hc : ∀ f ∈ fs, FnS view pr (tabOf fs gcs) f) : ∀ f ∈ fs, Ora (CallOK (gOf pr w h mg fs gcs)) f.id f.d := by
  have hat : ∀ f ∈ fs, mg f.name = some (.ref (feOf mg f).addr) ∧ ∃ o fd, h.get? (feOf mg f).addr = some o ∧ o.data = .func fd := fun f hf => by
    obtain ⟨ad, o, pm, code, doc, q1, q2, q3, _⟩ := (hc f hf).there T
    have : (feOf mg f).addr = ad := by show addrOf mg f.name = ad; unfold addrOf; rw [q1]
    rw [this]
    exact ⟨q1, o, _, q2, q3⟩
  have gk : GOK (gOf pr w h mg fs gcs) := by
    refine ⟨⟨mg, mb, T.g, T.b, fun fe hfe _ => ?_, fun x v hx => ?_, hgc⟩, fun fe hfe => ?_, T.nolimit⟩
    · obtain ⟨f, hf, rfl⟩ := List.mem_map.mp hfe
      exact (hat f hf).1
    · have hm := lookup_mem hx
      obtain ⟨a1, a'⟩ := and2 (List.all_eq_true.mp hbi _ hm)
      obtain ⟨a2, a'⟩ := and2 a'
      obtain ⟨a3, a'⟩ := and2 a'
      obtain ⟨a4, a5⟩ := and2 a'
      obtain ⟨b1, b2⟩ := and2 (List.all_eq_true.mp boot_biTab _ hm)
      refine ⟨T.free x (not_has a1) (not_has a2) (not_any a3) (not_any a4) (not_any a5), ?_⟩
      rw [T.builtins x (fun z => by rw [z] at b2; cases b2)]
      exact eq_of_beq b1
    · obtain ⟨f, hf, rfl⟩ := List.mem_map.mp hfe
      exact (hat f hf).2
  have tk : TabOK (gOf pr w h mg fs gcs) (tabOf fs gcs) := by
    refine ⟨gk, fun q hq => ?_, fun k hk => hk⟩
    obtain ⟨f, hf, rfl⟩ := List.mem_map.mp hq
    exact ⟨feOf mg f, fe_find nod hf, rfl, rfl, rfl⟩
  intro f hf args live Q X q
  obtain ⟨fd, names, ok⟩ := (hc f hf).ok (G := gOf pr w h mg fs gcs) T tk (fe := feOf mg f) (hat f hf).1 rfl
  exact CallOK_intro gk (fe_find nod hf) ok (fun _ _ z => z) q
theorem cpOk_of {cs : List Nat} (h : (cs.all (· < 0x110000) && decide (cs.length ≤ 1000)) = true) : cpOk cs := by
  obtain ⟨h1, h2⟩ := and2 h
  exact ⟨fun c hc => of_decide_eq_true (List.all_eq_true.mp h1 c hc), Nat.le_trans (of_decide_eq_true h2) (le_ok rfl)⟩
theorem list_at {h : Heap} {a : Addr} {vs ws : List Value} (h1 : h.IsList a vs.toArray) (h2 : h.get? a = some { cls := .type "list", data := .seq ws.toArray }) : h.get? a = some (sobj "list" vs.toArray 0) := by
  obtain ⟨o, e, _, n, hd⟩ := h1
  rw [h2] at e; cases e
  cases hd
  exact h2
theorem DRels_ints {G : GP} {F : FH} {vs : List Value} {is : List Int} (h : IntsAre vs is) : DRels G F (is.map .int) vs := by
  induction h with
  | nil => rfl
  | cons n t _ ih => exact ⟨_, _, rfl, ⟨t, rfl⟩, ih⟩
theorem intsAre_length {vs : List Value} {is : List Int} (h : IntsAre vs is) : vs.length = is.length := by
  induction h with
  | nil => rfl
  | cons n t _ ih => exact congrArg (· + 1) ih
theorem enter {pr : Program} {w : World} {s₁ : Shared} {mg : Str → Option Value} {fs : List FnT} {gcs : List Nat} {A : Around} {f : Nat} {fa la : Addr} {is : List Int} {vs : List Value} {n : Nat} {fe : FE}
    (hfe : (gOf pr w s₁.heap mg fs gcs).fe f = some fe) (hfa : fe.addr = fa) (R : Room A fe.ht) (hl : s₁.heap.get? la = some (sobj "list" vs.toArray n)) (hi : IntsAre vs is) (h63 : is.length ≤ 63) (hbig : ∃ a o, 3 < a ∧ s₁.heap.get? a = some o)
    (law : ∀ (Q : KV) (X : XP), Q (.d (.bool true)) (fun _ => none) → CallOK (gOf pr w s₁.heap mg fs gcs) f [scr is] (fun _ => none) Q X) {K : Result → Shared → Prop}
    (h : ∀ s', (∀ a o, s₁.heap.get? a = some o → s'.heap.get? a = some o) → s'.os = s₁.os → s'.gens = s₁.gens → K (.ok (.ret (.bool true))) s') :
    codeAny (model pr w) A (.call (.ref fa) ⟨[.ref la], []⟩) K s₁ := by
  obtain ⟨fe', hfe', c⟩ := law (fun v _ => v = .d (.bool true)) (fun _ _ => False) rfl
  rw [hfe] at hfe'; cases hfe'
  have I : Inv (gOf pr w s₁.heap mg fs gcs) (fun a => s₁.heap.get? a) (fun _ => none) s₁ := ⟨fun a o e => e, fun a o e => e, fun n o e => (by cases e), fun n o dx e => (by cases e), hbig⟩
  have := c A (fun a => s₁.heap.get? a) s₁ [.ref la] R I ⟨_, _, rfl, ⟨vs, ⟨la, vs.toArray, n, rfl, hl, List.toList_toArray, by rw [intsAre_length hi]; exact Nat.le_trans h63 (le_ok rfl)⟩, DRels_ints hi⟩, rfl⟩
  rw [hfa] at this
  refine codeAny_mono this fun r s' q => ?_
  cases r with
  | error e => exact q.elim
  | ok fl =>
    cases fl with
    | ret v =>
      obtain ⟨F', l', x, st, I', rv, rfl⟩ := q
      cases rv
      exact h s' (fun a o e => (st.keep a o e rfl).1) st.os st.gens
    | _ => exact q.elim
end Mine

set_option Elab.async false
set_option linter.unusedVariables false
namespace Mine
open PySem (CmpOp Operator)
variable {Φ : CP} {live l : Hp} {Q : KV} {X : XP}
theorem big_of2 {n : Nat} (h : n ≤ 1000) : n ≤ big := Nat.le_trans h (le_ok rfl)
theorem ints_get {ns : List (List Nat)} {i : Nat} (h : (i : Int) < ns.length) : ∃ n ∈ ns, getI (ns.map D.str) (i : Int) = some (.str n) := by
  obtain ⟨n, hn, e⟩ := getI_mem (ds := ns) (Int.natCast_nonneg i) h
  refine ⟨n, hn, ?_⟩
  unfold getI at e ⊢
  rw [if_pos (Int.natCast_nonneg i)] at e ⊢
  rw [List.getElem?_map, e]; rfl
theorem c_values (h1 : Ora Φ f__law_mixed d__law_mixed) (h2 : Ora Φ f__law_names_by d__law_names_by) (h6 : Ora Φ f__law_cell_at d__law_cell_at) (h : Ora Φ f__law_values_by d__law_values_by) {is : List Int}
    (q : ∀ kvs : List (D × D), kvs.length ≤ 5 → HeldOk kvs → Q (.d (.dict kvs)) live) : Φ f__law_values_by [scr is] live Q X := by
  refine h _ _ _ _ ⟨rfl, c_cell h6 (k := 1) (c_names h1 h2 fun ns n3 n5 hns => ⟨lt_ok rfl, c_cell h6 (k := 2) ⟨lt_ok rfl, rfl, le_ok rfl, fun _ h => (nomatch h), fun a ha => ⟨lt_ok rfl, Int.le_trans (by decide) (Int.natCast_nonneg _), bigI (by rw [lenI]; omega), ?_⟩⟩⟩)⟩
  generalize cell is 2 = c
  refine forL_inv (fun xs ρ l => (∃ w, ρ = [some (scr is), some (.d (.list (ns.map .str))), some (.d (.int c)), some (.loc a), w]) ∧ Drop l live ∧ (∃ kvs, l a = some (.dict kvs) ∧ HeldOk kvs ∧ kvs.length + xs.length ≤ ns.length) ∧ ∀ x ∈ xs, x ∈ rangeV ((ns.map D.str).length : Int)) ?_ ?_ ?_
  · rintro x xs ρ l ⟨⟨w, rfl⟩, d, ⟨kvs, la, hk, hl⟩, hx⟩
    obtain ⟨i, hi, rfl⟩ := range_mem (hx _ (.head _))
    rw [lenI] at hi
    refine ⟨_, rfl, fun K hn hr => ⟨by omega, by omega, by decide, fun _ => ?_, fun _ => (hn _ _ ⟨⟨_, rfl⟩, d, ⟨kvs, la, hk, Nat.le_trans (Nat.le_succ _) hl⟩, fun x h => hx x (.tail _ h)⟩).1⟩⟩
    obtain ⟨n, hn1, en⟩ := ints_get hi
    have sm : small ((10 : Int) ^ (15 : Int).toNat) ∨ small ((i : Int) % 2) := .inr (small_of (by omega) (by omega))
    have ps : (0 : Int) < (10 : Int) ^ (15 : Int).toNat * ((i : Int) % 2) + 9 := by
      have : (10 : Int) ^ (15 : Int).toNat = 1000000000000000 := rfl
      rw [this]; omega
    refine ⟨by decide, by decide, rfl, by decide, by decide, by decide, sm, ps, .inl sm2, ?_⟩
    show (match getI (ns.map D.str) (i : Int) with | some x => _ | none => False)
    rw [en]
    refine set_str la (Nat.lt_of_le_of_lt (show kvs.length ≤ 5 by simp only [List.length_cons] at hl; omega) (lt_ok rfl)) (hn _ _ ⟨⟨_, rfl⟩, d.chg ha la rfl rfl, ⟨_, Hp.upd_self _ _ _, hk.put _ _, ?_⟩, fun x h => hx x (.tail _ h)⟩).1
    refine Nat.le_trans (Nat.add_le_add_right (dput_len _ _ _) _) ?_
    rw [Nat.add_assoc, Nat.add_comm 1]
    exact hl
  · rintro ρ l ⟨⟨w, rfl⟩, d, ⟨kvs, la, hk, hl⟩, hx⟩
    exact ret_loc d la ha rfl (q kvs (Nat.le_trans hl n5) hk)
  · refine ⟨⟨_, rfl⟩, Drop.upd ha rfl, ⟨[], Hp.upd_self _ _ _, fun _ h => (nomatch h), by rw [range_len, List.length_map]; exact Nat.le_of_eq (Nat.zero_add _)⟩, fun x h => h⟩
theorem Rw.flat (r : Rw) : D.flat r.d = true ∧ D.nb r.d = true ∧ D.depth r.d ≤ 1 := by
  cases r with
  | set n a => cases a <;> exact ⟨rfl, rfl, le_ok rfl⟩
  | ar k n a b => cases a <;> cases b <;> exact ⟨rfl, rfl, le_ok rfl⟩
  | say a => cases a <;> exact ⟨rfl, rfl, le_ok rfl⟩
  | jump t => exact ⟨rfl, rfl, le_ok rfl⟩
  | nought a t => cases a <;> exact ⟨rfl, rfl, le_ok rfl⟩
  | stop => exact ⟨rfl, rfl, le_ok rfl⟩
theorem rows_flat : ∀ rs : List Rw, D.flats (rs.map Rw.d) = true ∧ D.nbs (rs.map Rw.d) = true ∧ D.depths (rs.map Rw.d) ≤ 1
  | [] => ⟨rfl, rfl, Nat.zero_le _⟩
  | r :: rs => by
    obtain ⟨h1, h2, h3⟩ := r.flat
    obtain ⟨k1, k2, k3⟩ := rows_flat rs
    refine ⟨?_, ?_, Nat.max_le.mpr ⟨h3, k3⟩⟩
    · show (D.flat r.d && D.flats (rs.map Rw.d)) = true; rw [h1, k1]; rfl
    · show (D.nb r.d && D.nbs (rs.map Rw.d)) = true; rw [h2, k2]; rfl
theorem runR_shape (rs : List Rw) (most : Nat) : ∀ (n : Nat) (held : List (D × D)) (said : List Int) (p k : Nat), ∃ (said' : List Int) (w : List Nat) (k' : Nat), runR rs most n held said p k = .tup [.list (said'.map .int), .str w, .int (k' : Nat)] ∧ said'.length ≤ said.length + n
  | 0, held, said, p, k => ⟨said, _, k, rfl, by omega⟩
  | n + 1, held, said, p, k => by
    show ∃ (said' : List Int) (w : List Nat) (k' : Nat), (match rs[p]? with | some r => if k < most then runR rs most n (heldN held r) (saidN held said r) (r.nxt rs.length p (r.asks.map (valOf held))) (k + 1) else finR rs said p k | none => finR rs said p k) = _ ∧ _
    split
    · split
      · rename_i r _ _
        obtain ⟨said', w, k', e, h⟩ := runR_shape rs most n (heldN held r) (saidN held said r) (r.nxt rs.length p (r.asks.map (valOf held))) (k + 1)
        refine ⟨said', w, k', e, ?_⟩
        have := saidN_len held said r
        omega
      · exact ⟨said, _, k, rfl, by omega⟩
    · exact ⟨said, _, k, rfl, by omega⟩
abbrev f_law : Nat := 24
noncomputable def d_law : FD := ⟨1, 6,
  [.assign 1 (.call f__law_rows_by [(.var 0)]),
  .assign 2 (.call f__law_values_by [(.var 0)]),
  .assign 3 (.bin false .Mod (.call f__law_cell_at [(.var 0), (.cst (.int 3))]) (.cst (.int 61))),
  .ite (.cmp .Eq (.bin false .Mod (.bin false .FloorDiv (.call f__law_cell_at [(.var 0), (.cst (.int 3))]) (.cst (.int 61))) (.cst (.int 4))) (.cst (.int 1)))
    [.assign 3 (.bin false .Mod (.bin false .FloorDiv (.call f__law_cell_at [(.var 0), (.cst (.int 3))]) (.cst (.int 244))) (.cst (.int 600)))]
    [],
  .assign 4 (.lst false [(.bi (.list false) [(.var 1)]), (.bi (.dict false) [(.var 2)])]),
  .assign 5 (.call f_run [(.idx (.var 4) (.cst (.int 0))), (.idx (.var 4) (.cst (.int 1))), (.var 3)]),
  .ite (.or_ (.cmp .NotEq (.idx (.var 4) (.cst (.int 0))) (.var 1)) (.cmp .NotEq (.idx (.var 4) (.cst (.int 1))) (.var 2)))
    [.ret (.cst (.bool false))]
    [],
  .ret (.call f__law_told [(.var 5), (.call f__law_run [(.var 1), (.var 2), (.var 3)])])]⟩
noncomputable def defs1 : Nat → FD
  | 0 => d_is_whole
  | 1 => d_is_name
  | 2 => d_is_row
  | 3 => d_need_rows
  | 4 => d_result_of
  | 5 => d_asked_of
  | 6 => d_written_by
  | 7 => d_place_behind
  | 8 => d_run
  | 9 => d__law_cell_at
  | 10 => d__law_whole
  | 11 => d__law_mixed
  | 12 => d__law_names_by
  | 13 => d__law_operand_by
  | 14 => d__law_row_by
  | 15 => d__law_size_by
  | 16 => d__law_rows_by
  | 17 => d__law_values_by
  | 19 => d__law_asks
  | 22 => d__law_run
  | 23 => d__law_told
  | _ => d_law
def ids1 : List Nat := [0, 1, 2, 3, 4, 5, 6, 7, 8, 9, 10, 11, 12, 13, 14, 15, 16, 17, 19, 22, 23, 24]
noncomputable def lawRest : List S := [
  .assign 4 (.lst false [(.bi (.list false) [(.var 1)]), (.bi (.dict false) [(.var 2)])]),
  .assign 5 (.call f_run [(.idx (.var 4) (.cst (.int 0))), (.idx (.var 4) (.cst (.int 1))), (.var 3)]),
  .ite (.or_ (.cmp .NotEq (.idx (.var 4) (.cst (.int 0))) (.var 1)) (.cmp .NotEq (.idx (.var 4) (.cst (.int 1))) (.var 2)))
    [.ret (.cst (.bool false))]
    [],
  .ret (.call f__law_told [(.var 5), (.call f__law_run [(.var 1), (.var 2), (.var 3)])])]
theorem law_rest (H : ∀ f ∈ ids1, Ora Φ f (defs1 f)) {is : List Int} {rs : List Rw} {kvs : List (D × D)} {most : Nat} (ok : ∀ r ∈ rs, r.ok rs.length) (hrl : rs.length ≤ 22) (hk : HeldOk kvs) (hkl : kvs.length ≤ 5) (hm : most ≤ 1000) (q : Q (.d (.bool true)) live) :
    vSs Φ lawRest [some (scr is), some (.d (.list (rs.map Rw.d))), some (.d (.dict kvs)), some (.d (.int most)), none, none] live (fun f _ live' => match f with
    | .rt v => ∃ v' live'', Rz live' live'' v v' ∧ Q v' live''
    | .nx => ∃ live'', Drop live' live'' ∧ Q (.d .none) live''
    | .ct => False) (fun _ _ => False) := by
  have hb : (rs.map Rw.d).length ≤ big := by rw [List.length_map]; exact big_of (by omega)
  refine ⟨hb, hk.keysV, big_of (by omega), le_ok rfl, lt_ok rfl, c_run (H 1 (by decide)) (H 0 (by decide)) (H 2 (by decide)) (H 3 (by decide)) (H 5 (by decide)) (H 6 (by decide)) (H 4 (by decide)) (H 7 (by decide)) (H 8 (by decide)) ok hk (by omega) hm ⟨lt_ok rfl, ?_⟩⟩
  obtain ⟨f1, f2, f3⟩ := rows_flat rs
  have f4 : D.eqvs (rs.map Rw.d) (rs.map Rw.d) = true := (D.eqvs_nb f2 f2).mpr rfl
  have df : dflat kvs := fun p hp => by
    obtain ⟨cs, i, rfl⟩ := hk p hp
    exact ⟨rfl, Nat.zero_le _⟩
  have f5 : D.depths (rs.map Rw.d) + 1 ≤ 64 := by omega
  refine ⟨⟨f1, f1, f5, f5⟩, onF (b := !(D.eqvs (rs.map Rw.d) (rs.map Rw.d))) (by rw [f4]; rfl) ⟨rfl, df, no (c_lrun (H 19 (by decide)) (H 22 (by decide)) ok hk (by omega) hm ?_)⟩⟩
  obtain ⟨said, w, k, e, hs⟩ := runR_shape rs most most kvs [] 0 0
  rw [e]
  refine c_told (H 10 (by decide)) (H 23 (by decide)) (big_of2 (Nat.le_trans hs ?_)) (ret_id q)
  rw [List.length_nil, Nat.zero_add]; exact hm
theorem c_law1 (H : ∀ f ∈ ids1, Ora Φ f (defs1 f)) {is : List Int} (q : Q (.d (.bool true)) live) : Φ f_law [scr is] live Q X := by
  have o9 := H 9 (by decide)
  have o11 := H 11 (by decide)
  have o12 := H 12 (by decide)
  have o13 := H 13 (by decide)
  have o14 := H 14 (by decide)
  have o15 := H 15 (by decide)
  have o16 := H 16 (by decide)
  have o17 := H 17 (by decide)
  have o24 : Ora Φ f_law d_law := H 24 (by decide)
  refine o24 _ _ _ _ ⟨rfl, c_rows_by o11 o12 o13 o14 o15 o9 o16 fun rs hrl ok => ⟨lt_ok rfl, c_values o11 o12 o9 o17 fun kvs hkl hk => ⟨lt_ok rfl, c_cell o9 (k := 3) ⟨by decide, lt_ok rfl, c_cell o9 (k := 3) ⟨by decide, by decide, by decide, okI2, fun _ => c_cell o9 (k := 3) ⟨by decide, by decide, by decide, lt_ok rfl, ?_⟩, fun _ => ?_⟩⟩⟩⟩⟩
  · obtain ⟨m1, e1⟩ := Int.eq_ofNat_of_zero_le (show 0 ≤ cell is 3 / 244 % 600 by omega)
    show vSs Φ lawRest [some (scr is), some (.d (.list (rs.map Rw.d))), some (.d (.dict kvs)), some (.d (.int (cell is 3 / 244 % 600))), none, none] live _ _
    rw [e1]
    exact law_rest H ok hrl hk hkl (by omega) q
  · obtain ⟨m1, e1⟩ := Int.eq_ofNat_of_zero_le (show 0 ≤ cell is 3 % 61 by omega)
    show vSs Φ lawRest [some (scr is), some (.d (.list (rs.map Rw.d))), some (.d (.dict kvs)), some (.d (.int (cell is 3 % 61))), none, none] live _ _
    rw [e1]
    exact law_rest H ok hrl hk hkl (by omega) q
end Mine

set_option Elab.async false
set_option linter.unusedVariables false
namespace Mine
open PySem PySem.W PyProof.Rows
theorem well_list {P : Params} {h : Heap} {a : Addr} {xs : List WData} (x : Well P h (.ref a) (.list xs)) : ∃ vs : List Value, h.get? a = some { cls := .type "list", data := .seq vs.toArray } := by
  cases x with
  | list h1 _ => exact ⟨_, h1⟩
theorem law_post (l : OpenLaw) {args : List WData} : l.row.claim.post args (.bool true) args = true := by
  wrow_post
theorem law_good (l : OpenLaw) {cl : Str → Option Addr} {mean : ExcName → Option Value} {args : List WData} {s₁ s' : Shared} (hg : s₁.gens = #[]) (hk : ∀ a o, s₁.heap.get? a = some o → s'.heap.get? a = some o) (hos : s'.os = s₁.os) (hgens : s'.gens = s₁.gens) :
    GoodWG l.row.claim cl mean args s₁ (.ok (.ret (.bool true))) s' :=
  ⟨.inl ⟨.bool true, .bool true, [], rfl, fun cls => rfl, .bool true, law_post l, fun _ => ⟨List.nodup_nil, fun a h => nomatch h⟩⟩, .of_keep hk, hos, .of_eq (hgens.trans hg)⟩
noncomputable def strV : Value → Option Str
  | .str x _ => some x
  | _ => none
theorem strV_ok {v : Value} {x : Str} (h : strV v = some x) : ∃ t, v = .str x t := by
  cases v <;> first | (cases h; exact ⟨_, rfl⟩) | cases h
noncomputable def entV (e : DictEntry) : Int × Option Str × Option Str := (e.hash, strV e.key, strV e.val)
noncomputable def objV (o : Obj) : Option (List (Int × Option Str × Option Str)) := match o with
  | ⟨.type T, none, .dict es _, sl⟩ => if T == "dict" && sl.isEmpty then some (es.toList.map entV) else none
  | _ => none
noncomputable def shapesV (h : Heap) : Option (List (Int × Option Str × Option Str) × Bool × Bool) := match h.nsMap mainGlobals (Str.ofString "SHAPES") with
  | some (.ref a) => ((h.get? a).bind objV).map fun l => (l, a == sysModules, Nat.blt 3 a)
  | _ => none
noncomputable def shapeList : List (Str × Str) := [("set", "xo"), ("add", "xoo"), ("sub", "xoo"), ("less", "xoo"), ("say", "o"), ("jump", "t"), ("nought", "ot"), ("stop", "")]
noncomputable def shapesW (w : World) : Option (List (Int × Option Str × Option Str) × Bool × Bool) := some (shapeList.map fun p => (hashStr w p.1, some p.1, some p.2), false, true)
theorem shapesV_at {h : Heap} {r : List (Int × Option Str × Option Str) × Bool × Bool} (e : shapesV h = some r) : ∃ a o, h.nsMap mainGlobals (Str.ofString "SHAPES") = some (.ref a) ∧ h.get? a = some o ∧ objV o = some r.1 ∧ (a == sysModules) = r.2.1 ∧ Nat.blt 3 a = r.2.2 := by
  unfold shapesV at e
  split at e
  · rename_i a ha
    obtain ⟨l, h1, rfl⟩ := Option.map_eq_some_iff.mp e
    obtain ⟨o, h2, h3⟩ := Option.bind_eq_some_iff.mp h1
    exact ⟨a, o, ha, h2, h3, rfl, rfl⟩
  · cases e
theorem nsMap_keeps {h h' : Heap} {x : Str} {v : Value} (e : h.nsMap mainGlobals x = some v) (hk : ∀ b o, h.get? b = some o → h'.get? b = some o) : h'.nsMap mainGlobals x = some v := by
  unfold Heap.nsMap at e ⊢
  cases ho : h.get? mainGlobals with
  | none => rw [ho] at e; cases e
  | some o => rw [ho] at e; rw [hk _ _ ho]; exact e
theorem shapesV_keeps {h h' : Heap} {r : List (Int × Option Str × Option Str) × Bool × Bool} (e : shapesV h = some r) (hk : ∀ b o, h.get? b = some o → h'.get? b = some o) : shapesV h' = some r := by
  obtain ⟨a, o, h1, h2, h3, h4, h5⟩ := shapesV_at e
  unfold shapesV
  rw [nsMap_keeps h1 hk]
  show ((h'.get? a).bind objV).map _ = _
  rw [hk _ _ h2]
  show (objV o).map _ = _
  rw [h3, h4, h5]
  rfl
noncomputable def shHook : Hook := ⟨Option (List (Int × Option Str × Option Str) × Bool × Bool), fun s => shapesV s.heap, shapesW, fun w h => shapesV h = shapesW w, fun _ _ e => e, fun _ _ _ e hk => shapesV_keeps e hk⟩
theorem ents_rel {G : GP} {F : FH} : ∀ {ks : List (List Nat × List Nat)} {es : List DictEntry}, (∀ p ∈ ks, cpOk p.1 ∧ cpOk p.2) → es.map entV = ks.map (fun p => (hashStr G.w ⟨p.1.toArray⟩, some ⟨p.1.toArray⟩, some ⟨p.2.toArray⟩)) → DRelk G F (ks.map fun p => (.str p.1, .str p.2)) es
  | [], [], _, _ => rfl
  | [], _ :: _, _, e => nomatch e
  | _ :: _, [], _, e => nomatch e
  | p :: ks, en :: es, hp, e => by
    rw [List.map_cons, List.map_cons, List.cons.injEq] at e
    obtain ⟨e1, e2⟩ := e
    have a1 := congrArg Prod.fst e1
    obtain ⟨t1, k1⟩ := strV_ok (congrArg (fun z => z.2.1) e1)
    obtain ⟨t2, k2⟩ := strV_ok (congrArg (fun z => z.2.2) e1)
    exact ⟨en, es, rfl, ⟨t1, k1, (hp p (.head _)).1⟩, rfl, a1, ⟨t2, k2, (hp p (.head _)).2⟩, ents_rel (fun q hq => hp q (.tail _ hq)) e2⟩
noncomputable def shapeN : List (List Nat × List Nat) := [(wSet, [120, 111]), (wAdd, [120, 111, 111]), (wSub, [120, 111, 111]), (wLess, [120, 111, 111]), (wSay, [111]), (wJump, [116]), (wNought, [111, 116]), (wStop, [])]
theorem shapeN_ok : ∀ p ∈ shapeN, cpOk p.1 ∧ cpOk p.2 := by
  have : shapeN.all (fun p => (p.1.all (· < 0x110000) && decide (p.1.length ≤ 1000)) && (p.2.all (· < 0x110000) && decide (p.2.length ≤ 1000))) = true := by decide
  intro p hp
  obtain ⟨a, b⟩ := and2 (List.all_eq_true.mp this p hp)
  exact ⟨cpOk_of a, cpOk_of b⟩
theorem shapes_once : onceK shapes := by
  show List.Pairwise (fun a b => a ≠ b) (shapeN.map fun p => D.str p.1)
  rw [List.pairwise_map]
  refine List.Pairwise.imp (fun h e => h (D.str.inj e)) (R := fun (a b : List Nat × List Nat) => a.1 ≠ b.1) ?_
  decide
theorem ns_nsMap {h : Heap} {mg : Str → Option Value} (n : h.Ns mainGlobals mg) (x : Str) : h.nsMap mainGlobals x = mg x := by
  obtain ⟨o, es, ep, h1, h2, _, h4⟩ := n
  unfold Heap.nsMap
  rw [h1]
  show (match o.data with | .dict es _ => nsFind es x | _ => none) = _
  rw [h2]
  exact h4 x
theorem objV_ok {o : Obj} {l : List (Int × Option Str × Option Str)} (h : objV o = some l) : ∃ es n, o = ⟨.type "dict", none, .dict es n, #[]⟩ ∧ es.toList.map entV = l := by
  obtain ⟨c, d, dt, sl⟩ := o
  cases c <;> first | cases h | skip
  cases d <;> first | cases h | skip
  cases dt <;> first | cases h | skip
  rename_i T es n
  replace h : (if T == "dict" && sl.isEmpty then some (es.toList.map entV) else none) = some l := h
  split at h
  · rename_i hb
    obtain ⟨b1, b2⟩ := and2 hb
    cases h
    rw [eq_of_beq b1, Array.isEmpty_iff.mp b2]
    exact ⟨es, n, rfl, rfl⟩
  · cases h
theorem shapes_rel {G : GP} {h : Heap} {mg : Str → Option Value} (e : shapesV h = shapesW G.w) (n : h.Ns mainGlobals mg) : (∃ v, mg (gcName 1) = some v ∧ DRel G (fun a => h.get? a) (gcD 1) v) ∧ ∃ a o, 3 < a ∧ h.get? a = some o := by
  obtain ⟨a, o, h1, h2, h3, h4, h5⟩ := shapesV_at e
  refine ⟨⟨.ref a, (ns_nsMap n _).symm.trans h1, ?_⟩, a, o, Nat.le_of_ble_eq_true h5, h2⟩
  obtain ⟨es, k, rfl, h6⟩ := objV_ok h3
  have rel := ents_rel (G := G) (F := fun a => h.get? a) (ks := shapeN) (es := es.toList) shapeN_ok h6
  refine ⟨a, _, es, k, rfl, h2, ⟨rfl, rfl, rfl⟩, rfl, ?_, rel, shapes_once, h4⟩
  have := congrArg List.length h6
  rw [List.length_map, Array.length_toList] at this
  rw [this]
  exact le_ok rfl
theorem letters_rel {G : GP} {p : Program} {loose : List Str} {mean : ExcName → Option Value} {mg mb : Str → Option Value} {h : Heap} (T : Top p loose mean mg mb h) (e : PyProof.Rows.valOf p (Str.ofString "LETTERS") = some (PyData.str ⟨letters.toArray⟩)) : ∃ v, mg (gcName 0) = some v ∧ DRel G (fun a => h.get? a) (gcD 0) v := by
  obtain ⟨v, h1, h2⟩ := T.const _ _ e
  refine ⟨v, h1, ?_⟩
  have := h2 h
  cases this with
  | str x t => exact ⟨t, rfl, cpOk_of (by decide)⟩
end Mine

set_option Elab.async false
set_option linter.unusedVariables false
namespace Mine
open PySem PySem.SeqAt PyProof.Rows
noncomputable def t__law_cell_at : FnT := ⟨f__law_cell_at, "_law_cell_at", 1, ["_law_script", "_law_k"], d__law_cell_at, 17⟩
noncomputable def t__law_mixed : FnT := ⟨f__law_mixed, "_law_mixed", 1, ["_law_cell", "_law_k", "_law_number"], d__law_mixed, 19⟩
noncomputable def t__law_names_by : FnT := ⟨f__law_names_by, "_law_names_by", 2, ["_law_cell", "_law_letters", "_law_many", "_law_base", "_law_at", "_law_first", "_law_names"], d__law_names_by, 20⟩
noncomputable def t__law_operand_by : FnT := ⟨f__law_operand_by, "_law_operand_by", 1, ["_law_number", "_law_names"], d__law_operand_by, 21⟩
noncomputable def t__law_row_by : FnT := ⟨f__law_row_by, "_law_row_by", 2, ["_law_number", "_law_names", "_law_size", "_law_name", "_law_one", "_law_other", "_law_goal", "_law_kind"], d__law_row_by, 22⟩
noncomputable def t__law_size_by : FnT := ⟨f__law_size_by, "_law_size_by", 1, ["_law_cell"], d__law_size_by, 23⟩
noncomputable def t__law_rows_by : FnT := ⟨f__law_rows_by, "_law_rows_by", 3, ["_law_script", "_law_size", "_law_names", "_law_rows", "_law_more", "_law_turn", "_law_one", "_law_other", "_law_third"], d__law_rows_by, 24⟩
noncomputable def t__law_asks : FnT := ⟨f__law_asks, "_law_asks", 1, ["_law_row"], d__law_asks, 27⟩
noncomputable def t__law_run : FnT := ⟨f__law_run, "_law_run", 2, ["_law_rows", "_law_values", "_law_most", "_law_held", "_law_said", "_law_place", "_law_steps", "_law_row", "_law_numbers"], d__law_run, 30⟩
noncomputable def t__law_whole : FnT := ⟨f__law_whole, "_law_whole", 1, ["_law_found"], d__law_whole, 18⟩
noncomputable def t__law_told : FnT := ⟨f__law_told, "_law_told", 2, ["_law_found", "_law_due"], d__law_told, 31⟩
noncomputable def t__law_values_by : FnT := ⟨f__law_values_by, "_law_values_by", 3, ["_law_script", "_law_names", "_law_cell", "_law_values", "_law_k"], d__law_values_by, 25⟩
noncomputable def t_asked_of : FnT := ⟨f_asked_of, "asked_of", 1, ["row", "shape"], d_asked_of, 12⟩
noncomputable def t_is_name : FnT := ⟨f_is_name, "is_name", 1, ["thing", "sign"], d_is_name, 8⟩
noncomputable def t_is_whole : FnT := ⟨f_is_whole, "is_whole", 1, ["thing"], d_is_whole, 7⟩
noncomputable def t_is_row : FnT := ⟨f_is_row, "is_row", 2, ["thing", "shape", "part", "kind"], d_is_row, 9⟩
noncomputable def t_need_rows : FnT := ⟨f_need_rows, "need_rows", 3, ["rows", "row"], d_need_rows, 10⟩
noncomputable def t_place_behind : FnT := ⟨f_place_behind, "place_behind", 1, ["row", "place", "numbers", "size"], d_place_behind, 14⟩
noncomputable def t_result_of : FnT := ⟨f_result_of, "result_of", 1, ["word", "numbers"], d_result_of, 11⟩
noncomputable def t_written_by : FnT := ⟨f_written_by, "written_by", 1, ["row"], d_written_by, 13⟩
noncomputable def t_run : FnT := ⟨f_run, "run", 4, ["rows", "values", "most", "held", "said", "place", "steps", "row", "numbers"], d_run, 15⟩
noncomputable def t_law : FnT := ⟨f_law, "law", 20, ["_law_script", "_law_rows", "_law_values", "_law_most", "_law_handed", "_law_found"], d_law, 32⟩
noncomputable def fsL : List FnT := [t__law_cell_at, t__law_mixed, t__law_names_by, t__law_operand_by, t__law_row_by, t__law_size_by, t__law_rows_by, t__law_asks, t__law_run, t__law_whole, t__law_told, t__law_values_by, t_asked_of, t_is_name, t_is_whole, t_is_row, t_need_rows, t_place_behind, t_result_of, t_written_by, t_run, t_law]
noncomputable def tabL : Tab := tabOf fsL [0, 1]
set_option maxRecDepth 100000 in
theorem sn__law_cell_at {G : GP} (tk : TabOK G tabL) : SndSs G (ccOf PySem.Challenge.pw_uf010001_01 t__law_cell_at) (bodyAt PySem.Challenge.pw_uf010001_01 17) d__law_cell_at.body :=
  (sSs_cons (sS_if (sC_cmp rfl (sE_var rfl rfl rfl) (sE_bi tk.gok rfl rfl bi_len rfl rfl ⟨rfl, (sE_var rfl rfl rfl), trivial⟩)) (sSs_cons (sS_ret (sE_idx rfl (sE_var rfl rfl rfl) (sE_var rfl rfl rfl))) sSs_nil) sSs_nil) (sSs_cons (sS_ret (sE_cst rfl)) sSs_nil))
set_option maxRecDepth 100000 in
theorem sn__law_mixed {G : GP} (tk : TabOK G tabL) : SndSs G (ccOf PySem.Challenge.pw_uf010001_01 t__law_mixed) (bodyAt PySem.Challenge.pw_uf010001_01 19) d__law_mixed.body :=
  (sSs_cons (sS_assign rfl rfl (lc_ok rfl) (sE_bin (sE_bin (sE_bin (sE_bin (sE_var rfl rfl rfl) (sE_cst rfl)) (sE_bin (sE_cst rfl) (sE_var rfl rfl rfl))) (sE_cst rfl)) (sE_cst rfl))) (sSs_cons (sS_ret (sE_bin (sE_bin (sE_bin (sE_bin (sE_var rfl rfl rfl) (sE_var rfl rfl rfl)) (sE_cst rfl)) (sE_var rfl rfl rfl)) (sE_cst rfl))) sSs_nil))
set_option maxRecDepth 100000 in
theorem sn__law_names_by {G : GP} (tk : TabOK G tabL) : SndSs G (ccOf PySem.Challenge.pw_uf010001_01 t__law_names_by) (bodyAt PySem.Challenge.pw_uf010001_01 20) d__law_names_by.body :=
  (sSs_cons (sS_assign rfl rfl (lc_ok rfl) (sE_cst rfl)) (sSs_cons (sS_assign rfl rfl (lc_ok rfl) (sE_bin (sE_cst rfl) (sE_bin (sE_var rfl rfl rfl) (sE_cst rfl)))) (sSs_cons (sS_assign rfl rfl (lc_ok rfl) (sE_mth m_join rfl rfl (Nat.le_of_ble_eq_true rfl) (sE_cst rfl) ⟨rfl, (sE_comp rfl (compOk_ok rfl) (sI_range tk.gok rfl rfl (sE_var rfl rfl rfl)) rfl (sE_idx rfl (sE_var rfl rfl rfl) (sE_bin (sE_callT tk rfl rfl (Nat.le_of_ble_eq_true rfl) rfl ⟨rfl, (sE_bin (sE_var rfl rfl rfl) (sE_cst rfl)), rfl, (sE_var rfl rfl rfl), trivial⟩) (sE_cst rfl)))), trivial⟩)) (sSs_cons (sS_assign rfl rfl (lc_ok rfl) (sE_bin (sE_bin (sE_var rfl rfl rfl) (sE_cst rfl)) (sE_var rfl rfl rfl))) (sSs_cons (sS_assign rfl rfl (lc_ok rfl) (sE_mth m_index rfl rfl (Nat.le_of_ble_eq_true rfl) (sE_var rfl rfl rfl) ⟨rfl, (sE_idx rfl (sE_var rfl rfl rfl) (sE_var rfl rfl rfl)), trivial⟩)) (sSs_cons (sS_assignC rfl (compOk_ok rfl) (sI_range tk.gok rfl rfl (sE_bin (sE_cst rfl) (sE_bin (sE_bin (sE_var rfl rfl rfl) (sE_cst rfl)) (sE_cst rfl)))) rfl (sE_bin (sE_bin (sE_slc (sE_var rfl rfl rfl) trivial (sE_var rfl rfl rfl)) (sE_idx rfl (sE_var rfl rfl rfl) (sE_bin (sE_bin (sE_var rfl rfl rfl) (sE_var rfl rfl rfl)) (sE_cst rfl)))) (sE_slc (sE_var rfl rfl rfl) (sE_bin (sE_var rfl rfl rfl) (sE_cst rfl)) trivial)) rfl (lc_ok rfl)) (sSs_cons (sS_ret (sE_bin (sE_var rfl rfl rfl) (sE_lst ⟨rfl, (sE_bin (sE_var rfl rfl rfl) (sE_idx rfl (sE_var rfl rfl rfl) (sE_bin (sE_bin (sE_var rfl rfl rfl) (sE_cst rfl)) (sE_cst rfl)))), trivial⟩))) sSs_nil)))))))
set_option maxRecDepth 100000 in
theorem sn__law_operand_by {G : GP} (tk : TabOK G tabL) : SndSs G (ccOf PySem.Challenge.pw_uf010001_01 t__law_operand_by) (bodyAt PySem.Challenge.pw_uf010001_01 21) d__law_operand_by.body :=
  (sSs_cons (sS_if (sC_cmp rfl (sE_bin (sE_var rfl rfl rfl) (sE_cst rfl)) (sE_cst rfl)) (sSs_cons (sS_ret (sE_idx rfl (sE_var rfl rfl rfl) (sE_bin (sE_bin (sE_var rfl rfl rfl) (sE_cst rfl)) (sE_bi tk.gok rfl rfl bi_len rfl rfl ⟨rfl, (sE_var rfl rfl rfl), trivial⟩)))) sSs_nil) sSs_nil) (sSs_cons (sS_if (sC_cmp rfl (sE_bin (sE_bin (sE_var rfl rfl rfl) (sE_cst rfl)) (sE_cst rfl)) (sE_cst rfl)) (sSs_cons (sS_ret (sE_bin (sE_idx rfl (sE_lst ⟨rfl, (sE_cst rfl), rfl, (sE_neg (sE_cst rfl)), trivial⟩) (sE_bin (sE_bin (sE_var rfl rfl rfl) (sE_cst rfl)) (sE_cst rfl))) (sE_bin (sE_bin (sE_cst rfl) (sE_cst rfl)) (sE_bin (sE_bin (sE_var rfl rfl rfl) (sE_cst rfl)) (sE_cst rfl))))) sSs_nil) sSs_nil) (sSs_cons (sS_ret (sE_bin (sE_bin (sE_bin (sE_var rfl rfl rfl) (sE_cst rfl)) (sE_cst rfl)) (sE_cst rfl))) sSs_nil)))
set_option maxRecDepth 100000 in
theorem sn__law_row_by {G : GP} (tk : TabOK G tabL) : SndSs G (ccOf PySem.Challenge.pw_uf010001_01 t__law_row_by) (bodyAt PySem.Challenge.pw_uf010001_01 22) d__law_row_by.body :=
  (sSs_cons (sS_assign rfl rfl (lc_ok rfl) (sE_idx rfl (sE_var rfl rfl rfl) (sE_bin (sE_bin (sE_var rfl rfl rfl) (sE_cst rfl)) (sE_bi tk.gok rfl rfl bi_len rfl rfl ⟨rfl, (sE_var rfl rfl rfl), trivial⟩)))) (sSs_cons (sS_assign rfl rfl (lc_ok rfl) (sE_callT tk rfl rfl (Nat.le_of_ble_eq_true rfl) rfl ⟨rfl, (sE_bin (sE_bin (sE_var rfl rfl rfl) (sE_cst rfl)) (sE_cst rfl)), rfl, (sE_var rfl rfl rfl), trivial⟩)) (sSs_cons (sS_assign rfl rfl (lc_ok rfl) (sE_callT tk rfl rfl (Nat.le_of_ble_eq_true rfl) rfl ⟨rfl, (sE_bin (sE_bin (sE_var rfl rfl rfl) (sE_cst rfl)) (sE_cst rfl)), rfl, (sE_var rfl rfl rfl), trivial⟩)) (sSs_cons (sS_assign rfl rfl (lc_ok rfl) (sE_bin (sE_bin (sE_bin (sE_var rfl rfl rfl) (sE_cst rfl)) (sE_cst rfl)) (sE_bin (sE_var rfl rfl rfl) (sE_cst rfl)))) (sSs_cons (sS_assign rfl rfl (lc_ok rfl) (sE_bin (sE_var rfl rfl rfl) (sE_cst rfl))) (sSs_cons (sS_if (sC_cmp rfl (sE_var rfl rfl rfl) (sE_cst rfl)) (sSs_cons (sS_ret (sE_tup ⟨rfl, (sE_cst rfl), rfl, (sE_var rfl rfl rfl), rfl, (sE_var rfl rfl rfl), trivial⟩ (Nat.le_of_ble_eq_true rfl))) sSs_nil) sSs_nil) (sSs_cons (sS_if (sC_cmp rfl (sE_var rfl rfl rfl) (sE_cst rfl)) (sSs_cons (sS_ret (sE_tup ⟨rfl, (sE_idx rfl (sE_lst ⟨rfl, (sE_cst rfl), rfl, (sE_cst rfl), rfl, (sE_cst rfl), trivial⟩) (sE_bin (sE_var rfl rfl rfl) (sE_cst rfl))), rfl, (sE_var rfl rfl rfl), rfl, (sE_var rfl rfl rfl), rfl, (sE_var rfl rfl rfl), trivial⟩ (Nat.le_of_ble_eq_true rfl))) sSs_nil) sSs_nil) (sSs_cons (sS_if (sC_cmp rfl (sE_var rfl rfl rfl) (sE_cst rfl)) (sSs_cons (sS_ret (sE_tup ⟨rfl, (sE_cst rfl), rfl, (sE_var rfl rfl rfl), trivial⟩ (Nat.le_of_ble_eq_true rfl))) sSs_nil) sSs_nil) (sSs_cons (sS_if (sC_cmp rfl (sE_var rfl rfl rfl) (sE_cst rfl)) (sSs_cons (sS_ret (sE_idx rfl (sE_lst ⟨rfl, (sE_tup ⟨rfl, (sE_cst rfl), rfl, (sE_var rfl rfl rfl), trivial⟩ (Nat.le_of_ble_eq_true rfl)), rfl, (sE_tup ⟨rfl, (sE_cst rfl), trivial⟩ (Nat.le_of_ble_eq_true rfl)), rfl, (sE_tup ⟨rfl, (sE_cst rfl), rfl, (sE_var rfl rfl rfl), trivial⟩ (Nat.le_of_ble_eq_true rfl)), rfl, (sE_tup ⟨rfl, (sE_cst rfl), rfl, (sE_var rfl rfl rfl), trivial⟩ (Nat.le_of_ble_eq_true rfl)), trivial⟩) (sE_bin (sE_bin (sE_var rfl rfl rfl) (sE_cst rfl)) (sE_cst rfl)))) sSs_nil) sSs_nil) (sSs_cons (sS_ret (sE_tup ⟨rfl, (sE_cst rfl), rfl, (sE_var rfl rfl rfl), rfl, (sE_var rfl rfl rfl), trivial⟩ (Nat.le_of_ble_eq_true rfl))) sSs_nil))))))))))
set_option maxRecDepth 100000 in
theorem sn__law_size_by {G : GP} (tk : TabOK G tabL) : SndSs G (ccOf PySem.Challenge.pw_uf010001_01 t__law_size_by) (bodyAt PySem.Challenge.pw_uf010001_01 23) d__law_size_by.body :=
  (sSs_cons (sS_if (sC_cmp rfl (sE_bin (sE_bin (sE_var rfl rfl rfl) (sE_cst rfl)) (sE_cst rfl)) (sE_cst rfl)) (sSs_cons (sS_ret (sE_bin (sE_cst rfl) (sE_bin (sE_bin (sE_var rfl rfl rfl) (sE_cst rfl)) (sE_cst rfl)))) sSs_nil) sSs_nil) (sSs_cons (sS_ret (sE_bin (sE_var rfl rfl rfl) (sE_cst rfl))) sSs_nil))
set_option maxRecDepth 100000 in
theorem sn__law_rows_by {G : GP} (tk : TabOK G tabL) : SndSs G (ccOf PySem.Challenge.pw_uf010001_01 t__law_rows_by) (bodyAt PySem.Challenge.pw_uf010001_01 24) d__law_rows_by.body :=
  (sSs_cons (sS_assign rfl rfl (lc_ok rfl) (sE_callT tk rfl rfl (Nat.le_of_ble_eq_true rfl) rfl ⟨rfl, (sE_callT tk rfl rfl (Nat.le_of_ble_eq_true rfl) rfl ⟨rfl, (sE_var rfl rfl rfl), rfl, (sE_cst rfl), trivial⟩), trivial⟩)) (sSs_cons (sS_assign rfl rfl (lc_ok rfl) (sE_callT tk rfl rfl (Nat.le_of_ble_eq_true rfl) rfl ⟨rfl, (sE_callT tk rfl rfl (Nat.le_of_ble_eq_true rfl) rfl ⟨rfl, (sE_var rfl rfl rfl), rfl, (sE_cst rfl), trivial⟩), trivial⟩)) (sSs_cons (sS_assignC rfl (compOk_ok rfl) (sI_range tk.gok rfl rfl (sE_var rfl rfl rfl)) rfl (sE_callT tk rfl rfl (Nat.le_of_ble_eq_true rfl) rfl ⟨rfl, (sE_callT tk rfl rfl (Nat.le_of_ble_eq_true rfl) rfl ⟨rfl, (sE_callT tk rfl rfl (Nat.le_of_ble_eq_true rfl) rfl ⟨rfl, (sE_var rfl rfl rfl), rfl, (sE_bin (sE_cst rfl) (sE_var rfl rfl rfl)), trivial⟩), rfl, (sE_var rfl rfl rfl), trivial⟩), rfl, (sE_var rfl rfl rfl), rfl, (sE_var rfl rfl rfl), trivial⟩) rfl (lc_ok rfl)) (sSs_cons (sS_assign rfl rfl (lc_ok rfl) (sE_callT tk rfl rfl (Nat.le_of_ble_eq_true rfl) rfl ⟨rfl, (sE_bin (sE_callT tk rfl rfl (Nat.le_of_ble_eq_true rfl) rfl ⟨rfl, (sE_var rfl rfl rfl), rfl, (sE_cst rfl), trivial⟩) (sE_bin (sE_cst rfl) (sE_callT tk rfl rfl (Nat.le_of_ble_eq_true rfl) rfl ⟨rfl, (sE_var rfl rfl rfl), rfl, (sE_cst rfl), trivial⟩))), rfl, (sE_cst rfl), trivial⟩)) (sSs_cons (sS_if (sC_cmp rfl (sE_bin (sE_var rfl rfl rfl) (sE_cst rfl)) (sE_cst rfl)) (sSs_cons (sS_assign rfl rfl (lc_ok rfl) (sE_bin (sE_bin (sE_var rfl rfl rfl) (sE_cst rfl)) (sE_bi tk.gok rfl rfl bi_len rfl rfl ⟨rfl, (sE_var rfl rfl rfl), trivial⟩))) (sSs_cons (sS_assignT rfl rfl rfl (lcs_ok rfl) (sE_slc (sE_bin (sE_slc (sE_var rfl rfl rfl) (sE_var rfl rfl rfl) trivial) (sE_slc (sE_var rfl rfl rfl) trivial (sE_var rfl rfl rfl))) trivial (sE_cst rfl))) (sSs_cons (sS_assign rfl rfl (lc_ok rfl) (sE_bin (sE_var rfl rfl rfl) (sE_lst ⟨rfl, (sE_tup ⟨rfl, (sE_cst rfl), rfl, (sE_var rfl rfl rfl), rfl, (sE_var rfl rfl rfl), trivial⟩ (Nat.le_of_ble_eq_true rfl)), rfl, (sE_tup ⟨rfl, (sE_cst rfl), rfl, (sE_var rfl rfl rfl), rfl, (sE_var rfl rfl rfl), trivial⟩ (Nat.le_of_ble_eq_true rfl)), rfl, (sE_tup ⟨rfl, (sE_cst rfl), rfl, (sE_var rfl rfl rfl), rfl, (sE_var rfl rfl rfl), trivial⟩ (Nat.le_of_ble_eq_true rfl)), trivial⟩))) (sSs_cons (sS_expr rfl (sE_mth m_append rfl rfl (Nat.le_of_ble_eq_true rfl) (sE_var rfl rfl rfl) ⟨rfl, (sE_tup ⟨rfl, (sE_cst rfl), rfl, (sE_idx rfl (sE_lst ⟨rfl, (sE_var rfl rfl rfl), rfl, (sE_var rfl rfl rfl), rfl, (sE_cst rfl), rfl, (sE_var rfl rfl rfl), trivial⟩) (sE_bin (sE_bin (sE_var rfl rfl rfl) (sE_cst rfl)) (sE_cst rfl))), rfl, (sE_bin (sE_bin (sE_var rfl rfl rfl) (sE_cst rfl)) (sE_bi tk.gok rfl rfl bi_len rfl rfl ⟨rfl, (sE_var rfl rfl rfl), trivial⟩)), trivial⟩ (Nat.le_of_ble_eq_true rfl)), trivial⟩)) sSs_nil)))) sSs_nil) (sSs_cons (sS_if (sC_cmp rfl (sE_bin (sE_bin (sE_var rfl rfl rfl) (sE_cst rfl)) (sE_cst rfl)) (sE_cst rfl)) (sSs_cons (sS_assign rfl rfl (lc_ok rfl) (sE_bin (sE_var rfl rfl rfl) (sE_comp rfl (compOk_ok rfl) (sI_e (sE_var rfl rfl rfl)) rfl (sE_tup ⟨rfl, (sE_cst rfl), rfl, (sE_var rfl rfl rfl), trivial⟩ (Nat.le_of_ble_eq_true rfl))))) sSs_nil) sSs_nil) (sSs_cons (sS_ret (sE_var rfl rfl rfl)) sSs_nil)))))))
set_option maxRecDepth 100000 in
theorem sn__law_asks {G : GP} (tk : TabOK G tabL) : SndSs G (ccOf PySem.Challenge.pw_uf010001_01 t__law_asks) (bodyAt PySem.Challenge.pw_uf010001_01 27) d__law_asks.body :=
  (sSs_cons (sS_if (sC_cmp rfl (sE_idx rfl (sE_var rfl rfl rfl) (sE_cst rfl)) (sE_tup ⟨rfl, (sE_cst rfl), rfl, (sE_cst rfl), rfl, (sE_cst rfl), rfl, (sE_cst rfl), trivial⟩ (Nat.le_of_ble_eq_true rfl))) (sSs_cons (sS_ret (sE_bi tk.gok rfl rfl bi_list rfl rfl ⟨rfl, (sE_slc (sE_var rfl rfl rfl) (sE_cst rfl) trivial), trivial⟩)) sSs_nil) sSs_nil) (sSs_cons (sS_if (sC_or (sC_cmp rfl (sE_idx rfl (sE_var rfl rfl rfl) (sE_cst rfl)) (sE_cst rfl)) (sC_last2 (sC_cmp rfl (sE_idx rfl (sE_var rfl rfl rfl) (sE_cst rfl)) (sE_cst rfl)))) (sSs_cons (sS_ret (sE_lst ⟨rfl, (sE_idx rfl (sE_var rfl rfl rfl) (sE_cst rfl)), trivial⟩)) sSs_nil) sSs_nil) (sSs_cons (sS_ret (sE_lst trivial)) sSs_nil)))
set_option maxRecDepth 100000 in
theorem sn__law_run {G : GP} (tk : TabOK G tabL) : SndSs G (ccOf PySem.Challenge.pw_uf010001_01 t__law_run) (bodyAt PySem.Challenge.pw_uf010001_01 30) d__law_run.body :=
  (sSs_cons (sS_assign rfl rfl (lc_ok rfl) (sE_bi tk.gok rfl rfl bi_dict rfl rfl ⟨rfl, (sE_var rfl rfl rfl), trivial⟩)) (sSs_cons (sS_assign rfl rfl (lc_ok rfl) (sE_lst trivial)) (sSs_cons (sS_assign rfl rfl (lc_ok rfl) (sE_cst rfl)) (sSs_cons (sS_assign rfl rfl (lc_ok rfl) (sE_cst rfl)) (sSs_cons (sS_while (sC_and (sC_cmp rfl (sE_var rfl rfl rfl) (sE_bi tk.gok rfl rfl bi_len rfl rfl ⟨rfl, (sE_var rfl rfl rfl), trivial⟩)) (sC_last1 (sC_cmp rfl (sE_var rfl rfl rfl) (sE_var rfl rfl rfl)))) (sSs_cons (sS_assign rfl rfl (lc_ok rfl) (sE_idx rfl (sE_var rfl rfl rfl) (sE_var rfl rfl rfl))) (sSs_cons (sS_assign rfl rfl (lc_ok rfl) (sE_bin (sE_var rfl rfl rfl) (sE_cst rfl))) (sSs_cons (sS_assignC rfl (compOk_ok rfl) (sI_e (sE_callT tk rfl rfl (Nat.le_of_ble_eq_true rfl) rfl ⟨rfl, (sE_var rfl rfl rfl), trivial⟩)) rfl (sE_ite (sC_isi (sE_isi tk.gok (sE_var rfl rfl rfl) rfl rfl rfl rfl rfl rfl)) (sE_var rfl rfl rfl) (sE_mth m_get2 rfl rfl (Nat.le_of_ble_eq_true rfl) (sE_var rfl rfl rfl) ⟨rfl, (sE_var rfl rfl rfl), rfl, (sE_cst rfl), trivial⟩)) rfl (lc_ok rfl)) (sSs_cons (sS_assign rfl rfl (lc_ok rfl) (sE_bin (sE_var rfl rfl rfl) (sE_cst rfl))) (sSs_cons (sS_if (sC_cmp rfl (sE_idx rfl (sE_var rfl rfl rfl) (sE_cst rfl)) (sE_cst rfl)) (sSs_cons (sS_setIdx (sE_var rfl rfl rfl) (sE_idx rfl (sE_var rfl rfl rfl) (sE_cst rfl)) (sE_idx rfl (sE_var rfl rfl rfl) (sE_cst rfl))) sSs_nil) (sSs_cons (sS_if (sC_cmp rfl (sE_idx rfl (sE_var rfl rfl rfl) (sE_cst rfl)) (sE_cst rfl)) (sSs_cons (sS_setIdx (sE_var rfl rfl rfl) (sE_idx rfl (sE_var rfl rfl rfl) (sE_cst rfl)) (sE_bin (sE_idx rfl (sE_var rfl rfl rfl) (sE_cst rfl)) (sE_idx rfl (sE_var rfl rfl rfl) (sE_cst rfl)))) sSs_nil) (sSs_cons (sS_if (sC_cmp rfl (sE_idx rfl (sE_var rfl rfl rfl) (sE_cst rfl)) (sE_cst rfl)) (sSs_cons (sS_setIdx (sE_var rfl rfl rfl) (sE_idx rfl (sE_var rfl rfl rfl) (sE_cst rfl)) (sE_bin (sE_idx rfl (sE_var rfl rfl rfl) (sE_cst rfl)) (sE_idx rfl (sE_var rfl rfl rfl) (sE_cst rfl)))) sSs_nil) (sSs_cons (sS_if (sC_cmp rfl (sE_idx rfl (sE_var rfl rfl rfl) (sE_cst rfl)) (sE_cst rfl)) (sSs_cons (sS_setIdx (sE_var rfl rfl rfl) (sE_idx rfl (sE_var rfl rfl rfl) (sE_cst rfl)) (sE_bi tk.gok rfl rfl bi_int rfl rfl ⟨rfl, (sE_cmp rfl (sE_idx rfl (sE_var rfl rfl rfl) (sE_cst rfl)) (sE_idx rfl (sE_var rfl rfl rfl) (sE_cst rfl))), trivial⟩)) sSs_nil) (sSs_cons (sS_if (sC_cmp rfl (sE_idx rfl (sE_var rfl rfl rfl) (sE_cst rfl)) (sE_cst rfl)) (sSs_cons (sS_expr rfl (sE_mth m_append rfl rfl (Nat.le_of_ble_eq_true rfl) (sE_var rfl rfl rfl) ⟨rfl, (sE_idx rfl (sE_var rfl rfl rfl) (sE_cst rfl)), trivial⟩)) sSs_nil) (sSs_cons (sS_if (sC_cmp rfl (sE_idx rfl (sE_var rfl rfl rfl) (sE_cst rfl)) (sE_cst rfl)) (sSs_cons (sS_assign rfl rfl (lc_ok rfl) (sE_idx rfl (sE_var rfl rfl rfl) (sE_cst rfl))) sSs_nil) (sSs_cons (sS_if (sC_cmp rfl (sE_idx rfl (sE_var rfl rfl rfl) (sE_cst rfl)) (sE_cst rfl)) (sSs_cons (sS_assign rfl rfl (lc_ok rfl) (sE_bi tk.gok rfl rfl bi_len rfl rfl ⟨rfl, (sE_var rfl rfl rfl), trivial⟩)) sSs_nil) (sSs_cons (sS_if (sC_cmp rfl (sE_idx rfl (sE_var rfl rfl rfl) (sE_cst rfl)) (sE_cst rfl)) (sSs_cons (sS_assign rfl rfl (lc_ok rfl) (sE_idx rfl (sE_var rfl rfl rfl) (sE_cst rfl))) sSs_nil) sSs_nil) sSs_nil)) sSs_nil)) sSs_nil)) sSs_nil)) sSs_nil)) sSs_nil)) sSs_nil)) sSs_nil)))))) (sSs_cons (sS_ret (sE_tup ⟨rfl, (sE_var rfl rfl rfl), rfl, (sE_ite (sC_cmp rfl (sE_var rfl rfl rfl) (sE_bi tk.gok rfl rfl bi_len rfl rfl ⟨rfl, (sE_var rfl rfl rfl), trivial⟩)) (sE_cst rfl) (sE_cst rfl)), rfl, (sE_var rfl rfl rfl), trivial⟩ (Nat.le_of_ble_eq_true rfl))) sSs_nil))))))
set_option maxRecDepth 100000 in
theorem sn__law_whole {G : GP} (tk : TabOK G tabL) : SndSs G (ccOf PySem.Challenge.pw_uf010001_01 t__law_whole) (bodyAt PySem.Challenge.pw_uf010001_01 18) d__law_whole.body :=
  (sSs_cons (sS_ret (sE_and (sE_isi tk.gok (sE_var rfl rfl rfl) rfl rfl rfl rfl rfl rfl) (sE_one (sE_not (sE_isi tk.gok (sE_var rfl rfl rfl) rfl rfl rfl rfl rfl rfl))))) sSs_nil)
set_option maxRecDepth 100000 in
theorem sn__law_told {G : GP} (tk : TabOK G tabL) : SndSs G (ccOf PySem.Challenge.pw_uf010001_01 t__law_told) (bodyAt PySem.Challenge.pw_uf010001_01 31) d__law_told.body :=
  (sSs_cons (sS_if (sC_or (sC_not (sC_isi (sE_isi tk.gok (sE_var rfl rfl rfl) rfl rfl rfl rfl rfl rfl))) (sC_or (sC_cmp rfl (sE_bi tk.gok rfl rfl bi_len rfl rfl ⟨rfl, (sE_var rfl rfl rfl), trivial⟩) (sE_cst rfl)) (sC_last2 (sC_not (sC_isi (sE_isi tk.gok (sE_idx rfl (sE_var rfl rfl rfl) (sE_cst rfl)) rfl rfl rfl rfl rfl rfl)))))) (sSs_cons (sS_ret (sE_cst rfl)) sSs_nil) sSs_nil) (sSs_cons (sS_if (sC_or (sC_not (sC_isi (sE_isi tk.gok (sE_idx rfl (sE_var rfl rfl rfl) (sE_cst rfl)) rfl rfl rfl rfl rfl rfl))) (sC_last2 (sC_not (sC_call (sE_callT tk rfl rfl (Nat.le_of_ble_eq_true rfl) rfl ⟨rfl, (sE_idx rfl (sE_var rfl rfl rfl) (sE_cst rfl)), trivial⟩))))) (sSs_cons (sS_ret (sE_cst rfl)) sSs_nil) sSs_nil) (sSs_cons (sS_if (sC_cmp rfl (sE_comp rfl (compOk_ok rfl) (sI_e (sE_idx rfl (sE_var rfl rfl rfl) (sE_cst rfl))) ⟨_, rfl, (sC_not (sC_call (sE_callT tk rfl rfl (Nat.le_of_ble_eq_true rfl) rfl ⟨rfl, (sE_var rfl rfl rfl), trivial⟩)))⟩ (sE_var rfl rfl rfl)) (sE_lst trivial)) (sSs_cons (sS_ret (sE_cst rfl)) sSs_nil) sSs_nil) (sSs_cons (sS_ret (sE_cmp rfl (sE_var rfl rfl rfl) (sE_var rfl rfl rfl))) sSs_nil))))
set_option maxRecDepth 100000 in
theorem sn__law_values_by {G : GP} (tk : TabOK G tabL) : SndSs G (ccOf PySem.Challenge.pw_uf010001_01 t__law_values_by) (bodyAt PySem.Challenge.pw_uf010001_01 25) d__law_values_by.body :=
  (sSs_cons (sS_assign rfl rfl (lc_ok rfl) (sE_callT tk rfl rfl (Nat.le_of_ble_eq_true rfl) rfl ⟨rfl, (sE_callT tk rfl rfl (Nat.le_of_ble_eq_true rfl) rfl ⟨rfl, (sE_var rfl rfl rfl), rfl, (sE_cst rfl), trivial⟩), trivial⟩)) (sSs_cons (sS_assign rfl rfl (lc_ok rfl) (sE_callT tk rfl rfl (Nat.le_of_ble_eq_true rfl) rfl ⟨rfl, (sE_var rfl rfl rfl), rfl, (sE_cst rfl), trivial⟩)) (sSs_cons (sS_assign rfl rfl (lc_ok rfl) sE_dct0) (sSs_cons (sS_for rfl rfl (lcs_ok rfl) (sI_range tk.gok rfl rfl (sE_bi tk.gok rfl rfl bi_len rfl rfl ⟨rfl, (sE_var rfl rfl rfl), trivial⟩)) (sSs_cons (sS_if (sC_cmp rfl (sE_bin (sE_bin (sE_var rfl rfl rfl) (sE_bin (sE_var rfl rfl rfl) (sE_cst rfl))) (sE_cst rfl)) (sE_cst rfl)) (sSs_cons (sS_setIdx (sE_var rfl rfl rfl) (sE_idx rfl (sE_var rfl rfl rfl) (sE_var rfl rfl rfl)) (sE_bin (sE_bin (sE_bin (sE_var rfl rfl rfl) (sE_cst rfl)) (sE_bin (sE_bin (sE_bin (sE_cst rfl) (sE_cst rfl)) (sE_bin (sE_var rfl rfl rfl) (sE_cst rfl))) (sE_cst rfl))) (sE_bin (sE_cst rfl) (sE_var rfl rfl rfl)))) sSs_nil) sSs_nil) sSs_nil)) (sSs_cons (sS_ret (sE_var rfl rfl rfl)) sSs_nil)))))
set_option maxRecDepth 100000 in
theorem sn_asked_of {G : GP} (tk : TabOK G tabL) : SndSs G (ccOf PySem.Challenge.pw_uf010001_01 t_asked_of) (bodyAt PySem.Challenge.pw_uf010001_01 12) d_asked_of.body :=
  (sSs_cons (sS_assign rfl rfl (lc_ok rfl) (sE_mth m_get2 rfl rfl (Nat.le_of_ble_eq_true rfl) (sE_gcT tk rfl rfl rfl rfl) ⟨rfl, (sE_idx rfl (sE_var rfl rfl rfl) (sE_cst rfl)), rfl, (sE_cst rfl), trivial⟩)) (sSs_cons (sS_ret (sE_comp rfl (compOk_ok rfl) (sI_zip tk.gok rfl rfl rfl (sE_slc (sE_var rfl rfl rfl) (sE_cst rfl) trivial) (sE_var rfl rfl rfl)) ⟨_, rfl, (sC_cmp rfl (sE_var rfl rfl rfl) (sE_cst rfl))⟩ (sE_var rfl rfl rfl))) sSs_nil))
set_option maxRecDepth 100000 in
theorem sn_is_name {G : GP} (tk : TabOK G tabL) : SndSs G (ccOf PySem.Challenge.pw_uf010001_01 t_is_name) (bodyAt PySem.Challenge.pw_uf010001_01 8) d_is_name.body :=
  (sSs_cons (sS_if (sC_or (sC_not (sC_isi (sE_isi tk.gok (sE_var rfl rfl rfl) rfl rfl rfl rfl rfl rfl))) (sC_last2 (sC_not (sC_cmp2 rfl (sE_cst rfl) (sE_bi tk.gok rfl rfl bi_len rfl rfl ⟨rfl, (sE_var rfl rfl rfl), trivial⟩) (sE_cst rfl))))) (sSs_cons (sS_ret (sE_cst rfl)) sSs_nil) sSs_nil) (sSs_cons (sS_for rfl rfl (lcs_ok rfl) (sI_e (sE_var rfl rfl rfl)) (sSs_cons (sS_if (sC_cmp rfl (sE_var rfl rfl rfl) (sE_gcT tk rfl rfl rfl rfl)) (sSs_cons (sS_ret (sE_cst rfl)) sSs_nil) sSs_nil) sSs_nil)) (sSs_cons (sS_ret (sE_cst rfl)) sSs_nil)))
set_option maxRecDepth 100000 in
theorem sn_is_whole {G : GP} (tk : TabOK G tabL) : SndSs G (ccOf PySem.Challenge.pw_uf010001_01 t_is_whole) (bodyAt PySem.Challenge.pw_uf010001_01 7) d_is_whole.body :=
  (sSs_cons (sS_ret (sE_and (sE_isi tk.gok (sE_var rfl rfl rfl) rfl rfl rfl rfl rfl rfl) (sE_one (sE_not (sE_isi tk.gok (sE_var rfl rfl rfl) rfl rfl rfl rfl rfl rfl))))) sSs_nil)
set_option maxRecDepth 100000 in
theorem sn_is_row {G : GP} (tk : TabOK G tabL) : SndSs G (ccOf PySem.Challenge.pw_uf010001_01 t_is_row) (bodyAt PySem.Challenge.pw_uf010001_01 9) d_is_row.body :=
  (sSs_cons (sS_if (sC_or (sC_not (sC_isi (sE_isi tk.gok (sE_var rfl rfl rfl) rfl rfl rfl rfl rfl rfl))) (sC_or (sC_cmp rfl (sE_bi tk.gok rfl rfl bi_len rfl rfl ⟨rfl, (sE_var rfl rfl rfl), trivial⟩) (sE_cst rfl)) (sC_last2 (sC_not (sC_isi (sE_isi tk.gok (sE_idx rfl (sE_var rfl rfl rfl) (sE_cst rfl)) rfl rfl rfl rfl rfl rfl)))))) (sSs_cons (sS_ret (sE_cst rfl)) sSs_nil) sSs_nil) (sSs_cons (sS_assign rfl rfl (lc_ok rfl) (sE_mth m_get2 rfl rfl (Nat.le_of_ble_eq_true rfl) (sE_gcT tk rfl rfl rfl rfl) ⟨rfl, (sE_idx rfl (sE_var rfl rfl rfl) (sE_cst rfl)), rfl, (sE_cst rfl), trivial⟩)) (sSs_cons (sS_if (sC_or (sC_isNone rfl (sE_var rfl rfl rfl)) (sC_last2 (sC_cmp rfl (sE_bi tk.gok rfl rfl bi_len rfl rfl ⟨rfl, (sE_var rfl rfl rfl), trivial⟩) (sE_bin (sE_bi tk.gok rfl rfl bi_len rfl rfl ⟨rfl, (sE_var rfl rfl rfl), trivial⟩) (sE_cst rfl))))) (sSs_cons (sS_ret (sE_cst rfl)) sSs_nil) sSs_nil) (sSs_cons (sS_for rfl rfl (lcs_ok rfl) (sI_zip tk.gok rfl rfl rfl (sE_slc (sE_var rfl rfl rfl) (sE_cst rfl) trivial) (sE_var rfl rfl rfl)) (sSs_cons (sS_if (sC_and (sC_cmp rfl (sE_var rfl rfl rfl) (sE_cst rfl)) (sC_last1 (sC_not (sC_call (sE_callT tk rfl rfl (Nat.le_of_ble_eq_true rfl) rfl ⟨rfl, (sE_var rfl rfl rfl), trivial⟩))))) (sSs_cons (sS_ret (sE_cst rfl)) sSs_nil) sSs_nil) (sSs_cons (sS_if (sC_and (sC_cmp rfl (sE_var rfl rfl rfl) (sE_cst rfl)) (sC_and (sC_not (sC_call (sE_callT tk rfl rfl (Nat.le_of_ble_eq_true rfl) rfl ⟨rfl, (sE_var rfl rfl rfl), trivial⟩))) (sC_last1 (sC_not (sC_call (sE_callT tk rfl rfl (Nat.le_of_ble_eq_true rfl) rfl ⟨rfl, (sE_var rfl rfl rfl), trivial⟩)))))) (sSs_cons (sS_ret (sE_cst rfl)) sSs_nil) sSs_nil) sSs_nil))) (sSs_cons (sS_ret (sE_cst rfl)) sSs_nil)))))
set_option maxRecDepth 100000 in
theorem sn_need_rows {G : GP} (tk : TabOK G tabL) : SndSs G (ccOf PySem.Challenge.pw_uf010001_01 t_need_rows) (bodyAt PySem.Challenge.pw_uf010001_01 10) d_need_rows.body :=
  (sSs_cons (sS_if (sC_not (sC_isi (sE_isi tk.gok (sE_var rfl rfl rfl) rfl rfl rfl rfl rfl rfl))) (sSs_cons sS_raise sSs_nil) sSs_nil) (sSs_cons (sS_for rfl rfl (lcs_ok rfl) (sI_e (sE_var rfl rfl rfl)) (sSs_cons (sS_if (sC_not (sC_call (sE_callT tk rfl rfl (Nat.le_of_ble_eq_true rfl) rfl ⟨rfl, (sE_var rfl rfl rfl), trivial⟩))) (sSs_cons sS_raise sSs_nil) sSs_nil) (sSs_cons (sS_if (sC_or (sC_cmp rfl (sE_idx rfl (sE_var rfl rfl rfl) (sE_cst rfl)) (sE_cst rfl)) (sC_last2 (sC_cmp rfl (sE_idx rfl (sE_var rfl rfl rfl) (sE_cst rfl)) (sE_cst rfl)))) (sSs_cons (sS_if (sC_or (sC_not (sC_call (sE_callT tk rfl rfl (Nat.le_of_ble_eq_true rfl) rfl ⟨rfl, (sE_idx rfl (sE_var rfl rfl rfl) (sE_neg (sE_cst rfl))), trivial⟩))) (sC_last2 (sC_not (sC_cmp2 rfl (sE_cst rfl) (sE_idx rfl (sE_var rfl rfl rfl) (sE_neg (sE_cst rfl))) (sE_bi tk.gok rfl rfl bi_len rfl rfl ⟨rfl, (sE_var rfl rfl rfl), trivial⟩))))) (sSs_cons sS_raise sSs_nil) sSs_nil) sSs_nil) sSs_nil) sSs_nil))) sSs_nil))
set_option maxRecDepth 100000 in
theorem sn_place_behind {G : GP} (tk : TabOK G tabL) : SndSs G (ccOf PySem.Challenge.pw_uf010001_01 t_place_behind) (bodyAt PySem.Challenge.pw_uf010001_01 14) d_place_behind.body :=
  (sSs_cons (sS_if (sC_cmp rfl (sE_idx rfl (sE_var rfl rfl rfl) (sE_cst rfl)) (sE_cst rfl)) (sSs_cons (sS_ret (sE_var rfl rfl rfl)) sSs_nil) sSs_nil) (sSs_cons (sS_if (sC_or (sC_cmp rfl (sE_idx rfl (sE_var rfl rfl rfl) (sE_cst rfl)) (sE_cst rfl)) (sC_last2 (sC_and (sC_cmp rfl (sE_idx rfl (sE_var rfl rfl rfl) (sE_cst rfl)) (sE_cst rfl)) (sC_last1 (sC_cmp rfl (sE_idx rfl (sE_var rfl rfl rfl) (sE_cst rfl)) (sE_cst rfl)))))) (sSs_cons (sS_ret (sE_idx rfl (sE_var rfl rfl rfl) (sE_neg (sE_cst rfl)))) sSs_nil) sSs_nil) (sSs_cons (sS_ret (sE_bin (sE_var rfl rfl rfl) (sE_cst rfl))) sSs_nil)))
set_option maxRecDepth 100000 in
theorem sn_result_of {G : GP} (tk : TabOK G tabL) : SndSs G (ccOf PySem.Challenge.pw_uf010001_01 t_result_of) (bodyAt PySem.Challenge.pw_uf010001_01 11) d_result_of.body :=
  (sSs_cons (sS_if (sC_cmp rfl (sE_var rfl rfl rfl) (sE_cst rfl)) (sSs_cons (sS_ret (sE_idx rfl (sE_var rfl rfl rfl) (sE_cst rfl))) sSs_nil) sSs_nil) (sSs_cons (sS_if (sC_cmp rfl (sE_var rfl rfl rfl) (sE_cst rfl)) (sSs_cons (sS_ret (sE_bin (sE_idx rfl (sE_var rfl rfl rfl) (sE_cst rfl)) (sE_idx rfl (sE_var rfl rfl rfl) (sE_cst rfl)))) sSs_nil) sSs_nil) (sSs_cons (sS_if (sC_cmp rfl (sE_var rfl rfl rfl) (sE_cst rfl)) (sSs_cons (sS_ret (sE_bin (sE_idx rfl (sE_var rfl rfl rfl) (sE_cst rfl)) (sE_idx rfl (sE_var rfl rfl rfl) (sE_cst rfl)))) sSs_nil) sSs_nil) (sSs_cons (sS_ret (sE_bi tk.gok rfl rfl bi_int rfl rfl ⟨rfl, (sE_cmp rfl (sE_idx rfl (sE_var rfl rfl rfl) (sE_cst rfl)) (sE_idx rfl (sE_var rfl rfl rfl) (sE_cst rfl))), trivial⟩)) sSs_nil))))
set_option maxRecDepth 100000 in
theorem sn_written_by {G : GP} (tk : TabOK G tabL) : SndSs G (ccOf PySem.Challenge.pw_uf010001_01 t_written_by) (bodyAt PySem.Challenge.pw_uf010001_01 13) d_written_by.body :=
  (sSs_cons (sS_if (sC_cmp rfl (sE_idx rfl (sE_var rfl rfl rfl) (sE_cst rfl)) (sE_tup ⟨rfl, (sE_cst rfl), rfl, (sE_cst rfl), rfl, (sE_cst rfl), rfl, (sE_cst rfl), trivial⟩ (Nat.le_of_ble_eq_true rfl))) (sSs_cons (sS_ret (sE_idx rfl (sE_var rfl rfl rfl) (sE_cst rfl))) sSs_nil) sSs_nil) (sSs_cons (sS_ret (sE_cst rfl)) sSs_nil))
set_option maxRecDepth 100000 in
theorem sn_run {G : GP} (tk : TabOK G tabL) : SndSs G (ccOf PySem.Challenge.pw_uf010001_01 t_run) (bodyAt PySem.Challenge.pw_uf010001_01 15) d_run.body :=
  (sSs_cons (sS_expr rfl (sE_callT tk rfl rfl (Nat.le_of_ble_eq_true rfl) rfl ⟨rfl, (sE_var rfl rfl rfl), trivial⟩)) (sSs_cons (sS_assign rfl rfl (lc_ok rfl) (sE_bi tk.gok rfl rfl bi_dict rfl rfl ⟨rfl, (sE_var rfl rfl rfl), trivial⟩)) (sSs_cons (sS_assign rfl rfl (lc_ok rfl) (sE_lst trivial)) (sSs_cons (sS_assign rfl rfl (lc_ok rfl) (sE_cst rfl)) (sSs_cons (sS_assign rfl rfl (lc_ok rfl) (sE_cst rfl)) (sSs_cons (sS_while (sC_cmp rfl (sE_var rfl rfl rfl) (sE_bi tk.gok rfl rfl bi_len rfl rfl ⟨rfl, (sE_var rfl rfl rfl), trivial⟩)) (sSs_cons (sS_if (sC_cmp rfl (sE_var rfl rfl rfl) (sE_var rfl rfl rfl)) (sSs_cons (sS_ret (sE_tup ⟨rfl, (sE_var rfl rfl rfl), rfl, (sE_cst rfl), rfl, (sE_var rfl rfl rfl), trivial⟩ (Nat.le_of_ble_eq_true rfl))) sSs_nil) sSs_nil) (sSs_cons (sS_assign rfl rfl (lc_ok rfl) (sE_idx rfl (sE_var rfl rfl rfl) (sE_var rfl rfl rfl))) (sSs_cons (sS_assignC rfl (compOk_ok rfl) (sI_e (sE_callT tk rfl rfl (Nat.le_of_ble_eq_true rfl) rfl ⟨rfl, (sE_var rfl rfl rfl), trivial⟩)) rfl (sE_ite (sC_isi (sE_isi tk.gok (sE_var rfl rfl rfl) rfl rfl rfl rfl rfl rfl)) (sE_mth m_get2 rfl rfl (Nat.le_of_ble_eq_true rfl) (sE_var rfl rfl rfl) ⟨rfl, (sE_var rfl rfl rfl), rfl, (sE_cst rfl), trivial⟩) (sE_var rfl rfl rfl)) rfl (lc_ok rfl)) (sSs_cons (sS_if (sC_isNone rfl (sE_callT tk rfl rfl (Nat.le_of_ble_eq_true rfl) rfl ⟨rfl, (sE_var rfl rfl rfl), trivial⟩)) (sSs_cons (sS_setIdx (sE_var rfl rfl rfl) (sE_callT tk rfl rfl (Nat.le_of_ble_eq_true rfl) rfl ⟨rfl, (sE_var rfl rfl rfl), trivial⟩) (sE_callT tk rfl rfl (Nat.le_of_ble_eq_true rfl) rfl ⟨rfl, (sE_idx rfl (sE_var rfl rfl rfl) (sE_cst rfl)), rfl, (sE_var rfl rfl rfl), trivial⟩)) sSs_nil) sSs_nil) (sSs_cons (sS_if (sC_cmp rfl (sE_idx rfl (sE_var rfl rfl rfl) (sE_cst rfl)) (sE_cst rfl)) (sSs_cons (sS_expr rfl (sE_mth m_append rfl rfl (Nat.le_of_ble_eq_true rfl) (sE_var rfl rfl rfl) ⟨rfl, (sE_idx rfl (sE_var rfl rfl rfl) (sE_cst rfl)), trivial⟩)) sSs_nil) sSs_nil) (sSs_cons (sS_assign rfl rfl (lc_ok rfl) (sE_callT tk rfl rfl (Nat.le_of_ble_eq_true rfl) rfl ⟨rfl, (sE_var rfl rfl rfl), rfl, (sE_var rfl rfl rfl), rfl, (sE_var rfl rfl rfl), rfl, (sE_bi tk.gok rfl rfl bi_len rfl rfl ⟨rfl, (sE_var rfl rfl rfl), trivial⟩), trivial⟩)) (sSs_cons (sS_assign rfl rfl (lc_ok rfl) (sE_bin (sE_var rfl rfl rfl) (sE_cst rfl))) sSs_nil)))))))) (sSs_cons (sS_ret (sE_tup ⟨rfl, (sE_var rfl rfl rfl), rfl, (sE_cst rfl), rfl, (sE_var rfl rfl rfl), trivial⟩ (Nat.le_of_ble_eq_true rfl))) sSs_nil)))))))
set_option maxRecDepth 100000 in
theorem sn_law {G : GP} (tk : TabOK G tabL) : SndSs G (ccOf PySem.Challenge.pw_uf010001_01 t_law) (bodyAt PySem.Challenge.pw_uf010001_01 32) d_law.body :=
  (sSs_cons (sS_assign rfl rfl (lc_ok rfl) (sE_callT tk rfl rfl (Nat.le_of_ble_eq_true rfl) rfl ⟨rfl, (sE_var rfl rfl rfl), trivial⟩)) (sSs_cons (sS_assign rfl rfl (lc_ok rfl) (sE_callT tk rfl rfl (Nat.le_of_ble_eq_true rfl) rfl ⟨rfl, (sE_var rfl rfl rfl), trivial⟩)) (sSs_cons (sS_assign rfl rfl (lc_ok rfl) (sE_bin (sE_callT tk rfl rfl (Nat.le_of_ble_eq_true rfl) rfl ⟨rfl, (sE_var rfl rfl rfl), rfl, (sE_cst rfl), trivial⟩) (sE_cst rfl))) (sSs_cons (sS_if (sC_cmp rfl (sE_bin (sE_bin (sE_callT tk rfl rfl (Nat.le_of_ble_eq_true rfl) rfl ⟨rfl, (sE_var rfl rfl rfl), rfl, (sE_cst rfl), trivial⟩) (sE_cst rfl)) (sE_cst rfl)) (sE_cst rfl)) (sSs_cons (sS_assign rfl rfl (lc_ok rfl) (sE_bin (sE_bin (sE_callT tk rfl rfl (Nat.le_of_ble_eq_true rfl) rfl ⟨rfl, (sE_var rfl rfl rfl), rfl, (sE_cst rfl), trivial⟩) (sE_cst rfl)) (sE_cst rfl))) sSs_nil) sSs_nil) (sSs_cons (sS_assign rfl rfl (lc_ok rfl) (sE_lst ⟨rfl, (sE_bi tk.gok rfl rfl bi_list rfl rfl ⟨rfl, (sE_var rfl rfl rfl), trivial⟩), rfl, (sE_bi tk.gok rfl rfl bi_dict rfl rfl ⟨rfl, (sE_var rfl rfl rfl), trivial⟩), trivial⟩)) (sSs_cons (sS_assign rfl rfl (lc_ok rfl) (sE_callT tk rfl rfl (Nat.le_of_ble_eq_true rfl) rfl ⟨rfl, (sE_idx rfl (sE_var rfl rfl rfl) (sE_cst rfl)), rfl, (sE_idx rfl (sE_var rfl rfl rfl) (sE_cst rfl)), rfl, (sE_var rfl rfl rfl), trivial⟩)) (sSs_cons (sS_if (sC_or (sC_cmp rfl (sE_idx rfl (sE_var rfl rfl rfl) (sE_cst rfl)) (sE_var rfl rfl rfl)) (sC_last2 (sC_cmp rfl (sE_idx rfl (sE_var rfl rfl rfl) (sE_cst rfl)) (sE_var rfl rfl rfl)))) (sSs_cons (sS_ret (sE_cst rfl)) sSs_nil) sSs_nil) (sSs_cons (sS_ret (sE_callT tk rfl rfl (Nat.le_of_ble_eq_true rfl) rfl ⟨rfl, (sE_var rfl rfl rfl), rfl, (sE_callT tk rfl rfl (Nat.le_of_ble_eq_true rfl) rfl ⟨rfl, (sE_var rfl rfl rfl), rfl, (sE_var rfl rfl rfl), rfl, (sE_var rfl rfl rfl), trivial⟩), trivial⟩)) sSs_nil))))))))
theorem oraL {Φ : CP} (H : ∀ f ∈ fsL, Ora Φ f.id f.d) : ∀ f ∈ ids1, Ora Φ f (defs1 f) := by
  have H' : ∀ (i : Nat) f, fsL[i]? = some f → Ora Φ f.id f.d := fun i f e => H f (List.mem_of_getElem? e)
  intro f hf
  rcases List.mem_cons.mp hf with rfl | hf
  · exact H' 14 _ rfl
  rcases List.mem_cons.mp hf with rfl | hf
  · exact H' 13 _ rfl
  rcases List.mem_cons.mp hf with rfl | hf
  · exact H' 15 _ rfl
  rcases List.mem_cons.mp hf with rfl | hf
  · exact H' 16 _ rfl
  rcases List.mem_cons.mp hf with rfl | hf
  · exact H' 18 _ rfl
  rcases List.mem_cons.mp hf with rfl | hf
  · exact H' 12 _ rfl
  rcases List.mem_cons.mp hf with rfl | hf
  · exact H' 19 _ rfl
  rcases List.mem_cons.mp hf with rfl | hf
  · exact H' 17 _ rfl
  rcases List.mem_cons.mp hf with rfl | hf
  · exact H' 20 _ rfl
  rcases List.mem_cons.mp hf with rfl | hf
  · exact H' 0 _ rfl
  rcases List.mem_cons.mp hf with rfl | hf
  · exact H' 9 _ rfl
  rcases List.mem_cons.mp hf with rfl | hf
  · exact H' 1 _ rfl
  rcases List.mem_cons.mp hf with rfl | hf
  · exact H' 2 _ rfl
  rcases List.mem_cons.mp hf with rfl | hf
  · exact H' 3 _ rfl
  rcases List.mem_cons.mp hf with rfl | hf
  · exact H' 4 _ rfl
  rcases List.mem_cons.mp hf with rfl | hf
  · exact H' 5 _ rfl
  rcases List.mem_cons.mp hf with rfl | hf
  · exact H' 6 _ rfl
  rcases List.mem_cons.mp hf with rfl | hf
  · exact H' 11 _ rfl
  rcases List.mem_cons.mp hf with rfl | hf
  · exact H' 7 _ rfl
  rcases List.mem_cons.mp hf with rfl | hf
  · exact H' 8 _ rfl
  rcases List.mem_cons.mp hf with rfl | hf
  · exact H' 10 _ rfl
  rcases List.mem_cons.mp hf with rfl | hf
  · exact H' 21 _ rfl
  cases hf
end Mine
open PySem PySem.W PyProof.Rows Mine
set_option maxRecDepth 100000 in
set_option maxHeartbeats 8000000 in
theorem PySem.Challenge.cw_uf010001_01_holds : PySem.Challenge.rw_uf010001_01.Holds := by
  w_on; o_law; o_head shHook; (case hw => w_witness2)
  intro w s₀ s₁ mg mb G Y fa o pm cd doc dV kV ho hd hcd hD hmg hg args vals as hpre hlay hrd hwl hlo
  refine Ground.open G ?_
  intro T B D TE TW
  clear hd hcd hD G B D TE TW
  obtain ⟨hsh, hbg⟩ := shapes_rel (G := gOf PySem.Challenge.rw_uf010001_01.row.prog w s₁.heap mg fsL [0, 1]) Y T.g
  wrow_args hpre hlay hrd hwl hlo
  rename_i is _ _ _ _ _ _ _ la vs _ hL _ w1 _ hI _ hc _
  have h63 : is.length ≤ 63 := by omega
  obtain ⟨ws, hw⟩ := well_list w1
  have hla := list_at hL hw
  have hgc : ∀ k ∈ [0, 1], ∃ v, mg (gcName k) = some v ∧ DRel (gOf PySem.Challenge.rw_uf010001_01.row.prog w s₁.heap mg fsL [0, 1]) (fun a => s₁.heap.get? a) (gcD k) v := by
    intro k hk
    rcases List.mem_cons.mp hk with rfl | hk
    · exact letters_rel T (by rfl)
    rcases List.mem_cons.mp hk with rfl | hk
    · exact hsh
    cases hk
  have gl := glue (pr := PySem.Challenge.rw_uf010001_01.row.prog) (w := w) T (fs := fsL) (gcs := [0, 1]) (by decide +kernel) (by decide +kernel) hgc
    (List.forall_mem_cons.mpr ⟨⟨by rfl, by decide +kernel, sn__law_cell_at⟩, List.forall_mem_cons.mpr ⟨⟨by rfl, by decide +kernel, sn__law_mixed⟩, List.forall_mem_cons.mpr ⟨⟨by rfl, by decide +kernel, sn__law_names_by⟩, List.forall_mem_cons.mpr ⟨⟨by rfl, by decide +kernel, sn__law_operand_by⟩, List.forall_mem_cons.mpr ⟨⟨by rfl, by decide +kernel, sn__law_row_by⟩, List.forall_mem_cons.mpr ⟨⟨by rfl, by decide +kernel, sn__law_size_by⟩, List.forall_mem_cons.mpr ⟨⟨by rfl, by decide +kernel, sn__law_rows_by⟩, List.forall_mem_cons.mpr ⟨⟨by rfl, by decide +kernel, sn__law_asks⟩, List.forall_mem_cons.mpr ⟨⟨by rfl, by decide +kernel, sn__law_run⟩, List.forall_mem_cons.mpr ⟨⟨by rfl, by decide +kernel, sn__law_whole⟩, List.forall_mem_cons.mpr ⟨⟨by rfl, by decide +kernel, sn__law_told⟩, List.forall_mem_cons.mpr ⟨⟨by rfl, by decide +kernel, sn__law_values_by⟩, List.forall_mem_cons.mpr ⟨⟨by rfl, by decide +kernel, sn_asked_of⟩, List.forall_mem_cons.mpr ⟨⟨by rfl, by decide +kernel, sn_is_name⟩, List.forall_mem_cons.mpr ⟨⟨by rfl, by decide +kernel, sn_is_whole⟩, List.forall_mem_cons.mpr ⟨⟨by rfl, by decide +kernel, sn_is_row⟩, List.forall_mem_cons.mpr ⟨⟨by rfl, by decide +kernel, sn_need_rows⟩, List.forall_mem_cons.mpr ⟨⟨by rfl, by decide +kernel, sn_place_behind⟩, List.forall_mem_cons.mpr ⟨⟨by rfl, by decide +kernel, sn_result_of⟩, List.forall_mem_cons.mpr ⟨⟨by rfl, by decide +kernel, sn_written_by⟩, List.forall_mem_cons.mpr ⟨⟨by rfl, by decide +kernel, sn_run⟩, List.forall_mem_cons.mpr ⟨⟨by rfl, by decide +kernel, sn_law⟩, fun _ h => nomatch h⟩⟩⟩⟩⟩⟩⟩⟩⟩⟩⟩⟩⟩⟩⟩⟩⟩⟩⟩⟩⟩⟩)
  have law : ∀ (Q : KV) (X : XP), Q (.d (.bool true)) (fun _ => none) → CallOK (gOf PySem.Challenge.rw_uf010001_01.row.prog w s₁.heap mg fsL [0, 1]) f_law [scr is] (fun _ => none) Q X := fun Q X q => c_law1 (Φ := CallOK (gOf PySem.Challenge.rw_uf010001_01.row.prog w s₁.heap mg fsL [0, 1])) (oraL gl) q
  have hfe : (gOf PySem.Challenge.rw_uf010001_01.row.prog w s₁.heap mg fsL [0, 1]).fe f_law = some (feOf mg t_law) := fe_find (f := t_law) (by decide +kernel) (List.mem_of_getElem? (i := 21) rfl)
  have hmg' : mg (Str.ofString "law") = some (.ref fa) := hmg
  have hfa : (feOf mg t_law).addr = fa := by
    show addrOf mg (Str.ofString "law") = fa
    unfold addrOf
    rw [hmg']
  have hR : Room callerA (feOf mg t_law).ht := ⟨rfl, by show callerA.depth + 20 ≤ 900; decide, by show callerA.units + 16 * 20 ≤ 9000; decide⟩
  clear gl hgc T hmg hsh Y
  refine enter_call ?_
  refine enter hfe hfa hR hla hI h63 hbg law ?_
  exact fun s' hk hos hgens => law_good PySem.Challenge.rw_uf010001_01 hg hk hos hgens
