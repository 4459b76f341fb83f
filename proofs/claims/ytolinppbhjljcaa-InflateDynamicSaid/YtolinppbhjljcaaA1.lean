/- Part A1. -/
import GoSem.Dispatch
import Derived.Control
import Derived.Below
import Derived.Laws.IdiomCopy
import Derived.Laws.NewBlocks
import Derived.IntWalk
import Derived.Orders
import Derived.LoopN
namespace Ab
open Go
inductive AV where
  | bot
  | bool (b : Bool)
  | int (k : IntKind) (n : Int)
  | str (s : ByteArray)
  | nilp
  | pobj (id off : Nat)
  | pimm (cells : List AV) (off : Nat)
  | nils
  | sobj (id off len sz : Nat)
  | simm (tight : Bool) (cells : List AV) (off len sz : Nat)
  | fn (f : Nat) (first captured : List AV)
  | nilf
  | iface (t : Nat) (v : AV)
  | nili
  | agg (cs : List AV)
  | tup (vs : List AV)
  deriving Inhabited
def AV.cells : AV → List AV
  | .agg cs => cs
  | v => [v]
def AV.sc : AV → Bool
  | .bot | .agg _ | .tup _ => false
  | _ => true
def AV.allsc : List AV → Bool
  | [] => true
  | v :: r => v.sc && AV.allsc r
mutual
def AV.beq : AV → AV → Bool
  | .bot, .bot => true
  | .bool a, .bool b => a == b
  | .int j a, .int k b => (j == k) && (a == b)
  | .str a, .str b => a == b
  | .nilp, .nilp => true
  | .pobj i o, .pobj j p => (i == j) && (o == p)
  | .pimm c o, .pimm d p => AV.beqs c d && (o == p)
  | .nils, .nils => true
  | .sobj i o l s, .sobj j p m t => (i == j) && ((o == p) && ((l == m) && (s == t)))
  | .simm x c o l s, .simm y d p m t => (x == y) && (AV.beqs c d && ((o == p) && ((l == m) && (s == t))))
  | .fn f a b, .fn g c d => (f == g) && (AV.beqs a c && AV.beqs b d)
  | .nilf, .nilf => true
  | .iface t v, .iface u x => (t == u) && AV.beq v x
  | .nili, .nili => true
  | .agg a, .agg b => AV.beqs a b
  | .tup a, .tup b => AV.beqs a b
  | _, _ => false
def AV.beqs : List AV → List AV → Bool
  | [], [] => true
  | a :: x, b :: y => AV.beq a b && AV.beqs x y
  | _, _ => false
end
structure H where
  next : Nat
  floor : Nat
  objs : List (Option (List AV))
  len : objs.length = next
def H.get (h : H) (i : Nat) : Option (List AV) := if i < h.next then (h.objs[h.next - 1 - i]?).getD none else none
def forceL {α : Type} : List AV → (List AV → α) → α
  | [], k => k []
  | x :: r, k => forceL r fun ys => k (x :: ys)
theorem forceL_eq {α : Type} : ∀ (l : List AV) (k : List AV → α), forceL l k = k l
  | [], _ => rfl
  | x :: r, k => by rw [forceL, forceL_eq r]
def H.alloc0 (h : H) (cs : List AV) : H where
  next := h.next + 1
  floor := h.floor
  objs := some cs :: h.objs
  len := congrArg (· + 1) h.len
def H.set0 (h : H) (id : Nat) (cs : List AV) : H where
  next := h.next
  floor := h.floor
  objs := if (h.get id).isSome = true then h.objs.set (h.next - 1 - id) (some cs) else h.objs
  len := by split <;> simp [h.len]
def H.del (h : H) (id : Nat) : H where
  next := h.next
  floor := h.floor
  objs := if (h.get id).isSome = true then h.objs.set (h.next - 1 - id) none else h.objs
  len := by split <;> simp [h.len]
def H.alloc (h : H) (cs : List AV) : H := forceL cs h.alloc0
def H.set (h : H) (id : Nat) (cs : List AV) : H := forceL cs (h.set0 id)
theorem H.alloc_eq (h : H) (cs : List AV) : h.alloc cs = h.alloc0 cs := forceL_eq cs _
theorem H.set_eq (h : H) (id : Nat) (cs : List AV) : h.set id cs = h.set0 id cs := forceL_eq cs _
def H.fence (h : H) : H := { h with floor := h.next }
def H.empty : H := { next := 0, floor := 0, objs := [], len := rfl }
theorem H.lt (h : H) (id : Nat) (cs : List AV) (hg : h.get id = some cs) : id < h.next := by
  unfold H.get at hg
  split at hg
  · assumption
  · cases hg
@[simp] theorem H.next_alloc (h : H) (cs : List AV) : (h.alloc cs).next = h.next + 1 := by rw [H.alloc_eq]; rfl
@[simp] theorem H.next_set (h : H) (id : Nat) (cs : List AV) : (h.set id cs).next = h.next := by rw [H.set_eq]; rfl
@[simp] theorem H.next_del (h : H) (id : Nat) : (h.del id).next = h.next := rfl
@[simp] theorem H.next_fence (h : H) : h.fence.next = h.next := rfl
@[simp] theorem H.floor_alloc (h : H) (cs : List AV) : (h.alloc cs).floor = h.floor := by rw [H.alloc_eq]; rfl
@[simp] theorem H.floor_set (h : H) (id : Nat) (cs : List AV) : (h.set id cs).floor = h.floor := by rw [H.set_eq]; rfl
@[simp] theorem H.floor_del (h : H) (id : Nat) : (h.del id).floor = h.floor := rfl
@[simp] theorem H.floor_fence (h : H) : h.fence.floor = h.next := rfl
@[simp] theorem H.get_fence (h : H) (i : Nat) : h.fence.get i = h.get i := rfl
theorem H.get_alloc (h : H) (cs : List AV) (i : Nat) : (h.alloc cs).get i = if i = h.next then some cs else h.get i := by
  rw [H.alloc_eq]
  show (if i < h.next + 1 then ((some cs :: h.objs)[h.next + 1 - 1 - i]?).getD none else none) = if i = h.next then some cs else (if i < h.next then (h.objs[h.next - 1 - i]?).getD none else none)
  by_cases e : i = h.next
  · subst e
    rw [if_pos (Nat.lt_succ_self _), if_pos rfl, Nat.add_sub_cancel, Nat.sub_self]; rfl
  · rw [if_neg e]
    by_cases hi : i < h.next
    · rw [if_pos (by omega), if_pos hi]
      have : h.next + 1 - 1 - i = (h.next - 1 - i) + 1 := by omega
      rw [this]; rfl
    · rw [if_neg (by omega), if_neg hi]
theorem H.pos_lt {h : H} {id : Nat} (hi : id < h.next) : h.next - 1 - id < h.objs.length := by rw [h.len]; omega
theorem H.some_lt {h : H} {id : Nat} (hs : (h.get id).isSome = true) : id < h.next := by
  obtain ⟨cs, hc⟩ := Option.isSome_iff_exists.1 hs
  exact h.lt id cs hc
theorem H.get_set (h : H) (id : Nat) (cs : List AV) (i : Nat) : (h.set id cs).get i = if i = id then (h.get id).map (fun _ => cs) else h.get i := by
  rw [H.set_eq]
  by_cases hs : (h.get id).isSome = true
  · have hid := H.some_lt hs
    obtain ⟨d, hd⟩ := Option.isSome_iff_exists.1 hs
    by_cases e : i = id
    · subst e
      rw [if_pos rfl, hd]
      unfold H.get H.set0
      simp only [if_pos hs, if_pos hid, List.getElem?_set_self (H.pos_lt hid)]
      rfl
    · rw [if_neg e]
      unfold H.get H.set0
      simp only [if_pos hs]
      by_cases hi : i < h.next
      · rw [if_pos hi, if_pos hi, List.getElem?_set_ne (by omega)]
      · rw [if_neg hi, if_neg hi]
  · have hn : h.get id = none := by cases hg : h.get id with | none => rfl | some d => rw [hg] at hs; exact absurd rfl hs
    have : (h.set0 id cs).get i = h.get i := by unfold H.get H.set0; simp only [if_neg hs]
    rw [this]
    by_cases e : i = id
    · subst e; rw [if_pos rfl, hn]; rfl
    · rw [if_neg e]
theorem H.get_del (h : H) (id : Nat) (i : Nat) : (h.del id).get i = if i = id then none else h.get i := by
  by_cases hs : (h.get id).isSome = true
  · have hid := H.some_lt hs
    by_cases e : i = id
    · subst e
      rw [if_pos rfl]
      unfold H.get H.del
      simp only [if_pos hs, if_pos hid, List.getElem?_set_self (H.pos_lt hid)]
      rfl
    · rw [if_neg e]
      unfold H.get H.del
      simp only [if_pos hs]
      by_cases hi : i < h.next
      · rw [if_pos hi, if_pos hi, List.getElem?_set_ne (by omega)]
      · rw [if_neg hi, if_neg hi]
  · have hn : h.get id = none := by cases hg : h.get id with | none => rfl | some d => rw [hg] at hs; exact absurd rfl hs
    have : (h.del id).get i = h.get i := by unfold H.get H.del; simp only [if_neg hs]
    rw [this]
    by_cases e : i = id
    · subst e; rw [if_pos rfl, hn]
    · rw [if_neg e]
theorem H.eq_of {a b : H} (h1 : a.next = b.next) (h2 : a.floor = b.floor) (h3 : a.objs = b.objs) : a = b := by
  cases a; cases b; simp_all
theorem H.set_set (h : H) (id : Nat) (a b : List AV) : (h.set id a).set id b = h.set id b := by
  have e : ((h.set id a).get id).isSome = (h.get id).isSome := by rw [H.get_set, if_pos rfl]; cases h.get id <;> rfl
  rw [H.set_eq h id a] at e ⊢
  rw [H.set_eq, H.set_eq]
  refine H.eq_of rfl rfl ?_
  show (if ((h.set0 id a).get id).isSome = true then ((h.set0 id a).objs).set (h.next - 1 - id) (some b) else (h.set0 id a).objs) = if (h.get id).isSome = true then h.objs.set (h.next - 1 - id) (some b) else h.objs
  rw [e]
  unfold H.set0
  by_cases hs : (h.get id).isSome = true
  · simp only [if_pos hs, List.set_set]
  · simp only [if_neg hs]
theorem H.set_same {h : H} {id : Nat} {a : List AV} (hg : h.get id = some a) : h.set id a = h := by
  rw [H.set_eq]
  refine H.eq_of rfl rfl ?_
  have hs : (h.get id).isSome = true := by rw [hg]; rfl
  have hid := H.some_lt hs
  show (if (h.get id).isSome = true then h.objs.set (h.next - 1 - id) (some a) else h.objs) = h.objs
  rw [if_pos hs]
  unfold H.get at hg
  rw [if_pos hid] at hg
  have hp := H.pos_lt hid
  rw [List.getElem?_eq_getElem hp, Option.getD_some] at hg
  rw [← hg]
  exact List.set_getElem_self hp
inductive X where
  | t (n : Nat)
  | c (v : AV)
  deriving Inhabited
inductive Bo where
  | add | sub | mul | quo | rem | and | or | xor | andNot | shl | shr | eql | neq | lss | leq | gtr | geq
  deriving DecidableEq, Inhabited
inductive AOp where
  | mv (x : X)
  | pick (c a b : X)
  | alloc (zero : List AV)
  | box (n : Nat) (x : X)
  | build (zero : List AV) (parts : List (Nat × Nat × X))
  | bslice (sz len : Nat) (zero : List AV) (parts : List (Nat × X))
  | load (agg : Bool) (n : Nat) (p : X)
  | store (n : Nat) (p v : X)
  | nilc (x : X)
  | bin (o : Bo) (x y : X)
  | eqn (k : Nat) (neg : Bool) (x y : X)
  | eqb (neg : Bool) (x y : X)
  | eqs (neg : Bool) (n : Nat) (x y : X)
  | not (x : X)
  | neg (x : X)
  | inv (x : X)
  | conv (k : IntKind) (x : X)
  | same (x : X)
  | b2s (x : X)
  | s2b (x : X)
  | mkif (t : Nat) (x : X)
  | mkfn (f : Nat) (first captured : List X)
  | mksl (sz bytes : Nat) (zero : List AV) (l c : X)
  | sls (x : X) (lo hi : Option X)
  | sl (sz : Nat) (x : X) (lo hi mx : Option X)
  | sla (n sz : Nat) (x : X) (lo hi : Option X)
  | fadr (off : Nat) (x : X)
  | fld (agg : Bool) (off n : Nat) (x : X)
  | iadr (sz : Nat) (x i : X)
  | iadra (n sz : Nat) (x i : X)
  | idxs (x i : X)
  | idxa (agg : Bool) (n sz : Nat) (x i : X)
  | extr (x : X) (i : Nat)
  | tass (x : X) (t : Nat)
  | call (f : X) (args : List X)
  | inv2 (r : X) (name : String) (args : List X)
  | app (sz bytes : Nat) (a b : X)
  | appz (sz bytes : Nat) (zero : List AV) (a n : X)
  | pan
  | len (str : Bool) (x : X)
  | cap (x : X)
  | copy (sz : Nat) (a b : X)
  | clear (sz : Nat) (zero : List AV) (a : X)
  | mn (xs : List X)
  | mx (xs : List X)
  deriving Inhabited
structure AOper where
  dst : Option Nat
  op : AOp
  guard : Option (Nat × Bool)
  deriving Inhabited
inductive ACode where
  | skip
  | reg (ops : List AOper) (keep : List Nat)
  | dreg (ord : List Nat) (ops : List AOper) (fl : List (Nat × List Nat)) (keep : List Nat)
  | seq (a b : ACode)
  | cond (x : X) (a b : ACode) (keep : List Nat)
  | block (id : Nat) (c : ACode) (keep : List Nat)
  | loop (keep : List Nat) (c : ACode)
  | exit (id : Nat)
  | ret
  deriving Inhabited
inductive RV where
  | tmp (t : Nat)
  | cell (t : Nat) (agg : Bool) (n : Nat)
  deriving Inhabited
structure AFunc where
  np : Nat
  res : List RV
  pure : Bool
  body : ACode
  deriving Inhabited
abbrev Env := List (Nat × AV)
def look : Env → Nat → AV
  | [], _ => .bot
  | (s, v) :: r, t => if s = t then v else look r t
def X.ev (e : Env) : X → AV
  | .t n => look e n
  | .c v => v
def restr (e : Env) (keep : List Nat) : Env := keep.map fun t => (t, look e t)
def setFrom (cs : List AV) (off : Nat) : List AV → List AV
  | [] => cs
  | v :: r => setFrom (cs.set off v) (off + 1) r
def rdc (agg : Bool) (n : Nat) (cs : List AV) (off : Nat) : Option AV :=
  if agg then (if off + n ≤ cs.length then some (.agg ((cs.drop off).take n)) else none) else cs[off]?
def aload (agg : Bool) (n : Nat) (p : AV) (h : H) : Option AV :=
  match p with
  | .pobj id off => (h.get id).bind fun cs => rdc agg n cs off
  | .pimm cs off => rdc agg n cs off
  | _ => none
def astore (n : Nat) (p v : AV) (h : H) : Option H :=
  match p with
  | .pobj id off => (h.get id).bind fun cs =>
    if h.floor ≤ id ∧ v.cells.length = n ∧ off + n ≤ cs.length ∧ AV.allsc v.cells = true then some (h.set id (setFrom cs off v.cells)) else none
  | _ => none
def fillA : List AV → List (Nat × Nat × AV) → Option (List AV)
  | cs, [] => some cs
  | cs, (off, size, v) :: r => if v.cells.length = size ∧ off + size ≤ cs.length ∧ AV.allsc v.cells = true then fillA (setFrom cs off v.cells) r else none
def bits (o : Bo) (k : IntKind) (x y : Int) : Int :=
  let a := BitVec.ofInt k.bits x
  let b := BitVec.ofInt k.bits y
  match o with
  | .and => k.wrap (a &&& b).toNat
  | .or => k.wrap (a ||| b).toNat
  | .xor => k.wrap (a ^^^ b).toNat
  | _ => k.wrap (a &&& ~~~b).toNat
def binInt (o : Bo) (k : IntKind) (x y : Int) : Option AV :=
  match o with
  | .add => some (.int k (k.wrap (x + y)))
  | .sub => some (.int k (k.wrap (x - y)))
  | .mul => some (.int k (k.wrap (x * y)))
  | .quo => if y = 0 then none else some (.int k (k.wrap (x.tdiv y)))
  | .rem => if y = 0 then none else some (.int k (x.tmod y))
  | .and | .or | .xor | .andNot => some (.int k (bits o k x y))
  | .eql => some (.bool (x == y))
  | .neq => some (.bool (x != y))
  | .lss => some (.bool (x < y))
  | .leq => some (.bool (x ≤ y))
  | .gtr => some (.bool (x > y))
  | .geq => some (.bool (x ≥ y))
  | .shl | .shr => none
def binStr (o : Bo) (x y : ByteArray) : Option AV :=
  match o with
  | .add => if x.size + y.size ≤ 9223372036854775807 then some (.str (x ++ y)) else none
  | .eql => some (.bool (x.toList == y.toList))
  | .neq => some (.bool (!(x.toList == y.toList)))
  | .lss => some (.bool (Op.bytesLess x.toList y.toList))
  | .leq => some (.bool (Op.bytesLess x.toList y.toList || x.toList == y.toList))
  | .gtr => some (.bool (!(Op.bytesLess x.toList y.toList || x.toList == y.toList)))
  | .geq => some (.bool (!(Op.bytesLess x.toList y.toList)))
  | _ => none
def shft (o : Bo) (k : IntKind) (x y : Int) : Option AV :=
  if y < 0 then none else
  match o with
  | .shl => some (.int k (k.wrap (x * 2 ^ (min y.toNat k.bits))))
  | .shr => some (.int k (x.fdiv (2 ^ (min y.toNat k.bits))))
  | _ => none
def abin (o : Bo) (x y : AV) : Option AV :=
  match o, x, y with
  | .shl, .int k a, .int _ b => shft .shl k a b
  | .shr, .int k a, .int _ b => shft .shr k a b
  | o, .int k a, .int j b => if k = j then binInt o k a b else none
  | o, .str a, .str b => binStr o a b
  | _, _, _ => none
def aeqn (k : Nat) (x y : AV) : Option Bool :=
  match k, x, y with
  | 0, .nilp, .nilp => some true
  | 0, .nilp, .pobj _ _ => some false
  | 0, .nilp, .pimm _ _ => some false
  | 0, .pobj _ _, .nilp => some false
  | 0, .pimm _ _, .nilp => some false
  | 1, .nils, .nils => some true
  | 1, .nils, .sobj .. => some false
  | 1, .nils, .simm .. => some false
  | 1, .sobj .., .nils => some false
  | 1, .simm .., .nils => some false
  | 2, .nilf, .nilf => some true
  | 2, .nilf, .fn .. => some false
  | 2, .fn .., .nilf => some false
  | 3, .nili, .nili => some true
  | 3, .nili, .iface .. => some false
  | 3, .iface .., .nili => some false
  | _, _, _ => none
def aeqCell (x y : AV) : Option Bool :=
  match x, y with
  | .int j a, .int k b => if j = k then some (a == b) else none
  | .str a, .str b => some (a == b)
  | .bool a, .bool b => some (a == b)
  | _, _ => none
def aeqCells : List AV → List AV → Option Bool
  | [], [] => some true
  | a :: x, b :: y => (aeqCell a b).bind fun e => if e then aeqCells x y else some false
  | _, _ => none
def asI : AV → Option Int
  | .int _ n => some n
  | _ => none
def sbound (v : AV) (y : Nat) : Option Nat := (asI v).bind fun i => if 0 ≤ i ∧ i ≤ y then some i.toNat else none
def osbound (v : Option AV) (dflt y : Nat) : Option Nat := match v with | none => some dflt | some v => sbound v y
def asl (h : H) (sz : Nat) (x : AV) (lo hi mx : Option AV) : Option AV :=
  match mx with
  | none =>
    match x with
    | .nils => (osbound hi 0 0).bind fun hh => (osbound lo 0 hh).bind fun _ => some .nils
    | .sobj id off len s => if s = sz ∧ 0 < sz then (h.get id).bind fun cs =>
        if off ≤ cs.length ∧ len ≤ (cs.length - off) / sz then (osbound hi len ((cs.length - off) / sz)).bind fun hh => (osbound lo 0 hh).bind fun l => some (.sobj id (off + l * sz) (hh - l) sz) else none
      else none
    | .simm t cells off len s => if s = sz ∧ 0 < sz then
        if off ≤ cells.length ∧ len ≤ (cells.length - off) / sz then (osbound hi len ((cells.length - off) / sz)).bind fun hh => (osbound lo 0 hh).bind fun l => some (.simm t cells (off + l * sz) (hh - l) sz) else none
      else none
    | _ => none
  | some m =>
    match asI m, hi.bind asI, lo with
    | some 0, some 0, none =>
      match x with
      | .nils => some .nils
      | .sobj .. => some (.simm true [] 0 0 sz)
      | .simm .. => some (.simm true [] 0 0 sz)
      | _ => none
    | _, _, _ => none
def asla (h : H) (n sz : Nat) (x : AV) (lo hi : Option AV) : Option AV :=
  match x with
  | .pobj id off => if 0 < sz then (h.get id).bind fun cs => if off + n * sz = cs.length then
      (osbound hi n n).bind fun hh => (osbound lo 0 hh).bind fun l => some (.sobj id (off + l * sz) (hh - l) sz) else none else none
  | _ => none
def asls (x : AV) (lo hi : Option AV) : Option AV :=
  match x with
  | .str s => (osbound hi s.size s.size).bind fun hh => (osbound lo 0 hh).bind fun l => some (.str (s.extract l hh))
  | _ => none
def aidx (i : AV) (n : Nat) : Option Nat := (asI i).bind fun i => if 0 ≤ i ∧ i < n then some i.toNat else none
def aiadr (sz : Nat) (x i : AV) : Option AV :=
  match x with
  | .sobj id off len s => if s = sz then (aidx i len).bind fun j => some (.pobj id (off + j * sz)) else none
  | .simm _ cells off len s => if s = sz then (aidx i len).bind fun j => some (.pimm cells (off + j * sz)) else none
  | _ => none
def aiadra (n sz : Nat) (x i : AV) : Option AV :=
  match x with
  | .pobj id off => (aidx i n).bind fun j => some (.pobj id (off + j * sz))
  | .pimm cells off => (aidx i n).bind fun j => some (.pimm cells (off + j * sz))
  | _ => none
def afadr (off : Nat) (x : AV) : Option AV :=
  match x with
  | .pobj id o => some (.pobj id (o + off))
  | .pimm cells o => some (.pimm cells (o + off))
  | _ => none
def aidxs (x i : AV) : Option AV :=
  match x with
  | .str s => (aidx i s.size).bind fun j => (s[j]?).bind fun b => some (.int .u8 b.toNat)
  | _ => none
def aidxa (agg : Bool) (n sz : Nat) (x i : AV) : Option AV :=
  match x with
  | .agg cs => (aidx i n).bind fun j => rdc agg sz cs (j * sz)
  | _ => none
def srcCells (h : H) (sz : Nat) (x : AV) : Option (Nat × List AV) :=
  match x with
  | .nils => some (0, [])
  | .str s => if sz = 1 then some (s.size, s.data.toList.map fun b => .int .u8 b.toNat) else none
  | .sobj id off len s => if s = sz then (h.get id).bind fun cs => if off + len * sz ≤ cs.length then some (len, (cs.drop off).take (len * sz)) else none else none
  | .simm _ cells off len s => if s = sz then (if off + len * sz ≤ cells.length then some (len, (cells.drop off).take (len * sz)) else none) else none
  | _ => none
def repl : Nat → List AV → List AV
  | 0, _ => []
  | n + 1, z => z ++ repl n z
def roomy (bytes need : Nat) : Bool := decide (1 ≤ bytes ∧ (need + need / 4 + 512) * bytes ≤ 281474976710656)
def aappc (h : H) (sz bytes : Nat) (a : AV) (n : Nat) (bs : List AV) : Option (AV × H) :=
  if n = 0 then (match a with | .nils | .sobj .. | .simm .. => some (a, h) | _ => none)
  else if AV.allsc bs = false ∨ sz = 0 then none
  else match a with
  | .nils => if roomy bytes n then some (.sobj h.next 0 n sz, h.alloc bs) else none
  | .simm true cells off len s => if s = sz ∧ off + len * sz = cells.length ∧ AV.allsc (cells.drop off) = true ∧ roomy bytes (len + n) = true then some (.sobj h.next 0 (len + n) sz, h.alloc (cells.drop off ++ bs)) else none
  | .sobj id off len s => if s = sz ∧ h.floor ≤ id then (h.get id).bind fun cs =>
      if off + (len + n) * sz ≤ cs.length then some (.sobj id off (len + n) sz, h.set id (setFrom cs (off + len * sz) bs))
      else if off + len * sz = cs.length ∧ roomy bytes (len + n) = true then some (.sobj h.next 0 (len + n) sz, (h.del id).alloc (cs.drop off ++ bs))
      else none
    else none
  | _ => none
def aapp (h : H) (sz bytes : Nat) (a b : AV) : Option (AV × H) := (srcCells h sz b).bind fun r => aappc h sz bytes a r.1 r.2
def aappz (h : H) (sz bytes : Nat) (zero : List AV) (a n : AV) : Option (AV × H) :=
  match a, n with
  | .nils, .int .i64 n => if 0 < n ∧ n ≤ 281474976710656 ∧ n * bytes ≤ 281474976710656 ∧ zero.length = sz ∧ 0 < sz ∧ AV.allsc zero = true ∧ roomy bytes n.toNat = true then some (.sobj h.next 0 n.toNat sz, h.alloc (repl n.toNat zero)) else none
  | _, _ => none
def acopy (h : H) (sz : Nat) (a b : AV) : Option (AV × H) :=
  (srcCells h sz b).bind fun (n, bs) =>
  match a with
  | .nils => some (.int .i64 0, h)
  | .sobj id off len s => if s = sz ∧ h.floor ≤ id ∧ AV.allsc bs = true then (h.get id).bind fun cs =>
      if off + len * sz ≤ cs.length then some (.int .i64 (Nat.min n len), h.set id (setFrom cs off (bs.take (Nat.min n len * sz)))) else none else none
  | _ => none
def aclear (h : H) (sz : Nat) (zero : List AV) (a : AV) : Option H :=
  match a with
  | .nils => some h
  | .sobj id off len s => if len = 0 then some h else if s = sz ∧ h.floor ≤ id ∧ zero.length = sz ∧ AV.allsc zero = true then (h.get id).bind fun cs =>
      if off + len * sz ≤ cs.length then some (h.set id (setFrom cs off (repl len zero))) else none else none
  | _ => none
def alen (str : Bool) (x : AV) : Option AV :=
  match str, x with
  | true, .str s => some (.int .i64 s.size)
  | false, .nils => some (.int .i64 0)
  | false, .sobj _ _ len _ => some (.int .i64 len)
  | false, .simm _ _ _ len _ => some (.int .i64 len)
  | _, _ => none
def acap (x : AV) : Option AV :=
  match x with
  | .nils => some (.int .i64 0)
  | _ => none
def fold2 (f : AV → AV → Option AV) : AV → List AV → Option AV
  | v, [] => some v
  | v, x :: r => (f v x).bind fun w => fold2 f w r
def amin2 (x y : AV) : Option AV := match x, y with | .int k a, .int _ b => some (.int k (if b < a then b else a)) | _, _ => none
def amax2 (x y : AV) : Option AV := match x, y with | .int k a, .int _ b => some (.int k (if b > a then b else a)) | _, _ => none
def b2s (cs : List AV) : Option (List UInt8) :=
  match cs with
  | [] => some []
  | .int .u8 n :: r => (b2s r).bind fun l => some (UInt8.ofNat n.toNat :: l)
  | _ => none
def unb (neg b : Bool) : AV := .bool (if neg then !b else b)
abbrev CallT := Nat → List AV → H → Option (AV × H)
def evArgs (e : Env) (xs : List X) : List AV := xs.map (X.ev e)
def birth (e : Env) : AOp → Option (List AV × (Nat → AV))
  | .alloc zero => if AV.allsc zero = true then some (zero, fun i => .pobj i 0) else none
  | .box n x => if (x.ev e).cells.length = n ∧ AV.allsc (x.ev e).cells = true then some ((x.ev e).cells, fun i => .pobj i 0) else none
  | .bslice sz len zero parts => if zero.length = sz ∧ 0 < sz ∧ AV.allsc zero = true then (fillA (repl len zero) (parts.map fun p => (p.1 * sz, sz, p.2.ev e))).bind fun cs => some (cs, fun i => .sobj i 0 len sz) else none
  | .mksl sz bytes zero l c => match l.ev e, c.ev e with
    | .int .i64 l, .int .i64 c => if 0 ≤ l ∧ l ≤ c ∧ c ≤ 9223372036854775807 ∧ (bytes : Int) * c ≤ 281474976710656 ∧ zero.length = sz ∧ 0 < sz ∧ AV.allsc zero = true then
        some (repl c.toNat zero, fun i => .sobj i 0 l.toNat sz) else none
    | _, _ => none
  | .s2b x => match x.ev e with
    | .str s => if roomy 1 s.size then some (s.data.toList.map fun b => .int .u8 b.toNat, fun i => .sobj i 0 s.size 1) else none
    | _ => none
  | _ => none
def evBirth (e : Env) (h : H) (o : AOp) : Option (AV × H) := (birth e o).bind fun b => some (b.2 h.next, h.alloc b.1)
def evOp (call : CallT) (e : Env) (h : H) : AOp → Option (AV × H)
  | .mv x => some (x.ev e, h)
  | .pick c a b => match c.ev e with | .bool t => some (if t then a.ev e else b.ev e, h) | _ => none
  | .alloc zero => evBirth e h (.alloc zero)
  | .box n x => evBirth e h (.box n x)
  | .build zero parts => (fillA zero (parts.map fun p => (p.1, p.2.1, p.2.2.ev e))).bind fun cs => some (.agg cs, h)
  | .bslice sz len zero parts => evBirth e h (.bslice sz len zero parts)
  | .load agg n p => (aload agg n (p.ev e) h).bind fun v => some (v, h)
  | .store n p v => (astore n (p.ev e) (v.ev e) h).bind fun h' => some (.bot, h')
  | .nilc x => match x.ev e with | .pobj i o => some (.pobj i o, h) | .pimm c o => some (.pimm c o, h) | .fn f a b => some (.fn f a b, h) | .iface t v => some (.iface t v, h) | _ => none
  | .bin o x y => (abin o (x.ev e) (y.ev e)).bind fun v => some (v, h)
  | .eqn k neg x y => (aeqn k (x.ev e) (y.ev e)).bind fun b => some (unb neg b, h)
  | .eqb neg x y => match x.ev e, y.ev e with | .bool a, .bool b => some (unb neg (a == b), h) | _, _ => none
  | .eqs neg n x y => match x.ev e, y.ev e with | .agg a, .agg b => if a.length = n ∧ b.length = n then (aeqCells a b).bind fun t => some (unb neg t, h) else none | _, _ => none
  | .not x => match x.ev e with | .bool b => some (.bool (!b), h) | _ => none
  | .neg x => match x.ev e with | .int k n => some (.int k (k.wrap (0 - n)), h) | _ => none
  | .inv x => match x.ev e with | .int k n => some (.int k (bits .xor k (if k.signed then -1 else k.max) n), h) | _ => none
  | .conv k x => match x.ev e with | .int _ n => some (.int k (k.wrap n), h) | _ => none
  | .same x => match x.ev e with | .str s => some (.str s, h) | _ => none
  | .b2s x => (srcCells h 1 (x.ev e)).bind fun (_, cs) => (b2s cs).bind fun l => match x.ev e with | .str _ => none | _ => some (.str ⟨l.toArray⟩, h)
  | .s2b x => evBirth e h (.s2b x)
  | .mkif t x => if (x.ev e).sc then some (.iface t (x.ev e), h) else none
  | .mkfn f a b => some (.fn f (evArgs e a) (evArgs e b), h)
  | .mksl sz bytes zero l c => evBirth e h (.mksl sz bytes zero l c)
  | .sls x lo hi => (asls (x.ev e) (lo.map (X.ev e)) (hi.map (X.ev e))).bind fun v => some (v, h)
  | .sl sz x lo hi mx => (asl h sz (x.ev e) (lo.map (X.ev e)) (hi.map (X.ev e)) (mx.map (X.ev e))).bind fun v => some (v, h)
  | .sla n sz x lo hi => (asla h n sz (x.ev e) (lo.map (X.ev e)) (hi.map (X.ev e))).bind fun v => some (v, h)
  | .fadr off x => (afadr off (x.ev e)).bind fun v => some (v, h)
  | .fld agg off n x => match x.ev e with | .agg cs => (rdc agg n cs off).bind fun v => some (v, h) | _ => none
  | .iadr sz x i => (aiadr sz (x.ev e) (i.ev e)).bind fun v => some (v, h)
  | .iadra n sz x i => (aiadra n sz (x.ev e) (i.ev e)).bind fun v => some (v, h)
  | .idxs x i => (aidxs (x.ev e) (i.ev e)).bind fun v => some (v, h)
  | .idxa agg n sz x i => (aidxa agg n sz (x.ev e) (i.ev e)).bind fun v => some (v, h)
  | .extr x i => match x.ev e with | .tup vs => (vs[i]?).bind fun v => some (v, h) | _ => none
  | .tass x t => match x.ev e with | .iface u v => if u = t then some (v, h) else none | _ => none
  | .call f args => match f.ev e with | .fn k first captured => call k (first ++ evArgs e args ++ captured) h | _ => none
  | .inv2 _ _ _ => none
  | .app sz bytes a b => aapp h sz bytes (a.ev e) (b.ev e)
  | .appz sz bytes zero a n => aappz h sz bytes zero (a.ev e) (n.ev e)
  | .pan => none
  | .len str x => (alen str (x.ev e)).bind fun v => some (v, h)
  | .cap x => (acap (x.ev e)).bind fun v => some (v, h)
  | .copy sz a b => acopy h sz (a.ev e) (b.ev e)
  | .clear sz zero a => (aclear h sz zero (a.ev e)).bind fun h' => some (.bot, h')
  | .mn xs => match evArgs e xs with | [] => none | v :: r => (fold2 amin2 v r).bind fun v => some (v, h)
  | .mx xs => match evArgs e xs with | [] => none | v :: r => (fold2 amax2 v r).bind fun v => some (v, h)
def putEnv (d : Option Nat) (v : AV) (e : Env) : Env := match d with | some t => (t, v) :: e | none => e
def evOper (call : CallT) (o : AOper) (e : Env) (h : H) : Option (AV × H) :=
  match o.guard with
  | none => evOp call e h o.op
  | some (g, want) => match look e g with
    | .bool b => if b = want then evOp call e h o.op else some (.tup [], h)
    | .tup [] => some (.tup [], h)
    | _ => none
def evOps (call : CallT) : List AOper → Env → H → Option (Env × H)
  | [], e, h => some (e, h)
  | o :: r, e, h => (evOper call o e h).bind fun (v, h') => evOps call r (putEnv o.dst v e) h'
def AOp.loud : AOp → Bool
  | .store .. | .call .. | .inv2 .. | .app .. | .appz .. | .copy .. | .clear .. => true
  | _ => false
def evOpsD (call : CallT) : List AOper → Env → H → Option (Env × H × List H)
  | [], e, h => some (e, h, [h])
  | o :: r, e, h => (evOper call o e h).bind fun (v, h') => (evOpsD call r (putEnv o.dst v e) h').bind fun (e', h'', gs) => some (e', h'', if o.op.loud then h :: gs else gs)
inductive Ex where
  | normal
  | exit (id : Nat)
  | ret
abbrev Res := Option (Ex × Env × H)
def AOp.reads : AOp → Bool
  | .load .. | .b2s .. | .sl .. | .sla .. => true
  | _ => false
def AOp.births : AOp → Bool
  | .alloc .. | .box .. | .bslice .. | .mksl .. | .s2b .. => true
  | _ => false
def AV.id? : AV → Option Nat
  | .pobj id _ => some id
  | .sobj id _ _ _ => some id
  | _ => none
def stable1 (call : CallT) (ops : List AOper) (e : Env) (gs : List H) (i k : Nat) : Bool :=
  match ops[i]?, gs[k]? with
  | some o, some g =>
    if o.op.births then
      match o.dst.map (look e) with
      | some (.tup []) => true
      | some v => (match v.id?, birth e o.op with
        | some id, some b => (match g.get id with | some cs => AV.beqs cs b.1 | none => false)
        | _, _ => false)
      | none => false
    else match o.dst.map (look e) with
      | some v => (match evOper call o e g with | some (u, _) => AV.beq u v | none => false)
      | none => false
  | _, _ => false
def stables (call : CallT) (ops : List AOper) (e : Env) (gs : List H) : List (Nat × List Nat) → Bool
  | [] => true
  | (i, ks) :: r => ks.all (stable1 call ops e gs i) && stables call ops e gs r
def evC (call : CallT) (lp : (Env → H → Res) → Env → H → Res) : ACode → Env → H → Res
  | .skip, e, h => some (.normal, e, h)
  | .reg ops keep, e, h => (evOps call ops e h).bind fun (e', h') => some (.normal, restr e' keep, h')
  | .dreg _ ops fl keep, e, h => (evOpsD call ops e h).bind fun (e', h', gs) => if stables call ops e' gs fl then some (.normal, restr e' keep, h') else none
  | .seq a b, e, h => (evC call lp a e h).bind fun r => match r with | (.normal, e', h') => evC call lp b e' h' | r => some r
  | .cond x a b keep, e, h => match x.ev e with
    | .bool t => (if t then evC call lp a e h else evC call lp b e h).bind fun r => match r with | (.normal, e', h') => some (.normal, restr e' keep, h') | r => some r
    | _ => none
  | .block id c keep, e, h => (evC call lp c e h).bind fun r => match r with
    | (.normal, e', h') => some (.normal, restr e' keep, h')
    | (.exit j, e', h') => if j = id then some (.normal, restr e' keep, h') else some (.exit j, e', h')
    | (.ret, e', h') => some (.ret, e', h')
  | .loop keep c, e, h => lp (fun e h => evC call lp c (restr e keep) h) e h
  | .exit id, e, h => some (.exit id, e, h)
  | .ret, e, h => some (.ret, e, h)
def loopN : Nat → (Env → H → Res) → Env → H → Res
  | 0, _, _, _ => none
  | n + 1, F, e, h => (F e h).bind fun r => match r with | (.normal, e', h') => loopN n F e' h' | r => some r
def resOf (e : Env) (h : H) : RV → Option AV
  | .tmp t => some (look e t)
  | .cell t agg n => aload agg n (look e t) h
def resAll (e : Env) (h : H) : List RV → Option (List AV)
  | [] => some []
  | r :: rs => (resOf e h r).bind fun v => (resAll e h rs).bind fun vs => some (v :: vs)
def tupOf : List AV → AV
  | [v] => v
  | vs => .tup vs
def mapO (f : AV → Option AV) : List AV → Option (List AV)
  | [] => some []
  | v :: r => (f v).bind fun v' => (mapO f r).bind fun r' => some (v' :: r')
def snap (g : Nat → Option (List AV)) (fl : Nat) : Nat → Bool → AV → Option AV
  | 0, _, _ => none
  | n + 1, top, .pobj id off => if id < fl then (if top then some (.pobj id off) else none) else (g id).bind fun cs => (mapO (snap g fl n false) cs).bind fun cs' => some (.pimm cs' off)
  | n + 1, top, .sobj id off len sz => if id < fl then (if top then some (.sobj id off len sz) else none) else (g id).bind fun cs => if off + len * sz ≤ cs.length then (mapO (snap g fl n false) ((cs.drop off).take (len * sz))).bind fun cs' => some (.simm false cs' 0 len sz) else none
  | n + 1, top, .agg cs => (mapO (snap g fl n top) cs).bind fun cs' => some (.agg cs')
  | n + 1, top, .tup cs => (mapO (snap g fl n top) cs).bind fun cs' => some (.tup cs')
  | n + 1, top, .fn f a b => (mapO (snap g fl n top) a).bind fun a' => (mapO (snap g fl n top) b).bind fun b' => some (.fn f a' b')
  | n + 1, top, .iface t v => (snap g fl n top v).bind fun v' => some (.iface t v')
  | _ + 1, _, v => some v
def snapFuel : Nat := 16
def params : Nat → List AV → Env
  | _, [] => []
  | i, v :: r => (i, v) :: params (i + 1) r
def fin (f : AFunc) (h0 : H) (r : Ex × Env × H) : Option (AV × H) :=
  match r with
  | (.exit _, _, _) => none
  | (_, e, h) => (resAll e h f.res).bind fun vs =>
    if f.pure then (snap h.get h0.next snapFuel true (tupOf vs)).bind fun v => some (v, h0) else some (tupOf vs, h)
def runF (call : CallT) (lp : (Env → H → Res) → Env → H → Res) (f : AFunc) (args : List AV) (h : H) : Option (AV × H) :=
  if args.length = f.np then
    (evC call lp f.body (params 0 args) (if f.pure then h.fence else h)).bind (fin f h)
  else none
abbrev AProg := Nat → Option AFunc
def callN (A : AProg) : Nat → CallT
  | 0, _, _, _ => none
  | d + 1, f, args, h => (A f).bind fun fn => runF (callN A d) (loopN d) fn args h
end Ab
namespace Ab
open Go
def LeC (c d : CallT) : Prop := ∀ f a h r, c f a h = some r → d f a h = some r
def LeF (F G : Env → H → Res) : Prop := ∀ e h r, F e h = some r → G e h = some r
abbrev LoopT := (Env → H → Res) → Env → H → Res
def LeL (l m : LoopT) : Prop := ∀ F G, LeF F G → ∀ e h r, l F e h = some r → m G e h = some r
theorem bind_mono {α β : Type} {x y : Option α} {f g : α → Option β} {r : β} (h1 : ∀ a, x = some a → y = some a) (h2 : ∀ a, f a = some r → g a = some r) (h : x.bind f = some r) : y.bind g = some r := by
  cases x with
  | none => cases h
  | some a => rw [h1 a rfl]; exact h2 a h
theorem evOp_mono {c d : CallT} (hc : LeC c d) (e : Env) (h : H) (o : AOp) (r) (hr : evOp c e h o = some r) : evOp d e h o = some r := by
  cases o with
  | call f args =>
    simp only [evOp] at *
    split at hr
    · exact hc _ _ _ _ hr
    · cases hr
  | _ => exact hr
theorem evOper_mono {c d : CallT} (hc : LeC c d) (o : AOper) (e : Env) (h : H) (r) (hr : evOper c o e h = some r) : evOper d o e h = some r := by
  unfold evOper at *
  split at hr
  · exact evOp_mono hc _ _ _ _ hr
  · split at hr
    · split at hr
      · rename_i h1; rw [if_pos h1]; exact evOp_mono hc _ _ _ _ hr
      · rename_i h1; rw [if_neg h1]; exact hr
    · cases hr; rfl
    · cases hr
theorem evOps_mono {c d : CallT} (hc : LeC c d) : ∀ (os : List AOper) (e : Env) (h : H) (r), evOps c os e h = some r → evOps d os e h = some r
  | [], _, _, _, hr => hr
  | _ :: os, _, _, _, hr => bind_mono (evOper_mono hc _ _ _) (fun _ => evOps_mono hc os _ _ _) hr
theorem evOpsD_mono {c d : CallT} (hc : LeC c d) : ∀ (os : List AOper) (e : Env) (h : H) (r), evOpsD c os e h = some r → evOpsD d os e h = some r
  | [], _, _, _, hr => hr
  | _ :: os, _, _, _, hr => bind_mono (evOper_mono hc _ _ _) (fun _ => bind_mono (evOpsD_mono hc os _ _) (fun _ h => h)) hr
theorem stable1_mono {c d : CallT} (hc : LeC c d) (ops : List AOper) (e : Env) (gs : List H) (i k : Nat) (h : stable1 c ops e gs i k = true) : stable1 d ops e gs i k = true := by
  unfold stable1 at *
  split at h
  · split at h
    · rename_i hb; rw [if_pos hb]; exact h
    · rename_i hb; rw [if_neg hb]
      split at h
      · split at h
        · rename_i v hv; rw [evOper_mono hc _ _ _ _ hv]; exact h
        · cases h
      · cases h
  · cases h
theorem stables_mono {c d : CallT} (hc : LeC c d) (ops : List AOper) (e : Env) (gs : List H) : ∀ fl, stables c ops e gs fl = true → stables d ops e gs fl = true
  | [], h => h
  | (i, ks) :: r, h => by
    simp only [stables, Bool.and_eq_true, List.all_eq_true] at *
    exact ⟨fun k hk => stable1_mono hc _ _ _ _ _ (h.1 k hk), stables_mono hc ops e gs r h.2⟩
theorem evC_mono {c d : CallT} (hc : LeC c d) {l m : LoopT} (hl : LeL l m) : ∀ (x : ACode), LeF (evC c l x) (evC d m x)
  | .skip => fun _ _ _ h => h
  | .reg _ _ => fun _ _ _ h => bind_mono (evOps_mono hc _ _ _) (fun _ h => h) h
  | .dreg _ ops fl _ => fun _ _ _ h => bind_mono (evOpsD_mono hc _ _ _) (fun a h => by
      dsimp only at *
      split at h
      · rename_i h1; rw [if_pos (stables_mono hc _ _ _ _ h1)]; exact h
      · cases h) h
  | .seq a b => fun _ _ _ h => bind_mono (evC_mono hc hl a _ _) (fun r h => by
      split at h
      · exact evC_mono hc hl b _ _ _ h
      · exact h) h
  | .cond x a b _ => fun e _ _ h => by
      simp only [evC] at *
      split at h
      · rename_i t ht
        refine bind_mono (fun r hr => ?_) (fun _ h => h) h
        cases t with
        | true => exact evC_mono hc hl a _ _ _ hr
        | false => exact evC_mono hc hl b _ _ _ hr
      · cases h
  | .block _ x _ => fun _ _ _ h => bind_mono (evC_mono hc hl x _ _) (fun _ h => h) h
  | .loop _ x => fun _ _ _ h => hl _ _ (fun _ _ _ h => evC_mono hc hl x _ _ _ h) _ _ _ h
  | .exit _ => fun _ _ _ h => h
  | .ret => fun _ _ _ h => h
theorem loopN_F {F G : Env → H → Res} (hF : LeF F G) : ∀ n, LeF (loopN n F) (loopN n G)
  | 0 => fun _ _ _ h => h
  | n + 1 => fun _ _ _ h => bind_mono (hF _ _) (fun r h => by
      split at h
      · exact loopN_F hF n _ _ _ h
      · exact h) h
theorem loopN_succ (F : Env → H → Res) : ∀ n, LeF (loopN n F) (loopN (n + 1) F)
  | 0 => fun _ _ _ h => by cases h
  | n + 1 => fun _ _ _ h => bind_mono (fun _ h => h) (fun r h => by
      split at h
      · exact loopN_succ F n _ _ _ h
      · exact h) h
theorem loopN_le (F : Env → H → Res) {n m : Nat} (h : n ≤ m) : LeF (loopN n F) (loopN m F) := by
  induction h with
  | refl => exact fun _ _ _ h => h
  | step _ ih => exact fun e h r hr => loopN_succ F _ _ _ _ (ih _ _ _ hr)
theorem leL_loopN {n m : Nat} (h : n ≤ m) : LeL (loopN n) (loopN m) := fun _ _ hF _ _ _ hr => loopN_le _ h _ _ _ (loopN_F hF _ _ _ _ hr)
theorem runF_mono {c d : CallT} (hc : LeC c d) {l m : LoopT} (hl : LeL l m) (fn : AFunc) (args : List AV) (h : H) (r) (hr : runF c l fn args h = some r) : runF d m fn args h = some r := by
  unfold runF at *
  split at hr
  · rename_i h1; rw [if_pos h1]; exact bind_mono (evC_mono hc hl _ _ _) (fun _ h => h) hr
  · cases hr
theorem callN_succ (A : AProg) : ∀ d, LeC (callN A d) (callN A (d + 1))
  | 0 => fun _ _ _ _ h => by cases h
  | d + 1 => fun f args h r hr => bind_mono (fun _ h => h) (fun fn => runF_mono (callN_succ A d) (leL_loopN (Nat.le_succ d)) fn args h r) hr
theorem callN_le (A : AProg) {d d' : Nat} (h : d ≤ d') : LeC (callN A d) (callN A d') := by
  induction h with
  | refl => exact fun _ _ _ _ h => h
  | step _ ih => exact fun f a h r hr => callN_succ A _ _ _ _ _ (ih _ _ _ _ hr)
open Classical in
noncomputable def loopW (F : Env → H → Res) (e : Env) (h : H) : Res :=
  if hx : ∃ n r, loopN n F e h = some r then some (choose (choose_spec hx)) else none
theorem loopW_of {F : Env → H → Res} {e : Env} {h : H} {n : Nat} {r} (hr : loopN n F e h = some r) : loopW F e h = some r := by
  unfold loopW
  have hx : ∃ n r, loopN n F e h = some r := ⟨n, r, hr⟩
  rw [dif_pos hx]
  have h2 := Classical.choose_spec (Classical.choose_spec hx)
  rcases Nat.le_total n (Classical.choose hx) with hl | hl
  · have := loopN_le F hl _ _ _ hr; exact h2.symm.trans this
  · have := loopN_le F hl _ _ _ h2; rw [hr] at this; exact this.symm
theorem loopW_inv {F : Env → H → Res} {e : Env} {h : H} {r} (hr : loopW F e h = some r) : ∃ n, loopN n F e h = some r := by
  unfold loopW at hr
  split at hr
  · rename_i hx
    refine ⟨Classical.choose hx, ?_⟩
    rw [← hr]; exact Classical.choose_spec (Classical.choose_spec hx)
  · cases hr
theorem loopW_round {F : Env → H → Res} {e e' : Env} {h h' : H} {r} (h1 : F e h = some (.normal, e', h')) (h2 : loopW F e' h' = some r) : loopW F e h = some r := by
  obtain ⟨n, hn⟩ := loopW_inv h2
  exact loopW_of (n := n + 1) (by simp only [loopN, h1, Option.bind_some]; exact hn)
theorem loopW_exit {F : Env → H → Res} {e e' : Env} {h h' : H} {i : Nat} (h1 : F e h = some (.exit i, e', h')) : loopW F e h = some (.exit i, e', h') :=
  loopW_of (n := 1) (by simp only [loopN, h1, Option.bind_some])
theorem loopW_ret {F : Env → H → Res} {e e' : Env} {h h' : H} (h1 : F e h = some (.ret, e', h')) : loopW F e h = some (.ret, e', h') :=
  loopW_of (n := 1) (by simp only [loopN, h1, Option.bind_some])
open Classical in
noncomputable def callW (A : AProg) (f : Nat) (args : List AV) (h : H) : Option (AV × H) :=
  if hx : ∃ n r, callN A n f args h = some r then some (choose (choose_spec hx)) else none
theorem callW_of {A : AProg} {f : Nat} {args : List AV} {h : H} {n : Nat} {r} (hr : callN A n f args h = some r) : callW A f args h = some r := by
  unfold callW
  have hx : ∃ n r, callN A n f args h = some r := ⟨n, r, hr⟩
  rw [dif_pos hx]
  have h2 := Classical.choose_spec (Classical.choose_spec hx)
  rcases Nat.le_total n (Classical.choose hx) with hl | hl
  · have := callN_le A hl _ _ _ _ hr; exact h2.symm.trans this
  · have := callN_le A hl _ _ _ _ h2; rw [hr] at this; exact this.symm
theorem callW_inv {A : AProg} {f : Nat} {args : List AV} {h : H} {r} (hr : callW A f args h = some r) : ∃ n, callN A n f args h = some r := by
  unfold callW at hr
  split at hr
  · rename_i hx
    refine ⟨Classical.choose hx, ?_⟩
    rw [← hr]; exact Classical.choose_spec (Classical.choose_spec hx)
  · cases hr
def Evt (P : Nat → Prop) : Prop := ∃ d, ∀ d', d ≤ d' → P d'
theorem Evt.and {P Q : Nat → Prop} (h : Evt P) (k : Evt Q) : Evt fun d => P d ∧ Q d := by
  obtain ⟨a, ha⟩ := h; obtain ⟨b, hb⟩ := k
  exact ⟨max a b, fun d hd => ⟨ha d (by omega), hb d (by omega)⟩⟩
theorem Evt.mono {P Q : Nat → Prop} (h : Evt P) (k : ∀ d, P d → Q d) : Evt Q := by obtain ⟨a, ha⟩ := h; exact ⟨a, fun d hd => k d (ha d hd)⟩
theorem Evt.const {p : Prop} (h : p) : Evt fun _ => p := ⟨0, fun _ _ => h⟩
theorem Evt.bind {α β : Type} {x : Option α} {y : Nat → Option α} {f : α → Option β} {g : Nat → α → Option β} {r : β} (h : x.bind f = some r) (h1 : ∀ a, x = some a → Evt fun d => y d = some a) (h2 : ∀ a, f a = some r → Evt fun d => g d a = some r) : Evt fun d => (y d).bind (g d) = some r := by
  cases x with
  | none => cases h
  | some a => exact ((h1 a rfl).and (h2 a h)).mono fun d ⟨p, q⟩ => by rw [p]; exact q
section
variable {A : AProg}
theorem evOp_evt (e : Env) (h : H) (o : AOp) (r) (hr : evOp (callW A) e h o = some r) : Evt fun d => evOp (callN A d) e h o = some r := by
  cases o with
  | call f args =>
    simp only [evOp] at *
    split at hr
    · rename_i hf
      obtain ⟨n, hn⟩ := callW_inv hr
      exact ⟨n, fun d hd => by simpa only [hf] using callN_le A hd _ _ _ _ hn⟩
    · cases hr
  | _ => exact Evt.const hr
theorem evOper_evt (o : AOper) (e : Env) (h : H) (r) (hr : evOper (callW A) o e h = some r) : Evt fun d => evOper (callN A d) o e h = some r := by
  unfold evOper at *
  split at hr
  · exact evOp_evt _ _ _ _ hr
  · split at hr
    · split at hr
      · rename_i h1; simp only [if_pos h1]; exact evOp_evt _ _ _ _ hr
      · rename_i h1; simp only [if_neg h1]; exact Evt.const hr
    · exact Evt.const hr
    · cases hr
theorem evOps_evt : ∀ (os : List AOper) (e : Env) (h : H) (r), evOps (callW A) os e h = some r → Evt fun d => evOps (callN A d) os e h = some r
  | [], _, _, _, hr => Evt.const hr
  | _ :: os, _, _, _, hr => Evt.bind hr (evOper_evt _ _ _) (fun _ => evOps_evt os _ _ _)
theorem evOpsD_evt : ∀ (os : List AOper) (e : Env) (h : H) (r), evOpsD (callW A) os e h = some r → Evt fun d => evOpsD (callN A d) os e h = some r
  | [], _, _, _, hr => Evt.const hr
  | _ :: os, _, _, _, hr => Evt.bind hr (evOper_evt _ _ _) (fun _ h => Evt.bind h (evOpsD_evt os _ _) (fun _ h => Evt.const h))
theorem stable1_evt (ops : List AOper) (e : Env) (gs : List H) (i k : Nat) (h : stable1 (callW A) ops e gs i k = true) : Evt fun d => stable1 (callN A d) ops e gs i k = true := by
  unfold stable1 at *
  split at h
  · split at h
    · rename_i hb; simp only [if_pos hb]; exact Evt.const h
    · rename_i hb; simp only [if_neg hb]
      split at h
      · split at h
        · rename_i v hv; exact (evOper_evt _ _ _ _ hv).mono fun d hd => by rw [hd]; exact h
        · cases h
      · cases h
  · cases h
theorem all_evt {α : Type} (P : Nat → α → Bool) (Q : α → Bool) (hq : ∀ a, Q a = true → Evt fun d => P d a = true) : ∀ l : List α, l.all Q = true → Evt fun d => l.all (P d) = true
  | [], _ => Evt.const rfl
  | a :: l, h => by
    simp only [List.all_cons, Bool.and_eq_true] at *
    exact (hq a h.1).and (all_evt P Q hq l h.2)
theorem stables_evt (ops : List AOper) (e : Env) (gs : List H) : ∀ fl, stables (callW A) ops e gs fl = true → Evt fun d => stables (callN A d) ops e gs fl = true
  | [], h => Evt.const h
  | (i, ks) :: r, h => by
    simp only [stables, Bool.and_eq_true] at *
    exact (all_evt _ _ (fun k => stable1_evt ops e gs i k) ks h.1).and (stables_evt ops e gs r h.2)
theorem evC_evt : ∀ (x : ACode) (e : Env) (h : H) (r), evC (callW A) loopW x e h = some r → Evt fun d => evC (callN A d) (loopN d) x e h = some r
  | .skip, _, _, _, h => Evt.const h
  | .reg _ _, _, _, _, h => Evt.bind h (evOps_evt _ _ _) (fun _ h => Evt.const h)
  | .dreg _ ops fl _, _, _, _, h => Evt.bind h (evOpsD_evt _ _ _) (fun a h => by
      dsimp only at *
      split at h
      · rename_i h1; exact (stables_evt _ _ _ _ h1).mono fun d hd => by rw [if_pos hd]; exact h
      · cases h)
  | .seq a b, _, _, _, h => Evt.bind h (evC_evt a _ _) (fun r h => by
      split at h
      · exact evC_evt b _ _ _ h
      · exact Evt.const h)
  | .cond x a b _, e, _, _, h => by
      simp only [evC] at *
      split at h
      · rename_i t ht
        refine Evt.bind h (fun r hr => ?_) (fun _ h => Evt.const h)
        cases t with
        | true => exact evC_evt a _ _ _ hr
        | false => exact evC_evt b _ _ _ hr
      · cases h
  | .block _ x _, _, _, _, h => Evt.bind h (evC_evt x _ _) (fun _ h => Evt.const h)
  | .loop keep x, e, h, r, hr => by
      obtain ⟨n, hn⟩ := loopW_inv hr
      have key : ∀ n e h r, loopN n (fun e h => evC (callW A) loopW x (restr e keep) h) e h = some r → Evt fun d => loopN n (fun e h => evC (callN A d) (loopN d) x (restr e keep) h) e h = some r := by
        intro n
        induction n with
        | zero => intro e h r hr; cases hr
        | succ n ih =>
          intro e h r hr
          refine Evt.bind hr (fun a ha => evC_evt x _ _ _ ha) (fun a ha => ?_)
          split at ha
          · exact ih _ _ _ ha
          · exact Evt.const ha
      obtain ⟨d, hd⟩ := key n e h r hn
      exact ⟨max d n, fun d' hd' => loopN_le _ (by omega) _ _ _ (hd d' (by omega))⟩
  | .exit _, _, _, _, h => Evt.const h
  | .ret, _, _, _, h => Evt.const h
theorem call_of {f : Nat} {fn : AFunc} {args : List AV} {h : H} {r} (hf : A f = some fn) (hr : runF (callW A) loopW fn args h = some r) : callW A f args h = some r := by
  have : Evt fun d => runF (callN A d) (loopN d) fn args h = some r := by
    unfold runF at *
    split at hr
    · rename_i h1; simp only [if_pos h1]; exact Evt.bind hr (evC_evt _ _ _) (fun _ h => Evt.const h)
    · cases hr
  obtain ⟨d, hd⟩ := this
  exact callW_of (n := d + 1) (by simp only [callN, hf, Option.bind_some]; exact hd d (Nat.le_refl d))
end
end Ab
namespace Ab
open Go RowKit
structure Loc where
  block : Nat
  base : Nat
  len : Nat
  ext : Nat
structure Lk where
  P : Program
  mf : FuncId → Option Nat
  mt : TypeId → Nat
abbrev Io := Nat → Option Loc
abbrev Mm := Nat → Nat → Option Value
def at' (b o : Nat) : Addr := ⟨b, o, none⟩
inductive VI (L : Lk) (M : Mm) : AV → Value → Prop where
  | bot (v : Value) : VI L M .bot v
  | bool (b : Bool) : VI L M (.bool b) (.bool b)
  | int (k : IntKind) (n : Int) : VI L M (.int k n) (.int k n)
  | str (s : ByteArray) : VI L M (.str s) (.string s)
  | nilp : VI L M .nilp (.pointer none)
  | pimm {cells : List AV} {off b base : Nat} (vs : Nat → Value) (h1 : ∀ (i : Nat) (c : AV), cells[i]? = some c → M b (base + i) = some (vs i)) (h2 : ∀ (i : Nat) (c : AV), cells[i]? = some c → VI L M c (vs i)) :
      VI L M (.pimm cells off) (.pointer (some (at' b (base + off))))
  | nils : VI L M .nils (.slice none 0 0)
  | simm {t : Bool} {cells : List AV} {off len sz b base cap : Nat} {a : Addr} (vs : Nat → Value) (h1 : ∀ (i : Nat) (c : AV), cells[i]? = some c → M b (base + i) = some (vs i)) (h2 : ∀ (i : Nat) (c : AV), cells[i]? = some c → VI L M c (vs i))
      (hl : len ≤ cap) (ha : cap ≠ 0 → a = at' b (base + off)) (hc : cells.length ≤ off + cap * sz) (ht : t = true → off + cap * sz = cells.length) :
      VI L M (.simm t cells off len sz) (.slice (some a) len cap)
  | fn {f : Nat} {fid : FuncId} {as cs : List AV} {va vc : List Value} (hf : L.mf fid = some f) (la : as.length = va.length) (lc : cs.length = vc.length)
      (ha : ∀ (i : Nat) (a : AV) (v : Value), as[i]? = some a → va[i]? = some v → VI L M a v) (hc : ∀ (i : Nat) (a : AV) (v : Value), cs[i]? = some a → vc[i]? = some v → VI L M a v) :
      VI L M (.fn f as cs) (.func (.func fid) va.toArray vc.toArray)
  | nilf : VI L M .nilf .nilFunc
  | iface {t : Nat} {tid : TypeId} {a : AV} {v : Value} (ht : L.mt tid = t) (h : VI L M a v) : VI L M (.iface t a) (.iface tid v)
  | nili : VI L M .nili .nilIface
  | agg {as : List AV} {vs : List Value} (l : as.length = vs.length) (h : ∀ (i : Nat) (a : AV) (v : Value), as[i]? = some a → vs[i]? = some v → VI L M a v) : VI L M (.agg as) (.agg vs.toArray)
  | tup {as : List AV} {vs : List Value} (l : as.length = vs.length) (h : ∀ (i : Nat) (a : AV) (v : Value), as[i]? = some a → vs[i]? = some v → VI L M a v) : VI L M (.tup as) (.tuple vs.toArray)
inductive V (L : Lk) (ι : Io) (M : Mm) : AV → Value → Prop where
  | imm {a : AV} {v : Value} (h : VI L M a v) : V L ι M a v
  | pobj {id off : Nat} {l : Loc} (h : ι id = some l) : V L ι M (.pobj id off) (.pointer (some (at' l.block (l.base + off))))
  | sobj {id off len sz cap : Nat} {l : Loc} {a : Addr} (h : ι id = some l) (hl : len ≤ cap) (ha : cap ≠ 0 → a = at' l.block (l.base + off)) (hlo : l.len ≤ off + cap * sz) (hhi : off + cap * sz ≤ l.ext) :
      V L ι M (.sobj id off len sz) (.slice (some a) len cap)
  | fn {f : Nat} {fid : FuncId} {as cs : List AV} {va vc : List Value} (hf : L.mf fid = some f) (la : as.length = va.length) (lc : cs.length = vc.length)
      (ha : ∀ (i : Nat) (a : AV) (v : Value), as[i]? = some a → va[i]? = some v → V L ι M a v) (hc : ∀ (i : Nat) (a : AV) (v : Value), cs[i]? = some a → vc[i]? = some v → V L ι M a v) :
      V L ι M (.fn f as cs) (.func (.func fid) va.toArray vc.toArray)
  | iface {t : Nat} {tid : TypeId} {a : AV} {v : Value} (ht : L.mt tid = t) (h : V L ι M a v) : V L ι M (.iface t a) (.iface tid v)
  | agg {as : List AV} {vs : List Value} (l : as.length = vs.length) (h : ∀ (i : Nat) (a : AV) (v : Value), as[i]? = some a → vs[i]? = some v → V L ι M a v) : V L ι M (.agg as) (.agg vs.toArray)
  | tup {as : List AV} {vs : List Value} (l : as.length = vs.length) (h : ∀ (i : Nat) (a : AV) (v : Value), as[i]? = some a → vs[i]? = some v → V L ι M a v) : V L ι M (.tup as) (.tuple vs.toArray)
def LeI (ι ι' : Io) : Prop := ∀ id l, ι id = some l → ι' id = some l
def LeM (M M' : Mm) : Prop := ∀ b o v, M b o = some v → M' b o = some v
theorem VI.mono {L : Lk} {M M' : Mm} (hM : LeM M M') {a : AV} {v : Value} (h : VI L M a v) : VI L M' a v := by
  induction h with
  | bot v => exact .bot v
  | bool b => exact .bool b
  | int k n => exact .int k n
  | str s => exact .str s
  | nilp => exact .nilp
  | pimm vs h1 _ ih => exact .pimm vs (fun i c hc => hM _ _ _ (h1 i c hc)) ih
  | nils => exact .nils
  | simm vs h1 _ hl ha hc ht ih => exact .simm vs (fun i c hc => hM _ _ _ (h1 i c hc)) ih hl ha hc ht
  | fn hf la lc _ _ ia ic => exact .fn hf la lc ia ic
  | nilf => exact .nilf
  | iface ht _ ih => exact .iface ht ih
  | nili => exact .nili
  | agg l _ ih => exact .agg l ih
  | tup l _ ih => exact .tup l ih
theorem V.mono {L : Lk} {ι ι' : Io} {M M' : Mm} (hι : LeI ι ι') (hM : LeM M M') {a : AV} {v : Value} (h : V L ι M a v) : V L ι' M' a v := by
  induction h with
  | imm h => exact .imm (h.mono hM)
  | pobj h => exact .pobj (hι _ _ h)
  | sobj h hl ha hlo hhi => exact .sobj (hι _ _ h) hl ha hlo hhi
  | fn hf la lc _ _ ia ic => exact .fn hf la lc ia ic
  | iface ht _ ih => exact .iface ht ih
  | agg l _ ih => exact .agg l ih
  | tup l _ ih => exact .tup l ih
theorem V.shrink {L : Lk} {ι ι1 : Io} {M M1 : Mm} (hι : LeI ι ι1) {a : AV} {v : Value} (h1 : V L ι1 M1 a v) : ∀ {v0 : Value}, V L ι M a v0 → V L ι M1 a v := by
  have im : ∀ {a : AV} {v v0 : Value}, VI L M1 a v → V L ι M a v0 → V L ι M1 a v := fun h _ => .imm h
  induction h1 with
  | imm h => exact fun h0 => im h h0
  | @pobj id off l h =>
    intro v0 h0
    cases h0 with
    | imm h => cases h
    | pobj h' => rw [hι _ _ h'] at h; obtain rfl := Option.some.inj h; exact .pobj h'
  | @sobj id off len sz cap l a h hl ha hlo hhi =>
    intro v0 h0
    cases h0 with
    | imm h => cases h
    | sobj h' => rw [hι _ _ h'] at h; obtain rfl := Option.some.inj h; exact .sobj h' hl ha hlo hhi
  | @fn f fid as cs va vc hf la lc ha hc ia ic =>
    intro v0 h0
    have sub : ∀ {xs : List AV} {ys zs : List Value}, xs.length = zs.length → (∀ (i : Nat) (a : AV) (v : Value), xs[i]? = some a → ys[i]? = some v → ∀ {v0 : Value}, V L ι M a v0 → V L ι M1 a v) → (∀ (i : Nat) (a : AV) (v : Value), xs[i]? = some a → zs[i]? = some v → V L ι M a v) → ∀ (i : Nat) (a : AV) (v : Value), xs[i]? = some a → ys[i]? = some v → V L ι M1 a v := by
      intro xs ys zs hl h1 h2 i a v hx hy
      obtain ⟨hi, _⟩ := List.getElem?_eq_some_iff.1 hx
      exact h1 i a v hx hy (h2 i a (zs[i]'(hl ▸ hi)) hx (by simp))
    cases h0 with
    | imm h => cases h with
      | fn hf' la' lc' ha' hc' => exact .fn hf la lc (sub la' ia fun i a v x y => .imm (ha' i a v x y)) (sub lc' ic fun i a v x y => .imm (hc' i a v x y))
    | fn hf' la' lc' ha' hc' => exact .fn hf la lc (sub la' ia ha') (sub lc' ic hc')
  | iface ht h ih =>
    intro v0 h0
    cases h0 with
    | imm h => cases h with
      | iface _ h' => exact .iface ht (ih (.imm h'))
    | iface _ h' => exact .iface ht (ih h')
  | @agg as vs l h ih =>
    intro v0 h0
    cases h0 with
    | imm h => cases h with
      | @agg _ zs l' h' =>
        refine .agg l fun i a v hx hy => ?_
        obtain ⟨hi, _⟩ := List.getElem?_eq_some_iff.1 hx
        exact ih i a v hx hy (.imm (h' i a (zs[i]'(l' ▸ hi)) hx (by simp)))
    | @agg _ zs l' h' =>
      refine .agg l fun i a v hx hy => ?_
      obtain ⟨hi, _⟩ := List.getElem?_eq_some_iff.1 hx
      exact ih i a v hx hy (h' i a (zs[i]'(l' ▸ hi)) hx (by simp))
  | @tup as vs l h ih =>
    intro v0 h0
    cases h0 with
    | imm h => cases h with
      | @tup _ zs l' h' =>
        refine .tup l fun i a v hx hy => ?_
        obtain ⟨hi, _⟩ := List.getElem?_eq_some_iff.1 hx
        exact ih i a v hx hy (.imm (h' i a (zs[i]'(l' ▸ hi)) hx (by simp)))
    | @tup _ zs l' h' =>
      refine .tup l fun i a v hx hy => ?_
      obtain ⟨hi, _⟩ := List.getElem?_eq_some_iff.1 hx
      exact ih i a v hx hy (h' i a (zs[i]'(l' ▸ hi)) hx (by simp))
structure R (L : Lk) (w0 : World) (ι : Io) (M : Mm) (h : H) (w : World) : Prop where
  below : Below w0.heap.size w0 w
  dom : ∀ id l, ι id = some l → id < h.next
  blk : ∀ id cs l, h.get id = some cs → ι id = some l → w0.heap.size ≤ l.block ∧ l.block < w.heap.size ∧ cs.length = l.len ∧ l.len ≤ l.ext
  own : ∀ id cs l, h.get id = some cs → ι id = some l → ∀ o, o < l.ext → (w.cell? (at' l.block (l.base + o))).isSome = true ∧ w.frozen? (at' l.block (l.base + o)) = false
  val : ∀ id cs l, h.get id = some cs → ι id = some l → ∀ i a, cs[i]? = some a → ∃ v, w.cell? (at' l.block (l.base + i)) = some v ∧ V L ι M a v
  disj : ∀ id id' cs cs' l l', h.get id = some cs → h.get id' = some cs' → ι id = some l → ι id' = some l' → id ≠ id' → l.block = l'.block → l.base + l.ext ≤ l'.base ∨ l'.base + l'.ext ≤ l.base
  imm : ∀ b o v, M b o = some v → w.cell? (at' b o) = some v
  immd : ∀ b o v id cs l, M b o = some v → h.get id = some cs → ι id = some l → b = l.block → o < l.base ∨ l.base + l.ext ≤ o
theorem cell_lt {w : World} {b o : Nat} {v : Value} (h : w.cell? (at' b o) = some v) : b < w.heap.size := by
  unfold World.cell? at' at h
  rcases Nat.lt_or_ge b w.heap.size with hl | hl
  · exact hl
  · simp [Array.getElem?_eq_none hl] at h
section
variable {L : Lk} {w0 : World} {ι : Io} {M : Mm} {h : H} {w : World}
theorem R.drew (r : R L w0 ι M h w) (n : Nat) : R L w0 ι M h { w with drawn := n } :=
  ⟨⟨r.below.os, r.below.tape, r.below.output, r.below.size, r.below.block⟩, r.dom, r.blk, r.own, r.val, r.disj, r.imm, r.immd⟩
theorem R.del (r : R L w0 ι M h w) (id : Nat) : R L w0 ι M (h.del id) w := by
  have g : ∀ i cs, (h.del id).get i = some cs → h.get i = some cs := fun i cs hc => by
    simp only [H.get_del] at hc; split at hc
    · cases hc
    · exact hc
  exact ⟨r.below, r.dom, fun i cs l a b => r.blk i cs l (g _ _ a) b, fun i cs l a b => r.own i cs l (g _ _ a) b, fun i cs l a b => r.val i cs l (g _ _ a) b,
    fun i j cs cs' l l' a b => r.disj i j cs cs' l l' (g _ _ a) (g _ _ b), r.imm, fun b o v i cs l a c => r.immd b o v i cs l a (g _ _ c)⟩
theorem R.setCell (r : R L w0 ι M h w) {id : Nat} {cs : List AV} {l : Loc} (hg : h.get id = some cs) (hi : ι id = some l) {o : Nat} (ho : o < l.ext) {a : AV} {v : Value} (hv : V L ι M a v) :
    R L w0 ι M (h.set id (cs.set o a)) (w.setCell (at' l.block (l.base + o)) v) := by
  have hcell := (r.own id cs l hg hi o ho).1
  have b0 := (r.blk id cs l hg hi).1
  have gs : ∀ i c, (h.set id (cs.set o a)).get i = some c → (i = id ∧ c = cs.set o a) ∨ (i ≠ id ∧ h.get i = some c) := fun i c hc => by
    simp only [H.get_set] at hc; split at hc
    · rename_i e; rw [hg] at hc; exact .inl ⟨e, (Option.some.inj hc).symm⟩
    · rename_i e; exact .inr ⟨e, hc⟩
  have hsome : ∀ i c, (h.set id (cs.set o a)).get i = some c → ∃ c0, h.get i = some c0 ∧ c0.length = c.length := fun i c hc => by
    rcases gs i c hc with ⟨rfl, rfl⟩ | ⟨_, hc⟩
    · exact ⟨cs, hg, by simp⟩
    · exact ⟨c, hc, rfl⟩
  refine ⟨r.below.setCell b0 _, (fun i l q => by rw [H.next_set]; exact r.dom i l q), ?_, ?_, ?_, ?_, ?_, ?_⟩
  · intro i c l' hc hl'
    obtain ⟨c0, hc0, hlen⟩ := hsome i c hc
    have := r.blk i c0 l' hc0 hl'
    exact ⟨this.1, by simpa [World.setCell] using this.2.1, by rw [← hlen]; exact this.2.2.1, this.2.2.2⟩
  · intro i c l' hc hl' o' ho'
    obtain ⟨c0, hc0, _⟩ := hsome i c hc
    have := r.own i c0 l' hc0 hl' o' ho'
    refine ⟨?_, by rw [World.frozen?_setCell]; exact this.2⟩
    by_cases e : at' l.block (l.base + o) = at' l'.block (l'.base + o')
    · rw [← e, World.cell?_setCell_same' _ _ _ hcell]; rfl
    · rw [World.cell?_setCell_other _ _ _ _ e]; exact this.1
  · intro i c l' hc hl' j x hx
    rcases gs i c hc with ⟨rfl, rfl⟩ | ⟨hne, hc0⟩
    · rw [hi] at hl'; obtain rfl := Option.some.inj hl'
      by_cases e : j = o
      · subst e
        rw [World.cell?_setCell_same' _ _ _ hcell]
        refine ⟨v, rfl, ?_⟩
        by_cases hjl : j < cs.length
        · rw [List.getElem?_set_self hjl] at hx; obtain rfl := Option.some.inj hx; exact hv
        · rw [List.getElem?_eq_none (by simp; omega)] at hx; cases hx
      · rw [List.getElem?_set_ne (by omega)] at hx
        obtain ⟨u, hu, hVu⟩ := r.val i cs l hg hi j x hx
        exact ⟨u, by rw [World.cell?_setCell_other _ _ _ _ (by simp [at']; omega)]; exact hu, hVu⟩
    · obtain ⟨u, hu, hVu⟩ := r.val i c l' hc0 hl' j x hx
      have hjl : j < l'.ext := by have := r.blk i c l' hc0 hl'; obtain ⟨hj, _⟩ := List.getElem?_eq_some_iff.1 hx; omega
      refine ⟨u, ?_, hVu⟩
      rw [World.cell?_setCell_other]
      · exact hu
      · intro e
        simp only [at', Addr.mk.injEq, and_true] at e
        rcases r.disj i id c cs l' l hc0 hg hl' hi hne e.1.symm with hd | hd <;> omega
  · intro i j c c' l1 l2 hc hc' h1 h2 hne
    obtain ⟨d, hd, _⟩ := hsome i c hc
    obtain ⟨d', hd', _⟩ := hsome j c' hc'
    exact r.disj i j d d' l1 l2 hd hd' h1 h2 hne
  · intro b o' u hu
    rw [World.cell?_setCell_other]
    · exact r.imm b o' u hu
    · intro e
      simp only [at', Addr.mk.injEq, and_true] at e
      rcases r.immd b o' u id cs l hu hg hi e.1.symm with hd | hd <;> omega
  · intro b o' u i c l' hu hc hl'
    obtain ⟨d, hd, _⟩ := hsome i c hc
    exact r.immd b o' u i d l' hu hd hl'
theorem get_set {h : H} {id : Nat} {c d : List AV} (hg : h.get id = some c) : (h.set id d).get id = some d := by simp [H.get_set, hg]
theorem R_setCells {id : Nat} {l : Loc} (hi : ι id = some l) : ∀ (as : List AV) (vs : List Value) (o : Nat), as.length = vs.length → o + as.length ≤ l.ext →
    (∀ (i : Nat) (a : AV) (v : Value), as[i]? = some a → vs[i]? = some v → V L ι M a v) → ∀ {cs : List AV} {h : H} {w : World}, R L w0 ι M h w → h.get id = some cs → R L w0 ι M (h.set id (setFrom cs o as)) (w.setCells l.block (l.base + o) vs)
  | [], [], o, _, _, _, cs, h, w, r, hg => by
    simp only [setFrom, World.setCells]; rw [H.set_same hg]; exact r
  | a :: as, v :: vs, o, hl, ho, hv, cs, h, w, r, hg => by
    have r1 := r.setCell hg hi (o := o) (by simp at ho; omega) (hv 0 a v rfl rfl)
    have r2 := R_setCells hi as vs (o + 1) (by simpa using hl) (by simp at ho ⊢; omega) (fun i a v ha hv' => hv (i + 1) a v (by simpa using ha) (by simpa using hv')) r1 (get_set hg)
    rw [H.set_set] at r2
    simp only [setFrom, World.setCells]
    exact r2
  | [], _ :: _, _, hl, _, _, _, _, _, _, _ => by cases hl
  | _ :: _, [], _, hl, _, _, _, _, _, _, _ => by cases hl
theorem R_spare {id : Nat} {cs : List AV} {l : Loc} (hg : h.get id = some cs) (hi : ι id = some l) : ∀ (vs : List Value) (o : Nat), l.len ≤ o → o + vs.length ≤ l.ext →
    ∀ {w : World}, R L w0 ι M h w → R L w0 ι M h (w.setCells l.block (l.base + o) vs)
  | [], _, _, _, w, r => r
  | v :: vs, o, h0, ho, w, r => by
    have r1 := r.setCell hg hi (o := o) (by simp at ho; omega) (V.imm (VI.bot v))
    rw [List.set_eq_of_length_le (by have := (r.blk id cs l hg hi).2.2.1; omega), H.set_same hg] at r1
    simp only [World.setCells]
    have := R_spare hg hi vs (o + 1) (by omega) (by simp at ho ⊢; omega) r1
    exact this
def Io.put (ι : Io) (id : Nat) (l : Loc) : Io := fun i => if i = id then some l else ι i
theorem Io.le_put {ι : Io} {id : Nat} (l : Loc) (hd : ι id = none) : LeI ι (ι.put id l) := fun i l' h => by
  unfold Io.put; split
  · rename_i e; subst e; rw [hd] at h; cases h
  · exact h
theorem R.put (r : R L w0 ι M h w) {id : Nat} (hd : ι id = none) (l : Loc) {cs : List AV} {h' : H} (hn : h.next ≤ h'.next) (hid : id < h'.next) (hget : ∀ i c, h'.get i = some c → (i = id ∧ c = cs) ∨ (i ≠ id ∧ h.get i = some c))
    (hb : w0.heap.size ≤ l.block ∧ l.block < w.heap.size ∧ cs.length = l.len ∧ l.len ≤ l.ext)
    (hown : ∀ o, o < l.ext → (w.cell? (at' l.block (l.base + o))).isSome = true ∧ w.frozen? (at' l.block (l.base + o)) = false)
    (hval : ∀ i a, cs[i]? = some a → ∃ v, w.cell? (at' l.block (l.base + i)) = some v ∧ V L ι M a v)
    (hdis : ∀ i c l', h'.get i = some c → i ≠ id → ι i = some l' → l'.block = l.block → l'.base + l'.ext ≤ l.base ∨ l.base + l.ext ≤ l'.base)
    (him : ∀ b o v, M b o = some v → b = l.block → o < l.base ∨ l.base + l.ext ≤ o) : R L w0 (ι.put id l) M h' w := by
  have hle := Io.le_put l hd
  have pe : (ι.put id l) id = some l := by simp [Io.put]
  have pn : ∀ i l', i ≠ id → (ι.put id l) i = some l' → ι i = some l' := fun i l' hne hh => by simpa [Io.put, hne] using hh
  refine ⟨r.below, ?_, ?_, ?_, ?_, ?_, r.imm, ?_⟩
  · intro i l' hh
    by_cases e : i = id
    · exact e ▸ hid
    · exact Nat.lt_of_lt_of_le (r.dom i l' (pn i l' e hh)) hn
  · intro i c l' hc hh
    rcases hget i c hc with ⟨rfl, rfl⟩ | ⟨hne, hc'⟩
    · rw [pe] at hh; obtain rfl := Option.some.inj hh; exact hb
    · exact r.blk i c l' hc' (pn i l' hne hh)
  · intro i c l' hc hh
    rcases hget i c hc with ⟨rfl, rfl⟩ | ⟨hne, hc'⟩
    · rw [pe] at hh; obtain rfl := Option.some.inj hh; exact hown
    · exact r.own i c l' hc' (pn i l' hne hh)
  · intro i c l' hc hh j a ha
    rcases hget i c hc with ⟨rfl, rfl⟩ | ⟨hne, hc'⟩
    · rw [pe] at hh; obtain rfl := Option.some.inj hh
      obtain ⟨v, h1, h2⟩ := hval j a ha
      exact ⟨v, h1, h2.mono hle fun _ _ _ h => h⟩
    · obtain ⟨v, h1, h2⟩ := r.val i c l' hc' (pn i l' hne hh) j a ha
      exact ⟨v, h1, h2.mono hle fun _ _ _ h => h⟩
  · intro i j c c' l1 l2 hc hc' h1 h2 hne hbl
    rcases hget i c hc with ⟨e1, _⟩ | ⟨n1, g1⟩
    · subst e1
      rw [pe] at h1; obtain rfl := Option.some.inj h1
      exact (hdis j c' l2 hc' (fun e => hne e.symm) (pn j l2 (fun e => hne e.symm) h2) hbl.symm).symm
    · rcases hget j c' hc' with ⟨e2, _⟩ | ⟨n2, g2⟩
      · subst e2
        rw [pe] at h2; obtain rfl := Option.some.inj h2
        exact hdis i c l1 hc n1 (pn i l1 n1 h1) hbl
      · exact r.disj i j c c' l1 l2 g1 g2 (pn i l1 n1 h1) (pn j l2 n2 h2) hne hbl
  · intro b o v i c l' hm hc hh hbl
    rcases hget i c hc with ⟨rfl, rfl⟩ | ⟨hne, hc'⟩
    · rw [pe] at hh; obtain rfl := Option.some.inj hh; exact him b o v hm hbl
    · exact r.immd b o v i c l' hm hc' (pn i l' hne hh) hbl
theorem R.grow (r : R L w0 ι M h w) (o : Obj) : R L w0 ι M h (w.alloc o) := by
  have hs : (w.alloc o).heap.size = w.heap.size + 1 := Array.size_push _
  have cl : ∀ b i, b < w.heap.size → (w.alloc o).cell? (at' b i) = w.cell? (at' b i) := fun b i hb => World.cell?_alloc_lt w o _ hb
  refine ⟨r.below.alloc r.below.size o, r.dom, ?_, ?_, ?_, r.disj, ?_, r.immd⟩
  · intro i c l hc hl
    have := r.blk i c l hc hl
    exact ⟨this.1, by rw [hs]; omega, this.2.2⟩
  · intro i c l hc hl o' ho
    have h1 := r.own i c l hc hl o' ho
    have h2 := (r.blk i c l hc hl).2.1
    rw [cl _ _ h2]
    refine ⟨h1.1, ?_⟩
    rw [show at' l.block (l.base + o') = ⟨l.block, l.base + o', none⟩ from rfl, World.frozen?_alloc_past o _ _ h2]; exact h1.2
  · intro i c l hc hl j a ha
    obtain ⟨v, h1, h2⟩ := r.val i c l hc hl j a ha
    exact ⟨v, by rw [cl _ _ (r.blk i c l hc hl).2.1]; exact h1, h2⟩
  · intro b i v hm
    have := r.imm b i v hm
    rw [cl _ _ (cell_lt this)]; exact this
theorem R.newf (r : R L w0 ι M h w) {id : Nat} (hd : ι id = none) {cs : List AV} {arr : Array Value} {t : TypeId} {fz : Nat × Nat} {h' : H} (hfz : fz = (0, 0) ∨ arr.size ≤ fz.1) (hn : h.next ≤ h'.next) (hid : id < h'.next) (hget : ∀ i c, h'.get i = some c → (i = id ∧ c = cs) ∨ (i ≠ id ∧ h.get i = some c))
    (hlen : cs.length ≤ arr.size) (hv : ∀ (i : Nat) (a : AV), cs[i]? = some a → ∃ v, arr[i]? = some v ∧ V L ι M a v) :
    R L w0 (ι.put id ⟨w.heap.size, 0, cs.length, arr.size⟩) M h' (w.alloc (.cells arr t fz)) := by
  have hg : (w.alloc (.cells arr t fz)).heap[w.heap.size]? = some (.cells arr t fz) := by
    show (w.heap.push _)[w.heap.size]? = _
    rw [Array.getElem?_push_size]
  have hc : ∀ o, (w.alloc (.cells arr t fz)).cell? (at' w.heap.size o) = arr[o]? := fun o => by
    unfold World.cell? at'; simp only [hg]; rfl
  have hf : ∀ o, o < arr.size → (w.alloc (.cells arr t fz)).frozen? (at' w.heap.size o) = false := fun o ho => by
    unfold World.frozen? at'; simp only [hg]
    rcases hfz with rfl | hz
    · simp
    · obtain ⟨lo, hi⟩ := fz; simp only at hz ⊢; simp; omega
  refine (r.grow (.cells arr t fz)).put hd _ hn hid hget ⟨r.below.size, by simp, rfl, hlen⟩ ?_ ?_ ?_ ?_
  · intro o ho
    simp only [Nat.zero_add]
    rw [hc, hf o ho]
    exact ⟨by rw [Array.getElem?_eq_getElem ho]; rfl, rfl⟩
  · intro i a ha
    simp only [Nat.zero_add]
    rw [hc]; exact hv i a ha
  · intro i c l' hc hne hl' hb
    rcases hget i c hc with ⟨e, _⟩ | ⟨_, hc'⟩
    · exact absurd e hne
    · have := (r.blk i c l' hc' hl').2.1; simp only at hb; omega
  · intro b o v hm hb
    have := cell_lt (r.imm b o v hm); simp only at hb; omega
end
end Ab
set_option linter.unusedSimpArgs false
set_option linter.unusedVariables false
namespace Ab
open Go RowKit
section
variable {L : Lk} {w0 : World} {ι : Io} {M : Mm} {h : H} {w : World}
theorem V.bool_inv {b : Bool} {v : Value} (h : V L ι M (.bool b) v) : v = .bool b := by cases h with | imm h => cases h; rfl
theorem V.int_inv {k : IntKind} {n : Int} {v : Value} (h : V L ι M (.int k n) v) : v = .int k n := by cases h with | imm h => cases h; rfl
theorem V.str_inv {s : ByteArray} {v : Value} (h : V L ι M (.str s) v) : v = .string s := by cases h with | imm h => cases h; rfl
theorem V.nilp_inv {v : Value} (h : V L ι M .nilp v) : v = .pointer none := by cases h with | imm h => cases h; rfl
theorem V.nils_inv {v : Value} (h : V L ι M .nils v) : v = .slice none 0 0 := by cases h with | imm h => cases h; rfl
theorem V.nilf_inv {v : Value} (h : V L ι M .nilf v) : v = .nilFunc := by cases h with | imm h => cases h; rfl
theorem V.nili_inv {v : Value} (h : V L ι M .nili v) : v = .nilIface := by cases h with | imm h => cases h; rfl
theorem V.pobj_inv {id off : Nat} {v : Value} (h : V L ι M (.pobj id off) v) : ∃ l, ι id = some l ∧ v = .pointer (some (at' l.block (l.base + off))) := by
  cases h with
  | imm h => cases h
  | pobj h => exact ⟨_, h, rfl⟩
theorem V.sobj_inv {id off len sz : Nat} {v : Value} (h : V L ι M (.sobj id off len sz) v) : ∃ l cap a, ι id = some l ∧ v = .slice (some a) len cap ∧ len ≤ cap ∧ (cap ≠ 0 → a = at' l.block (l.base + off)) ∧ l.len ≤ off + cap * sz ∧ off + cap * sz ≤ l.ext := by
  cases h with
  | imm h => cases h
  | sobj h hl ha h1 h2 => exact ⟨_, _, _, h, rfl, hl, ha, h1, h2⟩
theorem V.agg_inv {as : List AV} {v : Value} (h : V L ι M (.agg as) v) : ∃ vs : List Value, v = .agg vs.toArray ∧ as.length = vs.length ∧ ∀ (i : Nat) (a : AV) (x : Value), as[i]? = some a → vs[i]? = some x → V L ι M a x := by
  cases h with
  | imm h => cases h with
    | agg l h => exact ⟨_, rfl, l, fun i a x y z => .imm (h i a x y z)⟩
  | agg l h => exact ⟨_, rfl, l, h⟩
theorem V.tup_inv {as : List AV} {v : Value} (h : V L ι M (.tup as) v) : ∃ vs : List Value, v = .tuple vs.toArray ∧ as.length = vs.length ∧ ∀ (i : Nat) (a : AV) (x : Value), as[i]? = some a → vs[i]? = some x → V L ι M a x := by
  cases h with
  | imm h => cases h with
    | tup l h => exact ⟨_, rfl, l, fun i a x y z => .imm (h i a x y z)⟩
  | tup l h => exact ⟨_, rfl, l, h⟩
theorem V.fn_inv {f : Nat} {as cs : List AV} {v : Value} (h : V L ι M (.fn f as cs) v) : ∃ (fid : FuncId) (va vc : List Value), v = .func (.func fid) va.toArray vc.toArray ∧ L.mf fid = some f ∧ as.length = va.length ∧ cs.length = vc.length ∧
    (∀ (i : Nat) (a : AV) (x : Value), as[i]? = some a → va[i]? = some x → V L ι M a x) ∧ (∀ (i : Nat) (a : AV) (x : Value), cs[i]? = some a → vc[i]? = some x → V L ι M a x) := by
  cases h with
  | imm h => cases h with
    | fn hf la lc ha hc => exact ⟨_, _, _, rfl, hf, la, lc, fun i a x y z => .imm (ha i a x y z), fun i a x y z => .imm (hc i a x y z)⟩
  | fn hf la lc ha hc => exact ⟨_, _, _, rfl, hf, la, lc, ha, hc⟩
theorem V.iface_inv {t : Nat} {a : AV} {v : Value} (h : V L ι M (.iface t a) v) : ∃ tid x, v = .iface tid x ∧ L.mt tid = t ∧ V L ι M a x := by
  cases h with
  | imm h => cases h with
    | iface ht h => exact ⟨_, _, rfl, ht, .imm h⟩
  | iface ht h => exact ⟨_, _, rfl, ht, h⟩
def Row (L : Lk) (ι : Io) (M : Mm) (w : World) (b base : Nat) (cs : List AV) : Prop := ∀ (i : Nat) (c : AV), cs[i]? = some c → ∃ v, w.cell? (at' b (base + i)) = some v ∧ V L ι M c v
theorem R.row (r : R L w0 ι M h w) {id : Nat} {cs : List AV} {l : Loc} (hg : h.get id = some cs) (hi : ι id = some l) : Row L ι M w l.block l.base cs := fun i c hc => r.val id cs l hg hi i c hc
theorem V.pimm_inv (r : R L w0 ι M h w) {cells : List AV} {off : Nat} {v : Value} (hv : V L ι M (.pimm cells off) v) : ∃ b base, v = .pointer (some (at' b (base + off))) ∧ Row L ι M w b base cells := by
  cases hv with
  | imm hv => cases hv with
    | @pimm _ _ b base vs h1 h2 => exact ⟨b, base, rfl, fun i c hc => ⟨vs i, r.imm _ _ _ (h1 i c hc), .imm (h2 i c hc)⟩⟩
theorem V.simm_inv (r : R L w0 ι M h w) {t : Bool} {cells : List AV} {off len sz : Nat} {v : Value} (hv : V L ι M (.simm t cells off len sz) v) : ∃ b base cap a, v = .slice (some a) len cap ∧ len ≤ cap ∧ (cap ≠ 0 → a = at' b (base + off)) ∧ cells.length ≤ off + cap * sz ∧ (t = true → off + cap * sz = cells.length) ∧ Row L ι M w b base cells := by
  cases hv with
  | imm hv => cases hv with
    | simm vs h1 h2 hl ha hc ht => exact ⟨_, _, _, _, rfl, hl, ha, hc, ht, fun i c hc => ⟨vs i, r.imm _ _ _ (h1 i c hc), .imm (h2 i c hc)⟩⟩
theorem Row.part {b base : Nat} {cs : List AV} (hr : Row L ι M w b base cs) (off n : Nat) : Row L ι M w b (base + off) ((cs.drop off).take n) := by
  intro i c hc
  have : cs[off + i]? = some c := by
    rw [List.getElem?_take] at hc
    split at hc
    · rwa [List.getElem?_drop] at hc
    · cases hc
  have := hr (off + i) c this
  rwa [← Nat.add_assoc] at this
theorem Row.read {b base : Nat} {cs : List AV} (hr : Row L ι M w b base cs) : ∃ vs : List Value, vs.length = cs.length ∧ (∀ (i : Nat) (v : Value), vs[i]? = some v → w.cell? (at' b (base + i)) = some v) ∧ ∀ (i : Nat) (c : AV) (v : Value), cs[i]? = some c → vs[i]? = some v → V L ι M c v := by
  induction cs generalizing base with
  | nil => exact ⟨[], rfl, fun i v h => by simp at h, fun i c v h => by simp at h⟩
  | cons c cs ih =>
    obtain ⟨v, h1, h2⟩ := hr 0 c rfl
    obtain ⟨vs, g1, g2, g3⟩ := ih (base := base + 1) (fun i c' hc => by
      have := hr (i + 1) c' (by simpa using hc)
      rwa [show base + (i + 1) = base + 1 + i by omega] at this)
    refine ⟨v :: vs, by simp [g1], ?_, ?_⟩
    · intro i u hu
      cases i with
      | zero => simp at hu; subst hu; exact h1
      | succ i => have := g2 i u (by simpa using hu); rwa [show base + (i + 1) = base + 1 + i by omega]
    · intro i a u ha hu
      cases i with
      | zero => simp at ha hu; subst ha; subst hu; exact h2
      | succ i => exact g3 i a u (by simpa using ha) (by simpa using hu)
theorem at_add (b o n : Nat) : (at' b o).add n = at' b (o + n) := by
  unfold Addr.add at'; split
  · rename_i e; subst e; rfl
  · rfl
theorem Row.loads {P : Program} {b base : Nat} {cs : List AV} (hr : Row L ι M w b base cs) : ∃ vs : List Value, vs.length = cs.length ∧ (loadCells (at' b base) cs.length).run P w = .ok vs.toArray w ∧ ∀ (i : Nat) (c : AV) (v : Value), cs[i]? = some c → vs[i]? = some v → V L ι M c v := by
  obtain ⟨vs, h1, h2, h3⟩ := hr.read
  refine ⟨vs, h1, ?_, h3⟩
  rw [← h1]
  exact run_loadCells_list w _ vs fun j v hv => by rw [at_add]; exact h2 j v hv
def tsz (P : Program) (t : TypeId) : Option Nat := (P.info? t).map (·.size)
def tby (P : Program) (t : TypeId) : Option Nat := (P.info? t).map (·.bytes)
def dagg : TypeDesc → Bool
  | .struct _ | .array _ _ => true
  | _ => false
def tagg (P : Program) (t : TypeId) : Option Bool := (P.underlying t).map dagg
theorem run_sizeOf' {P : Program} {t : TypeId} {n : Nat} (h : tsz P t = some n) : (Go.sizeOf t).run P w = .ok n w := by
  unfold tsz at h
  cases hi : P.info? t with
  | none => rw [hi] at h; cases h
  | some i => rw [hi] at h; obtain rfl := Option.some.inj h; simp [Go.sizeOf, typeInfo, hi]
theorem run_isAgg' {P : Program} {t : Nat} {b : Bool} (h : tagg P t = some b) : (isAgg t).run P w = .ok b w := by
  unfold tagg at h
  cases hi : P.underlying t with
  | none => rw [hi] at h; cases h
  | some d =>
    rw [hi] at h; obtain rfl := Option.some.inj h
    simp only [isAgg, Sem.run_bind, run_underlying hi, Result.andThen_ok]
    cases d <;> rfl
theorem rdc_sound {P : Program} {t : TypeId} {agg : Bool} {n : Nat} (ha : tagg P t = some agg) (hn : tsz P t = some n) {b base off : Nat} {cs : List AV} (hr : Row L ι M w b base cs) {x : AV} (hx : rdc agg n cs off = some x) :
    ∃ v, (loadVar t (at' b (base + off))).run P w = .ok v w ∧ V L ι M x v := by
  unfold rdc at hx
  unfold loadVar
  cases agg with
  | true =>
    simp only [if_true] at hx
    split at hx
    · rename_i hle
      obtain rfl := Option.some.inj hx
      have hl : ((cs.drop off).take n).length = n := by simp; omega
      obtain ⟨vs, h1, h2, h3⟩ := Row.loads (P := P) (hr.part off n)
      rw [hl] at h1 h2
      refine ⟨.agg vs.toArray, ?_, .agg (by rw [hl, h1]) h3⟩
      simp [run_isAgg' ha, run_sizeOf' hn, h2]
    · cases hx
  | false =>
    simp only [Bool.false_eq_true, if_false] at hx
    obtain ⟨v, h1, h2⟩ := hr off x hx
    exact ⟨v, by simp [run_isAgg' ha, h1], h2⟩
theorem aload_sound (r : R L w0 ι M h w) {P : Program} {t : TypeId} {agg : Bool} {n : Nat} (ha : tagg P t = some agg) (hn : tsz P t = some n) {p x : AV} {pv : Value} (hp : V L ι M p pv) (hx : aload agg n p h = some x) :
    ∃ v, (Instr.loadAt t pv).run P w = .ok v w ∧ V L ι M x v := by
  unfold aload at hx
  split at hx
  · rename_i id off
    obtain ⟨l, h1, rfl⟩ := hp.pobj_inv
    cases hg : h.get id with
    | none => rw [hg] at hx; cases hx
    | some cs =>
      rw [hg] at hx
      obtain ⟨v, h2, h3⟩ := rdc_sound ha hn (r.row hg h1) hx
      exact ⟨v, by simpa [Instr.loadAt, Instr.sureAddr] using h2, h3⟩
  · rename_i cs off
    obtain ⟨b, base, rfl, hr⟩ := V.pimm_inv r hp
    obtain ⟨v, h2, h3⟩ := rdc_sound ha hn hr hx
    exact ⟨v, by simpa [Instr.loadAt, Instr.sureAddr] using h2, h3⟩
  · cases hx
theorem V.sc {a : AV} {v : Value} (hv : V L ι M a v) (hs : a.sc = true) : v.oneCell' = true ∧ v.cells = #[v] := by
  cases hv with
  | imm h => cases h <;> first | exact ⟨rfl, rfl⟩ | cases hs
  | pobj _ => exact ⟨rfl, rfl⟩
  | sobj _ _ _ _ _ => exact ⟨rfl, rfl⟩
  | fn _ _ _ _ _ => exact ⟨rfl, rfl⟩
  | iface _ _ => exact ⟨rfl, rfl⟩
  | agg _ _ => cases hs
  | tup _ _ => cases hs
theorem allsc_get : ∀ {cs : List AV}, AV.allsc cs = true → ∀ {i : Nat} {a : AV}, cs[i]? = some a → a.sc = true
  | [], _, i, a, h => by simp at h
  | c :: cs, h, i, a, ha => by
    simp only [AV.allsc, Bool.and_eq_true] at h
    cases i with
    | zero => simp at ha; subst ha; exact h.1
    | succ i => exact allsc_get h.2 (by simpa using ha)
theorem V.cells {a : AV} {v : Value} (hv : V L ι M a v) (hs : AV.allsc a.cells = true) : a.cells.length = v.cells.toList.length ∧ (∀ (i : Nat) (x : AV) (y : Value), a.cells[i]? = some x → v.cells.toList[i]? = some y → V L ι M x y) ∧ ∀ y ∈ v.cells.toList, y.oneCell' = true := by
  by_cases hagg : ∃ cs, a = .agg cs
  · obtain ⟨cs, rfl⟩ := hagg
    obtain ⟨vs, rfl, hl, hv'⟩ := hv.agg_inv
    refine ⟨by simpa [AV.cells, Value.cells] using hl, by simpa [AV.cells, Value.cells] using hv', ?_⟩
    intro y hy
    simp only [Value.cells] at hy
    obtain ⟨i, hi, rfl⟩ := List.getElem_of_mem hy
    have hi' : i < cs.length := by simpa [hl] using hi
    have := hv' i cs[i] vs[i] (by simp [hi']) (by simp)
    exact (this.sc (allsc_get hs (i := i) (by simp [AV.cells, hi']))).1
  · have hc : a.cells = [a] := by cases a <;> first | rfl | exact absurd ⟨_, rfl⟩ hagg
    rw [hc] at hs ⊢
    simp only [AV.allsc, Bool.and_true] at hs
    obtain ⟨h1, h2⟩ := hv.sc hs
    rw [h2]
    refine ⟨rfl, fun i x y hx hy => ?_, fun y hy => by simp at hy; subst hy; exact h1⟩
    cases i with
    | zero => simp at hx hy; subst hx; subst hy; exact hv
    | succ i => simp at hx
theorem astore_sound (r : R L w0 ι M h w) {P : Program} {t : TypeId} {n : Nat} (hn : tsz P t = some n) {p x : AV} {pv xv : Value} (hp : V L ι M p pv) (hx : V L ι M x xv) {h' : H} (hs : astore n p x h = some h') :
    ∃ w', (Instr.storeAt t pv xv).run P w = .ok () w' ∧ R L w0 ι M h' w' := by
  unfold astore at hs
  split at hs
  · rename_i id off
    obtain ⟨l, h1, rfl⟩ := hp.pobj_inv
    cases hg : h.get id with
    | none => rw [hg] at hs; cases hs
    | some cs =>
      rw [hg] at hs
      simp only [Option.bind_some] at hs
      split at hs
      · rename_i hc
        obtain ⟨_, hlen, hoff, hsc⟩ := hc
        obtain rfl := Option.some.inj hs
        obtain ⟨g1, g2, g3⟩ := hx.cells hsc
        have hb := r.blk id cs l hg h1
        have hrun := run_storeCells_cells (P := P) l.block (l.base + off) xv.cells.toList 0 w
          (fun j hj => (r.own id cs l hg h1 (off + j) (by omega)).1 |> fun q => by simpa [at', Nat.add_assoc] using q)
          (fun j hj => (r.own id cs l hg h1 (off + j) (by omega)).2 |> fun q => by simpa [at', Nat.add_assoc] using q) g3
        refine ⟨w.setCells l.block (l.base + off) xv.cells.toList, ?_, R_setCells h1 x.cells xv.cells.toList off g1 (by omega) g2 r hg⟩
        have hsz : xv.cells.size = n := by simpa [hlen] using g1.symm
        simp only [Instr.storeAt, Instr.sureAddr, Sem.run_bind, Sem.run_pure, Result.andThen_ok, storeVar, run_sizeOf' hn, hsz, ne_eq, not_true_eq_false, if_false]
        simpa [at'] using hrun
      · cases hs
  · cases hs
def cS : Value → Option AV
  | .bool b => some (.bool b)
  | .int k n => some (.int k n)
  | .string s => some (.str s)
  | .pointer none => some .nilp
  | .slice none 0 0 => some .nils
  | .nilFunc => some .nilf
  | .nilIface => some .nili
  | _ => none
def cSs : List Value → Option (List AV)
  | [] => some []
  | v :: r => (cS v).bind fun a => (cSs r).bind fun as => some (a :: as)
def cV : Value → Option AV
  | .agg cs => (cSs cs.toList).map .agg
  | v => cS v
def cX (L : Lk) : Operand → Option X
  | .tmp t => some (.t t)
  | .const v => (cV v).map .c
  | .func f => (L.mf f).map fun k => .c (.fn k [] [])
  | .global _ => none
theorem cS_sound {v : Value} {a : AV} (h : cS v = some a) : VI L M a v ∧ a.sc = true := by
  unfold cS at h
  split at h <;> first | (obtain rfl := Option.some.inj h; exact ⟨by constructor, rfl⟩) | cases h
theorem cSs_sound : ∀ {vs : List Value} {as : List AV}, cSs vs = some as → as.length = vs.length ∧ (∀ (i : Nat) (a : AV) (v : Value), as[i]? = some a → vs[i]? = some v → VI L M a v) ∧ AV.allsc as = true
  | [], as, h => by obtain rfl := Option.some.inj h; exact ⟨rfl, fun i a v h => by simp at h, rfl⟩
  | v :: vs, as, h => by
    simp only [cSs] at h
    cases ha : cS v with
    | none => rw [ha] at h; cases h
    | some a =>
      cases hr : cSs vs with
      | none => rw [ha, hr] at h; cases h
      | some as' =>
        rw [ha, hr] at h
        obtain rfl := Option.some.inj h
        obtain ⟨h1, h2, h3⟩ := cSs_sound hr
        obtain ⟨k1, k2⟩ := cS_sound (L := L) (M := M) ha
        refine ⟨by simp [h1], fun i x y hx hy => ?_, by simp [AV.allsc, k2, h3]⟩
        cases i with
        | zero => simp at hx hy; subst hx; subst hy; exact k1
        | succ i => exact h2 i x y (by simpa using hx) (by simpa using hy)
theorem cV_sound {v : Value} {a : AV} (h : cV v = some a) : VI L M a v := by
  unfold cV at h
  split at h
  · rename_i cs
    cases hc : cSs cs.toList with
    | none => rw [hc] at h; cases h
    | some as =>
      rw [hc] at h; obtain rfl := Option.some.inj h
      obtain ⟨h1, h2, _⟩ := cSs_sound (L := L) (M := M) hc
      have := VI.agg (L := L) (M := M) h1 h2
      simpa using this
  · exact (cS_sound h).1
def EnvR (L : Lk) (ι : Io) (M : Mm) (e : Env) (tmps : Array Value) : Prop := ∀ t, V L ι M (look e t) (tmps.getD t undef)
theorem EnvR.mono {ι' : Io} {M' : Mm} (hι : LeI ι ι') (hM : LeM M M') {e : Env} {tmps : Array Value} (he : EnvR L ι M e tmps) : EnvR L ι' M' e tmps := fun t => (he t).mono hι hM
theorem X_sound {e : Env} {a : Act} (he : EnvR L ι M e a.tmps) {o : Operand} {x : X} (hx : cX L o = some x) : V L ι M (x.ev e) (a.eval o) := by
  cases o with
  | tmp t => obtain rfl := Option.some.inj hx; exact he t
  | const v =>
    simp only [cX] at hx
    cases hc : cV v with
    | none => rw [hc] at hx; cases hx
    | some c => rw [hc] at hx; obtain rfl := Option.some.inj hx; exact .imm (cV_sound hc)
  | func f =>
    simp only [cX] at hx
    cases hc : L.mf f with
    | none => rw [hc] at hx; cases hx
    | some k =>
      rw [hc] at hx; obtain rfl := Option.some.inj hx
      exact .imm (VI.fn (as := []) (cs := []) (va := []) (vc := []) hc rfl rfl (fun i a v h => by simp at h) (fun i a v h => by simp at h))
  | global _ => cases hx
theorem look_restr (e : Env) : ∀ (keep : List Nat) (t : Nat), look (restr e keep) t = look e t ∨ look (restr e keep) t = .bot
  | [], _ => .inr rfl
  | k :: ks, t => by
    simp only [restr, List.map_cons, look]
    split
    · rename_i h; subst h; exact .inl rfl
    · exact look_restr e ks t
theorem EnvR.restr {e : Env} {tmps : Array Value} (he : EnvR L ι M e tmps) (keep : List Nat) : EnvR L ι M (restr e keep) tmps := fun t => by
  rcases look_restr e keep t with h | h
  · rw [h]; exact he t
  · rw [h]; exact .imm (.bot _)
end
end Ab
set_option linter.unusedSimpArgs false
set_option linter.unusedVariables false
namespace Ab
open Go RowKit
def tzero (P : Program) (t : TypeId) : Option (List AV) := ((P.info? t).bind (·.zero)).bind fun v => cSs v.cells.toList
def cXs (L : Lk) : List Operand → Option (List X)
  | [] => some []
  | o :: r => (cX L o).bind fun x => (cXs L r).bind fun xs => some (x :: xs)
def cOX (L : Lk) : Option Operand → Option (Option X)
  | none => some none
  | some o => (cX L o).map some
def cPs (L : Lk) : List (Nat × Operand) → Option (List (Nat × X))
  | [] => some []
  | (i, o) :: r => (cX L o).bind fun x => (cPs L r).bind fun xs => some ((i, x) :: xs)
def cFs (L : Lk) (fs : Array Field) : List (Nat × Operand) → Option (List (Nat × Nat × X))
  | [] => some []
  | (i, o) :: r => (fs[i]?).bind fun f => (tsz L.P f.type).bind fun n => (cX L o).bind fun x => (cFs L fs r).bind fun xs => some ((f.offset, n, x) :: xs)
def cBo : BinOp → Bo
  | .add => .add | .sub => .sub | .mul => .mul | .quo => .quo | .rem => .rem | .and => .and | .or => .or | .xor => .xor | .andNot => .andNot | .shl => .shl | .shr => .shr
  | .eql => .eql | .neq => .neq | .lss => .lss | .leq => .leq | .gtr => .gtr | .geq => .geq
def isConst : Operand → Bool
  | .const _ => true
  | _ => false
def cBin (L : Lk) (b : BinOp) (t : TypeId) (x y : Operand) : Option AOp :=
  (cX L x).bind fun x' => (cX L y).bind fun y' =>
  match L.P.underlying t with
  | some (.int _) | some .string => some (.bin (cBo b) x' y')
  | some .bool => (match b with | .eql => some (.eqb false x' y') | .neq => some (.eqb true x' y') | _ => none)
  | some (.pointer _) => (match b with | .eql => some (.eqn 0 false x' y') | .neq => some (.eqn 0 true x' y') | _ => none)
  | some (.slice _) => (match b with | .eql => some (.eqn 1 false x' y') | .neq => some (.eqn 1 true x' y') | _ => none)
  | some (.func _ _ _) => (match b with | .eql => some (.eqn 2 false x' y') | .neq => some (.eqn 2 true x' y') | _ => none)
  | some (.interface _) => if isConst x || isConst y then (match b with | .eql => some (.eqn 3 false x' y') | .neq => some (.eqn 3 true x' y') | _ => none) else none
  | _ => none
def cConv (L : Lk) (s d : TypeId) (x : X) : Option AOp :=
  match L.P.underlying s, L.P.underlying d with
  | some (.int _), some (.int k) => some (.conv k x)
  | some .string, some .string => some (.same x)
  | some (.slice e), some .string => (match L.P.underlying e with | some (.int .u8) => some (.b2s x) | _ => none)
  | some .string, some (.slice e) => (match L.P.underlying e with | some (.int .u8) => if tsz L.P e = some 1 then some (.s2b x) else none | _ => none)
  | _, _ => none
def cSlice (L : Lk) (t : TypeId) (x : X) (lo hi mx : Option X) : Option AOp :=
  match L.P.underlying t with
  | some .string => (match mx with | none => some (.sls x lo hi) | some _ => none)
  | some (.slice e) => (tsz L.P e).bind fun n => some (.sl n x lo hi mx)
  | some (.array k e) => (match mx with | none => (tsz L.P e).bind fun n => some (.sla k n x lo hi) | some _ => none)
  | _ => none
def cLen (L : Lk) (t : TypeId) (x : X) : Option AOp :=
  match L.P.underlying t with
  | some .string => some (.len true x)
  | some (.slice _) => some (.len false x)
  | some (.array n _) => some (.mv (.c (.int .i64 n)))
  | some (.pointer a) => (match L.P.underlying a with | some (.array n _) => some (.mv (.c (.int .i64 n))) | _ => none)
  | _ => none
def cCall (L : Lk) (c : Call) : Option AOp :=
  (cXs L c.args.toList).bind fun xs =>
  match c.callee with
  | .value f => (cX L f).bind fun f' => some (.call f' xs)
  | .invoke _ _ => none
  | .builtin b =>
    match b, xs, c.argTypes.toList with
    | .len, [x], [t] => cLen L t x
    | .cap, [x], [t] => (match L.P.underlying t with | some (.slice _) => some (.cap x) | _ => none)
    | .append, [a, b], [s, t] => (match L.P.underlying s, L.P.underlying t with
      | some (.slice e), some (.int _) => (tsz L.P e).bind fun n => (tby L.P e).bind fun m => (tzero L.P e).bind fun z => some (.appz n m z a b)
      | some (.slice e), some .string => (tsz L.P e).bind fun n => (tby L.P e).bind fun m => (tzero L.P e).bind fun z => if z.length = n then some (.app n m a b) else none
      | some (.slice e), some (.slice _) => (tsz L.P e).bind fun n => (tby L.P e).bind fun m => (tzero L.P e).bind fun z => if z.length = n then some (.app n m a b) else none
      | _, _ => none)
    | .copy, [a, b], [s, _] => (match L.P.underlying s with | some (.slice e) => (tsz L.P e).bind fun n => some (.copy n a b) | _ => none)
    | .clear, [a], [s] => (match L.P.underlying s with | some (.slice e) => (tsz L.P e).bind fun n => (tzero L.P e).bind fun z => some (.clear n z a) | _ => none)
    | .min, xs, _ => some (.mn xs)
    | .max, xs, _ => some (.mx xs)
    | _, _, _ => none
def cOp (L : Lk) : Op → Option AOp
  | .move x | .assign x => (cX L x).map .mv
  | .pick c a b => (cX L c).bind fun c => (cX L a).bind fun a => (cX L b).bind fun b => some (.pick c a b)
  | .alloc t => (tzero L.P t).map .alloc
  | .box t x => (cX L x).bind fun x => (tsz L.P t).bind fun n => some (.box n x)
  | .build t ps => (tzero L.P t).bind fun z => match L.P.underlying t with
    | some (.struct fs) => if fs.toList.all (fun f => (tsz L.P f.type).isSome) = true then (cFs L fs ps.toList).map (.build z) else none
    | some (.array _ e) => (tsz L.P e).bind fun n => (cPs L ps.toList).map fun xs => .build z (xs.map fun p => (p.1 * n, n, p.2))
    | _ => none
  | .buildSlice t len ps => match L.P.underlying t with
    | some (.slice e) => (tsz L.P e).bind fun n => (tzero L.P e).bind fun z => (cPs L ps.toList).bind fun xs => if len * n ≤ 16777216 then some (.bslice n len z xs) else none
    | _ => none
  | .load t p => (tagg L.P t).bind fun a => (tsz L.P t).bind fun n => (cX L p).map (.load a n)
  | .store t p v => (tsz L.P t).bind fun n => (cX L p).bind fun p => (cX L v).map (.store n p)
  | .nilCheck x => (cX L x).map .nilc
  | .binOp b t x y _ => cBin L b t x y
  | .unOp u _ x => (cX L x).bind fun x => match u with | .not => some (.not x) | .neg => some (.neg x) | .xor => some (.inv x) | _ => none
  | .convert s d x => (cX L x).bind (cConv L s d)
  | .makeInterface t x => match L.P.underlying t with
    | some (.interface _) | none => none
    | _ => (cX L x).map (.mkif (L.mt t))
  | .makeFunc (.func f) a b => (L.mf f).bind fun k => (cXs L a.toList).bind fun a => (cXs L b.toList).map (.mkfn k a)
  | .makeSlice t l c => match L.P.underlying t with
    | some (.slice e) => (tsz L.P e).bind fun n => (tby L.P e).bind fun m => (tzero L.P e).bind fun z => (cX L l).bind fun l => (cX L c).map (.mksl n m z l)
    | _ => none
  | .slice t x lo hi mx => (cX L x).bind fun x => (cOX L lo).bind fun lo => (cOX L hi).bind fun hi => (cOX L mx).bind fun mx => cSlice L t x lo hi mx
  | .fieldAddr s x f => match L.P.underlying s with
    | some (.struct fs) => (fs[f]?).bind fun fd => (tsz L.P fd.type).bind fun n => if n = 0 then none else (cX L x).map (.fadr fd.offset)
    | _ => none
  | .field s x f => match L.P.underlying s with
    | some (.struct fs) => (fs[f]?).bind fun fd => (tagg L.P fd.type).bind fun a => (tsz L.P fd.type).bind fun n => (cX L x).map (.fld a fd.offset n)
    | _ => none
  | .indexAddr t x i => (cX L x).bind fun x => (cX L i).bind fun i => match L.P.underlying t with
    | some (.slice e) => (tsz L.P e).map fun n => .iadr n x i
    | some (.array k e) => (tsz L.P e).map fun n => .iadra k n x i
    | _ => none
  | .index t x i => (cX L x).bind fun x => (cX L i).bind fun i => match L.P.underlying t with
    | some .string => some (.idxs x i)
    | some (.array k e) => (tagg L.P e).bind fun a => (tsz L.P e).map fun n => .idxa a k n x i
    | _ => none
  | .extract x i => (cX L x).map fun x => .extr x i
  | .call c => cCall L c
  | .panic _ => some .pan
  | _ => none
section
variable {L : Lk} {w0 : World} {ι : Io} {M : Mm} {h : H} {w : World}
theorem binInt_sound {b : BinOp} {k : IntKind} {x y : Int} {t : TypeId} {v : AV} (hv : binInt (cBo b) k x y = some v) : ∃ v', (binOp b t (.int k x) (.int k y)).run L.P w = .ok v' w ∧ V L ι M v v' := by
  cases b <;> simp only [cBo, binInt] at hv
  case shl => cases hv
  case shr => cases hv
  case quo =>
    split at hv
    · cases hv
    · rename_i hy; obtain rfl := Option.some.inj hv
      exact ⟨_, by simp [binOp, Op.intDiv, hy], .imm (.int _ _)⟩
  case rem =>
    split at hv
    · cases hv
    · rename_i hy; obtain rfl := Option.some.inj hv
      exact ⟨_, by simp [binOp, Op.intDiv, hy], .imm (.int _ _)⟩
  all_goals obtain rfl := Option.some.inj hv
  case add => exact ⟨_, by rw [binOp_add]; rfl, .imm (.int _ _)⟩
  case sub => exact ⟨_, by rw [binOp_sub]; rfl, .imm (.int _ _)⟩
  case mul => exact ⟨_, by rw [binOp_mul]; rfl, .imm (.int _ _)⟩
  case and => exact ⟨_, by rw [binOp_and]; rfl, .imm (.int _ _)⟩
  case or => exact ⟨_, by rw [binOp_or]; rfl, .imm (.int _ _)⟩
  case xor => exact ⟨_, by rw [binOp_xor]; rfl, .imm (.int _ _)⟩
  case andNot => exact ⟨_, by rw [binOp_andNot]; rfl, .imm (.int _ _)⟩
  case eql => exact ⟨_, by rw [binOp_eql]; rfl, .imm (.bool _)⟩
  case neq => exact ⟨_, by rw [binOp_neq]; rfl, .imm (.bool _)⟩
  case lss => exact ⟨_, by rw [binOp_lss]; rfl, .imm (.bool _)⟩
  case leq => exact ⟨_, by rw [binOp_leq]; rfl, .imm (.bool _)⟩
  case gtr => exact ⟨_, by rw [binOp_gtr]; rfl, .imm (.bool _)⟩
  case geq => exact ⟨_, by rw [binOp_geq]; rfl, .imm (.bool _)⟩
theorem binStr_sound {b : BinOp} {x y : ByteArray} {t : TypeId} {v : AV} (hv : binStr (cBo b) x y = some v) : ∃ v', (binOp b t (.string x) (.string y)).run L.P w = .ok v' w ∧ V L ι M v v' := by
  cases b <;> simp only [cBo, binStr] at hv
  case add =>
    split at hv
    · rename_i hle; obtain rfl := Option.some.inj hv
      refine ⟨.string (x ++ y), ?_, .imm (.str _)⟩
      have : ¬ ((x.size + y.size : Nat) : Int) > IntKind.i64.max := by simp only [IntKind.max_i64]; omega
      simp only [binOp, Op.stringOp, this, if_false]; rfl
    · cases hv
  all_goals first
    | (obtain rfl := Option.some.inj hv; exact ⟨_, by simp only [binOp, Op.stringOp]; rfl, .imm (.bool _)⟩)
    | exact absurd hv nofun
theorem shft_sound {b : BinOp} {k j : IntKind} {x y : Int} {t : TypeId} {v : AV} (hb : b = .shl ∨ b = .shr) (hv : shft (cBo b) k x y = some v) : ∃ v', (binOp b t (.int k x) (.int j y)).run L.P w = .ok v' w ∧ V L ι M v v' := by
  unfold shft at hv
  split at hv
  · cases hv
  · rename_i hy
    rcases hb with rfl | rfl <;> simp only [cBo] at hv <;> obtain rfl := Option.some.inj hv <;> exact ⟨_, by simp [binOp, Op.shift, hy], .imm (.int _ _)⟩
theorem abin_sound {b : BinOp} {x y : AV} {xv yv : Value} {t : TypeId} {v : AV} (hx : V L ι M x xv) (hy : V L ι M y yv) (hv : abin (cBo b) x y = some v) : ∃ v', (binOp b t xv yv).run L.P w = .ok v' w ∧ V L ι M v v' := by
  unfold abin at hv
  split at hv
  · rename_i hb; rw [hx.int_inv, hy.int_inv]; cases b <;> simp only [cBo] at hb <;> first | exact shft_sound (.inl rfl) hv | exact absurd hb nofun
  · rename_i hb; rw [hx.int_inv, hy.int_inv]; cases b <;> simp only [cBo] at hb <;> first | exact shft_sound (.inr rfl) hv | exact absurd hb nofun
  · rename_i o k a j c h1 h2
    rw [hx.int_inv, hy.int_inv]
    split at hv
    · rename_i e; subst e; exact binInt_sound hv
    · cases hv
  · rw [hx.str_inv, hy.str_inv]; exact binStr_sound hv
  · cases hv
theorem eqGuard_ok {b : BinOp} {t : TypeId} {x y : Operand} {xv yv : Value} (h1 : xv ≠ .nilIface ∨ yv ≠ .nilIface ∨ isConst x = true ∨ isConst y = true) (h2 : ∀ c, xv ≠ .agg c) : eqGuard b t x y xv yv = pure () := by
  cases xv with
  | agg c => exact absurd rfl (h2 c)
  | nilIface =>
    cases yv with
    | nilIface =>
      rcases h1 with h1 | h1 | h1 | h1
      · exact absurd rfl h1
      · exact absurd rfl h1
      · cases x <;> first | (cases b <;> rfl) | (simp [isConst] at h1)
      · cases y <;> first | (cases b <;> cases x <;> rfl) | (simp [isConst] at h1)
    | _ => cases b <;> rfl
  | _ => cases b <;> rfl
theorem abin_noagg {o : Bo} {x y : AV} {xv yv : Value} {v : AV} (hx : V L ι M x xv) (hy : V L ι M y yv) (hv : abin o x y = some v) : xv ≠ .nilIface ∧ ∀ c, xv ≠ .agg c := by
  unfold abin at hv
  split at hv
  · rw [hx.int_inv]; exact ⟨nofun, nofun⟩
  · rw [hx.int_inv]; exact ⟨nofun, nofun⟩
  · rw [hx.int_inv]; exact ⟨nofun, nofun⟩
  · rw [hx.str_inv]; exact ⟨nofun, nofun⟩
  · cases hv
theorem maxDepth_pos : ∃ d, Op.maxDepth = d + 1 := ⟨9999, rfl⟩
def eqT : Nat → TypeDesc → Prop
  | 0, .pointer _ => True
  | 1, .slice _ => True
  | 2, .func _ _ _ => True
  | 3, .interface _ => True
  | _, _ => False
theorem aeqn_sound {k : Nat} {t : TypeId} {d : TypeDesc} (ht : L.P.underlying t = some d) (hd : eqT k d) {x y : AV} {xv yv : Value} (r : R L w0 ι M h w) (hx : V L ι M x xv) (hy : V L ι M y yv) {e : Bool} (he : aeqn k x y = some e) :
    (Op.equal t xv yv).run L.P w = .ok e w := by
  obtain ⟨n, hn⟩ := maxDepth_pos
  unfold Op.equal
  rw [hn]
  unfold aeqn at he
  split at he
  case h_17 => cases he
  all_goals (obtain rfl := Option.some.inj he; cases d <;> first | exact hd.elim | skip)
  case h_1 => rw [hx.nilp_inv, hy.nilp_inv]; simp [Op.equalIn, run_underlying ht]
  case h_2 => obtain ⟨l, _, rfl⟩ := hy.pobj_inv; rw [hx.nilp_inv]; simp [Op.equalIn, run_underlying ht]
  case h_3 => obtain ⟨b, o, rfl, _⟩ := V.pimm_inv r hy; rw [hx.nilp_inv]; simp [Op.equalIn, run_underlying ht]
  case h_4 => obtain ⟨l, _, rfl⟩ := hx.pobj_inv; rw [hy.nilp_inv]; simp [Op.equalIn, run_underlying ht]
  case h_5 => obtain ⟨b, o, rfl, _⟩ := V.pimm_inv r hx; rw [hy.nilp_inv]; simp [Op.equalIn, run_underlying ht]
  case h_6 => rw [hx.nils_inv, hy.nils_inv]; simp [Op.equalIn, run_underlying ht]
  case h_7 => obtain ⟨l, c, a, _, rfl, _⟩ := hy.sobj_inv; rw [hx.nils_inv]; simp [Op.equalIn, run_underlying ht]
  case h_8 => obtain ⟨b, o, c, a, rfl, _⟩ := V.simm_inv r hy; rw [hx.nils_inv]; simp [Op.equalIn, run_underlying ht]
  case h_9 => obtain ⟨l, c, a, _, rfl, _⟩ := hx.sobj_inv; rw [hy.nils_inv]; simp [Op.equalIn, run_underlying ht]
  case h_10 => obtain ⟨b, o, c, a, rfl, _⟩ := V.simm_inv r hx; rw [hy.nils_inv]; simp [Op.equalIn, run_underlying ht]
  case h_11 => rw [hx.nilf_inv, hy.nilf_inv]; simp [Op.equalIn, run_underlying ht]
  case h_12 => obtain ⟨f, a, c, rfl, _⟩ := hy.fn_inv; rw [hx.nilf_inv]; simp [Op.equalIn, run_underlying ht]
  case h_13 => obtain ⟨f, a, c, rfl, _⟩ := hx.fn_inv; rw [hy.nilf_inv]; simp [Op.equalIn, run_underlying ht]
  case h_14 => rw [hx.nili_inv, hy.nili_inv]; simp [Op.equalIn, run_underlying ht]
  case h_15 => obtain ⟨f, a, rfl, _⟩ := hy.iface_inv; rw [hx.nili_inv]; simp [Op.equalIn, run_underlying ht]
  case h_16 => obtain ⟨f, a, rfl, _⟩ := hx.iface_inv; rw [hy.nili_inv]; simp [Op.equalIn, run_underlying ht]
end
end Ab
set_option linter.unusedSimpArgs false
set_option linter.unusedVariables false
namespace Ab
open Go RowKit
section
variable {L : Lk} {w0 : World} {ι : Io} {M : Mm} {h : H} {w : World}
theorem asI_inv {a : AV} {v : Value} (hv : V L ι M a v) {i : Int} (h : asI a = some i) : ∃ k, a = .int k i ∧ v = .int k i := by
  unfold asI at h
  split at h
  · obtain rfl := Option.some.inj h; exact ⟨_, rfl, hv.int_inv⟩
  · cases h
theorem sbound_sound {a : AV} {v : Value} (hv : V L ι M a v) {y y' n : Nat} (h : sbound a y = some n) (hy : y ≤ y') (c : BoundsCode) : (Instr.sliceBound v y' c).run L.P w = .ok n w ∧ n ≤ y := by
  unfold sbound at h
  cases hi : asI a with
  | none => rw [hi] at h; cases h
  | some i =>
    rw [hi] at h
    simp only [Option.bind_some] at h
    split at h
    · rename_i hb
      obtain rfl := Option.some.inj h
      obtain ⟨k, rfl, rfl⟩ := asI_inv hv hi
      have : 0 ≤ i ∧ i ≤ (y' : Int) := ⟨hb.1, by omega⟩
      exact ⟨by simp [Instr.sliceBound, asIntOf, this], by omega⟩
    · cases h
def OV (L : Lk) (ι : Io) (M : Mm) : Option AV → Option Value → Prop
  | none, none => True
  | some a, some v => V L ι M a v
  | _, _ => False
theorem bounds_sound {lo hi : Option AV} {lv hv : Option Value} (hl : OV L ι M lo lv) (hh : OV L ι M hi hv) {b : Bool} {len cap y hh' l' : Nat} (hle : len ≤ y) (hy : y ≤ cap) (h1 : osbound hi len y = some hh') (h2 : osbound lo 0 hh' = some l') :
    (Instr.sliceBounds b len cap lv hv none).run L.P w = .ok (l', hh', cap) w ∧ l' ≤ hh' ∧ hh' ≤ y := by
  have a1 : (match hv with
      | some v => Instr.sliceBound v cap (if b then .sliceAcap else .sliceAlen)
      | none => pure len : Sem Nat).run L.P w = .ok hh' w ∧ hh' ≤ y := by
    cases hi with
    | none =>
      cases hv with
      | none => simp only [osbound] at h1; obtain rfl := Option.some.inj h1; exact ⟨rfl, hle⟩
      | some _ => exact hh.elim
    | some a =>
      cases hv with
      | none => exact hh.elim
      | some v => exact sbound_sound hh h1 hy _
  have a2 : (match lv with
      | some v => Instr.sliceBound v hh' .sliceB
      | none => pure 0 : Sem Nat).run L.P w = .ok l' w ∧ l' ≤ hh' := by
    cases lo with
    | none =>
      cases lv with
      | none => simp only [osbound] at h2; obtain rfl := Option.some.inj h2; exact ⟨rfl, Nat.zero_le _⟩
      | some _ => exact hl.elim
    | some a =>
      cases lv with
      | none => exact hl.elim
      | some v => exact sbound_sound hl h2 (Nat.le_refl _) _
  refine ⟨?_, a2.2, a1.2⟩
  have a1' := a1.1
  have a2' := a2.1
  unfold Instr.sliceBounds
  cases hv <;> cases lv <;> simp_all
theorem asls_sound {x : AV} {xv : Value} {lo hi : Option AV} {lv hv : Option Value} {t : TypeId} (ht : L.P.underlying t = some .string) (hx : V L ι M x xv) (hl : OV L ι M lo lv) (hh : OV L ι M hi hv) {v : AV} (he : asls x lo hi = some v) :
    ∃ v', (Instr.sliceAt t xv lv hv none).run L.P w = .ok v' w ∧ V L ι M v v' := by
  unfold asls at he
  split at he
  · rename_i s
    rw [hx.str_inv]
    cases h1 : osbound hi s.size s.size with
    | none => rw [h1] at he; cases he
    | some hh' =>
      rw [h1] at he; simp only [Option.bind_some] at he
      cases h2 : osbound lo 0 hh' with
      | none => rw [h2] at he; cases he
      | some l' =>
        rw [h2] at he; obtain rfl := Option.some.inj he
        have := (bounds_sound (w := w) hl hh (b := false) (Nat.le_refl _) (Nat.le_refl _) h1 h2).1
        exact ⟨_, by simp [Instr.sliceAt, Instr.slice, run_underlying ht, this], .imm (.str _)⟩
  · cases he
theorem div_le {a b c : Nat} (hb : 0 < b) (h : a ≤ c * b) : a / b ≤ c := by
  have := Nat.div_le_div_right (c := b) h
  rwa [Nat.mul_div_cancel _ hb] at this
theorem asl_sound (r : R L w0 ι M h w) {sz : Nat} {x : AV} {xv : Value} {lo hi mx : Option AV} {lv hv mv : Option Value} {t e : TypeId} (ht : L.P.underlying t = some (.slice e)) (hs : tsz L.P e = some sz) (hx : V L ι M x xv) (hl : OV L ι M lo lv) (hh : OV L ι M hi hv) (hm : OV L ι M mx mv) {v : AV} (he : asl h sz x lo hi mx = some v) :
    ∃ v', (Instr.sliceAt t xv lv hv mv).run L.P w = .ok v' w ∧ V L ι M v v' := by
  unfold asl at he
  cases mx with
  | none =>
    cases mv with
    | some _ => exact hm.elim
    | none =>
    simp only at he
    split at he
    · rw [hx.nils_inv]
      cases h1 : osbound hi 0 0 with
      | none => rw [h1] at he; cases he
      | some hh' =>
        rw [h1] at he; simp only [Option.bind_some] at he
        cases h2 : osbound lo 0 hh' with
        | none => rw [h2] at he; cases he
        | some l' =>
          rw [h2] at he; obtain rfl := Option.some.inj he
          obtain ⟨b1, b2, b3⟩ := bounds_sound (w := w) hl hh (b := true) (Nat.le_refl _) (Nat.le_refl _) h1 h2
          obtain rfl : hh' = 0 := by omega
          obtain rfl : l' = 0 := by omega
          exact ⟨.slice none 0 0, by simp [Instr.sliceAt, Instr.slice, run_underlying ht, b1, run_sizeOf' hs], .imm .nils⟩
    · rename_i id off len s
      split at he
      · rename_i hc; obtain ⟨rfl, hpos⟩ := hc
        cases hg : h.get id with
        | none => rw [hg] at he; cases he
        | some cs =>
          rw [hg] at he; simp only [Option.bind_some] at he
          split at he
          · rename_i hc
            cases h1 : osbound hi len ((cs.length - off) / s) with
            | none => rw [h1] at he; cases he
            | some hh' =>
              rw [h1] at he; simp only [Option.bind_some] at he
              cases h2 : osbound lo 0 hh' with
              | none => rw [h2] at he; cases he
              | some l' =>
                rw [h2] at he; obtain rfl := Option.some.inj he
                obtain ⟨l, cap, a, hi', rfl, hlc, ha, hlo, hhi⟩ := hx.sobj_inv
                have hb := r.blk id cs l hg hi'
                have hcap : (cs.length - off) / s ≤ cap := div_le hpos (by omega)
                obtain ⟨b1, b2, b3⟩ := bounds_sound (w := w) hl hh (b := true) hc.2 hcap h1 h2
                have hmul : l' * s + (cap - l') * s = cap * s := by rw [← Nat.add_mul]; congr 1; omega
                refine ⟨.slice (if cap = l' then some a else some (a.add (l' * s))) (hh' - l') (cap - l'), by simp [Instr.sliceAt, Instr.slice, run_underlying ht, b1, run_sizeOf' hs], ?_⟩
                by_cases hcl : cap = l'
                · rw [if_pos hcl]
                  exact .sobj hi' (by omega) (fun hne => absurd (by omega) hne) (by omega) (by omega)
                · rw [if_neg hcl]
                  exact .sobj hi' (by omega) (fun _ => by rw [ha (by omega), at_add, Nat.add_assoc]) (by omega) (by omega)
          · cases he
      · cases he
    · rename_i t' cells off len s
      split at he
      · rename_i hc; obtain ⟨rfl, hpos⟩ := hc
        split at he
        · rename_i hc
          cases h1 : osbound hi len ((cells.length - off) / s) with
          | none => rw [h1] at he; cases he
          | some hh' =>
            rw [h1] at he; simp only [Option.bind_some] at he
            cases h2 : osbound lo 0 hh' with
            | none => rw [h2] at he; cases he
            | some l' =>
              rw [h2] at he; obtain rfl := Option.some.inj he
              cases hx with
              | imm hx => cases hx with
                | @simm _ _ _ _ _ b base cap a vs g1 g2 hlc ha hce htt =>
                have hcap : (cells.length - off) / s ≤ cap := div_le hpos (by omega)
                obtain ⟨b1, b2, b3⟩ := bounds_sound (w := w) hl hh (b := true) hc.2 hcap h1 h2
                have hmul : l' * s + (cap - l') * s = cap * s := by rw [← Nat.add_mul]; congr 1; omega
                refine ⟨.slice (if cap = l' then some a else some (a.add (l' * s))) (hh' - l') (cap - l'), by simp [Instr.sliceAt, Instr.slice, run_underlying ht, b1, run_sizeOf' hs], ?_⟩
                by_cases hcl : cap = l'
                · rw [if_pos hcl]
                  exact .imm (.simm vs g1 g2 (by omega) (fun hne => absurd (by omega) hne) (by omega) (fun q => by have := htt q; omega))
                · rw [if_neg hcl]
                  exact .imm (.simm vs g1 g2 (by omega) (fun _ => by rw [ha (by omega), at_add, Nat.add_assoc]) (by omega) (fun q => by have := htt q; omega))
        · cases he
      · cases he
    · cases he
  | some m =>
    cases mv with
    | none => exact hm.elim
    | some mv =>
    simp only at he
    split at he
    · rename_i h1 h2
      cases lv with
      | some _ => exact hl.elim
      | none =>
      cases hi with
      | none => cases h2
      | some hi =>
      cases hv with
      | none => exact hh.elim
      | some hv =>
      obtain ⟨k1, rfl, rfl⟩ := asI_inv (show V L ι M m mv from hm) h1
      obtain ⟨k2, rfl, rfl⟩ := asI_inv (show V L ι M hi hv from hh) h2
      split at he
      · obtain rfl := Option.some.inj he
        rw [hx.nils_inv]
        exact ⟨.slice none 0 0, by simp [Instr.sliceAt, Instr.slice, Instr.sliceBounds, Instr.sliceBound, asIntOf, run_underlying ht, run_sizeOf' hs], .imm .nils⟩
      · obtain rfl := Option.some.inj he
        obtain ⟨l, cap, a, hi', rfl, hlc, ha, hlo, hhi⟩ := hx.sobj_inv
        exact ⟨.slice (some a) 0 0, by simp [Instr.sliceAt, Instr.slice, Instr.sliceBounds, Instr.sliceBound, asIntOf, run_underlying ht, run_sizeOf' hs],
          .imm (.simm (b := 0) (base := 0) (fun _ => undef) (fun i c hc => by simp at hc) (fun i c hc => by simp at hc) (Nat.le_refl _) (fun hne => absurd rfl hne) (by simp) (fun _ => by simp))⟩
      · obtain rfl := Option.some.inj he
        obtain ⟨b, base, cap, a, rfl, hlc, ha, hce, htt, hrow⟩ := V.simm_inv r hx
        exact ⟨.slice (some a) 0 0, by simp [Instr.sliceAt, Instr.slice, Instr.sliceBounds, Instr.sliceBound, asIntOf, run_underlying ht, run_sizeOf' hs],
          .imm (.simm (b := 0) (base := 0) (fun _ => undef) (fun i c hc => by simp at hc) (fun i c hc => by simp at hc) (Nat.le_refl _) (fun hne => absurd rfl hne) (by simp) (fun _ => by simp))⟩
      · cases he
    · cases he
theorem asla_sound (r : R L w0 ι M h w) {n sz : Nat} {x : AV} {xv : Value} {lo hi : Option AV} {lv hv : Option Value} {t e : TypeId} (ht : L.P.underlying t = some (.array n e)) (hs : tsz L.P e = some sz) (hx : V L ι M x xv) (hl : OV L ι M lo lv) (hh : OV L ι M hi hv) {v : AV} (he : asla h n sz x lo hi = some v) :
    ∃ v', (Instr.sliceAt t xv lv hv none).run L.P w = .ok v' w ∧ V L ι M v v' := by
  unfold asla at he
  split at he
  · rename_i id off
    split at he
    · rename_i hpos
      cases hg : h.get id with
      | none => rw [hg] at he; cases he
      | some cs =>
        rw [hg] at he; simp only [Option.bind_some] at he
        split at he
        · rename_i hc
          cases h1 : osbound hi n n with
          | none => rw [h1] at he; cases he
          | some hh' =>
            rw [h1] at he; simp only [Option.bind_some] at he
            cases h2 : osbound lo 0 hh' with
            | none => rw [h2] at he; cases he
            | some l' =>
              rw [h2] at he; obtain rfl := Option.some.inj he
              obtain ⟨l, hi', rfl⟩ := hx.pobj_inv
              have hb := r.blk id cs l hg hi'
              obtain ⟨b1, b2, b3⟩ := bounds_sound (w := w) hl hh (b := false) (Nat.le_refl _) (Nat.le_refl _) h1 h2
              have hmul : l' * sz + (n - l') * sz = n * sz := by rw [← Nat.add_mul]; congr 1; omega
              refine ⟨.slice (some (if n = l' then at' l.block (l.base + off) else (at' l.block (l.base + off)).add (l' * sz))) (hh' - l') (n - l'), by simp [Instr.sliceAt, Instr.sureAddr, run_underlying ht, b1, run_sizeOf' hs], ?_⟩
              by_cases hcl : n = l'
              · rw [if_pos hcl]
                exact .sobj hi' (by omega) (fun hne => absurd (by omega) hne) (by omega) (by omega)
              · rw [if_neg hcl]
                exact .sobj hi' (by omega) (fun _ => by rw [at_add, Nat.add_assoc]) (by omega) (by omega)
        · cases he
    · cases he
  · cases he
theorem aidx_inv {i : AV} {iv : Value} (hi : V L ι M i iv) {n j : Nat} (h : aidx i n = some j) : ∃ k z, iv = .int k z ∧ 0 ≤ z ∧ z < (n : Int) ∧ z.toNat = j ∧ j < n := by
  unfold aidx at h
  cases hz : asI i with
  | none => rw [hz] at h; cases h
  | some z =>
    rw [hz] at h; simp only [Option.bind_some] at h
    split at h
    · rename_i hb
      obtain rfl := Option.some.inj h
      obtain ⟨k, _, rfl⟩ := asI_inv hi hz
      exact ⟨k, z, rfl, hb.1, hb.2, rfl, by omega⟩
    · cases h
theorem aiadr_sound (r : R L w0 ι M h w) {sz : Nat} {x i : AV} {xv iv : Value} {t e : TypeId} (ht : L.P.underlying t = some (.slice e)) (hs : tsz L.P e = some sz) (hx : V L ι M x xv) (hi : V L ι M i iv) {v : AV} (he : aiadr sz x i = some v) :
    ∃ v', (Instr.indexAt t xv iv).run L.P w = .ok v' w ∧ V L ι M v v' := by
  unfold aiadr at he
  split at he
  · rename_i id off len s
    split at he
    · rename_i e; subst e
      cases hj : aidx i len with
      | none => rw [hj] at he; cases he
      | some j =>
        rw [hj] at he; obtain rfl := Option.some.inj he
        obtain ⟨k, z, rfl, z0, z1, rfl, hjl⟩ := aidx_inv hi hj
        obtain ⟨l, cap, a, hi', rfl, hlc, ha, hlo, hhi⟩ := hx.sobj_inv
        obtain rfl := ha (by omega)
        exact ⟨.pointer (some (at' l.block (l.base + (off + z.toNat * s)))), by simp [Instr.indexAt, asIntOf, run_underlying ht, run_sizeOf' hs, z0, z1, at_add, Nat.add_assoc], .pobj hi'⟩
    · cases he
  · rename_i t' cells off len s
    split at he
    · rename_i e; subst e
      cases hj : aidx i len with
      | none => rw [hj] at he; cases he
      | some j =>
        rw [hj] at he; obtain rfl := Option.some.inj he
        obtain ⟨k, z, rfl, z0, z1, rfl, hjl⟩ := aidx_inv hi hj
        cases hx with
        | imm hx => cases hx with
          | @simm _ _ _ _ _ b base cap a vs g1 g2 hlc ha hce htt =>
          obtain rfl := ha (by omega)
          exact ⟨.pointer (some (at' b (base + (off + z.toNat * s)))), by simp [Instr.indexAt, asIntOf, run_underlying ht, run_sizeOf' hs, z0, z1, at_add, Nat.add_assoc], .imm (.pimm vs g1 g2)⟩
    · cases he
  · cases he
theorem aiadra_sound {n sz : Nat} {x i : AV} {xv iv : Value} {t e : TypeId} (ht : L.P.underlying t = some (.array n e)) (hs : tsz L.P e = some sz) (hx : V L ι M x xv) (hi : V L ι M i iv) {v : AV} (he : aiadra n sz x i = some v) :
    ∃ v', (Instr.indexAt t xv iv).run L.P w = .ok v' w ∧ V L ι M v v' := by
  unfold aiadra at he
  split at he
  · rename_i id off
    cases hj : aidx i n with
    | none => rw [hj] at he; cases he
    | some j =>
      rw [hj] at he; obtain rfl := Option.some.inj he
      obtain ⟨k, z, rfl, z0, z1, rfl, hjl⟩ := aidx_inv hi hj
      obtain ⟨l, hi', rfl⟩ := hx.pobj_inv
      exact ⟨.pointer (some (at' l.block (l.base + (off + z.toNat * sz)))), by simp [Instr.indexAt, Instr.sureAddr, asIntOf, run_underlying ht, run_sizeOf' hs, z0, z1, at_add, Nat.add_assoc], .pobj hi'⟩
  · rename_i cells off
    cases hj : aidx i n with
    | none => rw [hj] at he; cases he
    | some j =>
      rw [hj] at he; obtain rfl := Option.some.inj he
      obtain ⟨k, z, rfl, z0, z1, rfl, hjl⟩ := aidx_inv hi hj
      cases hx with
      | imm hx => cases hx with
        | @pimm _ _ b base vs g1 g2 =>
        exact ⟨.pointer (some (at' b (base + (off + z.toNat * sz)))), by simp [Instr.indexAt, Instr.sureAddr, asIntOf, run_underlying ht, run_sizeOf' hs, z0, z1, at_add, Nat.add_assoc], .imm (.pimm vs g1 g2)⟩
  · cases he
theorem afadr_sound {n f : Nat} {x : AV} {xv : Value} {s : TypeId} {fs : Array Field} {fd : Field} (ht : L.P.underlying s = some (.struct fs)) (hf : fs[f]? = some fd) (hn : tsz L.P fd.type = some n) (hn0 : n ≠ 0) (hx : V L ι M x xv) {v : AV} (he : afadr fd.offset x = some v) :
    ∃ v', (Instr.fieldAt s xv f).run L.P w = .ok v' w ∧ V L ι M v v' := by
  unfold afadr at he
  split at he
  · obtain rfl := Option.some.inj he
    obtain ⟨l, hi', rfl⟩ := hx.pobj_inv
    exact ⟨_, by simp [Instr.fieldAt, Instr.sureAddr, run_underlying ht, hf, fieldPlace, run_sizeOf' hn, hn0, at_add, Nat.add_assoc], .pobj hi'⟩
  · obtain rfl := Option.some.inj he
    cases hx with
    | imm hx => cases hx with
      | @pimm _ _ b base vs g1 g2 =>
      exact ⟨_, by simp [Instr.fieldAt, Instr.sureAddr, run_underlying ht, hf, fieldPlace, run_sizeOf' hn, hn0, at_add, Nat.add_assoc], .imm (.pimm vs g1 g2)⟩
  · cases he
theorem part_sound {agg : Bool} {off n : Nat} {t : TypeId} (ha : tagg L.P t = some agg) (hn : tsz L.P t = some n) {cs : List AV} {vs : List Value} (hl : cs.length = vs.length) (hv : ∀ (i : Nat) (a : AV) (x : Value), cs[i]? = some a → vs[i]? = some x → V L ι M a x) {v : AV} (he : rdc agg n cs off = some v) :
    ∃ v', (part t vs.toArray off).run L.P w = .ok v' w ∧ V L ι M v v' := by
  unfold rdc at he
  cases agg with
  | true =>
    simp only [if_true] at he
    split at he
    · obtain rfl := Option.some.inj he
      refine ⟨.agg ((vs.drop off).take n).toArray, ?_, .agg (by simp [hl]) fun i a x h1 h2 => ?_⟩
      · simp only [part, Sem.run_bind, run_isAgg' ha, Result.andThen_ok, if_true, run_sizeOf' hn, Sem.run_pure]
        congr 2
        apply Array.ext'
        simp [Array.toList_extract, List.extract_eq_take_drop]
      · rw [List.getElem?_take] at h1 h2
        split at h1
        · rename_i hlt
          rw [if_pos hlt] at h2
          rw [List.getElem?_drop] at h1 h2
          exact hv _ _ _ h1 h2
        · cases h1
    · cases he
  | false =>
    simp only [Bool.false_eq_true, if_false] at he
    obtain ⟨hlt, _⟩ := List.getElem?_eq_some_iff.1 he
    refine ⟨vs[off]'(hl ▸ hlt), ?_, hv off v _ he (by simp)⟩
    have : vs.toArray[off]? = some (vs[off]'(hl ▸ hlt)) := by simp [hl ▸ hlt]
    simp [part, run_isAgg' ha, this]
end
end Ab
set_option linter.unusedSimpArgs false
set_option linter.unusedVariables false
namespace Ab
open Go RowKit
section
variable {L : Lk} {w0 : World} {ι : Io} {M : Mm} {h : H} {w : World}
def RowA (L : Lk) (ι : Io) (M : Mm) (cs : List AV) (arr : List Value) : Prop := cs.length = arr.length ∧ ∀ (i : Nat) (a : AV) (v : Value), cs[i]? = some a → arr[i]? = some v → V L ι M a v
theorem RowA.nil : RowA L ι M [] [] := ⟨rfl, fun i a v h => by simp at h⟩
theorem RowA.cons {a : AV} {v : Value} {cs : List AV} {vs : List Value} (hv : V L ι M a v) (hr : RowA L ι M cs vs) : RowA L ι M (a :: cs) (v :: vs) := by
  refine ⟨by simp [hr.1], fun i x y h1 h2 => ?_⟩
  cases i with
  | zero => simp at h1 h2; subst h1; subst h2; exact hv
  | succ i => exact hr.2 i x y (by simpa using h1) (by simpa using h2)
theorem RowA.append {as bs : List AV} {us vs : List Value} (h1 : RowA L ι M as us) (h2 : RowA L ι M bs vs) : RowA L ι M (as ++ bs) (us ++ vs) := by
  refine ⟨by simp [h1.1, h2.1], fun i a v ha hv => ?_⟩
  rw [List.getElem?_append] at ha hv
  rw [← h1.1] at hv
  split at ha
  · rename_i hlt; rw [if_pos hlt] at hv; exact h1.2 i a v ha hv
  · rename_i hlt; rw [if_neg hlt] at hv; exact h2.2 _ a v ha hv
theorem RowA.get {cs : List AV} {vs : List Value} (hr : RowA L ι M cs vs) {i : Nat} {a : AV} (h : cs[i]? = some a) : ∃ v, vs[i]? = some v ∧ V L ι M a v := by
  obtain ⟨hi, _⟩ := List.getElem?_eq_some_iff.1 h
  have : vs[i]? = some (vs[i]'(hr.1 ▸ hi)) := by simp [hr.1 ▸ hi]
  exact ⟨_, this, hr.2 i a _ h this⟩
theorem RowA.set {cs : List AV} {vs : List Value} (hr : RowA L ι M cs vs) (i : Nat) {a : AV} {v : Value} (hv : V L ι M a v) : RowA L ι M (cs.set i a) (vs.set i v) := by
  refine ⟨by simp [hr.1], fun j x y h1 h2 => ?_⟩
  by_cases e : j = i
  · subst e
    have hj : j < cs.length := by obtain ⟨hj, _⟩ := List.getElem?_eq_some_iff.1 h1; simpa using hj
    rw [List.getElem?_set_self hj] at h1
    rw [List.getElem?_set_self (hr.1 ▸ hj)] at h2
    obtain rfl := Option.some.inj h1; obtain rfl := Option.some.inj h2; exact hv
  · rw [List.getElem?_set_ne (fun q => e q.symm)] at h1 h2; exact hr.2 j x y h1 h2
theorem RowA.mono {ι' : Io} {M' : Mm} (hι : LeI ι ι') (hM : LeM M M') {cs : List AV} {vs : List Value} (hr : RowA L ι M cs vs) : RowA L ι' M' cs vs := ⟨hr.1, fun i a v x y => (hr.2 i a v x y).mono hι hM⟩
theorem setFrom_length : ∀ (vs cs : List AV) (o : Nat), (setFrom cs o vs).length = cs.length
  | [], _, _ => rfl
  | v :: vs, cs, o => by simp [setFrom, setFrom_length vs]
theorem fold_sets : ∀ (vs : List Value) (arr : List Value) (off k : Nat), ((vs.zipIdx k).foldl (fun (cs : Array Value) x => cs.setIfInBounds (off + x.2) x.1) arr.toArray).toList = (vs.zipIdx k).foldl (fun (cs : List Value) x => cs.set (off + x.2) x.1) arr
  | [], _, _, _ => rfl
  | v :: vs, arr, off, k => by
    simp only [List.zipIdx_cons, List.foldl_cons]
    have : (arr.toArray.setIfInBounds (off + k) v) = (arr.set (off + k) v).toArray := by simp
    rw [this, fold_sets vs]
theorem RowA.setFrom : ∀ (as : List AV) (vs : List Value) (cs : List AV) (arr : List Value) (off k : Nat), RowA L ι M as vs → RowA L ι M cs arr → RowA L ι M (setFrom cs (off + k) as) ((vs.zipIdx k).foldl (fun (cs : List Value) x => cs.set (off + x.2) x.1) arr)
  | [], [], cs, arr, off, k, _, hr => hr
  | a :: as, v :: vs, cs, arr, off, k, hv, hr => by
    simp only [Ab.setFrom, List.zipIdx_cons, List.foldl_cons]
    have := RowA.setFrom as vs _ _ off (k + 1) ⟨by simpa using hv.1, fun i x y h1 h2 => hv.2 (i + 1) x y (by simpa using h1) (by simpa using h2)⟩ (hr.set (off + k) (hv.2 0 a v rfl rfl))
    exact this
  | [], _ :: _, _, _, _, _, hv, _ => by cases hv.1
  | _ :: _, [], _, _, _, _, hv, _ => by cases hv.1
theorem fill_sound (place : Nat → Option (Nat × Nat)) : ∀ (ps : List (Nat × Nat × AV)) (qs : List (Nat × Value)), ps.length = qs.length → (∀ (i : Nat) (p : Nat × Nat × AV) (q : Nat × Value), ps[i]? = some p → qs[i]? = some q → place q.1 = some (p.1, p.2.1) ∧ V L ι M p.2.2 q.2) →
    ∀ {cs r : List AV} {arr : Array Value}, RowA L ι M cs arr.toList → fillA cs ps = some r → ∃ arr', Instr.fill place arr qs = some arr' ∧ RowA L ι M r arr'.toList
  | [], [], _, _, cs, r, arr, hr, hf => by obtain rfl := Option.some.inj hf; exact ⟨arr, rfl, hr⟩
  | (off, size, a) :: ps, (i, v) :: qs, hl, hp, cs, r, arr, hr, hf => by
    simp only [fillA] at hf
    split at hf
    · rename_i hc
      obtain ⟨h1, h2, h3⟩ := hc
      obtain ⟨hpl, hv⟩ := hp 0 _ _ rfl rfl
      simp only at hpl hv
      obtain ⟨g1, g2, _⟩ := hv.cells h3
      have hr' : RowA L ι M (Ab.setFrom cs off a.cells) (v.cells.zipIdx.foldl (fun (cs : Array Value) x => cs.setIfInBounds (off + x.2) x.1) arr).toList := by
        rw [← Array.foldl_toList, Array.toList_zipIdx, show arr = arr.toList.toArray by simp, fold_sets]
        exact RowA.setFrom a.cells v.cells.toList cs arr.toList off 0 ⟨g1, g2⟩ hr
      obtain ⟨arr', k1, k2⟩ := fill_sound place ps qs (by simpa using hl) (fun j p q hp' hq' => hp (j + 1) p q (by simpa using hp') (by simpa using hq')) hr' hf
      refine ⟨arr', ?_, k2⟩
      have e1 : v.cells.size = size := by simpa [h1] using g1.symm
      have e2 : arr.size = cs.length := by simpa using hr.1.symm
      simp only [Instr.fill, hpl]
      rw [if_neg (by simp only [Bool.or_eq_true, bne_iff_ne, ne_eq, decide_eq_true_eq]; omega)]
      exact k1
    · cases hf
  | [], _ :: _, hl, _, _, _, _, _, _ => by cases hl
  | _ :: _, [], hl, _, _, _, _, _, _ => by cases hl
theorem tzero_inv {P : Program} {t : TypeId} {z : List AV} (h : tzero P t = some z) : ∃ i zv, P.info? t = some i ∧ i.zero = some zv ∧ cSs zv.cells.toList = some z := by
  unfold tzero at h
  cases hi : P.info? t with
  | none => rw [hi] at h; cases h
  | some i =>
    cases hz : i.zero with
    | none => rw [hi] at h; simp [hz] at h
    | some zv => rw [hi] at h; simp [hz] at h; exact ⟨i, zv, rfl, hz, h⟩
theorem run_zero {P : Program} {t : TypeId} {i : TypeInfo} {zv : Value} (hi : P.info? t = some i) (hz : i.zero = some zv) : (zeroValue t).run P w = .ok zv w := by simp [zeroValue, typeInfo, hi, hz]
theorem zero_row {zv : Value} {z : List AV} (h : cSs zv.cells.toList = some z) : RowA L ι M z zv.cells.toList := by
  obtain ⟨h1, h2, _⟩ := cSs_sound (L := L) (M := M) h
  exact ⟨h1, fun i a v x y => .imm (h2 i a v x y)⟩
theorem range_row {z : List AV} {zv : Array Value} (hr : RowA L ι M z zv.toList) : ∀ (n : Nat), RowA L ι M (repl n z) ((Array.range (n * zv.size)).map (fun i => zv[i % zv.size]!)).toList := by
  intro n
  have hl : z.length = zv.size := by simpa using hr.1
  have len : ∀ n, (repl n z).length = n * z.length := fun n => by
    induction n with
    | zero => simp [repl]
    | succ n ih => simp [repl, ih, Nat.add_mul, Nat.add_comm]
  have idx : ∀ n i, i < n * z.length → (repl n z)[i]? = z[i % z.length]? := fun n => by
    induction n with
    | zero => intro i hi; simp at hi
    | succ n ih =>
      intro i hi
      simp only [repl]
      rw [List.getElem?_append]
      split
      · rename_i hlt; rw [Nat.mod_eq_of_lt hlt]
      · rename_i hlt
        rw [ih _ (by rw [Nat.add_mul] at hi; omega)]
        rw [← Nat.mod_eq_sub_mod (by omega)]
  refine ⟨by simp [len, hl], fun i a v h1 h2 => ?_⟩
  have hi : i < n * z.length := by
    obtain ⟨hi, _⟩ := List.getElem?_eq_some_iff.1 h1; rwa [len] at hi
  rw [idx n i hi] at h1
  have hpos : 0 < z.length := by
    rcases Nat.eq_zero_or_pos z.length with e | e
    · rw [e] at hi; simp at hi
    · exact e
  have hm : i % zv.size < zv.size := Nat.mod_lt _ (hl ▸ hpos)
  have : v = zv[i % zv.size]! := by
    simp only [Array.toList_map, Array.toList_range, List.getElem?_map, Option.map_eq_some_iff] at h2
    obtain ⟨j, hj, rfl⟩ := h2
    rw [List.getElem?_range (by rw [← hl]; exact hi)] at hj
    obtain rfl := Option.some.inj hj; rfl
  rw [hl] at h1
  refine hr.2 _ a v h1 ?_
  rw [this, getElem!_pos zv _ hm]; simp [hm]
theorem zeroCells_row {z : List AV} {zv : Array Value} (hr : RowA L ι M z zv.toList) (n : Nat) : RowA L ι M (repl n z) (Builtin.zeroCells zv n).toList := range_row hr n
structure Made (L : Lk) (ι : Io) (M : Mm) (w : World) (cs : List AV) (mk : Nat → AV) (v' : Value) (w' : World) : Prop where
  ex : ∃ (dr : Nat) (arr : Array Value) (t : TypeId) (fz : Nat × Nat), w' = ({ w with drawn := dr } : World).alloc (.cells arr t fz) ∧ (fz = (0, 0) ∨ arr.size ≤ fz.1) ∧ cs.length ≤ arr.size ∧
    (∀ (i : Nat) (a : AV), cs[i]? = some a → ∃ v, arr[i]? = some v ∧ V L ι M a v) ∧ ∀ (ι' : Io) (id : Nat), ι' id = some ⟨w.heap.size, 0, cs.length, arr.size⟩ → V L ι' M (mk id) v'
theorem cXs_sound {e : Env} {a : Act} (he : EnvR L ι M e a.tmps) : ∀ {os : List Operand} {xs : List X}, cXs L os = some xs → RowA L ι M (evArgs e xs) (os.map a.eval)
  | [], xs, h => by obtain rfl := Option.some.inj h; exact RowA.nil
  | o :: os, xs, h => by
    simp only [cXs] at h
    cases h1 : cX L o with
    | none => rw [h1] at h; cases h
    | some x =>
      cases h2 : cXs L os with
      | none => rw [h1, h2] at h; cases h
      | some ys =>
        rw [h1, h2] at h; obtain rfl := Option.some.inj h
        exact RowA.cons (X_sound he h1) (cXs_sound he h2)
theorem cPs_sound {e : Env} {a : Act} (he : EnvR L ι M e a.tmps) : ∀ {os : List (Nat × Operand)} {xs : List (Nat × X)}, cPs L os = some xs → xs.length = os.length ∧ ∀ (i : Nat) (p : Nat × X) (q : Nat × Operand), xs[i]? = some p → os[i]? = some q → p.1 = q.1 ∧ V L ι M (p.2.ev e) (a.eval q.2)
  | [], xs, h => by obtain rfl := Option.some.inj h; exact ⟨rfl, fun i p q h => by simp at h⟩
  | (k, o) :: os, xs, h => by
    simp only [cPs] at h
    cases h1 : cX L o with
    | none => rw [h1] at h; cases h
    | some x =>
      cases h2 : cPs L os with
      | none => rw [h1, h2] at h; cases h
      | some ys =>
        rw [h1, h2] at h; obtain rfl := Option.some.inj h
        obtain ⟨g1, g2⟩ := cPs_sound he h2
        refine ⟨by simp [g1], fun i p q hp hq => ?_⟩
        cases i with
        | zero => simp at hp hq; subst hp; subst hq; exact ⟨rfl, X_sound he h1⟩
        | succ i => exact g2 i p q (by simpa using hp) (by simpa using hq)
theorem cFs_sound {e : Env} {a : Act} (he : EnvR L ι M e a.tmps) {fs : Array Field} : ∀ {os : List (Nat × Operand)} {xs : List (Nat × Nat × X)}, cFs L fs os = some xs → xs.length = os.length ∧ ∀ (i : Nat) (p : Nat × Nat × X) (q : Nat × Operand), xs[i]? = some p → os[i]? = some q →
    (∃ f, fs[q.1]? = some f ∧ p.1 = f.offset ∧ tsz L.P f.type = some p.2.1) ∧ V L ι M (p.2.2.ev e) (a.eval q.2)
  | [], xs, h => by obtain rfl := Option.some.inj h; exact ⟨rfl, fun i p q h => by simp at h⟩
  | (k, o) :: os, xs, h => by
    simp only [cFs] at h
    cases h0 : fs[k]? with
    | none => rw [h0] at h; cases h
    | some f =>
      cases hn : tsz L.P f.type with
      | none => rw [h0] at h; simp [hn] at h
      | some n =>
        cases h1 : cX L o with
        | none => rw [h0] at h; simp [hn, h1] at h
        | some x =>
          cases h2 : cFs L fs os with
          | none => rw [h0] at h; simp [hn, h1, h2] at h
          | some ys =>
            rw [h0] at h; simp [hn, h1, h2] at h; subst h
            obtain ⟨g1, g2⟩ := cFs_sound he h2
            refine ⟨by simp [g1], fun i p q hp hq => ?_⟩
            cases i with
            | zero => simp at hp hq; subst hp; subst hq; exact ⟨⟨f, h0, rfl, hn⟩, X_sound he h1⟩
            | succ i => exact g2 i p q (by simpa using hp) (by simpa using hq)
end
end Ab
set_option linter.unusedSimpArgs false
set_option linter.unusedVariables false
namespace Ab
open Go RowKit
section
variable {L : Lk} {w0 : World} {ι : Io} {M : Mm} {h : H} {w : World}
theorem RowA.at {cs : List AV} {arr : Array Value} (hr : RowA L ι M cs arr.toList) : cs.length ≤ arr.size ∧ ∀ (i : Nat) (a : AV), cs[i]? = some a → ∃ v, arr[i]? = some v ∧ V L ι M a v :=
  ⟨by have := hr.1; simp at this; omega, fun i a ha => by obtain ⟨v, h1, h2⟩ := hr.get ha; exact ⟨v, by simpa using h1, h2⟩⟩
theorem made_row {cs : List AV} {arr : Array Value} (hr : RowA L ι M cs arr.toList) (t : TypeId) {mk : Nat → AV} {v' : Value} (hv : ∀ (ι' : Io) (id : Nat), ι' id = some ⟨w.heap.size, 0, cs.length, arr.size⟩ → V L ι' M (mk id) v') :
    Made L ι M w cs mk v' (w.alloc (.cells arr t)) :=
  ⟨w.drawn, arr, t, (0, 0), rfl, .inl rfl, hr.at.1, hr.at.2, hv⟩
theorem V.cellsRow {a : AV} {v : Value} (hv : V L ι M a v) (hs : AV.allsc a.cells = true) : RowA L ι M a.cells v.cells.toList := ⟨(hv.cells hs).1, (hv.cells hs).2.1⟩
theorem choose_cap (P : Program) (need old : Nat) (e : TypeId) : ∃ n, need ≤ n ∧ (choose (.appendCap need old e)).run P w = .ok n { w with drawn := w.drawn + 1 } := by
  refine ⟨_, ?_, by rw [run_choose]; rfl⟩
  simp only [Question.cut]
  exact Nat.le_add_right _ _
theorem stringToBytes_run {P : Program} (e : TypeId) (s : ByteArray) : ∃ (n : Nat) (arr : Array Value), s.size ≤ n ∧ arr = (s.data.map fun b => Value.int .u8 b.toNat) ++ Array.replicate (n - s.size) (.int .u8 0) ∧ arr.size = n ∧
    (Conv.stringToBytes e s).run P w = .ok (.slice (some ⟨w.heap.size, 0, none⟩) s.size n) (({ w with drawn := w.drawn + 1 } : World).alloc (.cells arr e (n, n + 1))) := by
  obtain ⟨n, hn, hc⟩ := choose_cap (w := w) P s.size 0 e
  generalize ha : (s.data.map fun b => Value.int .u8 b.toNat) ++ Array.replicate (n - s.size) (.int .u8 0) = arr
  have hsz : arr.size = n := by
    rw [← ha, Array.size_append, Array.size_map, Array.size_replicate]
    have : s.data.size = s.size := rfl
    omega
  refine ⟨n, arr, hn, ha.symm, hsz, ?_⟩
  generalize hw : ({ w with drawn := w.drawn + 1 } : World) = w1 at hc ⊢
  have hws : w1.heap.size = w.heap.size := by rw [← hw]
  have hheap : (w1.alloc (.cells arr e)).heap[w1.heap.size]? = some (.cells arr e (0, 0)) := by
    show (w1.heap.push _)[w1.heap.size]? = _
    rw [Array.getElem?_push_size]
  have hshape : (w1.alloc (.cells arr e)).shape? w1.heap.size = some (e, n) := by
    simp only [World.shape?, hheap, hsz]
  have hfr : (w1.alloc (.cells arr e)).freeze { block := w1.heap.size, off := n } 1 = w1.alloc (.cells arr e (n, n + 1)) := by
    simp only [World.freeze]
    rw [if_neg (by decide)]
    unfold World.alloc
    congr 1
    apply Array.ext_getElem?
    intro k
    simp only [Array.getElem?_modify, Array.getElem?_push]
    by_cases hk : k = w1.heap.size
    · subst hk; simp
    · have : ¬ w1.heap.size = k := fun q => hk q.symm
      simp [hk, this]
  unfold Conv.stringToBytes
  simp only [Sem.run_bind, hc, Result.andThen_ok, ha, newRow, run_newObj, Sem.run_pure, markStringish, run_shape, World.alloc_eq, hshape, run_freeze, hfr, hws]
  rw [← hws, hshape]
  simp only [run_freeze, hfr, Result.andThen_ok, Sem.run_pure]
theorem birth_sound {e : Env} {a : Act} (he : EnvR L ι M e a.tmps) {o : Oper} {x : AOp} (hc : cOp L o.op = some x) {cs : List AV} {mk : Nat → AV} (hb : birth e x = some (cs, mk)) :
    ∃ v' w', (execOp a.eval o).run L.P w = .ok (.value v') w' ∧ Made L ι M w cs mk v' w' := by
  obtain ⟨dst, op, ty, pos, after, guard⟩ := o
  dsimp only at hc
  cases op with
  | alloc t =>
    simp only [cOp, Option.map_eq_some_iff] at hc
    obtain ⟨z, hz, rfl⟩ := hc
    simp only [birth] at hb
    split at hb
    · obtain ⟨i, zv, hi, hzv, hcs⟩ := tzero_inv hz
      obtain ⟨rfl, rfl⟩ := Prod.mk.inj (Option.some.inj hb)
      have hrow := zero_row (L := L) (ι := ι) (M := M) hcs
      refine ⟨.pointer (some ⟨w.heap.size, 0, none⟩), w.alloc (.cells zv.cells t), by simp [execOp, Instr.alloc, run_zero hi hzv, newVar, newRow], made_row hrow t fun ι' id hid => V.pobj (l := ⟨w.heap.size, 0, z.length, zv.cells.size⟩) hid⟩
    · cases hb
  | box t y =>
    simp only [cOp, Option.bind_eq_some_iff] at hc
    obtain ⟨x', hx, n, hn, hc⟩ := hc
    obtain rfl := Option.some.inj hc
    simp only [birth] at hb
    split at hb
    · rename_i hcd
      obtain ⟨rfl, rfl⟩ := Prod.mk.inj (Option.some.inj hb)
      have hv := X_sound he hx
      refine ⟨.pointer (some ⟨w.heap.size, 0, none⟩), w.alloc (.cells (a.eval y).cells t), by simp [execOp, Instr.box, newVar, newRow], made_row (hv.cellsRow hcd.2) t fun ι' id hid => V.pobj (l := ⟨w.heap.size, 0, _, _⟩) hid⟩
    · cases hb
  | buildSlice t len ps =>
    simp only [cOp] at hc
    split at hc
    · rename_i el ht
      simp only [Option.bind_eq_some_iff] at hc
      obtain ⟨n, hn, z, hz, xs, hxs, hc⟩ := hc
      split at hc
      · rename_i hle
        obtain rfl := Option.some.inj hc
        simp only [birth] at hb
        split at hb
        · rename_i hcd
          obtain ⟨hzl, hpos, hsc⟩ := hcd
          simp only [Option.bind_eq_some_iff] at hb
          obtain ⟨r, hf, hb⟩ := hb
          obtain ⟨rfl, rfl⟩ := Prod.mk.inj (Option.some.inj hb)
          obtain ⟨i, zv, hi, hzv, hcs⟩ := tzero_inv hz
          have hrow := zero_row (L := L) (ι := ι) (M := M) hcs
          have hsz : zv.cells.size = n := by have := hrow.1; simp at this; omega
          obtain ⟨g1, g2⟩ := cPs_sound he hxs
          obtain ⟨arr, k1, k2⟩ := fill_sound (L := L) (ι := ι) (M := M) (fun i => some (i * n, n)) (xs.map fun p => (p.1 * n, n, p.2.ev e)) (ps.toList.map fun q => (q.1, a.eval q.2)) (by simp [g1])
            (fun j p q hp hq => by
              simp only [List.getElem?_map, Option.map_eq_some_iff] at hp hq
              obtain ⟨p', hp', rfl⟩ := hp
              obtain ⟨q', hq', rfl⟩ := hq
              obtain ⟨e1, e2⟩ := g2 j p' q' hp' hq'
              exact ⟨by simp only [e1], e2⟩) (range_row hrow len) hf
          have harr : (Array.range (len * n)).map (fun i => (if len * n = 0 then #[] else zv.cells)[i % (if len * n = 0 then (#[] : Array Value) else zv.cells).size]!) = (Array.range (len * zv.cells.size)).map (fun i => zv.cells[i % zv.cells.size]!) := by
            rw [hsz]
            by_cases h0 : len * n = 0
            · simp [h0]
            · simp only [if_neg h0, hsz]
          refine ⟨.slice (some ⟨w.heap.size, 0, none⟩) len len, w.alloc (.cells arr el), ?_, made_row k2 el fun ι' id hid => ?_⟩
          · simp only [execOp, Instr.buildSlice, Sem.run_bind, run_underlying ht, Result.andThen_ok, run_sizeOf' hn]
            rw [if_neg (by omega)]
            have k1' : Instr.fill (fun i => some (i * n, n)) ((Array.range (len * zv.cells.size)).map (fun i => zv.cells[i % zv.cells.size]!)) (Array.map (fun q => (q.1, a.eval q.2)) ps).toList = some arr := by
              rw [Array.toList_map]; exact k1
            by_cases h0 : len * n = 0
            · simp only [if_pos h0] at harr
              rw [if_pos h0]
              simp only [Sem.run_bind, Sem.run_pure, Result.andThen_ok, harr, k1']
              simp [newRow]
            · simp only [if_neg h0] at harr
              rw [if_neg h0]
              simp only [Sem.run_bind, Sem.run_pure, Result.andThen_ok, run_zero hi hzv, harr, k1']
              simp [newRow]
          · have hra := k2.1
            have hrl : r.length = len * n := by
              have : ∀ (ps : List (Nat × Nat × AV)) (cs r : List AV), fillA cs ps = some r → r.length = cs.length := by
                intro ps
                induction ps with
                | nil => intro cs r hr; obtain rfl := Option.some.inj hr; rfl
                | cons p ps ih =>
                  intro cs r hr
                  obtain ⟨o, s, v⟩ := p
                  simp only [fillA] at hr
                  split at hr
                  · rw [ih _ _ hr, setFrom_length]
                  · cases hr
              rw [this _ _ _ hf, (range_row hrow len).1]; simp [hsz]
            exact V.sobj hid (Nat.le_refl _) (fun _ => rfl) (by simp [hrl]) (by simp only [Nat.zero_add]; simp at hra; omega)
        · cases hb
      · cases hc
    · cases hc
  | makeSlice t l c =>
    simp only [cOp] at hc
    split at hc
    · rename_i el ht
      simp only [Option.bind_eq_some_iff, Option.map_eq_some_iff] at hc
      obtain ⟨n, hn, m, hm, z, hz, l', hl, c', hc', rfl⟩ := hc
      simp only [birth] at hb
      split at hb
      · rename_i li ci hli hci
        split at hb
        · rename_i hcd
          obtain ⟨c1, c2, c3, c4, c5, c6, c7⟩ := hcd
          obtain ⟨rfl, rfl⟩ := Prod.mk.inj (Option.some.inj hb)
          obtain ⟨i, zv, hi, hzv, hcs⟩ := tzero_inv hz
          have hrow := zero_row (L := L) (ι := ι) (M := M) hcs
          have hsz : zv.cells.size = n := by have := hrow.1; simp at this; omega
          have hlv := X_sound he hl; rw [hli] at hlv
          have hcv := X_sound he hc'; rw [hci] at hcv
          have hwl : IntKind.i64.wrap li = li := IntWalk.i64_in _ (by omega)
          have hwc : IntKind.i64.wrap ci = ci := IntWalk.i64_in _ (by omega)
          have hby : i.bytes = m := by unfold tby at hm; rw [hi] at hm; exact Option.some.inj hm
          have hsi : i.size = n := by unfold tsz at hn; rw [hi] at hn; exact Option.some.inj hn
          have hrow' := range_row hrow ci.toNat
          have harr : (Array.range (ci.toNat * n)).map (fun i => (if ci.toNat * n = 0 then #[] else zv.cells)[i % (if ci.toNat * n = 0 then (#[] : Array Value) else zv.cells).size]!) = (Array.range (ci.toNat * zv.cells.size)).map (fun i => zv.cells[i % zv.cells.size]!) := by
            rw [hsz]
            by_cases h0 : ci.toNat * n = 0
            · simp [h0]
            · simp only [if_neg h0, hsz]
          refine ⟨.slice (some ⟨w.heap.size, 0, none⟩) li.toNat ci.toNat, w.alloc (.cells ((Array.range (ci.toNat * zv.cells.size)).map (fun i => zv.cells[i % zv.cells.size]!)) el), ?_, made_row hrow' el fun ι' id hid => ?_⟩
          · have hlv' := hlv.int_inv; have hcv' := hcv.int_inv
            simp only [execOp, Instr.makeSlice, Sem.run_bind, run_underlying ht, Result.andThen_ok, hlv', hcv', asInt, asIntOf, Sem.run_pure, typeInfo, run_program, hi, hwl, hwc, hby]
            rw [if_neg (by simp only [Bool.or_eq_true, decide_eq_true_eq]; omega)]
            simp only [Sem.run_bind, run_askRoom, Result.andThen_ok, run_sizeOf' hn, Sem.run_pure]
            by_cases h0 : ci.toNat * n = 0
            · simp only [if_pos h0] at harr
              rw [if_pos h0]
              simp only [Sem.run_bind, Sem.run_pure, Result.andThen_ok, harr]
              simp [newRow]
            · simp only [if_neg h0] at harr
              rw [if_neg h0]
              simp only [Sem.run_bind, Sem.run_pure, Result.andThen_ok, run_zero hi hzv, harr]
              simp [newRow]
          · have hrl := hrow'.1
            have hlen : (repl ci.toNat z).length = ci.toNat * n := by rw [hrl]; simp [hsz]
            exact V.sobj hid (by omega) (fun _ => rfl) (by simp [hlen]) (by simp [hsz])
        · cases hb
      · cases hb
    · cases hc
  | convert s d y =>
    simp only [cOp, Option.bind_eq_some_iff] at hc
    obtain ⟨x', hx, hc⟩ := hc
    unfold cConv at hc
    split at hc
    · obtain rfl := Option.some.inj hc; cases hb
    · obtain rfl := Option.some.inj hc; cases hb
    · split at hc
      · obtain rfl := Option.some.inj hc; cases hb
      · cases hc
    · rename_i e h1 h2
      split at hc
      · rename_i h3
        split at hc
        · rename_i hn
          obtain rfl := Option.some.inj hc
          simp only [birth] at hb
          split at hb
          · rename_i st hst
            split at hb
            · rename_i hro
              obtain ⟨rfl, rfl⟩ := Prod.mk.inj (Option.some.inj hb)
              have hv := X_sound he hx; rw [hst] at hv
              have hv' := hv.str_inv
              obtain ⟨n, arr, hnge, harr, hsz, hrun⟩ := stringToBytes_run (P := L.P) (w := w) e st
              have hdl : st.data.toList.length = st.size := by rw [Array.length_toList]; rfl
              refine ⟨.slice (some ⟨w.heap.size, 0, none⟩) st.size n, ({ w with drawn := w.drawn + 1 } : World).alloc (.cells arr e (n, n + 1)), ?_, ⟨w.drawn + 1, arr, e, (n, n + 1), rfl, .inr (by rw [hsz]; exact Nat.le_refl _), by rw [List.length_map, hdl, hsz]; exact hnge, ?_, ?_⟩⟩
              · simp only [execOp, convert, Sem.run_bind, run_underlying h1, run_underlying h2, Result.andThen_ok, hv', run_underlying h3, hrun, Sem.run_pure]
              · intro i x hx'
                simp only [List.getElem?_map, Option.map_eq_some_iff] at hx'
                obtain ⟨b, hb', rfl⟩ := hx'
                refine ⟨.int .u8 b.toNat, ?_, .imm (.int _ _)⟩
                obtain ⟨hi, _⟩ := List.getElem?_eq_some_iff.1 hb'
                rw [harr]
                rw [Array.getElem?_append_left (by simpa using hi)]
                simp only [Array.getElem?_map, Option.map_eq_some_iff]
                exact ⟨b, by simpa using hb', rfl⟩
              · intro ι' id hid
                exact V.sobj hid hnge (fun _ => rfl) (by simp only [List.length_map, hdl]; omega) (by simp only [hsz]; omega)
            · cases hb
          · cases hb
        · cases hc
      · cases hc
    · cases hc
  | move y => simp only [cOp, Option.map_eq_some_iff] at hc; obtain ⟨_, _, rfl⟩ := hc; cases hb
  | assign y => simp only [cOp, Option.map_eq_some_iff] at hc; obtain ⟨_, _, rfl⟩ := hc; cases hb
  | pick y z u => simp only [cOp, Option.bind_eq_some_iff] at hc; obtain ⟨_, _, _, _, _, _, hc⟩ := hc; obtain rfl := Option.some.inj hc; cases hb
  | build t ps =>
    simp only [cOp, Option.bind_eq_some_iff] at hc
    obtain ⟨z, _, hc⟩ := hc
    split at hc
    · split at hc
      · simp only [Option.map_eq_some_iff] at hc; obtain ⟨_, _, rfl⟩ := hc; cases hb
      · cases hc
    · simp only [Option.bind_eq_some_iff, Option.map_eq_some_iff] at hc; obtain ⟨_, _, _, _, rfl⟩ := hc; cases hb
    · cases hc
  | load t p => simp only [cOp, Option.bind_eq_some_iff, Option.map_eq_some_iff] at hc; obtain ⟨_, _, _, _, _, _, rfl⟩ := hc; cases hb
  | store t p v => simp only [cOp, Option.bind_eq_some_iff, Option.map_eq_some_iff] at hc; obtain ⟨_, _, _, _, _, _, rfl⟩ := hc; cases hb
  | nilCheck y => simp only [cOp, Option.map_eq_some_iff] at hc; obtain ⟨_, _, rfl⟩ := hc; cases hb
  | binOp b t y z u =>
    simp only [cOp, cBin, Option.bind_eq_some_iff] at hc
    obtain ⟨_, _, _, _, hc⟩ := hc
    repeat' split at hc
    all_goals first | (obtain rfl := Option.some.inj hc; cases hb) | cases hc
  | unOp u t y =>
    simp only [cOp, Option.bind_eq_some_iff] at hc
    obtain ⟨_, _, hc⟩ := hc
    split at hc <;> first | (obtain rfl := Option.some.inj hc; cases hb) | cases hc
  | makeInterface t y =>
    simp only [cOp] at hc
    split at hc
    · cases hc
    · cases hc
    · simp only [Option.map_eq_some_iff] at hc; obtain ⟨_, _, rfl⟩ := hc; cases hb
  | makeFunc f y z =>
    cases f with
    | func f => simp only [cOp, Option.bind_eq_some_iff, Option.map_eq_some_iff] at hc; obtain ⟨_, _, _, _, _, _, rfl⟩ := hc; cases hb
    | _ => cases hc
  | slice t y lo hi mx =>
    simp only [cOp, cSlice, Option.bind_eq_some_iff] at hc
    obtain ⟨_, _, _, _, _, _, _, _, hc⟩ := hc
    repeat' split at hc
    all_goals first
      | (obtain rfl := Option.some.inj hc; cases hb)
      | (simp only [Option.bind_eq_some_iff] at hc; obtain ⟨_, _, hc⟩ := hc; obtain rfl := Option.some.inj hc; cases hb)
      | cases hc
  | fieldAddr s y f =>
    simp only [cOp] at hc
    split at hc
    · simp only [Option.bind_eq_some_iff] at hc
      obtain ⟨_, _, _, _, hc⟩ := hc
      split at hc
      · cases hc
      · simp only [Option.map_eq_some_iff] at hc; obtain ⟨_, _, rfl⟩ := hc; cases hb
    · cases hc
  | field s y f =>
    simp only [cOp] at hc
    split at hc
    · simp only [Option.bind_eq_some_iff, Option.map_eq_some_iff] at hc
      obtain ⟨_, _, _, _, _, _, _, _, rfl⟩ := hc; cases hb
    · cases hc
  | indexAddr t y i =>
    simp only [cOp, Option.bind_eq_some_iff] at hc
    obtain ⟨_, _, _, _, hc⟩ := hc
    split at hc
    · simp only [Option.map_eq_some_iff] at hc; obtain ⟨_, _, rfl⟩ := hc; cases hb
    · simp only [Option.map_eq_some_iff] at hc; obtain ⟨_, _, rfl⟩ := hc; cases hb
    · cases hc
  | index t y i =>
    simp only [cOp, Option.bind_eq_some_iff] at hc
    obtain ⟨_, _, _, _, hc⟩ := hc
    split at hc
    · obtain rfl := Option.some.inj hc; cases hb
    · simp only [Option.bind_eq_some_iff, Option.map_eq_some_iff] at hc; obtain ⟨_, _, _, _, rfl⟩ := hc; cases hb
    · cases hc
  | extract y i => simp only [cOp, Option.map_eq_some_iff] at hc; obtain ⟨_, _, rfl⟩ := hc; cases hb
  | call c =>
    simp only [cOp, cCall, Option.bind_eq_some_iff] at hc
    obtain ⟨xs, _, hc⟩ := hc
    split at hc
    · simp only [Option.bind_eq_some_iff] at hc; obtain ⟨_, _, hc⟩ := hc; obtain rfl := Option.some.inj hc; cases hb
    · cases hc
    · unfold cLen at hc
      repeat' split at hc
      all_goals first
        | (obtain rfl := Option.some.inj hc; cases hb)
        | (simp only [Option.bind_eq_some_iff] at hc; obtain ⟨_, _, _, _, _, _, hc⟩ := hc; split at hc <;> first | (obtain rfl := Option.some.inj hc; cases hb) | cases hc)
        | (simp only [Option.bind_eq_some_iff] at hc; obtain ⟨_, _, _, _, _, _, hc⟩ := hc; obtain rfl := Option.some.inj hc; cases hb)
        | (simp only [Option.bind_eq_some_iff] at hc; obtain ⟨_, _, _, _, hc⟩ := hc; obtain rfl := Option.some.inj hc; cases hb)
        | (simp only [Option.bind_eq_some_iff] at hc; obtain ⟨_, _, hc⟩ := hc; obtain rfl := Option.some.inj hc; cases hb)
        | cases hc
  | panic y => obtain rfl := Option.some.inj hc; cases hb
  | _ => cases hc
end
end Ab
set_option linter.unusedSimpArgs false
set_option linter.unusedVariables false
namespace Ab
open Go RowKit
section
variable {L : Lk} {w0 : World} {ι : Io} {M : Mm} {h : H} {w : World}
theorem Row.rowA {P : Program} {b base : Nat} {cs : List AV} (hr : Row L ι M w b base cs) (n : Nat) (hn : cs.length = n) {a : Addr} (ha : n ≠ 0 → a = at' b base) : ∃ vs : List Value, (loadCells a n).run P w = .ok vs.toArray w ∧ RowA L ι M cs vs := by
  by_cases h0 : n = 0
  · subst h0
    obtain rfl := List.eq_nil_of_length_eq_zero hn
    exact ⟨[], rfl, RowA.nil⟩
  · obtain rfl := ha h0
    obtain ⟨vs, h1, h2, h3⟩ := hr.loads (P := P)
    rw [hn] at h2
    exact ⟨vs, h2, h1.symm, h3⟩
theorem bytes_row (s : ByteArray) (n : Nat) : RowA L ι M ((s.data.toList.map fun b => AV.int .u8 b.toNat).take n) ((s.extract 0 n).data.map fun b => Value.int .u8 b.toNat).toList := by
  have hd : (s.extract 0 n).data.toList = s.data.toList.take n := by
    rw [ByteArray.data_extract, Array.toList_extract]; simp [List.extract_eq_take_drop]
  rw [Array.toList_map, hd, ← List.map_take]
  refine ⟨by simp, fun i a v h1 h2 => ?_⟩
  simp only [List.getElem?_map, Option.map_eq_some_iff] at h1 h2
  obtain ⟨x, hx, rfl⟩ := h1
  obtain ⟨y, hy, rfl⟩ := h2
  rw [hx] at hy; obtain rfl := Option.some.inj hy
  exact .imm (.int _ _)
theorem src_sound (r : R L w0 ι M h w) {sz : Nat} {x : AV} {xv : Value} (hx : V L ι M x xv) {n : Nat} {bs : List AV} (hs : srcCells h sz x = some (n, bs)) :
    (Builtin.lenOf xv).run L.P w = .ok n w ∧ bs.length = n * sz ∧ ∀ m, m ≤ n → ∃ vs : List Value, (Builtin.firstCells sz m xv).run L.P w = .ok vs.toArray w ∧ RowA L ι M (bs.take (m * sz)) vs := by
  unfold srcCells at hs
  split at hs
  · obtain ⟨rfl, rfl⟩ := Prod.mk.inj (Option.some.inj hs)
    rw [hx.nils_inv]
    exact ⟨rfl, by simp, fun m hm => ⟨[], by simp [Builtin.firstCells], by simpa using RowA.nil⟩⟩
  · rename_i s
    split at hs
    · rename_i h1; subst h1
      obtain ⟨rfl, rfl⟩ := Prod.mk.inj (Option.some.inj hs)
      rw [hx.str_inv]
      refine ⟨rfl, by rw [List.length_map, Array.length_toList, Nat.mul_one]; rfl, fun m hm => ⟨((s.extract 0 m).data.map fun b => Value.int .u8 b.toNat).toList, ?_, by rw [Nat.mul_one]; exact bytes_row s m⟩⟩
      simp only [Builtin.firstCells, Array.toArray_toList]; rfl
    · cases hs
  · rename_i id off len s
    split at hs
    · rename_i h1; subst h1
      cases hg : h.get id with
      | none => rw [hg] at hs; cases hs
      | some cs =>
        rw [hg] at hs; simp only [Option.bind_some] at hs
        split at hs
        · rename_i hle
          obtain ⟨rfl, rfl⟩ := Prod.mk.inj (Option.some.inj hs)
          obtain ⟨l, cap, a, hi, rfl, hlc, ha, _, _⟩ := hx.sobj_inv
          refine ⟨rfl, by simp; omega, fun m hm => ?_⟩
          have hmm : m * s ≤ len * s := Nat.mul_le_mul_right s hm
          obtain ⟨vs, h1, h2⟩ := Row.rowA (P := L.P) ((r.row hg hi).part off (m * s)) (m * s) (by simp; omega) (a := a) (fun h0 => ha (by
            intro hc; subst hc
            have : m = 0 := by omega
            subst this; simp at h0))
          refine ⟨vs, h1, ?_⟩
          rwa [List.take_take, Nat.min_eq_left hmm]
        · cases hs
    · cases hs
  · rename_i t cells off len s
    split at hs
    · rename_i h1; subst h1
      split at hs
      · rename_i hle
        obtain ⟨rfl, rfl⟩ := Prod.mk.inj (Option.some.inj hs)
        obtain ⟨b, base, cap, a, rfl, hlc, ha, _, _, hrow⟩ := V.simm_inv r hx
        refine ⟨rfl, by simp; omega, fun m hm => ?_⟩
        have hmm : m * s ≤ len * s := Nat.mul_le_mul_right s hm
        obtain ⟨vs, h1, h2⟩ := Row.rowA (P := L.P) (hrow.part off (m * s)) (m * s) (by simp; omega) (a := a) (fun h0 => ha (by
          intro hc; subst hc
          have : m = 0 := by omega
          subst this; simp at h0))
        refine ⟨vs, h1, ?_⟩
        rwa [List.take_take, Nat.min_eq_left hmm]
      · cases hs
    · cases hs
  · cases hs
theorem growBy_le (n : Nat) : ∀ (k c : Nat), c < n → Builtin.growBy n k c ≤ n + n / 4 + 512
  | 0, c, h => by simp only [Builtin.growBy]; omega
  | k + 1, c, h => by
    simp only [Builtin.growBy]
    rw [if_neg (by omega)]
    by_cases h1 : c + (c + 768) / 4 < n
    · exact growBy_le n k _ h1
    · cases k with
      | zero => simp only [Builtin.growBy]; omega
      | succ k => simp only [Builtin.growBy]; rw [if_pos (by omega)]; omega
theorem nextcap_le {n c : Nat} (h : c < n) : Builtin.nextslicecap n c ≤ n + n / 4 + 512 := by
  unfold Builtin.nextslicecap
  split
  · omega
  · split
    · omega
    · exact growBy_le n 4 c h
theorem allsc_one {cs : List AV} {vs : List Value} (hr : RowA L ι M cs vs) (hs : AV.allsc cs = true) : ∀ v ∈ vs, v.oneCell' = true := by
  intro v hv
  obtain ⟨i, hi, rfl⟩ := List.getElem_of_mem hv
  have hi' : i < cs.length := by rw [hr.1]; exact hi
  exact ((hr.2 i cs[i] vs[i] (by simp [hi']) (by simp)).sc (allsc_get hs (i := i) (by simp [hi']))).1
def Comes' (L : Lk) (w0 : World) (ι : Io) (M : Mm) (h h' : H) (v : AV) (v' : Value) (w' : World) : Prop :=
  ∃ ι', LeI ι ι' ∧ (∀ id l, id < h.next → ι' id = some l → ι id = some l) ∧ R L w0 ι' M h' w' ∧ V L ι' M v v'
theorem Comes'.same {v : AV} {v' : Value} {h' : H} {w' : World} (r : R L w0 ι M h' w') (hv : V L ι M v v') : Comes' L w0 ι M h h' v v' w' := ⟨ι, fun _ _ q => q, fun _ _ _ q => q, r, hv⟩
theorem R.ndom (r : R L w0 ι M h w) : ι h.next = none := by
  cases hn : ι h.next with
  | none => rfl
  | some l => exact absurd (r.dom _ _ hn) (Nat.lt_irrefl _)
theorem R.lastNew (r : R L w0 ι M h w) (w1 : World) (hw1 : ∃ n, w1 = { w with drawn := n }) {hd : H} (hhd : hd = h ∨ ∃ id, hd = h.del id) {cs : List AV} {arr : Array Value} (t : TypeId) (hr : cs.length ≤ arr.size ∧ ∀ (i : Nat) (a : AV), cs[i]? = some a → ∃ v, arr[i]? = some v ∧ V L ι M a v) {n sz cap : Nat} (hn : n ≤ cap) (hc : cs.length ≤ cap * sz) (he : cap * sz ≤ arr.size) :
    Comes' L w0 ι M h (hd.alloc cs) (.sobj h.next 0 n sz) (.slice (some ⟨w.heap.size, 0, none⟩) n cap) (w1.alloc (.cells arr t)) := by
  obtain ⟨dn, rfl⟩ := hw1
  have rd := r.drew dn
  have hnx : hd.next = h.next := by rcases hhd with rfl | ⟨id, rfl⟩ <;> rfl
  have hgd : ∀ i c, hd.get i = some c → h.get i = some c := by
    rcases hhd with rfl | ⟨id, rfl⟩
    · exact fun i c q => q
    · intro i c q; simp only [H.get_del] at q; split at q
      · cases q
      · exact q
  have rn := rd.newf (id := h.next) r.ndom (cs := cs) (arr := arr) (t := t) (fz := (0, 0)) (h' := hd.alloc cs) (.inl rfl) (by simp [hnx]) (by simp [hnx])
    (fun i c q => by
      simp only [H.get_alloc, hnx] at q
      split at q
      · rename_i e; exact .inl ⟨e, (Option.some.inj q).symm⟩
      · rename_i e; exact .inr ⟨e, hgd i c q⟩) hr.1 hr.2
  refine ⟨_, Io.le_put _ r.ndom, fun id l hid q => ?_, rn, V.sobj (l := ⟨w.heap.size, 0, cs.length, arr.size⟩) (by simp [Io.put]) hn (fun _ => rfl) (by simpa using hc) (by simpa using he)⟩
  simp only [Io.put] at q
  split at q
  · rename_i e; omega
  · exact q
theorem R.regrow (r : R L w0 ι M h w) {id : Nat} {cs : List AV} {l : Loc} (hg : h.get id = some cs) (hi : ι id = some l) {off : Nat} (ho : off ≤ l.len) {as : List AV} (hlen : as.length ≤ l.ext - off)
    (hv : ∀ (i : Nat) (a : AV), as[i]? = some a → ∃ v, w.cell? (at' l.block (l.base + off + i)) = some v ∧ V L ι M a v) :
    R L w0 (ι.put h.next ⟨l.block, l.base + off, as.length, l.ext - off⟩) M ((h.del id).alloc as) w := by
  have hb := r.blk id cs l hg hi
  have hg' : ∀ i c, ((h.del id).alloc as).get i = some c → (i = h.next ∧ c = as) ∨ (i ≠ h.next ∧ i ≠ id ∧ h.get i = some c) := fun i c q => by
    rw [H.get_alloc, H.get_del, H.next_del] at q
    by_cases e : i = h.next
    · rw [if_pos e] at q; exact .inl ⟨e, (Option.some.inj q).symm⟩
    · rw [if_neg e] at q
      by_cases e2 : i = id
      · rw [if_pos e2] at q; cases q
      · rw [if_neg e2] at q; exact .inr ⟨e, e2, q⟩
  refine r.put r.ndom _ (by simp) (by simp) (cs := as) (fun i c q => ?_) ⟨hb.1, hb.2.1, rfl, hlen⟩ ?_ hv ?_ ?_
  · rcases hg' i c q with h1 | ⟨h1, _, h3⟩
    · exact .inl h1
    · exact .inr ⟨h1, h3⟩
  · intro o hlo
    simp only at hlo
    have := r.own id cs l hg hi (off + o) (by omega)
    simpa [Nat.add_assoc] using this
  · intro i c l' q hne hl' hbl
    rcases hg' i c q with h1 | ⟨_, h2, h3⟩
    · exact absurd h1.1 hne
    · simp only at hbl ⊢
      rcases r.disj i id c cs l' l h3 hg hl' hi h2 hbl with hd | hd <;> omega
  · intro b o v hm hbl
    simp only at hbl ⊢
    rcases r.immd b o v id cs l hm hg hi hbl with hd | hd <;> omega
theorem app_fit {P : Program} {sT xT ty e : TypeId} {i : TypeInfo} {x : Value} {a : Addr} {sLen sCap n : Nat} {vs : List Value} (hs : P.underlying sT = some (.slice e)) (hx : P.underlying xT = some .string ∨ ∃ e', P.underlying xT = some (.slice e'))
    (hi : P.info? e = some i) (hl : (Builtin.lenOf x).run P w = .ok n w) (hf : (Builtin.firstCells i.size n x).run P w = .ok vs.toArray w) (hfit : sLen + n ≤ sCap) {b o : Nat} (ha : vs ≠ [] → a = at' b o)
    (hc : ∀ j, j < vs.length → (w.cell? (at' b (o + sLen * i.size + j))).isSome = true) (hfz : ∀ j, j < vs.length → w.frozen? (at' b (o + sLen * i.size + j)) = false) (h1 : ∀ v ∈ vs, v.oneCell' = true) :
    (Builtin.append_ #[sT, xT] ty #[.slice (some a) sLen sCap, x]).run P w = .ok (.slice (some a) (sLen + n) sCap) (w.setCells b (o + sLen * i.size) vs) := by
  have hst : (storeCells (a.add (sLen * i.size)) vs).run P w = .ok () (w.setCells b (o + sLen * i.size) vs) := by
    cases vs with
    | nil => rfl
    | cons v vs =>
      obtain rfl := ha (by simp)
      rw [at_add]
      have := run_storeCells_cells (P := P) b (o + sLen * i.size) (v :: vs) 0 w (by simpa [at'] using hc) (by simpa [at'] using hfz) h1
      simpa [at'] using this
  have hsz : (Go.sizeOf e).run P w = .ok i.size w := by simp [Go.sizeOf, typeInfo, hi]
  rcases hx with hx | ⟨e', hx⟩
  all_goals simp [Builtin.append_, run_underlying hs, run_underlying hx, hsz, hl, hfit, hf, hst]
set_option maxHeartbeats 1000000 in
theorem app_grow {P : Program} {sT xT ty e : TypeId} {i : TypeInfo} {zv x : Value} {base : Option Addr} {sLen sCap n : Nat} {old vs : List Value} (hs : P.underlying sT = some (.slice e)) (hx : P.underlying xT = some .string ∨ ∃ e', P.underlying xT = some (.slice e'))
    (hi : P.info? e = some i) (hz : i.zero = some zv) (hl : (Builtin.lenOf x).run P w = .ok n w) (hfit : ¬ sLen + n ≤ sCap) (hb : 1 ≤ i.bytes) (hro : (sLen + n + (sLen + n) / 4 + 512) * i.bytes ≤ 281474976710656)
    (ho' : (Builtin.firstCells i.size sLen (.slice base sLen sCap)).run P { w with drawn := w.drawn + 1 } = .ok old.toArray { w with drawn := w.drawn + 1 })
    (hf' : (Builtin.firstCells i.size n x).run P { w with drawn := w.drawn + 1 } = .ok vs.toArray { w with drawn := w.drawn + 1 }) :
    ∃ cap, sLen + n ≤ cap ∧ (Builtin.append_ #[sT, xT] ty #[.slice base sLen sCap, x]).run P w = .ok (.slice (some ⟨w.heap.size, 0, none⟩) (sLen + n) cap)
      (({ w with drawn := w.drawn + 1 } : World).alloc (.cells (old.toArray ++ vs.toArray ++ Builtin.zeroCells zv.cells (cap - (sLen + n))) e)) := by
  obtain ⟨cap, hcap, hch⟩ := choose_cap (w := w) P (sLen + n) sCap e
  refine ⟨cap, hcap, ?_⟩
  have hsz : (Go.sizeOf e).run P w = .ok i.size w := by simp [Go.sizeOf, typeInfo, hi]
  have hti : (typeInfo e).run P w = .ok i w := by simp [typeInfo, hi]
  have h1 : Builtin.nextslicecap (sLen + n) sCap * i.bytes ≤ 281474976710656 := Nat.le_trans (Nat.mul_le_mul_right _ (nextcap_le (by omega))) hro
  have h2 : ¬ Builtin.nextslicecap (sLen + n) sCap * i.bytes > 2 ^ 48 := Nat.not_lt.2 (Nat.le_trans h1 (by decide))
  have h3 : i.bytes ≠ 0 := by omega
  have hz' : (zeroValue e).run P { w with drawn := w.drawn + 1 } = .ok zv { w with drawn := w.drawn + 1 } := run_zero hi hz
  have hti' : (typeInfo e).run P { w with drawn := w.drawn + 1 } = .ok i { w with drawn := w.drawn + 1 } := by simp [typeInfo, hi]
  generalize hw1 : ({ w with drawn := w.drawn + 1 } : World) = w1 at hch ho' hf' hz' hti' ⊢
  have hws : w1.heap.size = w.heap.size := by rw [← hw1]
  rcases hx with hx | ⟨e', hx⟩
  all_goals
    simp only [Builtin.append_, List.getElem?_toArray, List.getElem?_cons_zero, List.getElem?_cons_succ, Sem.run_bind, run_underlying hs, run_underlying hx, Result.andThen_ok, hsz, Sem.run_pure, Bool.false_eq_true, if_false, hl, hfit, hti, h3, or_self, and_false, h2, hch, run_askRoom, ho', hf', hz', hti', newRow, run_newObj, World.alloc_eq, hws, Bool.not_false, if_true]
end
end Ab
set_option linter.unusedSimpArgs false
set_option linter.unusedVariables false
namespace Ab
open Go RowKit
section
variable {L : Lk} {w0 : World} {ι : Io} {M : Mm} {h : H} {w : World}
theorem roomy_inv {b n : Nat} (h : roomy b n = true) : 1 ≤ b ∧ (n + n / 4 + 512) * b ≤ 281474976710656 := by simpa [roomy] using h
theorem RowA.drop {cs : List AV} {vs : List Value} (hr : RowA L ι M cs vs) (n : Nat) : RowA L ι M (cs.drop n) (vs.drop n) :=
  ⟨by simp [hr.1], fun i a v h1 h2 => by rw [List.getElem?_drop] at h1 h2; exact hr.2 _ a v h1 h2⟩
theorem app_sound (r : R L w0 ι M h w) {sT xT ty e : TypeId} (hs : L.P.underlying sT = some (.slice e)) (hx : L.P.underlying xT = some .string ∨ ∃ e', L.P.underlying xT = some (.slice e')) {sz bytes : Nat} {z : List AV} (hn : tsz L.P e = some sz) (hb : tby L.P e = some bytes) (hz : tzero L.P e = some z) (hzl : z.length = sz)
    {a b : AV} {av bv : Value} (ha : V L ι M a av) (hbv : V L ι M b bv) {v : AV} {h' : H} (he : aapp h sz bytes a b = some (v, h')) :
    ∃ v' w', (Builtin.append_ #[sT, xT] ty #[av, bv]).run L.P w = .ok v' w' ∧ Comes' L w0 ι M h h' v v' w' := by
  obtain ⟨i, zv, hi, hzv, hcs⟩ := tzero_inv hz
  have hsi : i.size = sz := by unfold tsz at hn; rw [hi] at hn; exact Option.some.inj hn
  have hbi : i.bytes = bytes := by unfold tby at hb; rw [hi] at hb; exact Option.some.inj hb
  subst hsi; subst hbi
  unfold aapp at he
  simp only [Option.bind_eq_some_iff] at he
  obtain ⟨⟨n, bs⟩, hsrc, he⟩ := he
  obtain ⟨hlen, hbl, hfc⟩ := src_sound r hbv hsrc
  obtain ⟨vs, hfirst, hrow⟩ := hfc n (Nat.le_refl _)
  rw [List.take_of_length_le (by omega)] at hrow
  have hone := fun hsc => allsc_one hrow hsc
  let w1 : World := { w with drawn := w.drawn + 1 }
  have r1 : R L w0 ι M h w1 := r.drew _
  obtain ⟨vs1, hfirst1, hrow1⟩ := (src_sound r1 hbv hsrc).2.2 n (Nat.le_refl _)
  rw [List.take_of_length_le (by omega)] at hrow1
  have hzr := fun k => zeroCells_row (L := L) (ι := ι) (M := M) (zero_row hcs) k
  have hrest : ∀ k, (Builtin.zeroCells zv.cells k).size = k * i.size := fun k => by
    have := (zero_row (L := L) (ι := ι) (M := M) hcs).1
    simp at this
    simp [Builtin.zeroCells, ← this, hzl]
  have hnew : ∀ (as : List AV) (us : List Value) (k : Nat), RowA L ι M as us → (as ++ bs).length ≤ (us.toArray ++ vs1.toArray ++ Builtin.zeroCells zv.cells k).size ∧ ∀ (j : Nat) (x : AV), (as ++ bs)[j]? = some x → ∃ v, (us.toArray ++ vs1.toArray ++ Builtin.zeroCells zv.cells k)[j]? = some v ∧ V L ι M x v := fun as us k hu => by
    have hq := hu.append hrow1
    refine ⟨by simp only [Array.size_append, List.size_toArray, List.length_append, hu.1, hrow1.1]; omega, fun j x hj => ?_⟩
    obtain ⟨v, h1, h2⟩ := hq.get hj
    refine ⟨v, ?_, h2⟩
    obtain ⟨hjl, _⟩ := List.getElem?_eq_some_iff.1 h1
    rw [Array.getElem?_append_left (by simpa using hjl)]
    simpa using h1
  unfold aappc at he
  simp only at he
  split at he
  · rename_i h0
    subst h0
    have hvs : vs = [] := List.eq_nil_of_length_eq_zero (by rw [← hrow.1]; omega)
    subst hvs
    split at he
    · obtain ⟨rfl, rfl⟩ := Prod.mk.inj (Option.some.inj he)
      rw [ha.nils_inv]
      refine ⟨.slice none 0 0, w, ?_, Comes'.same r (.imm .nils)⟩
      have hsz : (Go.sizeOf e).run L.P w = .ok i.size w := by simp [Go.sizeOf, typeInfo, hi]
      rcases hx with hx | ⟨e', hx⟩
      all_goals simp [Builtin.append_, run_underlying hs, run_underlying hx, hsz, hlen, hfirst]
    · obtain ⟨rfl, rfl⟩ := Prod.mk.inj (Option.some.inj he)
      obtain ⟨l, cap, a', hil, rfl, hlc, _⟩ := ha.sobj_inv
      exact ⟨_, _, app_fit (ty := ty) hs hx hi hlen hfirst (by omega) (b := 0) (o := 0) (fun q => absurd rfl q) (fun j q => by simp at q) (fun j q => by simp at q) (fun v q => by simp at q), Comes'.same r ha⟩
    · obtain ⟨rfl, rfl⟩ := Prod.mk.inj (Option.some.inj he)
      obtain ⟨b', base, cap, a', rfl, hlc, _⟩ := V.simm_inv r ha
      exact ⟨_, _, app_fit (ty := ty) hs hx hi hlen hfirst (by omega) (b := 0) (o := 0) (fun q => absurd rfl q) (fun j q => by simp at q) (fun j q => by simp at q) (fun v q => by simp at q), Comes'.same r ha⟩
    · cases he
  · rename_i h0
    split at he
    · cases he
    · rename_i hsc
      simp only [not_or, Bool.not_eq_false] at hsc
      obtain ⟨hsc, hsz0⟩ := hsc
      have hpos : 0 < i.size := Nat.pos_of_ne_zero hsz0
      split at he
      · split at he
        · rename_i hro
          obtain ⟨rfl, rfl⟩ := Prod.mk.inj (Option.some.inj he)
          obtain ⟨hb1, hb2⟩ := roomy_inv hro
          rw [ha.nils_inv]
          obtain ⟨cap, hcap, hrun⟩ := app_grow (ty := ty) (base := none) (sLen := 0) (sCap := 0) (old := []) hs hx hi hzv hlen (by omega) hb1 (by simpa using hb2) (by simp [Builtin.firstCells]) hfirst1
          refine ⟨_, _, hrun, ?_⟩
          rw [Nat.zero_add] at hcap ⊢
          refine r.lastNew w1 ⟨_, rfl⟩ (.inl rfl) e ?_ (n := n) (sz := i.size) (cap := cap) hcap (by rw [hbl]; exact Nat.mul_le_mul_right _ hcap) (by
            have := hrest (cap - n); simp only [Array.size_append, List.size_toArray, List.length_nil, this, ← hrow1.1, hbl]; rw [Nat.zero_add, ← Nat.add_mul]; exact Nat.le_of_eq (by congr 1; omega))
          exact hnew [] [] _ RowA.nil
        · cases he
      · rename_i cells off len s
        split at he
        · rename_i hcd
          obtain ⟨rfl, hend, hsc2, hro⟩ := hcd
          obtain ⟨rfl, rfl⟩ := Prod.mk.inj (Option.some.inj he)
          obtain ⟨hb1, hb2⟩ := roomy_inv hro
          obtain ⟨b', base, cap0, a', rfl, hlc, haa, hce, htt, hr0⟩ := V.simm_inv r ha
          have hcl : cap0 = len := by
            have := htt rfl
            have : cap0 * i.size = len * i.size := by omega
            exact Nat.eq_of_mul_eq_mul_right hpos this
          subst hcl
          obtain ⟨b1, base1, cap1, a1, hq, hlc1, haa1, hce1, htt1, hr1⟩ := V.simm_inv r1 ha
          injection hq with hq1 hq2 hq3; obtain rfl := Option.some.inj hq1; subst hq3
          have hd0 : (cells.drop off).length = cap0 * i.size := by simp; omega
          obtain ⟨old, ho1, ho2⟩ := Row.rowA (P := L.P) (hr1.part off (cap0 * i.size)) (cap0 * i.size) (by simp; omega) (a := a') (fun q => haa1 (fun c0 => q (by rw [c0]; simp)))
          rw [List.take_of_length_le (by omega)] at ho2
          obtain ⟨cap, hcap, hrun⟩ := app_grow (ty := ty) (base := some a') (sLen := cap0) (sCap := cap0) (old := old) hs hx hi hzv hlen (by omega) hb1 hb2 (show (loadCells a' _).run L.P w1 = _ from ho1) hfirst1
          refine ⟨_, _, hrun, ?_⟩
          have hol : old.length = cap0 * i.size := by rw [← ho2.1, hd0]
          refine r.lastNew w1 ⟨_, rfl⟩ (.inl rfl) e ?_ hcap (by rw [List.length_append, hbl, hd0, ← Nat.add_mul]; exact Nat.mul_le_mul_right _ hcap) (by
            have := hrest (cap - (cap0 + n)); simp only [Array.size_append, List.size_toArray, this, ← hrow1.1, hbl, hol]; rw [← Nat.add_mul, ← Nat.add_mul]; exact Nat.le_of_eq (by congr 1; omega))
          exact hnew _ _ _ ho2
        · cases he
      · rename_i id off len s
        split at he
        · rename_i hcd
          obtain ⟨rfl, hfl⟩ := hcd
          cases hg : h.get id with
          | none => rw [hg] at he; cases he
          | some cs =>
            rw [hg] at he; simp only [Option.bind_some] at he
            obtain ⟨l, cap0, a', hil, rfl, hlc, haa, hlo, hhi⟩ := ha.sobj_inv
            have hb0 := r.blk id cs l hg hil
            have hmul : (len + n) * i.size = len * i.size + n * i.size := Nat.add_mul _ _ _
            have hvl : vs.length = n * i.size := by rw [← hrow.1, hbl]
            split at he
            · rename_i hin
              obtain ⟨rfl, rfl⟩ := Prod.mk.inj (Option.some.inj he)
              have hcap : len + n ≤ cap0 := Nat.le_of_mul_le_mul_right (by omega : (len + n) * i.size ≤ cap0 * i.size) hpos
              have hrun := app_fit (ty := ty) hs hx hi hlen hfirst hcap (b := l.block) (o := l.base + off) (fun _ => haa (by omega))
                (fun j hj => by have := (r.own id cs l hg hil (off + len * i.size + j) (by omega)).1; simpa [Nat.add_assoc] using this)
                (fun j hj => by have := (r.own id cs l hg hil (off + len * i.size + j) (by omega)).2; simpa [Nat.add_assoc] using this) (hone hsc)
              refine ⟨_, _, hrun, ?_⟩
              have r2 := R_setCells hil bs vs (off + len * i.size) hrow.1 (by omega) hrow.2 r hg
              rw [← Nat.add_assoc] at r2
              exact Comes'.same r2 (V.sobj hil (by omega) haa hlo hhi)
            · split at he
              · rename_i hnin htip
                obtain ⟨htip, hro⟩ := htip
                obtain ⟨rfl, rfl⟩ := Prod.mk.inj (Option.some.inj he)
                obtain ⟨hb1, hb2⟩ := roomy_inv hro
                have hd0 : (cs.drop off).length = len * i.size := by simp; omega
                by_cases hfit : len + n ≤ cap0
                · have hext : (len + n) * i.size ≤ cap0 * i.size := Nat.mul_le_mul_right _ hfit
                  have hrun := app_fit (ty := ty) hs hx hi hlen hfirst hfit (b := l.block) (o := l.base + off) (fun _ => haa (by omega))
                    (fun j hj => by have := (r.own id cs l hg hil (off + len * i.size + j) (by omega)).1; simpa [Nat.add_assoc] using this)
                    (fun j hj => by have := (r.own id cs l hg hil (off + len * i.size + j) (by omega)).2; simpa [Nat.add_assoc] using this) (hone hsc)
                  refine ⟨_, _, hrun, ?_⟩
                  have r2 := R_spare hg hil vs (off + len * i.size) (by omega) (by omega) r
                  rw [← Nat.add_assoc] at r2
                  have r3 := r2.regrow hg hil (off := off) (by omega) (as := cs.drop off ++ bs) (by rw [List.length_append, hd0, hbl]; omega) (fun j x hj => by
                    rw [List.getElem?_append] at hj
                    split at hj
                    · rename_i hlt
                      rw [List.getElem?_drop] at hj
                      obtain ⟨u, hu, hVu⟩ := r.val id cs l hg hil (off + j) x hj
                      refine ⟨u, ?_, hVu⟩
                      rw [World.cell?_setCells_out _ _ _ _ _ (fun _ _ => .inl (by simp only [at']; omega))]
                      rw [Nat.add_assoc]; exact hu
                    · rename_i hlt
                      obtain ⟨u, hu, hVu⟩ := hrow.get hj
                      obtain ⟨hjl, hju⟩ := List.getElem?_eq_some_iff.1 hu
                      refine ⟨u, ?_, hVu⟩
                      have hin := World.cell?_setCells_in l.block vs (l.base + off + len * i.size) w (fun j' hj' => by have := (r.own id cs l hg hil (off + len * i.size + j') (by omega)).1; simpa [at', Nat.add_assoc] using this) (j - (cs.drop off).length) hjl
                      rw [hju] at hin
                      rw [show l.base + off + j = l.base + off + len * i.size + (j - (cs.drop off).length) by omega]
                      exact hin)
                  refine ⟨_, Io.le_put _ r.ndom, fun id' l' hid q => ?_, r3, V.sobj (l := ⟨l.block, l.base + off, (cs.drop off ++ bs).length, l.ext - off⟩) (by simp [Io.put]) hfit (fun q => by simpa using haa q) (by show (cs.drop off ++ bs).length ≤ 0 + cap0 * i.size; rw [List.length_append, hd0, hbl]; omega) (by show 0 + cap0 * i.size ≤ l.ext - off; omega)⟩
                  simp only [Io.put] at q
                  split at q
                  · rename_i e'; omega
                  · exact q
                · obtain ⟨l1, cap1, a1, hil1, hq, hlc1, haa1, _, _⟩ := ha.sobj_inv
                  injection hq with hq1 hq2 hq3; obtain rfl := Option.some.inj hq1; subst hq3
                  rw [hil] at hil1; obtain rfl := Option.some.inj hil1
                  obtain ⟨old, ho1, ho2⟩ := Row.rowA (P := L.P) ((r1.row hg hil).part off (len * i.size)) (len * i.size) (by simp; omega) (a := a') (fun q => haa (fun c0 => q (by
                    have : len = 0 := by omega
                    rw [this]; simp)))
                  rw [List.take_of_length_le (by omega)] at ho2
                  obtain ⟨cap, hcap, hrun⟩ := app_grow (ty := ty) (base := some a') (sLen := len) (sCap := cap0) (old := old) hs hx hi hzv hlen hfit hb1 hb2 (show (loadCells a' _).run L.P w1 = _ from ho1) hfirst1
                  refine ⟨_, _, hrun, ?_⟩
                  have hol : old.length = len * i.size := by rw [← ho2.1, hd0]
                  refine r.lastNew w1 ⟨_, rfl⟩ (.inr ⟨id, rfl⟩) e ?_ hcap (by rw [List.length_append, hbl, hd0, ← Nat.add_mul]; exact Nat.mul_le_mul_right _ hcap) (by
                    have := hrest (cap - (len + n)); simp only [Array.size_append, List.size_toArray, this, ← hrow1.1, hbl, hol]; rw [← Nat.add_mul, ← Nat.add_mul]; exact Nat.le_of_eq (by congr 1; omega))
                  exact hnew _ _ _ ho2
              · cases he
        · cases he
      · cases he
end
end Ab
set_option linter.unusedSimpArgs false
set_option linter.unusedVariables false
namespace Ab
open Go RowKit
section
variable {L : Lk} {w0 : World} {ι : Io} {M : Mm} {h : H} {w : World}
set_option maxHeartbeats 1000000 in
theorem appz_sound (r : R L w0 ι M h w) {sT xT ty e : TypeId} {k : IntKind} (hs : L.P.underlying sT = some (.slice e)) (hx : L.P.underlying xT = some (.int k)) {sz bytes : Nat} {z : List AV} (hn : tsz L.P e = some sz) (hb : tby L.P e = some bytes) (hz : tzero L.P e = some z)
    {a b : AV} {av bv : Value} (ha : V L ι M a av) (hbv : V L ι M b bv) {v : AV} {h' : H} (he : aappz h sz bytes z a b = some (v, h')) :
    ∃ v' w', (Builtin.append_ #[sT, xT] ty #[av, bv]).run L.P w = .ok v' w' ∧ Comes' L w0 ι M h h' v v' w' := by
  obtain ⟨i, zv, hi, hzv, hcs⟩ := tzero_inv hz
  have hsi : i.size = sz := by unfold tsz at hn; rw [hi] at hn; exact Option.some.inj hn
  have hbi : i.bytes = bytes := by unfold tby at hb; rw [hi] at hb; exact Option.some.inj hb
  subst hsi; subst hbi
  unfold aappz at he
  split at he
  · rename_i n
    split at he
    · rename_i hc
      obtain ⟨h0, hle, hnb, hzl, hpos, hsc, hro⟩ := hc
      obtain ⟨rfl, rfl⟩ := Prod.mk.inj (Option.some.inj he)
      obtain ⟨hb1, hb2⟩ := roomy_inv hro
      rw [ha.nils_inv, hbv.int_inv]
      have hwl : IntKind.i64.wrap n = n := IntWalk.i64_in _ (by omega)
      have hrow := zero_row (L := L) (ι := ι) (M := M) hcs
      have hzs : zv.cells.size = i.size := by have := hrow.1; simp at this; omega
      obtain ⟨cap, hcap, hch⟩ := choose_cap (w := w) L.P (0 + n.toNat) 0 e
      have hsz : (Go.sizeOf e).run L.P w = .ok i.size w := by simp [Go.sizeOf, typeInfo, hi]
      have hti : (typeInfo e).run L.P w = .ok i w := by simp [typeInfo, hi]
      have h1 : Builtin.nextslicecap (0 + n.toNat) 0 * i.bytes ≤ 281474976710656 := Nat.le_trans (Nat.mul_le_mul_right _ (nextcap_le (by omega))) (by simpa using hb2)
      have h2 : ¬ Builtin.nextslicecap (0 + n.toNat) 0 * i.bytes > 2 ^ 48 := Nat.not_lt.2 (Nat.le_trans h1 (by decide))
      have h3 : i.bytes ≠ 0 := by omega
      have h4 : ¬ (((0 + n.toNat : Nat) : Int) > IntKind.i64.max) := by simp only [IntKind.max_i64]; omega
      have h5 : ¬ n < 0 := by omega
      have h6 : ¬ n * (i.bytes : Int) > 2 ^ 48 := by have : (2:Int)^48 = 281474976710656 := by decide
                                                     omega
      have h7 : ¬ 0 + n.toNat ≤ 0 := by omega
      have h8 : ¬ n.toNat * i.size = 0 := by
        have : 0 < n.toNat * i.size := Nat.mul_pos (by omega) hpos
        omega
      have hz' : (zeroValue e).run L.P { w with drawn := w.drawn + 1 } = .ok zv { w with drawn := w.drawn + 1 } := run_zero hi hzv
      have hti' : (typeInfo e).run L.P { w with drawn := w.drawn + 1 } = .ok i { w with drawn := w.drawn + 1 } := by simp [typeInfo, hi]
      have hrun : (Builtin.append_ #[sT, xT] ty #[.slice none 0 0, .int .i64 n]).run L.P w = .ok (.slice (some ⟨w.heap.size, 0, none⟩) (0 + n.toNat) cap)
          (({ w with drawn := w.drawn + 1 } : World).alloc (.cells (#[] ++ Builtin.zeroCells zv.cells n.toNat ++ Builtin.zeroCells zv.cells (cap - (0 + n.toNat))) e)) := by
        generalize hw1 : ({ w with drawn := w.drawn + 1 } : World) = w1 at hch hz' hti' ⊢
        have hws : w1.heap.size = w.heap.size := by rw [← hw1]
        simp only [Builtin.append_, List.getElem?_toArray, List.getElem?_cons_zero, List.getElem?_cons_succ, Sem.run_bind, run_underlying hs, run_underlying hx, Result.andThen_ok, hsz, Sem.run_pure, if_true, asInt, asIntOf, hwl, h5, if_false, hti, h6, h7, h4, false_and, h2, hch, run_askRoom, Builtin.firstCells, h8, hz', hti', newRow, run_newObj, World.alloc_eq, hws, Bool.not_true, Bool.false_eq_true]
      refine ⟨_, _, hrun, ?_⟩
      rw [Nat.zero_add] at hcap ⊢
      have hz1 := zeroCells_row (L := L) (ι := ι) (M := M) hrow n.toNat
      have hz2 := zeroCells_row (L := L) (ι := ι) (M := M) hrow (cap - n.toNat)
      have hl1 : (Builtin.zeroCells zv.cells n.toNat).size = n.toNat * i.size := by simp [Builtin.zeroCells, hzs]
      have hl2 : (Builtin.zeroCells zv.cells (cap - n.toNat)).size = (cap - n.toNat) * i.size := by simp [Builtin.zeroCells, hzs]
      have hl3 : (repl n.toNat z).length = n.toNat * i.size := by rw [hz1.1]; simpa using hl1
      refine r.lastNew _ ⟨_, rfl⟩ (.inl rfl) e ⟨by simp only [Array.size_append, hl1, hl3]; omega, fun j x hj => ?_⟩ (n := n.toNat) (sz := i.size) (cap := cap) hcap (by rw [hl3]; exact Nat.mul_le_mul_right _ hcap) (by
        simp only [Array.size_append, hl1, hl2, List.size_toArray, List.length_nil, Nat.zero_add, ← Nat.add_mul]; exact Nat.le_of_eq (by congr 1; omega))
      obtain ⟨u, hu, hVu⟩ := hz1.get hj
      refine ⟨u, ?_, hVu⟩
      obtain ⟨hjl, _⟩ := List.getElem?_eq_some_iff.1 hu
      rw [Array.getElem?_append_left (by simpa using hjl)]
      simpa using hu
    · cases he
  · cases he
theorem copy_sound (r : R L w0 ι M h w) {dT sT ty e : TypeId} (hs : L.P.underlying dT = some (.slice e)) {sz : Nat} (hn : tsz L.P e = some sz)
    {a b : AV} {av bv : Value} (ha : V L ι M a av) (hbv : V L ι M b bv) {v : AV} {h' : H} (he : acopy h sz a b = some (v, h')) :
    ∃ v' w', (Builtin.copy_ #[dT, sT] ty #[av, bv]).run L.P w = .ok v' w' ∧ Comes' L w0 ι M h h' v v' w' := by
  unfold acopy at he
  simp only [Option.bind_eq_some_iff] at he
  obtain ⟨⟨n, bs⟩, hsrc, he⟩ := he
  obtain ⟨hlen, hbl, hfc⟩ := src_sound r hbv hsrc
  have hsz := run_sizeOf' (w := w) hn
  simp only at he
  split at he
  · obtain ⟨rfl, rfl⟩ := Prod.mk.inj (Option.some.inj he)
    rw [ha.nils_inv]
    obtain ⟨vs, hf, _⟩ := hfc 0 (Nat.zero_le _)
    refine ⟨.int .i64 0, w, ?_, Comes'.same r (.imm (.int _ _))⟩
    have : Nat.min n 0 = 0 := Nat.min_zero _
    simp [Builtin.copy_, run_underlying hs, hlen, hsz, this, hf, goInt]
  · rename_i id off len s
    split at he
    · rename_i hc
      obtain ⟨rfl, hfl, hsc⟩ := hc
      cases hg : h.get id with
      | none => rw [hg] at he; cases he
      | some cs =>
        rw [hg] at he; simp only [Option.bind_some] at he
        split at he
        · rename_i hle
          obtain ⟨rfl, rfl⟩ := Prod.mk.inj (Option.some.inj he)
          obtain ⟨l, cap, a', hil, rfl, hlc, haa, hlo, hhi⟩ := ha.sobj_inv
          have hb0 := r.blk id cs l hg hil
          have hmn : Nat.min n len ≤ n := Nat.min_le_left _ _
          have hml : Nat.min n len ≤ len := Nat.min_le_right _ _
          obtain ⟨vs, hf, hrow⟩ := hfc (Nat.min n len) hmn
          have hmm : Nat.min n len * s ≤ n * s := Nat.mul_le_mul_right _ hmn
          have hml' : Nat.min n len * s ≤ len * s := Nat.mul_le_mul_right _ hml
          have hvl : vs.length = Nat.min n len * s := by rw [← hrow.1]; simp; omega
          have hst : (storeCells a' vs).run L.P w = .ok () (w.setCells l.block (l.base + off) vs) := by
            cases vs with
            | nil => rfl
            | cons v vs =>
              obtain rfl := haa (by
                intro c0
                have : len = 0 := by omega
                rw [this] at hvl
                simp at hvl)
              have := run_storeCells_cells (P := L.P) l.block (l.base + off) (v :: vs) 0 w
                (fun j hj => by have := (r.own id cs l hg hil (off + j) (by omega)).1; simpa [at', Nat.add_assoc] using this)
                (fun j hj => by have := (r.own id cs l hg hil (off + j) (by omega)).2; simpa [at', Nat.add_assoc] using this)
                (allsc_one hrow (by
                  have : ∀ (bs : List AV) (k : Nat), AV.allsc bs = true → AV.allsc (bs.take k) = true := by
                    intro bs
                    induction bs with
                    | nil => intro k h; simp [AV.allsc]
                    | cons b bs ih =>
                      intro k h
                      simp only [AV.allsc, Bool.and_eq_true] at h
                      cases k with
                      | zero => rfl
                      | succ k => simp only [List.take_succ_cons, AV.allsc, Bool.and_eq_true]; exact ⟨h.1, ih k h.2⟩
                  exact this _ _ hsc))
              simpa [at'] using this
          refine ⟨.int .i64 (Nat.min n len), _, ?_, Comes'.same (R_setCells hil _ vs off hrow.1 (by rw [hrow.1, hvl]; omega) hrow.2 r hg) (.imm (.int _ _))⟩
          simp [Builtin.copy_, run_underlying hs, hlen, hsz, hf, goInt, hst]
        · cases he
    · cases he
  · cases he
theorem allsc_append {a b : List AV} (ha : AV.allsc a = true) (hb : AV.allsc b = true) : AV.allsc (a ++ b) = true := by
  induction a with
  | nil => exact hb
  | cons x a ih => simp only [AV.allsc, List.cons_append, Bool.and_eq_true] at *; exact ⟨ha.1, ih ha.2⟩
theorem allsc_repl {z : List AV} (hz : AV.allsc z = true) : ∀ n, AV.allsc (repl n z) = true
  | 0 => rfl
  | n + 1 => allsc_append hz (allsc_repl hz n)
theorem clear_sound (r : R L w0 ι M h w) {dT ty e : TypeId} (hs : L.P.underlying dT = some (.slice e)) {sz : Nat} (hn : tsz L.P e = some sz) {z : List AV} (hz : tzero L.P e = some z)
    {a : AV} {av : Value} (ha : V L ι M a av) {h' : H} (he : aclear h sz z a = some h') :
    ∃ w', (Builtin.clear_ #[dT] ty #[av]).run L.P w = .ok (.tuple #[]) w' ∧ R L w0 ι M h' w' := by
  obtain ⟨i, zv, hi, hzv, hcs⟩ := tzero_inv hz
  unfold aclear at he
  split at he
  · obtain rfl := Option.some.inj he
    rw [ha.nils_inv]
    exact ⟨w, by simp [Builtin.clear_, run_underlying hs], r⟩
  · rename_i id off len s
    split at he
    · rename_i h0; subst h0
      obtain rfl := Option.some.inj he
      obtain ⟨l, cap, a', hil, rfl, _⟩ := ha.sobj_inv
      exact ⟨w, by simp [Builtin.clear_, run_underlying hs], r⟩
    · rename_i h0
      split at he
      · rename_i hc
        obtain ⟨rfl, hfl, hzl, hsc⟩ := hc
        cases hg : h.get id with
        | none => rw [hg] at he; cases he
        | some cs =>
          rw [hg] at he; simp only [Option.bind_some] at he
          split at he
          · rename_i hle
            obtain rfl := Option.some.inj he
            obtain ⟨l, cap, a', hil, rfl, hlc, haa, hlo, hhi⟩ := ha.sobj_inv
            obtain rfl := haa (by omega)
            have hb0 := r.blk id cs l hg hil
            have hrow := zeroCells_row (L := L) (ι := ι) (M := M) (zero_row hcs) len
            have hzs : zv.cells.size = z.length := by have := (zero_row (L := L) (ι := ι) (M := M) hcs).1; simp at this; omega
            have hvl : (Builtin.zeroCells zv.cells len).toList.length = len * s := by simp [Builtin.zeroCells, hzs, hzl]
            have hst := run_storeCells_cells (P := L.P) l.block (l.base + off) (Builtin.zeroCells zv.cells len).toList 0 w
                (fun j hj => by have := (r.own id cs l hg hil (off + j) (by omega)).1; simpa [at', Nat.add_assoc] using this)
                (fun j hj => by have := (r.own id cs l hg hil (off + j) (by omega)).2; simpa [at', Nat.add_assoc] using this)
                (allsc_one hrow (allsc_repl hsc len))
            refine ⟨_, ?_, R_setCells hil _ _ off hrow.1 (by rw [hrow.1, hvl]; omega) hrow.2 r hg⟩
            have hst' : (storeCells (at' l.block (l.base + off)) (Builtin.zeroCells zv.cells len).toList).run L.P w = .ok () (w.setCells l.block (l.base + off) (Builtin.zeroCells zv.cells len).toList) := by simpa [at'] using hst
            have hm : ∀ n, n = len → (Builtin.clear_ #[dT] ty #[.slice (some (at' l.block (l.base + off))) n cap]).run L.P w = .ok (.tuple #[]) (w.setCells l.block (l.base + off) (Builtin.zeroCells zv.cells len).toList) := by
              intro n hn'
              cases n with
              | zero => omega
              | succ n => simp [Builtin.clear_, run_underlying hs, run_zero hi hzv, hn', hst']
            exact hm len rfl
          · cases he
      · cases he
  · cases he
end
end Ab
set_option linter.unusedSimpArgs false
set_option linter.unusedVariables false
namespace Ab
open Go RowKit
section
variable {L : Lk} {w0 : World} {ι : Io} {M : Mm} {h : H} {w : World}
def Out (L : Lk) (w0 : World) (ι : Io) (M : Mm) (h h' : H) (v : AV) (v' : Value) (w' : World) : Prop :=
  ∃ ι' M', LeI ι ι' ∧ LeM M M' ∧ (∀ id l, id < h.next → ι' id = some l → ι id = some l) ∧ R L w0 ι' M' h' w' ∧ V L ι' M' v v'
theorem Out.of {h' : H} {v : AV} {v' : Value} {w' : World} (hc : Comes' L w0 ι M h h' v v' w') : Out L w0 ι M h h' v v' w' := by
  obtain ⟨ι', a, b, c, d⟩ := hc
  exact ⟨ι', M, a, fun _ _ _ q => q, b, c, d⟩
theorem Out.same {h' : H} {v : AV} {v' : Value} {w' : World} (r : R L w0 ι M h' w') (hv : V L ι M v v') : Out L w0 ι M h h' v v' w' := .of (.same r hv)
def Callee (L : Lk) (w0 : World) (call : CallT) : Prop := ∀ (f : Nat) (fid : FuncId) (args : List AV) (vals : List Value) (ι : Io) (M : Mm) (h h' : H) (w : World) (v : AV), L.mf fid = some f → call f args h = some (v, h') → R L w0 ι M h w → RowA L ι M args vals →
  Calls L.P fid vals.toArray w fun e w' => ∃ v', e = .returned v' ∧ Out L w0 ι M h h' v v' w'
def Bodies (L : Lk) : Prop := ∀ fid f, L.mf fid = some f → ∃ fn c, L.P.funcs[fid]? = some fn ∧ fn.body = some c ∧ (fn.name == "runtime.NumGoroutine") = false
theorem Made.out (r : R L w0 ι M h w) {cs : List AV} {mk : Nat → AV} {v' : Value} {w' : World} (hm : Made L ι M w cs mk v' w') : Out L w0 ι M h (h.alloc cs) (mk h.next) v' w' := by
  obtain ⟨dr, arr, t, fz, rfl, hfz, hlen, hval, hv⟩ := hm.ex
  have rn := (r.drew dr).newf (id := h.next) r.ndom (cs := cs) (arr := arr) (t := t) (fz := fz) (h' := h.alloc cs) hfz (by simp) (by simp)
    (fun i c q => by
      simp only [H.get_alloc] at q
      split at q
      · rename_i e; exact .inl ⟨e, (Option.some.inj q).symm⟩
      · rename_i e; exact .inr ⟨e, q⟩) hlen hval
  refine ⟨_, M, Io.le_put _ r.ndom, fun _ _ _ q => q, fun id l hid q => ?_, rn, hv _ _ (by simp [Io.put])⟩
  simp only [Io.put] at q
  split at q
  · omega
  · exact q
theorem oper_value {o : Oper} {a : Act} {next : Act → World → Prop} {Q : Exit → Act → World → Prop} {v' : Value} {w' : World} (hr : (execOp a.eval o).run L.P w = .ok (.value v') w') (hn : next (a.put o.dst v') w') : o.wp L.P a w next Q := by
  unfold Oper.wp; rw [hr]; exact hn
theorem oper_skip {o : Oper} {a : Act} {next : Act → World → Prop} {Q : Exit → Act → World → Prop} {w' : World} (hr : (execOp a.eval o).run L.P w = .ok .skip w') (hn : next (a.put o.dst undef) w') : o.wp L.P a w next Q := by
  unfold Oper.wp; rw [hr]; exact hn
theorem cOX_sound {e : Env} {a : Act} (he : EnvR L ι M e a.tmps) {o : Option Operand} {x : Option X} (h : cOX L o = some x) : OV L ι M (x.map (X.ev e)) (o.map a.eval) := by
  cases o with
  | none => obtain rfl := Option.some.inj h; trivial
  | some o =>
    simp only [cOX, Option.map_eq_some_iff] at h
    obtain ⟨y, hy, rfl⟩ := h
    exact X_sound he hy
theorem cBo_bin {b : BinOp} : (cBo b = .eql ↔ b = .eql) ∧ (cBo b = .neq ↔ b = .neq) := by cases b <;> simp [cBo]
theorem b2s_sound : ∀ {cs : List AV} {vs : List Value} {l : List UInt8}, RowA L ι M cs vs → b2s cs = some l → ∀ (s : ByteArray), (do
      let mut s := s
      for c in vs.toArray do
        let .int .u8 n := c | stuck "bytesToString: byte expected"
        s := s.push (UInt8.ofNat n.toNat)
      pure (.string s) : Sem Value).run L.P w = .ok (.string ⟨s.data ++ l.toArray⟩) w := by
  intro cs
  induction cs with
  | nil =>
    intro vs l hr hl s
    obtain rfl := Option.some.inj hl
    have : vs = [] := List.eq_nil_of_length_eq_zero hr.1.symm
    subst this
    simp
  | cons c cs ih =>
    intro vs l hr hl s
    cases vs with
    | nil => have := hr.1; cases this
    | cons v vs =>
      have hv := hr.2 0 c v rfl rfl
      have hr' : RowA L ι M cs vs := ⟨by simpa using hr.1, fun i a x h1 h2 => hr.2 (i + 1) a x (by simpa using h1) (by simpa using h2)⟩
      unfold b2s at hl
      split at hl
      · rename_i q; cases q
      · rename_i n rest q
        injection q with q1 q2; subst q1; subst q2
        simp only [Option.bind_eq_some_iff] at hl
        obtain ⟨l', hl', hl⟩ := hl
        obtain rfl := Option.some.inj hl
        rw [hv.int_inv]
        have := ih hr' hl' (s.push (UInt8.ofNat n.toNat))
        simp only [List.forIn_toArray, List.forIn_cons, Sem.run_bind, Sem.run_pure, Result.andThen_ok] at this ⊢
        rw [this]
        congr 2
        simp [ByteArray.push]
      · cases hl
def nonnum : Value → Bool
  | .pointer _ | .slice _ _ _ | .func _ _ _ | .nilFunc | .iface _ _ | .nilIface => true
  | _ => false
theorem binOp_nn_eql {t : TypeId} {x y : Value} (hx : nonnum x = true) : binOp .eql t x y = (do pure (.bool (← Op.equal t x y))) := by
  cases x <;> first | (simp [nonnum] at hx; done) | (cases y <;> rfl)
theorem binOp_nn_neq {t : TypeId} {x y : Value} (hx : nonnum x = true) : binOp .neq t x y = (do pure (.bool (!(← Op.equal t x y)))) := by
  cases x <;> first | (simp [nonnum] at hx; done) | (cases y <;> rfl)
theorem nonnum_agg {x : Value} (hx : nonnum x = true) : ∀ c, x ≠ .agg c := by intro c e; subst e; cases hx
theorem aeqn_nn (r : R L w0 ι M h w) {k : Nat} {x y : AV} {xv : Value} {q : Bool} (hx : V L ι M x xv) (hq : aeqn k x y = some q) : nonnum xv = true ∧ (k ≠ 3 → xv ≠ .nilIface) := by
  unfold aeqn at hq
  split at hq
  case h_1 => rw [hx.nilp_inv]; exact ⟨rfl, fun _ => nofun⟩
  case h_2 => rw [hx.nilp_inv]; exact ⟨rfl, fun _ => nofun⟩
  case h_3 => rw [hx.nilp_inv]; exact ⟨rfl, fun _ => nofun⟩
  case h_4 => obtain ⟨l, _, rfl⟩ := hx.pobj_inv; exact ⟨rfl, fun _ => nofun⟩
  case h_5 => obtain ⟨b, o, rfl, _⟩ := V.pimm_inv r hx; exact ⟨rfl, fun _ => nofun⟩
  case h_6 => rw [hx.nils_inv]; exact ⟨rfl, fun _ => nofun⟩
  case h_7 => rw [hx.nils_inv]; exact ⟨rfl, fun _ => nofun⟩
  case h_8 => rw [hx.nils_inv]; exact ⟨rfl, fun _ => nofun⟩
  case h_9 => obtain ⟨l, c, a, _, rfl, _⟩ := hx.sobj_inv; exact ⟨rfl, fun _ => nofun⟩
  case h_10 => obtain ⟨b, o, c, a, rfl, _⟩ := V.simm_inv r hx; exact ⟨rfl, fun _ => nofun⟩
  case h_11 => rw [hx.nilf_inv]; exact ⟨rfl, fun _ => nofun⟩
  case h_12 => rw [hx.nilf_inv]; exact ⟨rfl, fun _ => nofun⟩
  case h_13 => obtain ⟨f, a, c, rfl, _⟩ := hx.fn_inv; exact ⟨rfl, fun _ => nofun⟩
  case h_14 => rw [hx.nili_inv]; exact ⟨rfl, fun q => absurd rfl q⟩
  case h_15 => rw [hx.nili_inv]; exact ⟨rfl, fun q => absurd rfl q⟩
  case h_16 => obtain ⟨f, a, rfl, _⟩ := hx.iface_inv; exact ⟨rfl, fun q => absurd rfl q⟩
  case h_17 => cases hq
theorem run_mapM_sizes {P : Program} : ∀ (fs : List Field), fs.all (fun f => (tsz P f.type).isSome) = true → ((fs.mapM fun f => do pure (f.offset, ← Go.sizeOf f.type) : Sem (List (Nat × Nat))).run P w) = .ok (fs.map fun f => (f.offset, (tsz P f.type).getD 0)) w
  | [], _ => rfl
  | f :: fs, hall => by
    simp only [List.all_cons, Bool.and_eq_true] at hall
    obtain ⟨n, hn⟩ := Option.isSome_iff_exists.1 hall.1
    simp only [List.mapM_cons, Sem.run_bind, run_sizeOf' hn, Result.andThen_ok, Sem.run_pure, run_mapM_sizes fs hall.2, List.map_cons, hn, Option.getD_some]
theorem run_places {P : Program} {fs : Array Field} (hall : fs.toList.all (fun f => (tsz P f.type).isSome) = true) : ((fs.mapM fun f => do pure (f.offset, ← Go.sizeOf f.type) : Sem (Array (Nat × Nat))).run P w) = .ok (fs.map fun f => (f.offset, (tsz P f.type).getD 0)) w := by
  rw [Array.mapM_eq_mapM_toList]
  simp only [Sem.run_map, run_mapM_sizes _ hall, Result.andThen_ok]
  congr 1
  apply Array.ext'
  simp
theorem build_sound {t : TypeId} {i : TypeInfo} {zv : Value} {z cs : List AV} (hi : L.P.info? t = some i) (hzv : i.zero = some zv) (hrow : RowA L ι M z zv.cells.toList) {place : Nat → Option (Nat × Nat)} {ps : List (Nat × Nat × AV)} {qs : Array (Nat × Value)} (hl : ps.length = qs.toList.length)
    (hp : ∀ (i : Nat) (p : Nat × Nat × AV) (q : Nat × Value), ps[i]? = some p → qs.toList[i]? = some q → place q.1 = some (p.1, p.2.1) ∧ V L ι M p.2.2 q.2) (hf : fillA z ps = some cs) :
    ∃ arr, Instr.fill place zv.cells qs.toList = some arr ∧ V L ι M (.agg cs) (.agg arr) := by
  obtain ⟨arr, h1, h2⟩ := fill_sound place ps qs.toList hl hp hrow hf
  refine ⟨arr, h1, ?_⟩
  have := V.agg (L := L) (ι := ι) (M := M) h2.1 h2.2
  simpa using this
theorem fold_min : ∀ {xs : List AV} {vs : List Value} {x v : AV} {y : Value}, RowA L ι M xs vs → V L ι M x y → fold2 amin2 x xs = some v → ∃ v', (vs.foldlM Builtin.min2 y).run L.P w = .ok v' w ∧ V L ι M v v'
  | [], [], x, v, y, _, hx, hv => by obtain rfl := Option.some.inj hv; exact ⟨y, rfl, hx⟩
  | b :: xs, u :: vs, x, v, y, hr, hx, hv => by
    simp only [fold2, Option.bind_eq_some_iff] at hv
    obtain ⟨m, hm, hv⟩ := hv
    have hr' : RowA L ι M xs vs := ⟨by simpa using hr.1, fun i a x h1 h2 => hr.2 (i + 1) a x (by simpa using h1) (by simpa using h2)⟩
    have hb := hr.2 0 b u rfl rfl
    unfold amin2 at hm
    split at hm
    · rename_i k p j q
      obtain rfl := Option.some.inj hm
      rw [hx.int_inv, hb.int_inv]
      obtain ⟨v', h1, h2⟩ := fold_min hr' (V.imm (VI.int k (if q < p then q else p))) hv
      exact ⟨v', by simpa [List.foldlM_cons, Builtin.min2] using h1, h2⟩
    · cases hm
  | [], _ :: _, _, _, _, hr, _, _ => by cases hr.1
  | _ :: _, [], _, _, _, hr, _, _ => by cases hr.1
theorem fold_max : ∀ {xs : List AV} {vs : List Value} {x v : AV} {y : Value}, RowA L ι M xs vs → V L ι M x y → fold2 amax2 x xs = some v → ∃ v', (vs.foldlM Builtin.max2 y).run L.P w = .ok v' w ∧ V L ι M v v'
  | [], [], x, v, y, _, hx, hv => by obtain rfl := Option.some.inj hv; exact ⟨y, rfl, hx⟩
  | b :: xs, u :: vs, x, v, y, hr, hx, hv => by
    simp only [fold2, Option.bind_eq_some_iff] at hv
    obtain ⟨m, hm, hv⟩ := hv
    have hr' : RowA L ι M xs vs := ⟨by simpa using hr.1, fun i a x h1 h2 => hr.2 (i + 1) a x (by simpa using h1) (by simpa using h2)⟩
    have hb := hr.2 0 b u rfl rfl
    unfold amax2 at hm
    split at hm
    · rename_i k p j q
      obtain rfl := Option.some.inj hm
      rw [hx.int_inv, hb.int_inv]
      obtain ⟨v', h1, h2⟩ := fold_max hr' (V.imm (VI.int k (if q > p then q else p))) hv
      exact ⟨v', by simpa [List.foldlM_cons, Builtin.max2] using h1, h2⟩
    · cases hm
  | [], _ :: _, _, _, _, hr, _, _ => by cases hr.1
  | _ :: _, [], _, _, _, hr, _, _ => by cases hr.1
theorem run_builtin {b : Builtin} {args : Array Operand} {ats : Array TypeId} {dst : Option Tmp} {ty : TypeId} {pos : String} {after : Array Edge} {guard : Option (Nat × Bool)} (ρ : Operand → Value) :
    execOp ρ ⟨dst, .call ⟨.builtin b, args, ats⟩, ty, pos, after, guard⟩ = builtin b ats ty (args.map fun | .const _ => true | _ => false) (args.map ρ) := rfl
theorem b2s_conv (r : R L w0 ι M h w) {x : AV} {xv : Value} (hx : V L ι M x xv) {n : Nat} {cs : List AV} (hsrc : srcCells h 1 x = some (n, cs)) {l : List UInt8} (hl : b2s cs = some l) (hns : ∀ s, x ≠ .str s) :
    (Conv.bytesToString xv).run L.P w = .ok (.string ⟨l.toArray⟩) w ∧ ∃ b m c, xv = .slice b m c := by
  obtain ⟨hlen, hbl, hfc⟩ := src_sound r hx hsrc
  obtain ⟨vs, hf, hrow⟩ := hfc n (Nat.le_refl _)
  rw [List.take_of_length_le (by omega)] at hrow
  have hb := b2s_sound (w := w) hrow hl .empty
  have e0 : (ByteArray.empty.data ++ l.toArray) = l.toArray := by show (#[] : Array UInt8) ++ l.toArray = l.toArray; simp
  rw [e0] at hb
  have key : ∀ (b : Addr) (m c : Nat), xv = .slice (some b) m c → (Conv.bytesToString xv).run L.P w = .ok (.string ⟨l.toArray⟩) w := by
    intro b m c hxv
    rw [hxv] at hlen hf ⊢
    have hm : m = n := by simp [Builtin.lenOf] at hlen; exact hlen
    subst hm
    simp only [Builtin.firstCells, Nat.mul_one] at hf
    simp only [Conv.bytesToString, Sem.run_bind, hf, Result.andThen_ok] at hb ⊢
    exact hb
  unfold srcCells at hsrc
  split at hsrc
  · obtain ⟨rfl, rfl⟩ := Prod.mk.inj (Option.some.inj hsrc)
    obtain rfl := Option.some.inj hl
    rw [hx.nils_inv]
    exact ⟨rfl, _, _, _, rfl⟩
  · exact absurd rfl (hns _)
  · obtain ⟨_, cap, a, _, hxv, _⟩ := hx.sobj_inv; exact ⟨key _ _ _ hxv, _, _, _, hxv⟩
  · obtain ⟨_, _, cap, a, hxv, _⟩ := V.simm_inv r hx; exact ⟨key _ _ _ hxv, _, _, _, hxv⟩
  · cases hsrc
theorem args1 {args : Array Operand} {f : Operand → Value} {e : Env} {y : X} (h : (evArgs e [y]).length = (args.toList.map f).length) : ∃ o, args = #[o] := by
  obtain ⟨l⟩ := args
  match l, h with
  | [o], _ => exact ⟨o, rfl⟩
theorem args2 {args : Array Operand} {f : Operand → Value} {e : Env} {y z : X} (h : (evArgs e [y, z]).length = (args.toList.map f).length) : ∃ o1 o2, args = #[o1, o2] := by
  obtain ⟨l⟩ := args
  match l, h with
  | [o1, o2], _ => exact ⟨o1, o2, rfl⟩
theorem alen_sound (r : R L w0 ι M h w) {t ty : TypeId} {str : Bool} (ht : (str = true ∧ L.P.underlying t = some .string) ∨ (str = false ∧ ∃ el, L.P.underlying t = some (.slice el))) {x : AV} {xv : Value} (hx : V L ι M x xv) {v : AV} (hv : alen str x = some v) :
    ∃ v', (Builtin.len_ #[t] ty #[xv]).run L.P w = .ok v' w ∧ V L ι M v v' := by
  unfold alen at hv
  split at hv
  · obtain rfl := Option.some.inj hv
    rcases ht with ⟨_, ht⟩ | ⟨q, _⟩
    · rw [hx.str_inv]; refine ⟨.int .i64 _, ?_, .imm (.int _ _)⟩; simp [Builtin.len_, run_underlying ht, goInt]; try rfl
    · cases q
  all_goals first | cases hv; done | skip
  all_goals
    obtain rfl := Option.some.inj hv
    rcases ht with ⟨q, _⟩ | ⟨_, el, ht⟩
    · cases q
  · rw [hx.nils_inv]; refine ⟨.int .i64 _, ?_, .imm (.int _ _)⟩; simp [Builtin.len_, run_underlying ht, goInt]; try rfl
  · obtain ⟨_, cap, a, _, rfl, _⟩ := hx.sobj_inv; refine ⟨.int .i64 _, ?_, .imm (.int _ _)⟩; simp [Builtin.len_, run_underlying ht, goInt]; try rfl
  · obtain ⟨_, _, cap, a, rfl, _⟩ := V.simm_inv r hx; refine ⟨.int .i64 _, ?_, .imm (.int _ _)⟩; simp [Builtin.len_, run_underlying ht, goInt]; try rfl
set_option maxHeartbeats 2000000 in
theorem op_wp {call : CallT} (hcal : Callee L w0 call) (hbod : Bodies L) {o : Oper} {x : AOp} (hc : cOp L o.op = some x) {e : Env} {a : Act} (he : EnvR L ι M e a.tmps) (r : R L w0 ι M h w) {v : AV} {h' : H} (hev : evOp call e h x = some (v, h'))
    {next : Act → World → Prop} {Q : Exit → Act → World → Prop} (K : ∀ v' w', Out L w0 ι M h h' v v' w' → next (a.put o.dst v') w') : o.wp L.P a w next Q := by
  have hb : ∀ b, birth e x = some b → evOp call e h x = evBirth e h x → o.wp L.P a w next Q := by
    intro b hb heq
    rw [heq, evBirth, hb] at hev
    simp only [Option.bind_some, Option.some.injEq, Prod.mk.injEq] at hev
    obtain ⟨rfl, rfl⟩ := hev
    obtain ⟨v', w', h1, h2⟩ := birth_sound he hc (cs := b.1) (mk := b.2) hb
    exact oper_value h1 (K _ _ (h2.out r))
  have hbn : evOp call e h x = evBirth e h x → ∃ b, birth e x = some b := by
    intro heq
    rw [heq, evBirth] at hev
    simp only [Option.bind_eq_some_iff] at hev
    obtain ⟨b, hb, _⟩ := hev
    exact ⟨b, hb⟩
  obtain ⟨dst, op, ty, pos, after, guard⟩ := o
  dsimp only at hc
  cases op with
  | move y =>
    simp only [cOp, Option.map_eq_some_iff] at hc
    obtain ⟨x, hx, rfl⟩ := hc
    simp only [evOp, Option.some.injEq, Prod.mk.injEq] at hev; obtain ⟨rfl, rfl⟩ := hev
    exact oper_value (v' := a.eval y) (w' := w) (by simp [execOp]) (K _ _ (.same r (X_sound he hx)))
  | assign y =>
    simp only [cOp, Option.map_eq_some_iff] at hc
    obtain ⟨x, hx, rfl⟩ := hc
    simp only [evOp, Option.some.injEq, Prod.mk.injEq] at hev; obtain ⟨rfl, rfl⟩ := hev
    exact oper_value (v' := a.eval y) (w' := w) (by simp [execOp]) (K _ _ (.same r (X_sound he hx)))
  | pick c y z =>
    simp only [cOp, Option.bind_eq_some_iff] at hc
    obtain ⟨c', hc', y', hy, z', hz, hc⟩ := hc
    obtain rfl := Option.some.inj hc
    simp only [evOp] at hev
    split at hev
    · rename_i t ht
      simp only [Option.some.injEq, Prod.mk.injEq] at hev; obtain ⟨rfl, rfl⟩ := hev
      have h1 := X_sound he hc'; rw [ht] at h1
      have h1' := h1.bool_inv
      cases t with
      | true => exact oper_value (v' := a.eval y) (w' := w) (by simp [execOp, h1', asBool]) (K _ _ (.same r (X_sound he hy)))
      | false => exact oper_value (v' := a.eval z) (w' := w) (by simp [execOp, h1', asBool]) (K _ _ (.same r (X_sound he hz)))
    · cases hev
  | alloc t =>
    have hc0 := hc
    simp only [cOp, Option.map_eq_some_iff] at hc0
    obtain ⟨z, _, rfl⟩ := hc0
    obtain ⟨b, hb'⟩ := hbn rfl; exact hb b hb' rfl
  | box t y =>
    have hc0 := hc
    simp only [cOp, Option.bind_eq_some_iff] at hc0
    obtain ⟨_, _, _, _, hc0⟩ := hc0
    obtain rfl := Option.some.inj hc0
    obtain ⟨b, hb'⟩ := hbn rfl; exact hb b hb' rfl
  | build t ps =>
    simp only [cOp, Option.bind_eq_some_iff] at hc
    obtain ⟨z, hz, hc⟩ := hc
    obtain ⟨i, zv, hi, hzv, hcs⟩ := tzero_inv hz
    have hrow := zero_row (L := L) (ι := ι) (M := M) hcs
    split at hc
    · rename_i fs ht
      split at hc
      case isFalse => cases hc
      rename_i hall
      simp only [Option.map_eq_some_iff] at hc
      obtain ⟨xs, hxs, rfl⟩ := hc
      simp only [evOp, Option.bind_eq_some_iff] at hev
      obtain ⟨cs, hf, hev⟩ := hev
      simp only [Option.some.injEq, Prod.mk.injEq] at hev; obtain ⟨rfl, rfl⟩ := hev
      obtain ⟨g1, g2⟩ := cFs_sound he hxs
      obtain ⟨arr, k1, k2⟩ := build_sound hi hzv hrow (place := fun i => (fs.map fun f => (f.offset, (tsz L.P f.type).getD 0))[i]?) (ps := xs.map fun p => (p.1, p.2.1, p.2.2.ev e)) (qs := ps.map fun q => (q.1, a.eval q.2)) (by simp [g1])
        (fun j p q hp hq => by
          rw [Array.toList_map] at hq
          simp only [List.getElem?_map, Option.map_eq_some_iff] at hp hq
          obtain ⟨p', hp', rfl⟩ := hp
          obtain ⟨q', hq', rfl⟩ := hq
          obtain ⟨⟨f, e1, e2, e3⟩, e4⟩ := g2 j p' q' hp' hq'
          refine ⟨?_, e4⟩
          simp only [Array.getElem?_map, e1, Option.map_some, e2, e3, Option.getD_some]) hf
      exact oper_value (v' := .agg arr) (w' := w) (by
        simp only [execOp, Instr.build, Sem.run_bind, run_zero hi hzv, Result.andThen_ok, run_underlying ht, run_places hall, k1, Sem.run_pure]) (K _ _ (.same r k2))
    · rename_i el ht
      simp only [Option.bind_eq_some_iff, Option.map_eq_some_iff] at hc
      obtain ⟨n, hn, xs, hxs, rfl⟩ := hc
      simp only [evOp, Option.bind_eq_some_iff] at hev
      obtain ⟨cs, hf, hev⟩ := hev
      simp only [Option.some.injEq, Prod.mk.injEq] at hev; obtain ⟨rfl, rfl⟩ := hev
      obtain ⟨g1, g2⟩ := cPs_sound he hxs
      rw [List.map_map] at hf
      obtain ⟨arr, k1, k2⟩ := build_sound hi hzv hrow (place := fun i => some (i * n, n)) (qs := ps.map fun q => (q.1, a.eval q.2)) (by simp [g1])
        (fun j p q hp hq => by
          rw [Array.toList_map] at hq
          simp only [List.getElem?_map, Option.map_eq_some_iff] at hp hq
          obtain ⟨p', hp', rfl⟩ := hp
          obtain ⟨q', hq', rfl⟩ := hq
          obtain ⟨e1, e4⟩ := g2 j p' q' hp' hq'
          exact ⟨by simp only [Function.comp_apply, e1], e4⟩) hf
      exact oper_value (v' := .agg arr) (w' := w) (by
        simp only [execOp, Instr.build, Sem.run_bind, run_zero hi hzv, Result.andThen_ok, run_underlying ht, run_sizeOf' hn, k1, Sem.run_pure]) (K _ _ (.same r k2))
    · cases hc
  | buildSlice t len ps =>
    have hc0 := hc
    simp only [cOp] at hc0
    split at hc0
    · simp only [Option.bind_eq_some_iff] at hc0
      obtain ⟨_, _, _, _, _, _, hc0⟩ := hc0
      split at hc0
      · obtain rfl := Option.some.inj hc0
        obtain ⟨b, hb'⟩ := hbn rfl; exact hb b hb' rfl
      · cases hc0
    · cases hc0
  | load t p =>
    simp only [cOp, Option.bind_eq_some_iff, Option.map_eq_some_iff] at hc
    obtain ⟨ag, hag, n, hn, p', hp, rfl⟩ := hc
    simp only [evOp, Option.bind_eq_some_iff] at hev
    obtain ⟨y, hy, hev⟩ := hev
    simp only [Option.some.injEq, Prod.mk.injEq] at hev; obtain ⟨rfl, rfl⟩ := hev
    obtain ⟨v', h1, h2⟩ := aload_sound r hag hn (X_sound he hp) hy
    exact oper_value (v' := v') (w' := w) (by simp [execOp, h1]) (K _ _ (.same r h2))
  | store t p z =>
    simp only [cOp, Option.bind_eq_some_iff, Option.map_eq_some_iff] at hc
    obtain ⟨n, hn, p', hp, z', hz, rfl⟩ := hc
    simp only [evOp, Option.bind_eq_some_iff] at hev
    obtain ⟨y, hy, hev⟩ := hev
    simp only [Option.some.injEq, Prod.mk.injEq] at hev; obtain ⟨rfl, rfl⟩ := hev
    obtain ⟨w', h1, h2⟩ := astore_sound r hn (X_sound he hp) (X_sound he hz) hy
    exact oper_skip (w' := w') (by simp [execOp, h1]) (K _ _ (.same h2 (.imm (.bot _))))
  | nilCheck y =>
    simp only [cOp, Option.map_eq_some_iff] at hc
    obtain ⟨x, hx, rfl⟩ := hc
    have hv := X_sound he hx
    simp only [evOp] at hev
    split at hev
    · rename_i q; rw [q] at hv
      simp only [Option.some.injEq, Prod.mk.injEq] at hev; obtain ⟨rfl, rfl⟩ := hev
      obtain ⟨l, h1, h2⟩ := hv.pobj_inv
      exact oper_value (v' := a.eval y) (w' := w) (by simp [execOp, h2]) (K _ _ (.same r hv))
    · rename_i q; rw [q] at hv
      simp only [Option.some.injEq, Prod.mk.injEq] at hev; obtain ⟨rfl, rfl⟩ := hev
      obtain ⟨b, o, h2, _⟩ := V.pimm_inv r hv
      exact oper_value (v' := a.eval y) (w' := w) (by simp [execOp, h2]) (K _ _ (.same r hv))
    · rename_i q; rw [q] at hv
      simp only [Option.some.injEq, Prod.mk.injEq] at hev; obtain ⟨rfl, rfl⟩ := hev
      obtain ⟨f, va, vc, h2, _⟩ := hv.fn_inv
      exact oper_value (v' := a.eval y) (w' := w) (by simp [execOp, h2]) (K _ _ (.same r hv))
    · rename_i q; rw [q] at hv
      simp only [Option.some.injEq, Prod.mk.injEq] at hev; obtain ⟨rfl, rfl⟩ := hev
      obtain ⟨t, z, h2, _⟩ := hv.iface_inv
      exact oper_value (v' := a.eval y) (w' := w) (by simp [execOp, h2]) (K _ _ (.same r hv))
    · cases hev
  | binOp b t y z u =>
    simp only [cOp, cBin, Option.bind_eq_some_iff] at hc
    obtain ⟨y', hy, z', hz, hc⟩ := hc
    have hyv := X_sound he hy
    have hzv := X_sound he hz
    have hbin : ∀ {x : AOp}, x = .bin (cBo b) y' z' → evOp call e h x = some (v, h') → (⟨dst, .binOp b t y z u, ty, pos, after, guard⟩ : Oper).wp L.P a w next Q := by
      intro x hx hev
      subst hx
      simp only [evOp, Option.bind_eq_some_iff] at hev
      obtain ⟨q, hq, hev⟩ := hev
      simp only [Option.some.injEq, Prod.mk.injEq] at hev; obtain ⟨rfl, rfl⟩ := hev
      obtain ⟨v', h1, h2⟩ := abin_sound (w := w) (t := t) hyv hzv hq
      obtain ⟨n1, n2⟩ := abin_noagg hyv hzv hq
      exact oper_value (v' := v') (w' := w) (by simp [execOp, eqGuard_ok (.inl n1) n2, h1]) (K _ _ (.same r h2))
    have heq : ∀ (k : Nat) (d : TypeDesc), L.P.underlying t = some d → eqT k d → (k = 3 → isConst y = true ∨ isConst z = true) → (b = .eql ∧ x = .eqn k false y' z' ∨ b = .neq ∧ x = .eqn k true y' z') → (⟨dst, .binOp b t y z u, ty, pos, after, guard⟩ : Oper).wp L.P a w next Q := by
      intro k d hd hk hcon hor
      rcases hor with ⟨rfl, rfl⟩ | ⟨rfl, rfl⟩
      all_goals
        simp only [evOp, Option.bind_eq_some_iff] at hev
        obtain ⟨q, hq, hev⟩ := hev
        simp only [Option.some.injEq, Prod.mk.injEq] at hev; obtain ⟨rfl, rfl⟩ := hev
        obtain ⟨n1, n2⟩ := aeqn_nn r hyv hq
        have hg := fun b => eqGuard_ok (b := b) (t := t) (x := y) (y := z) (xv := a.eval y) (yv := a.eval z) (by
          by_cases h3 : k = 3
          · exact .inr (.inr (hcon h3))
          · exact .inl (n2 h3)) (nonnum_agg n1)
        have he' := aeqn_sound hd hk r hyv hzv hq
      · exact oper_value (v' := .bool q) (w' := w) (by simp [execOp, hg, binOp_nn_eql n1, he']) (K _ _ (.same r (.imm (.bool _))))
      · exact oper_value (v' := .bool !q) (w' := w) (by simp [execOp, hg, binOp_nn_neq n1, he']) (K _ _ (.same r (.imm (.bool _))))
    split at hc
    · obtain rfl := Option.some.inj hc; exact hbin rfl hev
    · obtain rfl := Option.some.inj hc; exact hbin rfl hev
    · rename_i hd
      split at hc
      all_goals first | cases hc; done | skip
      all_goals
        obtain rfl := Option.some.inj hc
        simp only [evOp] at hev
        split at hev
        · rename_i p q hp hq
          simp only [Option.some.injEq, Prod.mk.injEq] at hev; obtain ⟨rfl, rfl⟩ := hev
          rw [hp] at hyv; rw [hq] at hzv
          have e1 := hyv.bool_inv; have e2 := hzv.bool_inv
          obtain ⟨n, hn⟩ := maxDepth_pos
          have hbb : binOp .eql t (.bool p) (.bool q) = (do pure (.bool (← Op.equal t (.bool p) (.bool q)))) := rfl
          have hbn : binOp .neq t (.bool p) (.bool q) = (do pure (.bool (!(← Op.equal t (.bool p) (.bool q))))) := rfl
          exact oper_value (v' := _) (w' := w) (by simp [execOp, e1, e2, hbb, hbn, Op.equal, hn, Op.equalIn, run_underlying hd]; rfl) (K _ _ (.same r (.imm (.bool _))))
        · cases hev
    · rename_i hd
      refine heq 0 _ hd trivial (fun q => by omega) ?_
      split at hc <;> first | (obtain rfl := Option.some.inj hc; first | exact .inl ⟨rfl, rfl⟩ | exact .inr ⟨rfl, rfl⟩) | cases hc
    · rename_i hd
      refine heq 1 _ hd trivial (fun q => by omega) ?_
      split at hc <;> first | (obtain rfl := Option.some.inj hc; first | exact .inl ⟨rfl, rfl⟩ | exact .inr ⟨rfl, rfl⟩) | cases hc
    · rename_i hd
      refine heq 2 _ hd trivial (fun q => by omega) ?_
      split at hc <;> first | (obtain rfl := Option.some.inj hc; first | exact .inl ⟨rfl, rfl⟩ | exact .inr ⟨rfl, rfl⟩) | cases hc
    · rename_i hd
      split at hc
      · rename_i hcon
        refine heq 3 _ hd trivial (fun _ => by simpa using hcon) ?_
        split at hc <;> first | (obtain rfl := Option.some.inj hc; first | exact .inl ⟨rfl, rfl⟩ | exact .inr ⟨rfl, rfl⟩) | cases hc
      · cases hc
    · cases hc
  | unOp u t y =>
    simp only [cOp, Option.bind_eq_some_iff] at hc
    obtain ⟨y', hy, hc⟩ := hc
    have hyv := X_sound he hy
    split at hc
    · obtain rfl := Option.some.inj hc
      simp only [evOp] at hev
      split at hev
      · rename_i p hp
        simp only [Option.some.injEq, Prod.mk.injEq] at hev; obtain ⟨rfl, rfl⟩ := hev
        rw [hp] at hyv
        exact oper_value (v' := .bool !p) (w' := w) (by simp [execOp, hyv.bool_inv, Op.unary]) (K _ _ (.same r (.imm (.bool _))))
      · cases hev
    · obtain rfl := Option.some.inj hc
      simp only [evOp] at hev
      split at hev
      · rename_i k p hp
        simp only [Option.some.injEq, Prod.mk.injEq] at hev; obtain ⟨rfl, rfl⟩ := hev
        rw [hp] at hyv
        exact oper_value (v' := .int k (k.wrap (0 - p))) (w' := w) (by simp [execOp, hyv.int_inv, Op.unary, Op.intArith]) (K _ _ (.same r (.imm (.int _ _))))
      · cases hev
    · obtain rfl := Option.some.inj hc
      simp only [evOp] at hev
      split at hev
      · rename_i k p hp
        simp only [Option.some.injEq, Prod.mk.injEq] at hev; obtain ⟨rfl, rfl⟩ := hev
        rw [hp] at hyv
        exact oper_value (v' := .int k (bits .xor k (if k.signed then -1 else k.max) p)) (w' := w) (by simp only [execOp, hyv.int_inv, Op.unary]; rfl) (K _ _ (.same r (.imm (.int _ _))))
      · cases hev
    · cases hc
  | convert s d y =>
    have hc0 := hc
    simp only [cOp, Option.bind_eq_some_iff] at hc
    obtain ⟨y', hy, hc⟩ := hc
    have hyv := X_sound he hy
    unfold cConv at hc
    split at hc
    · rename_i k1 k2 h1 h2
      obtain rfl := Option.some.inj hc
      simp only [evOp] at hev
      split at hev
      · rename_i k p hp
        simp only [Option.some.injEq, Prod.mk.injEq] at hev; obtain ⟨rfl, rfl⟩ := hev
        rw [hp] at hyv
        exact oper_value (v' := .int k2 (k2.wrap p)) (w' := w) (by simp [execOp, hyv.int_inv, convert, run_underlying h1, run_underlying h2, Conv.intToInt]) (K _ _ (.same r (.imm (.int _ _))))
      · cases hev
    · rename_i h1 h2
      obtain rfl := Option.some.inj hc
      simp only [evOp] at hev
      split at hev
      · rename_i p hp
        simp only [Option.some.injEq, Prod.mk.injEq] at hev; obtain ⟨rfl, rfl⟩ := hev
        rw [hp] at hyv
        exact oper_value (v' := .string p) (w' := w) (by simp [execOp, hyv.str_inv, convert, run_underlying h1, run_underlying h2]) (K _ _ (.same r (.imm (.str _))))
      · cases hev
    · rename_i el h1 h2
      split at hc
      · rename_i h3
        obtain rfl := Option.some.inj hc
        simp only [evOp, Option.bind_eq_some_iff] at hev
        obtain ⟨⟨n, cs⟩, hsrc, l, hl, hev⟩ := hev
        have hnostr : ∀ s, y'.ev e ≠ .str s := by
          intro s hs; rw [hs] at hev; cases hev
        have hev' : some (AV.str ⟨l.toArray⟩, h) = some (v, h') := by
          revert hev
          split
          · intro q; cases q
          · intro q; exact q
        simp only [Option.some.injEq, Prod.mk.injEq] at hev'; obtain ⟨rfl, rfl⟩ := hev'
        obtain ⟨hconv, b, m, c, hyb⟩ := b2s_conv r hyv hsrc hl hnostr
        refine oper_value (v' := .string ⟨l.toArray⟩) (w' := w) ?_ (K _ _ (.same r (.imm (.str _))))
        rw [hyb] at hconv
        simp only [execOp, Sem.run_bind, hyb, convert, run_underlying h1, run_underlying h2, run_underlying h3, hconv, Result.andThen_ok, Sem.run_pure]
      · cases hc
    · rename_i el h1 h2
      split at hc
      · rename_i h3
        split at hc
        · obtain rfl := Option.some.inj hc
          obtain ⟨b, hb'⟩ := hbn rfl; exact hb b hb' rfl
        · cases hc
      · cases hc
    · cases hc
  | makeInterface t y =>
    simp only [cOp] at hc
    split at hc
    · cases hc
    · cases hc
    · rename_i hni1 hni2
      simp only [Option.map_eq_some_iff] at hc
      obtain ⟨y', hy, rfl⟩ := hc
      simp only [evOp] at hev
      split at hev
      · simp only [Option.some.injEq, Prod.mk.injEq] at hev; obtain ⟨rfl, rfl⟩ := hev
        have hyv := X_sound he hy
        obtain ⟨d, hd⟩ : ∃ d, L.P.underlying t = some d := by
          cases hq : L.P.underlying t with
          | none => exact absurd hq hni2
          | some d => exact ⟨d, rfl⟩
        refine oper_value (v' := .iface t (a.eval y)) (w' := w) ?_ (K _ _ (.same r (.iface rfl hyv)))
        cases d <;> first | exact absurd hd (hni1 _) | simp [execOp, Instr.makeInterface, run_underlying hd]
      · cases hev
  | makeFunc f y z =>
    cases f with
    | func f =>
      simp only [cOp, Option.bind_eq_some_iff, Option.map_eq_some_iff] at hc
      obtain ⟨k, hk, y', hy, z', hz, rfl⟩ := hc
      simp only [evOp, Option.some.injEq, Prod.mk.injEq] at hev; obtain ⟨rfl, rfl⟩ := hev
      have r1 := cXs_sound he hy
      have r2 := cXs_sound he hz
      refine oper_value (v' := .func (.func f) (y.map a.eval) (z.map a.eval)) (w' := w) (by simp [execOp, Instr.makeFunc]) (K _ _ (.same r ?_))
      have := V.fn (L := L) (ι := ι) (M := M) hk r1.1 r2.1 r1.2 r2.2
      have e1 : ∀ q : Array Operand, (List.map a.eval q.toList).toArray = q.map a.eval := fun q => by apply Array.ext'; simp
      rwa [e1, e1] at this
    | _ => cases hc
  | makeSlice t l c =>
    have hc0 := hc
    simp only [cOp] at hc0
    split at hc0
    · simp only [Option.bind_eq_some_iff, Option.map_eq_some_iff] at hc0
      obtain ⟨_, _, _, _, _, _, _, _, _, _, rfl⟩ := hc0
      obtain ⟨b, hb'⟩ := hbn rfl; exact hb b hb' rfl
    · cases hc0
  | slice t y lo hi mx =>
    simp only [cOp, cSlice, Option.bind_eq_some_iff] at hc
    obtain ⟨y', hy, lo', hlo, hi', hhi, mx', hmx, hc⟩ := hc
    have hyv := X_sound he hy
    have hl := cOX_sound he hlo
    have hh := cOX_sound he hhi
    have hm := cOX_sound he hmx
    split at hc
    · rename_i ht
      split at hc
      · obtain rfl := Option.some.inj hc
        simp only [evOp, Option.bind_eq_some_iff] at hev
        obtain ⟨q, hq, hev⟩ := hev
        simp only [Option.some.injEq, Prod.mk.injEq] at hev; obtain ⟨rfl, rfl⟩ := hev
        obtain ⟨v', h1, h2⟩ := asls_sound (w := w) ht hyv hl hh hq
        have hmn : mx = none := by
          cases mx with
          | none => rfl
          | some m => simp only [cOX, Option.map_eq_some_iff] at hmx; obtain ⟨_, _, hmx⟩ := hmx; cases hmx
        subst hmn
        exact oper_value (v' := v') (w' := w) (by simp [execOp, h1]) (K _ _ (.same r h2))
      · cases hc
    · rename_i el ht
      simp only [Option.bind_eq_some_iff] at hc
      obtain ⟨n, hn, hc⟩ := hc
      obtain rfl := Option.some.inj hc
      simp only [evOp, Option.bind_eq_some_iff] at hev
      obtain ⟨q, hq, hev⟩ := hev
      simp only [Option.some.injEq, Prod.mk.injEq] at hev; obtain ⟨rfl, rfl⟩ := hev
      obtain ⟨v', h1, h2⟩ := asl_sound r ht hn hyv hl hh hm hq
      exact oper_value (v' := v') (w' := w) (by simp [execOp, h1]) (K _ _ (.same r h2))
    · rename_i k el ht
      split at hc
      · simp only [Option.bind_eq_some_iff] at hc
        obtain ⟨n, hn, hc⟩ := hc
        obtain rfl := Option.some.inj hc
        simp only [evOp, Option.bind_eq_some_iff] at hev
        obtain ⟨q, hq, hev⟩ := hev
        simp only [Option.some.injEq, Prod.mk.injEq] at hev; obtain ⟨rfl, rfl⟩ := hev
        obtain ⟨v', h1, h2⟩ := asla_sound r ht hn hyv hl hh hq
        have hmn : mx = none := by
          cases mx with
          | none => rfl
          | some m => simp only [cOX, Option.map_eq_some_iff] at hmx; obtain ⟨_, _, hmx⟩ := hmx; cases hmx
        subst hmn
        exact oper_value (v' := v') (w' := w) (by simp [execOp, h1]) (K _ _ (.same r h2))
      · cases hc
    · cases hc
  | fieldAddr s y f =>
    simp only [cOp] at hc
    split at hc
    · rename_i fs ht
      simp only [Option.bind_eq_some_iff] at hc
      obtain ⟨fd, hf, n, hn, hc⟩ := hc
      split at hc
      · cases hc
      · rename_i hn0
        simp only [Option.map_eq_some_iff] at hc
        obtain ⟨y', hy, rfl⟩ := hc
        simp only [evOp, Option.bind_eq_some_iff] at hev
        obtain ⟨q, hq, hev⟩ := hev
        simp only [Option.some.injEq, Prod.mk.injEq] at hev; obtain ⟨rfl, rfl⟩ := hev
        obtain ⟨v', h1, h2⟩ := afadr_sound (w := w) ht hf hn hn0 (X_sound he hy) hq
        exact oper_value (v' := v') (w' := w) (by simp [execOp, h1]) (K _ _ (.same r h2))
    · cases hc
  | field s y f =>
    simp only [cOp] at hc
    split at hc
    · rename_i fs ht
      simp only [Option.bind_eq_some_iff, Option.map_eq_some_iff] at hc
      obtain ⟨fd, hf, ag, hag, n, hn, y', hy, rfl⟩ := hc
      simp only [evOp] at hev
      split at hev
      · rename_i cs hcs
        simp only [Option.bind_eq_some_iff] at hev
        obtain ⟨q, hq, hev⟩ := hev
        simp only [Option.some.injEq, Prod.mk.injEq] at hev; obtain ⟨rfl, rfl⟩ := hev
        have hyv := X_sound he hy; rw [hcs] at hyv
        obtain ⟨vs, hvs, hl, hv⟩ := hyv.agg_inv
        obtain ⟨v', h1, h2⟩ := part_sound (w := w) hag hn hl hv hq
        exact oper_value (v' := v') (w' := w) (by simp [execOp, Instr.field, run_underlying ht, hf, hvs, asAgg, h1]) (K _ _ (.same r h2))
      · cases hev
    · cases hc
  | indexAddr t y z =>
    simp only [cOp, Option.bind_eq_some_iff] at hc
    obtain ⟨y', hy, z', hz, hc⟩ := hc
    split at hc
    · rename_i el ht
      simp only [Option.map_eq_some_iff] at hc
      obtain ⟨n, hn, rfl⟩ := hc
      simp only [evOp, Option.bind_eq_some_iff] at hev
      obtain ⟨q, hq, hev⟩ := hev
      simp only [Option.some.injEq, Prod.mk.injEq] at hev; obtain ⟨rfl, rfl⟩ := hev
      obtain ⟨v', h1, h2⟩ := aiadr_sound r ht hn (X_sound he hy) (X_sound he hz) hq
      exact oper_value (v' := v') (w' := w) (by simp [execOp, h1]) (K _ _ (.same r h2))
    · rename_i k el ht
      simp only [Option.map_eq_some_iff] at hc
      obtain ⟨n, hn, rfl⟩ := hc
      simp only [evOp, Option.bind_eq_some_iff] at hev
      obtain ⟨q, hq, hev⟩ := hev
      simp only [Option.some.injEq, Prod.mk.injEq] at hev; obtain ⟨rfl, rfl⟩ := hev
      obtain ⟨v', h1, h2⟩ := aiadra_sound (w := w) ht hn (X_sound he hy) (X_sound he hz) hq
      exact oper_value (v' := v') (w' := w) (by simp [execOp, h1]) (K _ _ (.same r h2))
    · cases hc
  | index t y z =>
    simp only [cOp, Option.bind_eq_some_iff] at hc
    obtain ⟨y', hy, z', hz, hc⟩ := hc
    have hyv := X_sound he hy
    have hzv := X_sound he hz
    split at hc
    · rename_i ht
      obtain rfl := Option.some.inj hc
      simp only [evOp, Option.bind_eq_some_iff] at hev
      obtain ⟨q, hq, hev⟩ := hev
      simp only [Option.some.injEq, Prod.mk.injEq] at hev; obtain ⟨rfl, rfl⟩ := hev
      unfold aidxs at hq
      split at hq
      · rename_i st hst
        simp only [Option.bind_eq_some_iff] at hq
        obtain ⟨j, hj, b, hb1, hq⟩ := hq
        obtain rfl := Option.some.inj hq
        rw [hst] at hyv
        obtain ⟨k, zi, hzi, z0, z1, rfl, hjl⟩ := aidx_inv hzv hj
        exact oper_value (v' := .int .u8 b.toNat) (w' := w) (by simp [execOp, Instr.index, hzi, asIntOf, run_underlying ht, hyv.str_inv, z0, hb1]) (K _ _ (.same r (.imm (.int _ _))))
      · cases hq
    · rename_i k el ht
      simp only [Option.bind_eq_some_iff, Option.map_eq_some_iff] at hc
      obtain ⟨ag, hag, n, hn, rfl⟩ := hc
      simp only [evOp, Option.bind_eq_some_iff] at hev
      obtain ⟨q, hq, hev⟩ := hev
      simp only [Option.some.injEq, Prod.mk.injEq] at hev; obtain ⟨rfl, rfl⟩ := hev
      unfold aidxa at hq
      split at hq
      · rename_i cs hcs
        simp only [Option.bind_eq_some_iff] at hq
        obtain ⟨j, hj, hq⟩ := hq
        rw [hcs] at hyv
        obtain ⟨vs, hvs, hl, hv⟩ := hyv.agg_inv
        obtain ⟨k', zi, hzi, z0, z1, rfl, hjl⟩ := aidx_inv hzv hj
        obtain ⟨v', h1, h2⟩ := part_sound (w := w) hag hn hl hv hq
        exact oper_value (v' := v') (w' := w) (by simp [execOp, Instr.index, hzi, asIntOf, run_underlying ht, hvs, z0, z1, run_sizeOf' hn, h1]) (K _ _ (.same r h2))
      · cases hq
    · cases hc
  | extract y i =>
    simp only [cOp, Option.map_eq_some_iff] at hc
    obtain ⟨y', hy, rfl⟩ := hc
    have hyv := X_sound he hy
    simp only [evOp] at hev
    split at hev
    · rename_i vs hvs
      simp only [Option.bind_eq_some_iff] at hev
      obtain ⟨q, hq, hev⟩ := hev
      simp only [Option.some.injEq, Prod.mk.injEq] at hev; obtain ⟨rfl, rfl⟩ := hev
      rw [hvs] at hyv
      obtain ⟨us, hus, hl, hv⟩ := hyv.tup_inv
      obtain ⟨hi, _⟩ := List.getElem?_eq_some_iff.1 hq
      have hu : us[i]? = some (us[i]'(hl ▸ hi)) := by simp [hl ▸ hi]
      exact oper_value (v' := us[i]'(hl ▸ hi)) (w' := w) (by simp [execOp, Instr.extract, hus, hu]) (K _ _ (.same r (hv i _ _ hq hu)))
    · cases hev
  | call c =>
    obtain ⟨callee, args, ats⟩ := c
    simp only [cOp, cCall, Option.bind_eq_some_iff] at hc
    obtain ⟨xs, hxs, hc⟩ := hc
    have hrow := cXs_sound he hxs
    split at hc
    · rename_i f
      simp only [Option.bind_eq_some_iff] at hc
      obtain ⟨f', hf, hc⟩ := hc
      obtain rfl := Option.some.inj hc
      simp only [evOp] at hev
      split at hev
      · rename_i k first captured hk
        have hfv := X_sound he hf; rw [hk] at hfv
        obtain ⟨fid, va, vc, hfe, hmf, la, lc, hva, hvc⟩ := hfv.fn_inv
        obtain ⟨fn, cd, hfn, hbody, hname⟩ := hbod fid k hmf
        have hcall := hcal k fid _ (va ++ args.toList.map a.eval ++ vc) ι M h h' w v hmf hev r (RowA.append (RowA.append (show RowA L ι M first va from ⟨la, hva⟩) hrow) (show RowA L ι M captured vc from ⟨lc, hvc⟩))
        have hexec : (execOp a.eval ⟨dst, .call ⟨.value f, args, ats⟩, ty, pos, after, guard⟩).run L.P w = .ok (.enter fid (va ++ args.toList.map a.eval ++ vc).toArray) w := by
          simp only [execOp, resolve, Sem.run_bind, hfe, Deferred.ofValue, Sem.run_pure, Result.andThen_ok, invoke, callFunc, run_program, hfn, hname, Bool.false_eq_true, if_false, hbody, Option.isNone_some]
          congr 2
          apply Array.ext'
          simp
        unfold Oper.wp
        rw [hexec]
        exact hcall.mono fun e w' hq => by
          obtain ⟨v', rfl, ho⟩ := hq
          exact K _ _ ho
      · cases hev
    · cases hc
    · rename_i b
      have hlen := hrow.1
      split at hc
      · rename_i y t hats
        unfold cLen at hc
        obtain ⟨o, rfl⟩ := args1 hlen
        have hat : ats = #[t] := by obtain ⟨l⟩ := ats; simp at hats; rw [hats]
        subst hat
        have hyv := hrow.2 0 (y.ev e) (a.eval o) rfl rfl
        have hrunlen : ∀ {v' : Value}, (Builtin.len_ #[t] ty #[a.eval o]).run L.P w = .ok v' w → (execOp a.eval ⟨dst, .call ⟨.builtin .len, #[o], #[t]⟩, ty, pos, after, guard⟩).run L.P w = .ok (.value v') w := by
          intro v' hq
          rw [run_builtin]
          simp [builtin, hq]
        have hlenb : ∀ {str : Bool}, evOp call e h (.len str y) = some (v, h') → ((str = true ∧ L.P.underlying t = some .string) ∨ (str = false ∧ ∃ el, L.P.underlying t = some (.slice el))) → (⟨dst, .call ⟨.builtin .len, #[o], #[t]⟩, ty, pos, after, guard⟩ : Oper).wp L.P a w next Q := by
          intro str hev ht
          simp only [evOp, Option.bind_eq_some_iff] at hev
          obtain ⟨q, hq, hev⟩ := hev
          simp only [Option.some.injEq, Prod.mk.injEq] at hev; obtain ⟨rfl, rfl⟩ := hev
          obtain ⟨m, hm1, hm2⟩ := alen_sound (w := w) (ty := ty) r ht hyv hq
          exact oper_value (v' := m) (w' := w) (hrunlen hm1) (K _ _ (.same r hm2))
        split at hc
        · rename_i ht
          obtain rfl := Option.some.inj hc
          exact hlenb hev (.inl ⟨rfl, ht⟩)
        · rename_i el ht
          obtain rfl := Option.some.inj hc
          exact hlenb hev (.inr ⟨rfl, el, ht⟩)
        · rename_i n el ht
          obtain rfl := Option.some.inj hc
          simp only [evOp, X.ev, Option.some.injEq, Prod.mk.injEq] at hev; obtain ⟨rfl, rfl⟩ := hev
          exact oper_value (v' := .int .i64 n) (w' := w) (hrunlen (by simp [Builtin.len_, run_underlying ht, goInt])) (K _ _ (.same r (.imm (.int _ _))))
        · rename_i el ht
          split at hc
          · rename_i n el' ht'
            obtain rfl := Option.some.inj hc
            simp only [evOp, X.ev, Option.some.injEq, Prod.mk.injEq] at hev; obtain ⟨rfl, rfl⟩ := hev
            exact oper_value (v' := .int .i64 n) (w' := w) (hrunlen (by simp [Builtin.len_, run_underlying ht, run_underlying ht', goInt])) (K _ _ (.same r (.imm (.int _ _))))
          · cases hc
        · cases hc
      · rename_i y t hats
        obtain ⟨o, rfl⟩ := args1 hlen
        have hat : ats = #[t] := by obtain ⟨l⟩ := ats; simp at hats; rw [hats]
        subst hat
        have hyv := hrow.2 0 (y.ev e) (a.eval o) rfl rfl
        split at hc
        · rename_i el ht
          obtain rfl := Option.some.inj hc
          simp only [evOp, Option.bind_eq_some_iff] at hev
          obtain ⟨q, hq, hev⟩ := hev
          simp only [Option.some.injEq, Prod.mk.injEq] at hev; obtain ⟨rfl, rfl⟩ := hev
          unfold acap at hq
          split at hq
          · rename_i hy
            obtain rfl := Option.some.inj hq
            rw [hy] at hyv
            exact oper_value (v' := .int .i64 0) (w' := w) (by rw [run_builtin]; simp [builtin, Builtin.cap_, run_underlying ht, hyv.nils_inv, goInt]) (K _ _ (.same r (.imm (.int _ _))))
          · cases hq
        · cases hc
      · rename_i y z sT xT hats
        obtain ⟨o1, o2, rfl⟩ := args2 hlen
        have hat : ats = #[sT, xT] := by obtain ⟨l⟩ := ats; simp at hats; rw [hats]
        subst hat
        have hyv := hrow.2 0 (y.ev e) (a.eval o1) rfl rfl
        have hzv := hrow.2 1 (z.ev e) (a.eval o2) rfl rfl
        have happ : ∀ {v' : Value} {w' : World}, (Builtin.append_ #[sT, xT] ty #[a.eval o1, a.eval o2]).run L.P w = .ok v' w' → (execOp a.eval ⟨dst, .call ⟨.builtin .append, #[o1, o2], #[sT, xT]⟩, ty, pos, after, guard⟩).run L.P w = .ok (.value v') w' := by
          intro v' w' hq
          rw [run_builtin]
          simp [builtin, hq]
        split at hc
        · rename_i el k ht hx
          simp only [Option.bind_eq_some_iff] at hc
          obtain ⟨n, hn, m, hm, zz, hzz, hc⟩ := hc
          obtain rfl := Option.some.inj hc
          simp only [evOp] at hev
          obtain ⟨v', w', h1, h2⟩ := appz_sound (ty := ty) r ht hx hn hm hzz hyv hzv hev
          exact oper_value (happ h1) (K _ _ (.of h2))
        · rename_i el ht hx
          simp only [Option.bind_eq_some_iff] at hc
          obtain ⟨n, hn, m, hm, zz, hzz, hc⟩ := hc
          split at hc
          · rename_i hzl
            obtain rfl := Option.some.inj hc
            simp only [evOp] at hev
            obtain ⟨v', w', h1, h2⟩ := app_sound (ty := ty) r ht (.inl hx) hn hm hzz hzl hyv hzv hev
            exact oper_value (happ h1) (K _ _ (.of h2))
          · cases hc
        · rename_i el el' ht hx
          simp only [Option.bind_eq_some_iff] at hc
          obtain ⟨n, hn, m, hm, zz, hzz, hc⟩ := hc
          split at hc
          · rename_i hzl
            obtain rfl := Option.some.inj hc
            simp only [evOp] at hev
            obtain ⟨v', w', h1, h2⟩ := app_sound (ty := ty) r ht (.inr ⟨_, hx⟩) hn hm hzz hzl hyv hzv hev
            exact oper_value (happ h1) (K _ _ (.of h2))
          · cases hc
        · cases hc
      · rename_i y z sT xT hats
        obtain ⟨o1, o2, rfl⟩ := args2 hlen
        have hat : ats = #[sT, xT] := by obtain ⟨l⟩ := ats; simp at hats; rw [hats]
        subst hat
        have hyv := hrow.2 0 (y.ev e) (a.eval o1) rfl rfl
        have hzv := hrow.2 1 (z.ev e) (a.eval o2) rfl rfl
        split at hc
        · rename_i el ht
          simp only [Option.bind_eq_some_iff] at hc
          obtain ⟨n, hn, hc⟩ := hc
          obtain rfl := Option.some.inj hc
          simp only [evOp] at hev
          obtain ⟨v', w', h1, h2⟩ := copy_sound (sT := xT) (ty := ty) r ht hn hyv hzv hev
          exact oper_value (v' := v') (w' := w') (by rw [run_builtin]; simp [builtin, h1]) (K _ _ (.of h2))
        · cases hc
      · rename_i y sT hats
        obtain ⟨o, rfl⟩ := args1 hlen
        have hat : ats = #[sT] := by obtain ⟨l⟩ := ats; simp at hats; rw [hats]
        subst hat
        have hyv := hrow.2 0 (y.ev e) (a.eval o) rfl rfl
        split at hc
        · rename_i el ht
          simp only [Option.bind_eq_some_iff] at hc
          obtain ⟨n, hn, zz, hzz, hc⟩ := hc
          obtain rfl := Option.some.inj hc
          simp only [evOp, Option.bind_eq_some_iff] at hev
          obtain ⟨q, hq, hev⟩ := hev
          simp only [Option.some.injEq, Prod.mk.injEq] at hev; obtain ⟨rfl, rfl⟩ := hev
          obtain ⟨w', h1, h2⟩ := clear_sound (ty := ty) r ht hn hzz hyv hq
          exact oper_value (v' := .tuple #[]) (w' := w') (by rw [run_builtin]; simp [builtin, h1]) (K _ _ (.same h2 (.imm (.bot _))))
        · cases hc
      · obtain rfl := Option.some.inj hc
        simp only [evOp] at hev
        split at hev
        · cases hev
        · rename_i x0 rest hxs'
          simp only [Option.bind_eq_some_iff] at hev
          obtain ⟨q, hq, hev⟩ := hev
          simp only [Option.some.injEq, Prod.mk.injEq] at hev; obtain ⟨rfl, rfl⟩ := hev
          rw [hxs'] at hrow
          obtain ⟨o, os, hos⟩ : ∃ o os, args.toList = o :: os := by
            cases hargs : args.toList with
            | nil => rw [hargs] at hrow; have := hrow.1; simp at this
            | cons o os => exact ⟨o, os, rfl⟩
          rw [hos] at hrow
          obtain ⟨v', h1, h2⟩ := fold_min (w := w) (xs := rest) (vs := os.map a.eval) ⟨by simpa using hrow.1, fun i a x p q => hrow.2 (i + 1) a x (by simpa using p) (by simpa using q)⟩ (hrow.2 0 x0 (a.eval o) rfl rfl) hq
          exact oper_value (v' := v') (w' := w) (by rw [run_builtin]; simp [builtin, Builtin.min_, hos, h1]) (K _ _ (.same r h2))
      · obtain rfl := Option.some.inj hc
        simp only [evOp] at hev
        split at hev
        · cases hev
        · rename_i x0 rest hxs'
          simp only [Option.bind_eq_some_iff] at hev
          obtain ⟨q, hq, hev⟩ := hev
          simp only [Option.some.injEq, Prod.mk.injEq] at hev; obtain ⟨rfl, rfl⟩ := hev
          rw [hxs'] at hrow
          obtain ⟨o, os, hos⟩ : ∃ o os, args.toList = o :: os := by
            cases hargs : args.toList with
            | nil => rw [hargs] at hrow; have := hrow.1; simp at this
            | cons o os => exact ⟨o, os, rfl⟩
          rw [hos] at hrow
          obtain ⟨v', h1, h2⟩ := fold_max (w := w) (xs := rest) (vs := os.map a.eval) ⟨by simpa using hrow.1, fun i a x p q => hrow.2 (i + 1) a x (by simpa using p) (by simpa using q)⟩ (hrow.2 0 x0 (a.eval o) rfl rfl) hq
          exact oper_value (v' := v') (w' := w) (by rw [run_builtin]; simp [builtin, Builtin.max_, hos, h1]) (K _ _ (.same r h2))
      · cases hc
  | panic y => obtain rfl := Option.some.inj hc; cases hev
  | _ => cases hc
end
end Ab
set_option linter.unusedSimpArgs false
set_option linter.unusedVariables false
namespace Ab
open Go RowKit
def NextMono (call : CallT) : Prop := ∀ f a h v h', call f a h = some (v, h') → h.next ≤ h'.next
theorem evOp_quiet {call : CallT} {e : Env} {h h' : H} {o : AOp} {v : AV} (hl : o.loud = false) (hb : o.births = false) (hev : evOp call e h o = some (v, h')) : h' = h := by
  cases o <;> simp only [AOp.loud, AOp.births, Bool.true_eq_false, reduceCtorEq] at hl hb <;> simp only [evOp, Option.bind_eq_some_iff] at hev
  all_goals first
    | (obtain ⟨_, _, hev⟩ := hev; exact (Prod.mk.inj (Option.some.inj hev)).2.symm)
    | exact (Prod.mk.inj (Option.some.inj hev)).2.symm
    | skip
  all_goals repeat' split at hev
  all_goals first
    | (cases hev; done)
    | exact (Prod.mk.inj (Option.some.inj hev)).2.symm
    | skip
  all_goals try simp only [Option.bind_eq_some_iff] at hev
  all_goals obtain ⟨q1, q2, hev⟩ := hev
  all_goals first
    | exact (Prod.mk.inj (Option.some.inj hev)).2.symm
    | skip
  all_goals obtain ⟨q3, q4, hev⟩ := hev
  all_goals repeat' split at hev
  all_goals first
    | (cases hev; done)
    | exact (Prod.mk.inj (Option.some.inj hev)).2.symm
theorem evOp_births {call : CallT} {e : Env} {h : H} {o : AOp} (hb : o.births = true) : evOp call e h o = evBirth e h o := by
  cases o <;> first | (simp [AOp.births] at hb; done) | rfl
theorem evOp_birth {call : CallT} {e : Env} {h h' : H} {o : AOp} {v : AV} (hb : o.births = true) (hev : evOp call e h o = some (v, h')) : ∃ b, birth e o = some b ∧ v = b.2 h.next ∧ h' = h.alloc b.1 := by
  rw [evOp_births hb, evBirth] at hev
  simp only [Option.bind_eq_some_iff, Option.some.injEq, Prod.mk.injEq] at hev
  obtain ⟨b, h1, h2, h3⟩ := hev
  exact ⟨b, h1, h2.symm, h3.symm⟩
theorem birth_id {e : Env} {o : AOp} {b} (h : birth e o = some b) (i : Nat) : (b.2 i).id? = some i := by
  cases o <;> simp only [birth] at h <;> repeat' split at h
  all_goals first
    | (cases h; done)
    | (obtain rfl := Option.some.inj h; rfl)
    | (simp only [Option.bind_eq_some_iff] at h; obtain ⟨_, _, h⟩ := h; obtain rfl := Option.some.inj h; rfl)
theorem set_next (h : H) (id : Nat) (cs : List AV) : (h.set id cs).next = h.next := H.next_set h id cs
theorem alloc_next (h : H) (cs : List AV) : (h.alloc cs).next = h.next + 1 := H.next_alloc h cs
theorem del_next (h : H) (id : Nat) : (h.del id).next = h.next := rfl
theorem aappc_next {h h' : H} {sz by_ : Nat} {a : AV} {n : Nat} {bs : List AV} {v : AV} (hh : aappc h sz by_ a n bs = some (v, h')) : h.next ≤ h'.next := by
  unfold aappc at hh
  repeat' split at hh
  all_goals first
    | (cases hh; done)
    | (obtain ⟨_, rfl⟩ := Prod.mk.inj (Option.some.inj hh); simp only [alloc_next]; omega)
    | (obtain ⟨_, rfl⟩ := Prod.mk.inj (Option.some.inj hh); exact Nat.le_refl _)
    | skip
  simp only [Option.bind_eq_some_iff] at hh
  obtain ⟨cs, _, hh⟩ := hh
  repeat' split at hh
  all_goals first
    | (cases hh; done)
    | (obtain ⟨_, rfl⟩ := Prod.mk.inj (Option.some.inj hh); simp only [alloc_next, set_next, del_next]; omega)
    | (obtain ⟨_, rfl⟩ := Prod.mk.inj (Option.some.inj hh); exact Nat.le_refl _)
theorem evOp_next {call : CallT} (hn : NextMono call) {e : Env} {h h' : H} {o : AOp} {v : AV} (hev : evOp call e h o = some (v, h')) : h.next ≤ h'.next := by
  by_cases hb : o.births = true
  · obtain ⟨b, _, _, rfl⟩ := evOp_birth hb hev
    simp only [alloc_next]; omega
  by_cases hl : o.loud = true
  · cases o <;> simp only [AOp.loud, Bool.false_eq_true] at hl <;> simp only [evOp] at hev
    case store n p x =>
      simp only [Option.bind_eq_some_iff, Option.some.injEq, Prod.mk.injEq] at hev
      obtain ⟨h1, hs, _, rfl⟩ := hev
      unfold astore at hs
      split at hs
      · simp only [Option.bind_eq_some_iff] at hs
        obtain ⟨cs, _, hs⟩ := hs
        split at hs
        · obtain rfl := Option.some.inj hs; first | exact Nat.le_refl _ | simp
        · cases hs
      · cases hs
    case call f args =>
      split at hev
      · exact hn _ _ _ _ _ hev
      · cases hev
    case inv2 => cases hev
    case app =>
      unfold aapp at hev
      simp only [Option.bind_eq_some_iff] at hev
      obtain ⟨r, _, hev⟩ := hev
      exact aappc_next hev
    case appz =>
      unfold aappz at hev
      repeat' split at hev
      all_goals first
        | (cases hev; done)
        | (obtain ⟨_, rfl⟩ := Prod.mk.inj (Option.some.inj hev); simp only [alloc_next]; omega)
    case copy =>
      unfold acopy at hev
      simp only [Option.bind_eq_some_iff] at hev
      obtain ⟨r, _, hev⟩ := hev
      split at hev
      · obtain ⟨_, rfl⟩ := Prod.mk.inj (Option.some.inj hev); first | exact Nat.le_refl _ | simp
      · split at hev
        · simp only [Option.bind_eq_some_iff] at hev
          obtain ⟨r, _, hev⟩ := hev
          split at hev
          · obtain ⟨_, rfl⟩ := Prod.mk.inj (Option.some.inj hev); first | exact Nat.le_refl _ | simp
          · cases hev
        · cases hev
      · cases hev
    case clear =>
      simp only [Option.bind_eq_some_iff, Option.some.injEq, Prod.mk.injEq] at hev
      obtain ⟨h1, hev, _, rfl⟩ := hev
      unfold aclear at hev
      repeat' split at hev
      all_goals first
        | (cases hev; done)
        | (obtain rfl := Option.some.inj hev; first | exact Nat.le_refl _ | simp)
        | skip
      simp only [Option.bind_eq_some_iff] at hev
      obtain ⟨r, _, hev⟩ := hev
      split at hev
      · obtain rfl := Option.some.inj hev; first | exact Nat.le_refl _ | simp
      · cases hev
  · rw [evOp_quiet (by simpa using hl) (by simpa using hb) hev]; first | exact Nat.le_refl _ | simp
theorem evOper_next {call : CallT} (hn : NextMono call) {e : Env} {h h' : H} {o : AOper} {v : AV} (hev : evOper call o e h = some (v, h')) : h.next ≤ h'.next := by
  unfold evOper at hev
  repeat' split at hev
  all_goals first
    | exact evOp_next hn hev
    | (obtain ⟨_, rfl⟩ := Prod.mk.inj (Option.some.inj hev); exact Nat.le_refl _)
    | (cases hev; done)
theorem evOps_next {call : CallT} (hn : NextMono call) : ∀ {os : List AOper} {e e' : Env} {h h' : H}, evOps call os e h = some (e', h') → h.next ≤ h'.next
  | [], _, _, _, _, hev => by obtain ⟨_, rfl⟩ := Prod.mk.inj (Option.some.inj hev); exact Nat.le_refl _
  | o :: os, _, _, _, _, hev => by
    simp only [evOps, Option.bind_eq_some_iff] at hev
    obtain ⟨r, h1, h2⟩ := hev
    exact Nat.le_trans (evOper_next hn h1) (evOps_next hn h2)
theorem evOpsD_ops {call : CallT} : ∀ {os : List AOper} {e e' : Env} {h h' : H} {gs}, evOpsD call os e h = some (e', h', gs) → evOps call os e h = some (e', h')
  | [], _, _, _, _, _, hev => by obtain ⟨rfl, h2⟩ := Prod.mk.inj (Option.some.inj hev); obtain ⟨rfl, _⟩ := Prod.mk.inj h2; rfl
  | o :: os, _, _, _, _, _, hev => by
    simp only [evOpsD, evOps, Option.bind_eq_some_iff] at hev ⊢
    obtain ⟨r, h1, r2, h2, h3⟩ := hev
    obtain ⟨rfl, h4⟩ := Prod.mk.inj (Option.some.inj h3); obtain ⟨rfl, _⟩ := Prod.mk.inj h4
    exact ⟨r, h1, evOpsD_ops (h2)⟩
def NextF (F : Env → H → Res) : Prop := ∀ e h x e' h', F e h = some (x, e', h') → h.next ≤ h'.next
def NextL (lp : LoopT) : Prop := ∀ F, NextF F → NextF (lp F)
theorem nextL_loopN : ∀ n, NextL (loopN n)
  | 0, _, _, _, _, _, _, _, h => by cases h
  | n + 1, F, hF, e, h, x, e', h', hev => by
    simp only [loopN, Option.bind_eq_some_iff] at hev
    obtain ⟨⟨y, e1, h1⟩, ha, hb⟩ := hev
    have := hF _ _ _ _ _ ha
    split at hb
    · rename_i q
      obtain ⟨rfl, q2⟩ := Prod.mk.inj q; obtain ⟨rfl, rfl⟩ := Prod.mk.inj q2
      exact Nat.le_trans this (nextL_loopN n F hF _ _ _ _ _ hb)
    · obtain ⟨rfl, q2⟩ := Prod.mk.inj (Option.some.inj hb); obtain ⟨rfl, rfl⟩ := Prod.mk.inj q2
      exact this
theorem evC_next {call : CallT} (hn : NextMono call) {lp : LoopT} (hl : NextL lp) : ∀ (x : ACode), NextF (evC call lp x)
  | .skip, _, _, _, _, _, hev => by cases hev; exact Nat.le_refl _
  | .exit _, _, _, _, _, _, hev => by cases hev; exact Nat.le_refl _
  | .ret, _, _, _, _, _, hev => by cases hev; exact Nat.le_refl _
  | .reg ops keep, _, _, _, _, _, hev => by
    simp only [evC, Option.bind_eq_some_iff] at hev
    obtain ⟨r, h1, h2⟩ := hev
    cases h2; exact evOps_next hn h1
  | .dreg ord ops fl keep, _, _, _, _, _, hev => by
    simp only [evC, Option.bind_eq_some_iff] at hev
    obtain ⟨r, h1, h2⟩ := hev
    split at h2
    · cases h2; exact evOps_next hn (evOpsD_ops h1)
    · cases h2
  | .seq a b, _, _, _, _, _, hev => by
    simp only [evC, Option.bind_eq_some_iff] at hev
    obtain ⟨⟨y, e1, h1⟩, ha, hb⟩ := hev
    have := evC_next hn hl a _ _ _ _ _ ha
    split at hb
    · rename_i q
      cases q
      exact Nat.le_trans this (evC_next hn hl b _ _ _ _ _ hb)
    · cases hb; exact this
  | .cond x a b keep, _, h0, _, _, _, hev => by
    simp only [evC] at hev
    split at hev
    · simp only [Option.bind_eq_some_iff] at hev
      obtain ⟨⟨y, e1, h1⟩, ha, hb⟩ := hev
      have : h0.next ≤ h1.next := by
        split at ha
        · exact evC_next hn hl a _ _ _ _ _ ha
        · exact evC_next hn hl b _ _ _ _ _ ha
      split at hb
      · rename_i q; cases q; cases hb; exact this
      · cases hb; exact this
    · cases hev
  | .block id c keep, _, _, _, _, _, hev => by
    simp only [evC, Option.bind_eq_some_iff] at hev
    obtain ⟨⟨y, e1, h1⟩, ha, hb⟩ := hev
    have := evC_next hn hl c _ _ _ _ _ ha
    split at hb
    · rename_i q; cases q; cases hb; exact this
    · rename_i q; cases q
      split at hb <;> (cases hb; exact this)
    · rename_i q; cases q; cases hb; exact this
  | .loop keep c, _, _, _, _, _, hev => hl _ (fun _ _ _ _ _ h => evC_next hn hl c _ _ _ _ _ h) _ _ _ _ _ hev
theorem runF_next {call : CallT} (hn : NextMono call) {lp : LoopT} (hl : NextL lp) {fn : AFunc} {args : List AV} {h h' : H} {v : AV} (hev : runF call lp fn args h = some (v, h')) : h.next ≤ h'.next := by
  unfold runF at hev
  split at hev
  · simp only [Option.bind_eq_some_iff] at hev
    obtain ⟨⟨y, e1, h1⟩, ha, hb⟩ := hev
    have := evC_next hn hl _ _ _ _ _ _ ha
    unfold fin at hb
    split at hb
    · cases hb
    · rename_i q; cases q
      simp only [Option.bind_eq_some_iff] at hb
      obtain ⟨vs, _, hb⟩ := hb
      split at hb
      · simp only [Option.bind_eq_some_iff] at hb
        obtain ⟨_, _, hb⟩ := hb
        cases hb; exact Nat.le_refl _
      · rename_i hp; cases hb; rw [if_neg hp] at this; exact this
  · cases hev
theorem next_callN (A : AProg) : ∀ d, NextMono (callN A d)
  | 0, _, _, _, _, _, h => by cases h
  | d + 1, f, args, h, v, h', hev => by
    simp only [callN, Option.bind_eq_some_iff] at hev
    obtain ⟨fn, _, hr⟩ := hev
    exact runF_next (next_callN A d) (nextL_loopN d) hr
def X.tm : X → List Nat
  | .t n => [n]
  | .c _ => []
def oxtm : Option X → List Nat
  | none => []
  | some x => x.tm
def xstm (l : List X) : List Nat := l.flatMap X.tm
def AOp.tm : AOp → List Nat
  | .mv x | .box _ x | .nilc x | .not x | .neg x | .inv x | .conv _ x | .same x | .b2s x | .s2b x | .mkif _ x | .fadr _ x | .fld _ _ _ x | .extr x _ | .tass x _ | .len _ x | .cap x | .clear _ _ x => x.tm
  | .pick a b c => a.tm ++ (b.tm ++ c.tm)
  | .alloc _ | .pan => []
  | .build _ ps => ps.flatMap fun p => p.2.2.tm
  | .bslice _ _ _ ps => ps.flatMap fun p => p.2.tm
  | .load _ _ p => p.tm
  | .store _ p v => p.tm ++ v.tm
  | .bin _ x y | .eqn _ _ x y | .eqb _ x y | .eqs _ _ x y | .iadr _ x y | .iadra _ _ x y | .idxs x y | .idxa _ _ _ x y | .app _ _ x y | .appz _ _ _ x y | .copy _ x y | .mksl _ _ _ x y => x.tm ++ y.tm
  | .mkfn _ a b => xstm a ++ xstm b
  | .sls x a b => x.tm ++ (oxtm a ++ oxtm b)
  | .sl _ x a b c => x.tm ++ (oxtm a ++ (oxtm b ++ oxtm c))
  | .sla _ _ x a b => x.tm ++ (oxtm a ++ oxtm b)
  | .call f xs => f.tm ++ xstm xs
  | .inv2 r _ xs => r.tm ++ xstm xs
  | .mn xs | .mx xs => xstm xs
def AOper.tm (o : AOper) : List Nat := (match o.guard with | none => [] | some g => [g.1]) ++ o.op.tm
section
variable {e e' : Env}
def Agree (e e' : Env) (l : List Nat) : Prop := ∀ t ∈ l, look e t = look e' t
theorem Agree.left {a b : List Nat} (h : Agree e e' (a ++ b)) : Agree e e' a := fun t q => h t (List.mem_append_left _ q)
theorem Agree.right {a b : List Nat} (h : Agree e e' (a ++ b)) : Agree e e' b := fun t q => h t (List.mem_append_right _ q)
theorem X.ev_agree {x : X} (h : Agree e e' x.tm) : x.ev e = x.ev e' := by
  cases x with
  | t n => exact h n (by simp [X.tm])
  | c v => rfl
theorem ox_agree {x : Option X} (h : Agree e e' (oxtm x)) : x.map (X.ev e) = x.map (X.ev e') := by
  cases x with
  | none => rfl
  | some x => simp only [Option.map_some, X.ev_agree (x := x) h]
theorem xs_agree {l : List X} (h : Agree e e' (xstm l)) : evArgs e l = evArgs e' l :=
  List.map_congr_left fun x hx => X.ev_agree fun t ht => h t (List.mem_flatMap.2 ⟨x, hx, ht⟩)
theorem birth_agree {o : AOp} (h : Agree e e' o.tm) : birth e o = birth e' o := by
  cases o <;> simp only [birth]
  case box n x => rw [X.ev_agree (x := x) h]
  case bslice sz len z ps =>
    have : (ps.map fun p => (p.1 * sz, sz, p.2.ev e)) = ps.map fun p => (p.1 * sz, sz, p.2.ev e') := List.map_congr_left fun p hp => by rw [X.ev_agree (x := p.2) fun t ht => h t (List.mem_flatMap.2 ⟨p, hp, ht⟩)]
    rw [this]
  case mksl sz b z x y => rw [X.ev_agree (x := x) h.left, X.ev_agree (x := y) h.right]
  case s2b x => rw [X.ev_agree (x := x) h]
theorem evOp_agree {call : CallT} {g : H} {o : AOp} (h : Agree e e' o.tm) : evOp call e g o = evOp call e' g o := by
  cases o <;> simp only [evOp, evBirth, birth_agree h]
  case build z ps =>
    have : (ps.map fun p => (p.1, p.2.1, p.2.2.ev e)) = ps.map fun p => (p.1, p.2.1, p.2.2.ev e') := List.map_congr_left fun p hp => by rw [X.ev_agree (x := p.2.2) fun t ht => h t (List.mem_flatMap.2 ⟨p, hp, ht⟩)]
    rw [this]
  all_goals first
    | (rename_i x; rw [X.ev_agree (x := x) h]; done)
    | (rename_i x _; rw [X.ev_agree (x := x) h]; done)
    | (rename_i x y; rw [X.ev_agree (x := x) h.left, X.ev_agree (x := y) h.right]; done)
    | (rename_i x y z; rw [X.ev_agree (x := x) h.left, X.ev_agree (x := y) h.right.left, X.ev_agree (x := z) h.right.right]; done)
    | (rename_i x y; rw [xs_agree (l := x) h.left, xs_agree (l := y) h.right]; done)
    | (rename_i x a b; rw [X.ev_agree (x := x) h.left, ox_agree (x := a) h.right.left, ox_agree (x := b) h.right.right]; done)
    | (rename_i x a b c; rw [X.ev_agree (x := x) h.left, ox_agree (x := a) h.right.left, ox_agree (x := b) h.right.right.left, ox_agree (x := c) h.right.right.right]; done)
    | (rename_i x y; rw [X.ev_agree (x := x) h.left, xs_agree (l := y) h.right]; done)
    | (rename_i x _ y; rw [X.ev_agree (x := x) h.left, xs_agree (l := y) h.right]; done)
    | (rename_i x; rw [xs_agree (l := x) h]; done)
theorem evOper_agree {call : CallT} {g : H} {o : AOper} (h : Agree e e' o.tm) : evOper call o e g = evOper call o e' g := by
  unfold AOper.tm at h
  unfold evOper
  cases hg : o.guard with
  | none => exact evOp_agree (by simpa [hg] using h)
  | some gw =>
    obtain ⟨t, want⟩ := gw
    rw [hg] at h
    simp only
    rw [h t (by simp), evOp_agree h.right]
end
def dstOk (nt : Nat) : Option Nat → Bool
  | none => true
  | some d => decide (d < nt)
def compOper (L : Lk) (nt : Nat) (ops : Array Oper) (o : Oper) : Option AOper :=
  (cOp L o.op).bind fun x =>
  (match o.guard with | none => some none | some (j, w) => ((ops[j]?).bind (·.dst)).map fun t => some (t, w)).bind fun g =>
  if dstOk nt o.dst = true then some ⟨o.dst, x, g⟩ else none
def compOps (L : Lk) (nt : Nat) (ops : Array Oper) : List Oper → Option (List AOper)
  | [] => some []
  | o :: r => (compOper L nt ops o).bind fun a => (compOps L nt ops r).bind fun as => some (a :: as)
end Ab
set_option linter.unusedSimpArgs false
set_option linter.unusedVariables false
namespace Ab
open Go RowKit
structure Gr (h : H) (ι : Io) (M : Mm) (h' : H) (ι' : Io) (M' : Mm) : Prop where
  nx : h.next ≤ h'.next
  io : LeI ι ι'
  mm : LeM M M'
  old : ∀ id l, id < h.next → ι' id = some l → ι id = some l
theorem Gr.refl (h : H) (ι : Io) (M : Mm) : Gr h ι M h ι M := ⟨Nat.le_refl _, fun _ _ q => q, fun _ _ _ q => q, fun _ _ _ q => q⟩
theorem Gr.trans {h1 h2 h3 : H} {ι1 ι2 ι3 : Io} {M1 M2 M3 : Mm} (a : Gr h1 ι1 M1 h2 ι2 M2) (b : Gr h2 ι2 M2 h3 ι3 M3) : Gr h1 ι1 M1 h3 ι3 M3 :=
  ⟨Nat.le_trans a.nx b.nx, fun _ _ q => b.io _ _ (a.io _ _ q), fun _ _ _ q => b.mm _ _ _ (a.mm _ _ _ q), fun id l q1 q2 => a.old id l q1 (b.old id l (Nat.lt_of_lt_of_le q1 a.nx) q2)⟩
section
variable {L : Lk} {w0 : World} {ι : Io} {M : Mm} {h : H} {w : World}
theorem getD_bool {tmps : Array Value} {t : Nat} {b : Bool} (h : tmps.getD t undef = .bool b) : tmps[t]? = some (.bool b) := by
  rw [Array.getD_eq_getD_getElem?] at h
  cases hg : tmps[t]? with
  | none => rw [hg] at h; simp [undef] at h
  | some v => rw [hg] at h; simpa using h
theorem V.skip : V L ι M (.tup []) undef := .tup (as := []) (vs := []) rfl (fun i a v h => by simp at h)
theorem V.skip_inv {v : Value} (h : V L ι M (.tup []) v) : v = undef := by
  cases h with
  | imm h =>
    cases h with
    | tup l _ => rename_i vs; rw [List.length_eq_zero_iff.1 l.symm]; rfl
  | tup l _ => rename_i vs; rw [List.length_eq_zero_iff.1 l.symm]; rfl
theorem yielded_undef {ops : Array Oper} {tmps : Array Value} {j t : Nat} (ht : (ops[j]?).bind (·.dst) = some t) (h : V L ι M (.tup []) (tmps.getD t undef)) : yielded ops tmps j = none := by
  have h := h.skip_inv
  unfold yielded
  rw [ht]
  simp only [Option.bind_some]
  rw [Array.getD_eq_getD_getElem?] at h
  cases hg : tmps[t]? with
  | none => rfl
  | some v => rw [hg] at h; simp only [Option.getD_some] at h; rw [h]; rfl
theorem EnvR.put {e : Env} {a : Act} (he : EnvR L ι M e a.tmps) {d : Option Nat} {v : AV} {v' : Value} (hv : V L ι M v v') (hd : ∀ t, d = some t → t < a.tmps.size) : EnvR L ι M (putEnv d v e) (a.put d v').tmps := by
  cases d with
  | none => exact he
  | some d =>
    intro t
    simp only [putEnv, look, Act.put]
    by_cases hdt : d = t
    · subst hdt
      rw [if_pos rfl, Array.getD_eq_getD_getElem?, Array.getElem?_setIfInBounds_self_of_lt (hd d rfl)]
      exact hv
    · rw [if_neg hdt, Array.getD_eq_getD_getElem?, Array.getElem?_setIfInBounds_ne hdt, ← Array.getD_eq_getD_getElem?]
      exact he t
theorem put_size (a : Act) (d : Option Nat) (v : Value) : (a.put d v).tmps.size = a.tmps.size := by
  cases d <;> simp [Act.put]
theorem put_defers (a : Act) (d : Option Nat) (v : Value) : (a.put d v).defers = a.defers := by
  cases d <;> simp [Act.put]
theorem compOper_inv {nt : Nat} {ops : Array Oper} {o : Oper} {x : AOper} (hc : compOper L nt ops o = some x) :
    cOp L o.op = some x.op ∧ x.dst = o.dst ∧ (∀ t, o.dst = some t → t < nt) ∧ ((o.guard = none ∧ x.guard = none) ∨ ∃ j want t, o.guard = some (j, want) ∧ (ops[j]?).bind (·.dst) = some t ∧ x.guard = some (t, want)) := by
  unfold compOper at hc
  simp only [Option.bind_eq_some_iff] at hc
  obtain ⟨y, h1, g, h2, h3⟩ := hc
  by_cases hd : dstOk nt o.dst = true
  · rw [if_pos hd] at h3
    obtain rfl := Option.some.inj h3
    refine ⟨h1, rfl, fun t ht => ?_, ?_⟩
    · rw [ht] at hd; exact of_decide_eq_true hd
    · split at h2
      · rename_i hg; obtain rfl := Option.some.inj h2; exact .inl ⟨hg, rfl⟩
      · rename_i j want hg
        simp only [Option.map_eq_some_iff] at h2
        obtain ⟨t, ht, rfl⟩ := h2
        exact .inr ⟨j, want, t, hg, ht, rfl⟩
  · rw [if_neg hd] at h3; cases h3
theorem oper_step {call : CallT} (hcal : Callee L w0 call) (hbod : Bodies L) {nt : Nat} {ops : Array Oper} {i : Nat} {o : Oper} {x : AOper} (hi : ops[i]? = some o) (hc : compOper L nt ops o = some x)
    {e : Env} {a : Act} (he : EnvR L ι M e a.tmps) (r : R L w0 ι M h w) {v : AV} {h' : H} (hev : evOper call x e h = some (v, h')) {K : Act → World → Prop} {Q : Exit → Act → World → Prop}
    (hK : ∀ v' w', Out L w0 ι M h h' v v' w' → K (a.put o.dst v') w') : wpOp L.P ops Q i K a w := by
  obtain ⟨hop, hdst, _, hg⟩ := compOper_inv hc
  unfold wpOp
  simp only [hi]
  unfold evOper at hev
  rcases hg with ⟨hg1, hg2⟩ | ⟨j, want, t, hg1, ht, hg2⟩
  · rw [hg2] at hev
    have : Region.wanted o (yielded ops a.tmps) = true := by simp [Region.wanted, hg1]
    rw [if_pos this]
    exact .inl (op_wp hcal hbod hop he r hev hK)
  · rw [hg2] at hev
    simp only at hev
    split at hev
    · rename_i b hb
      have h1 := he t
      rw [hb] at h1
      have h2 := getD_bool h1.bool_inv
      have hy : yielded ops a.tmps j = some b := by simp [yielded, ht, h2]
      split at hev
      · rename_i hbw
        have : Region.wanted o (yielded ops a.tmps) = true := by simp [Region.wanted, hg1, hy, hbw]
        rw [if_pos this]
        exact .inl (op_wp hcal hbod hop he r hev hK)
      · rename_i hbw
        have : ¬ Region.wanted o (yielded ops a.tmps) = true := by simp [Region.wanted, hg1, hy, hbw]
        rw [if_neg this]
        obtain ⟨rfl, rfl⟩ := Prod.mk.inj (Option.some.inj hev)
        exact hK _ _ (.same r V.skip)
    · rename_i hb
      have h1 := he t
      rw [hb] at h1
      have : ¬ Region.wanted o (yielded ops a.tmps) = true := by simp [Region.wanted, hg1, yielded_undef ht h1]
      rw [if_neg this]
      obtain ⟨rfl, rfl⟩ := Prod.mk.inj (Option.some.inj hev)
      exact hK _ _ (.same r V.skip)
    · cases hev
theorem compOps_get {nt : Nat} {ops : Array Oper} : ∀ {l : List Oper} {os : List AOper}, compOps L nt ops l = some os → l.length = os.length ∧ ∀ (i : Nat) (o : Oper), l[i]? = some o → ∃ x, os[i]? = some x ∧ compOper L nt ops o = some x
  | [], _, h => by obtain rfl := Option.some.inj h; exact ⟨rfl, fun i o q => by simp at q⟩
  | o :: l, _, h => by
    simp only [compOps, Option.bind_eq_some_iff] at h
    obtain ⟨x, h1, xs, h2, h3⟩ := h
    obtain rfl := Option.some.inj h3
    obtain ⟨g1, g2⟩ := compOps_get h2
    refine ⟨by simp [g1], fun i p q => ?_⟩
    cases i with
    | zero => simp at q; subst q; exact ⟨x, rfl, h1⟩
    | succ i => simpa using g2 i p (by simpa using q)
theorem ops_wp {call : CallT} (hcal : Callee L w0 call) (hbod : Bodies L) (hn : NextMono call) {nt : Nat} {ops : Array Oper} {Q : Exit → Act → World → Prop} {e1 : Env} {h1 : H} : ∀ (l : List Oper) (k : Nat) {os : List AOper} {e : Env} {a : Act} {ι : Io} {M : Mm} {h : H} {w : World},
    (∀ j, l[j]? = ops[k + j]?) → compOps L nt ops l = some os → EnvR L ι M e a.tmps → nt ≤ a.tmps.size → R L w0 ι M h w → evOps call os e h = some (e1, h1) →
    (∀ ι' M' a' w', Gr h ι M h1 ι' M' → R L w0 ι' M' h1 w' → EnvR L ι' M' e1 a'.tmps → a'.tmps.size = a.tmps.size → a'.defers = a.defers → Q .normal a' w') →
    wpOps L.P ops Q ((List.range' k l.length)) a w
  | [], k, os, e, a, ι, M, h, w, hl, hc, he, hnt, r, hev, hQ => by
    obtain rfl := Option.some.inj hc
    obtain ⟨rfl, rfl⟩ := Prod.mk.inj (Option.some.inj hev)
    exact hQ _ _ _ _ (.refl _ _ _) r he rfl rfl
  | o :: l, k, os, e, a, ι, M, h, w, hl, hc, he, hnt, r, hev, hQ => by
    have h0 : ops[k]? = some o := by simpa using (hl 0).symm
    simp only [compOps, Option.bind_eq_some_iff] at hc
    obtain ⟨x, hc1, xs, hc2, hc3⟩ := hc
    obtain rfl := Option.some.inj hc3
    simp only [evOps, Option.bind_eq_some_iff] at hev
    obtain ⟨⟨v, h2⟩, hv, hev⟩ := hev
    rw [List.length_cons, List.range'_succ, wpOps_cons]
    obtain ⟨_, hdst, hlt, _⟩ := compOper_inv hc1
    refine oper_step hcal hbod h0 hc1 he r hv fun v' w' hout => ?_
    obtain ⟨ι', M', a1, a2, a3, r', hv'⟩ := hout
    refine ops_wp hcal hbod hn l (k + 1) (fun j => by have := hl (j + 1); simpa [Nat.add_assoc, Nat.add_comm 1 j] using this) hc2 (a := a.put o.dst v') (ι := ι') (M := M') (e := putEnv x.dst v e)
      (by rw [hdst]; exact (he.mono a1 a2).put hv' fun t ht => Nat.lt_of_lt_of_le (hlt t ht) hnt) (by rw [put_size]; exact hnt) r' hev ?_
    intro ι2 M2 a' w2 g2 r2 he2 hs2 hd2
    exact hQ _ _ _ _ ((Gr.mk (evOper_next hn hv) a1 a2 a3).trans g2) r2 he2 (by rw [hs2, put_size]) (by rw [hd2, put_defers])
end
end Ab
set_option linter.unusedSimpArgs false
set_option linter.unusedVariables false
namespace Ab
open Go RowKit
theorem beq_eq_sound (n : Nat) : (∀ a b : AV, sizeOf a ≤ n → AV.beq a b = true → a = b) ∧ (∀ a b : List AV, sizeOf a ≤ n → AV.beqs a b = true → a = b) := by
  induction n with
  | zero =>
    refine ⟨fun a b h => ?_, fun a b h => ?_⟩
    · cases a <;> simp at h
    · cases a <;> simp at h
  | succ n ih =>
    obtain ⟨i1, i2⟩ := ih
    refine ⟨fun a b h hb => ?_, fun a b h hb => ?_⟩
    · cases a <;> cases b <;> simp only [AV.beq, Bool.and_eq_true, beq_iff_eq, Bool.false_eq_true] at hb <;> try simp only [AV.bool.sizeOf_spec, AV.pimm.sizeOf_spec, AV.simm.sizeOf_spec, AV.fn.sizeOf_spec, AV.iface.sizeOf_spec, AV.agg.sizeOf_spec, AV.tup.sizeOf_spec] at h
      case pimm.pimm => rw [i2 _ _ (by omega) hb.1, hb.2]
      case simm.simm => rw [i2 _ _ (by omega) hb.2.1, hb.1, hb.2.2.1, hb.2.2.2.1, hb.2.2.2.2]
      case fn.fn => rw [hb.1, i2 _ _ (by omega) hb.2.1, i2 _ _ (by omega) hb.2.2]
      case iface.iface => rw [hb.1, i1 _ _ (by omega) hb.2]
      case agg.agg => rw [i2 _ _ (by omega) hb]
      case tup.tup => rw [i2 _ _ (by omega) hb]
      case str.str a b => exact congrArg AV.str (ByteArray.ext (by have : (a.data == b.data) = true := hb; simpa using this))
      all_goals simp_all
    · cases a <;> cases b <;> simp only [AV.beqs, Bool.and_eq_true, Bool.false_eq_true] at hb <;> try simp only [List.cons.sizeOf_spec] at h
      · rfl
      · rw [i1 _ _ (by omega) hb.1, i2 _ _ (by omega) hb.2]
theorem beq_eq {a b : AV} (h : AV.beq a b = true) : a = b := (beq_eq_sound _).1 a b (Nat.le_refl _) h
theorem beqs_eq {a b : List AV} (h : AV.beqs a b = true) : a = b := (beq_eq_sound _).2 a b (Nat.le_refl _) h
structure Gw (h g : H) : Prop where
  nx : h.next ≤ g.next
  get : ∀ id, id < h.next → g.get id = h.get id
theorem Gw.refl (h : H) : Gw h h := ⟨Nat.le_refl _, fun _ _ => rfl⟩
theorem Gw.trans {a b c : H} (h : Gw a b) (k : Gw b c) : Gw a c := ⟨Nat.le_trans h.nx k.nx, fun id hi => by rw [k.get id (Nat.lt_of_lt_of_le hi h.nx), h.get id hi]⟩
theorem Gw.alloc (h : H) (cs : List AV) : Gw h (h.alloc cs) := ⟨by simp, fun id hi => by rw [H.get_alloc]; rw [if_neg (by omega)]⟩
theorem Gw.some {h g : H} (k : Gw h g) {id : Nat} {cs : List AV} (hg : h.get id = .some cs) : g.get id = .some cs := by rw [k.get id (h.lt id cs hg)]; exact hg
theorem evOp_any {call : CallT} {e : Env} {h h' : H} {o : AOp} {v : AV} (hl : o.loud = false) (hb : o.births = false) (hr : o.reads = false) (hev : evOp call e h o = some (v, h')) (G : H) : evOp call e G o = some (v, G) := by
  obtain rfl := evOp_quiet hl hb hev
  cases o <;> simp only [AOp.loud, AOp.births, AOp.reads, Bool.true_eq_false, reduceCtorEq] at hl hb hr <;> simp only [evOp, Option.bind_eq_some_iff] at hev ⊢
  all_goals first
    | (obtain ⟨q1, q2, hev⟩ := hev; exact ⟨q1, q2, by rw [(Prod.mk.inj (Option.some.inj hev)).1]⟩)
    | (rw [(Prod.mk.inj (Option.some.inj hev)).1]; done)
    | skip
  all_goals repeat' split at hev
  all_goals first
    | (cases hev; done)
    | (obtain ⟨q, _⟩ := Prod.mk.inj (Option.some.inj hev); rw [q]; done)
    | (obtain ⟨q, _⟩ := Prod.mk.inj (Option.some.inj hev); simp [*]; done)
    | skip
  all_goals try simp only [Option.bind_eq_some_iff] at hev
  all_goals
    obtain ⟨q1, q2, q3⟩ := hev
    obtain ⟨q, _⟩ := Prod.mk.inj (Option.some.inj q3)
    simp [*]
theorem evOp_own {call : CallT} {e : Env} {h h' : H} {o : AOp} {v : AV} (hl : o.loud = false) (hb : o.births = false) (hev : evOp call e h o = some (v, h')) {G : H} (k : Gw h G) : evOp call e G o = some (v, G) := by
  cases hr : o.reads with
  | false => exact evOp_any hl hb hr hev G
  | true =>
    cases o <;> simp only [AOp.reads, Bool.false_eq_true] at hr <;> simp only [evOp, Option.bind_eq_some_iff] at hev ⊢
    case load agg n p =>
      obtain ⟨x, h1, h2⟩ := hev
      refine ⟨x, ?_, by rw [(Prod.mk.inj (Option.some.inj h2)).1]⟩
      unfold aload at *
      split at h1
      · simp only [Option.bind_eq_some_iff] at h1 ⊢
        obtain ⟨cs, q1, q2⟩ := h1
        exact ⟨cs, k.some q1, q2⟩
      · exact h1
      · cases h1
    case b2s x =>
      obtain ⟨y, h1, l, h2, h3⟩ := hev
      refine ⟨y, ?_, l, h2, ?_⟩
      · unfold srcCells at *
        split at h1
        · exact h1
        · exact h1
        · split at h1
          · rename_i hs; simp only [if_pos hs, Option.bind_eq_some_iff] at h1 ⊢
            obtain ⟨cs, q1, q2⟩ := h1
            exact ⟨cs, k.some q1, q2⟩
          · cases h1
        · exact h1
        · cases h1
      · split at h3
        · cases h3
        · rw [(Prod.mk.inj (Option.some.inj h3)).1]
    case sl sz x a b c =>
      obtain ⟨y, h1, h2⟩ := hev
      refine ⟨y, ?_, by rw [(Prod.mk.inj (Option.some.inj h2)).1]⟩
      unfold asl at *
      split at h1
      · split at h1
        · exact h1
        · split at h1
          · rename_i hs; simp only [if_pos hs, Option.bind_eq_some_iff] at h1 ⊢
            obtain ⟨cs, q1, q2⟩ := h1
            exact ⟨cs, k.some q1, q2⟩
          · cases h1
        · exact h1
        · cases h1
      · exact h1
    case sla n sz x a b =>
      obtain ⟨y, h1, h2⟩ := hev
      refine ⟨y, ?_, by rw [(Prod.mk.inj (Option.some.inj h2)).1]⟩
      unfold asla at *
      split at h1
      · split at h1
        · rename_i hs; simp only [if_pos hs, Option.bind_eq_some_iff] at h1 ⊢
          obtain ⟨cs, q1, q2⟩ := h1
          exact ⟨cs, k.some q1, q2⟩
        · cases h1
      · cases h1
theorem evOper_own {call : CallT} {e : Env} {h h' : H} {o : AOper} {v : AV} (hl : o.op.loud = false) (hb : o.op.births = false) (hev : evOper call o e h = some (v, h')) {G : H} (k : Gw h G) : evOper call o e G = some (v, G) := by
  unfold evOper at *
  split at hev
  · exact evOp_own hl hb hev k
  · split at hev
    · split at hev
      · rename_i q; rw [if_pos q]; exact evOp_own hl hb hev k
      · rename_i q; rw [if_neg q]; rw [(Prod.mk.inj (Option.some.inj hev)).1]
    · rw [(Prod.mk.inj (Option.some.inj hev)).1]
    · cases hev
theorem evOper_any {call : CallT} {e : Env} {h h' : H} {o : AOper} {v : AV} (hl : o.op.loud = false) (hb : o.op.births = false) (hr : o.op.reads = false) (hev : evOper call o e h = some (v, h')) (G : H) : evOper call o e G = some (v, G) := by
  unfold evOper at *
  split at hev
  · exact evOp_any hl hb hr hev G
  · split at hev
    · split at hev
      · rename_i q; rw [if_pos q]; exact evOp_any hl hb hr hev G
      · rename_i q; rw [if_neg q]; rw [(Prod.mk.inj (Option.some.inj hev)).1]
    · rw [(Prod.mk.inj (Option.some.inj hev)).1]
    · cases hev
theorem evOper_gw {call : CallT} {e : Env} {h h' : H} {o : AOper} {v : AV} (hl : o.op.loud = false) (hev : evOper call o e h = some (v, h')) : Gw h h' := by
  have key : ∀ {v h'}, evOp call e h o.op = some (v, h') → Gw h h' := by
    intro v h' hev
    cases hb : o.op.births with
    | false => rw [evOp_quiet hl hb hev]; exact .refl _
    | true => obtain ⟨b, _, _, rfl⟩ := evOp_birth hb hev; exact .alloc _ _
  unfold evOper at hev
  repeat' split at hev
  all_goals first
    | exact key hev
    | (cases hev; done)
    | (obtain ⟨_, rfl⟩ := Prod.mk.inj (Option.some.inj hev); exact .refl _)
theorem evOper_birth {call : CallT} {e : Env} {h h' : H} {o : AOper} {v : AV} (hb : o.op.births = true) (hev : evOper call o e h = some (v, h')) :
    (v = .tup [] ∧ h' = h ∧ ∀ G, evOper call o e G = some (.tup [], G)) ∨ ∃ b, birth e o.op = some b ∧ v = b.2 h.next ∧ h' = h.alloc b.1 ∧ v.id? = some h.next ∧ ∀ G, evOper call o e G = evOp call e G o.op := by
  have key : evOp call e h o.op = some (v, h') → (∀ G, evOper call o e G = evOp call e G o.op) → ∃ b, birth e o.op = some b ∧ v = b.2 h.next ∧ h' = h.alloc b.1 ∧ v.id? = some h.next ∧ ∀ G, evOper call o e G = evOp call e G o.op := by
    intro hev hg
    obtain ⟨b, h1, h2, h3⟩ := evOp_birth hb hev
    exact ⟨b, h1, h2, h3, h2 ▸ birth_id h1 _, hg⟩
  unfold evOper at hev
  split at hev
  · rename_i q; exact .inr (key hev fun G => by unfold evOper; rw [q])
  · rename_i g want q
    split at hev
    · rename_i b q2
      split at hev
      · rename_i q3; exact .inr (key hev fun G => by unfold evOper; simp only [q, q2, if_pos q3])
      · rename_i q3
        obtain ⟨rfl, rfl⟩ := Prod.mk.inj (Option.some.inj hev)
        exact .inl ⟨rfl, rfl, fun G => by unfold evOper; simp only [q, q2, if_neg q3]⟩
    · rename_i q2
      obtain ⟨rfl, rfl⟩ := Prod.mk.inj (Option.some.inj hev)
      exact .inl ⟨rfl, rfl, fun G => by unfold evOper; simp only [q, q2]⟩
    · cases hev
def nl : List AOper → Nat
  | [] => 0
  | o :: r => (if o.op.loud = true then 1 else 0) + nl r
theorem nl_append (a b : List AOper) : nl (a ++ b) = nl a + nl b := by
  induction a with
  | nil => simp [nl]
  | cons o a ih => simp only [List.cons_append, nl, ih]; omega
theorem nl_take_succ {os : List AOper} {p : Nat} {x : AOper} (hx : os[p]? = some x) : nl (os.take (p + 1)) = nl (os.take p) + (if x.op.loud = true then 1 else 0) := by
  rw [List.take_add_one, hx, nl_append]; simp [nl]
theorem nl_take_le {os : List AOper} {p q : Nat} (h : p ≤ q) : nl (os.take p) ≤ nl (os.take q) := by
  have : os.take q = os.take p ++ (os.take q).drop p := by
    have := (List.take_append_drop p (os.take q)).symm
    rwa [List.take_take, Nat.min_eq_left h] at this
  rw [this, nl_append]; omega
theorem nl_take_all (os : List AOper) (p : Nat) : nl (os.take p) ≤ nl os := by
  conv => rhs; rw [← List.take_append_drop p os]
  rw [nl_append]; omega
theorem nl_exists : ∀ (os : List AOper) (p k : Nat), k < nl (os.take p) → ∃ (q : Nat) (x : AOper), q < p ∧ os[q]? = some x ∧ x.op.loud = true ∧ nl (os.take q) = k := by
  intro os p
  induction p with
  | zero => intro k hk; simp [nl] at hk
  | succ p ih =>
    intro k hk
    cases hx : os[p]? with
    | none =>
      have : os.take (p + 1) = os.take p := by rw [List.take_add_one, hx]; simp
      rw [this] at hk
      obtain ⟨q, x, a, b⟩ := ih k hk
      exact ⟨q, x, by omega, b⟩
    | some x =>
      rw [nl_take_succ hx] at hk
      by_cases hk' : k < nl (os.take p)
      · obtain ⟨q, y, a, b⟩ := ih k hk'
        exact ⟨q, y, by omega, b⟩
      · have hl : x.op.loud = true := by
          cases hl : x.op.loud with
          | true => rfl
          | false => rw [if_neg (by simp [hl])] at hk; omega
        rw [if_pos hl] at hk
        exact ⟨p, x, by omega, hx, hl, by omega⟩
theorem evOps_append {call : CallT} : ∀ (a b : List AOper) (e : Env) (h : H), evOps call (a ++ b) e h = (evOps call a e h).bind fun r => evOps call b r.1 r.2
  | [], b, e, h => rfl
  | o :: a, b, e, h => by
    simp only [List.cons_append, evOps]
    cases hv : evOper call o e h with
    | none => rfl
    | some r => simp only [Option.bind_some]; exact evOps_append a b _ _
theorem evOpsD_head {call : CallT} : ∀ {os : List AOper} {e e' : Env} {h h' : H} {gs}, evOpsD call os e h = some (e', h', gs) → ∃ G, gs[0]? = some G ∧ Gw h G
  | [], _, _, h, _, _, hev => by cases hev; exact ⟨h, rfl, .refl _⟩
  | o :: os, _, _, h, _, _, hev => by
    simp only [evOpsD, Option.bind_eq_some_iff] at hev
    obtain ⟨⟨v, h1⟩, hv, ⟨e2, h2, gs'⟩, h4, h5⟩ := hev
    cases hl : o.op.loud with
    | true => simp only [hl, if_true] at h5; cases h5; exact ⟨h, rfl, .refl _⟩
    | false =>
      simp only [hl, Bool.false_eq_true, if_false] at h5
      cases h5
      obtain ⟨G, g1, g2⟩ := evOpsD_head h4
      exact ⟨G, g1, (evOper_gw hl hv).trans g2⟩
theorem evOpsD_last {call : CallT} : ∀ {os : List AOper} {e e' : Env} {h h' : H} {gs}, evOpsD call os e h = some (e', h', gs) → gs[nl os]? = some h'
  | [], _, _, _, _, _, hev => by cases hev; rfl
  | o :: os, _, _, _, _, _, hev => by
    simp only [evOpsD, Option.bind_eq_some_iff] at hev
    obtain ⟨⟨v, h1⟩, hv, ⟨e2, h2, gs'⟩, h4, h5⟩ := hev
    have := evOpsD_last h4
    cases hl : o.op.loud with
    | true => simp only [hl, if_true] at h5; cases h5; simp only [nl, hl, if_true, Nat.add_comm 1, List.getElem?_cons_succ]; exact this
    | false => simp only [hl, Bool.false_eq_true, if_false] at h5; cases h5; simp only [nl, hl, Bool.false_eq_true, if_false, Nat.zero_add]; exact this
theorem evOpsD_at {call : CallT} : ∀ {os : List AOper} {e e' : Env} {h h' : H} {gs}, evOpsD call os e h = some (e', h', gs) → ∀ {p : Nat} {x : AOper}, os[p]? = some x → ∃ e1 h1 v h2 G,
    evOps call (os.take p) e h = some (e1, h1) ∧ evOper call x e1 h1 = some (v, h2) ∧ evOps call (os.drop (p + 1)) (putEnv x.dst v e1) h2 = some (e', h') ∧
    gs[nl (os.take p) + (if x.op.loud = true then 1 else 0)]? = some G ∧ Gw h2 G ∧ (x.op.loud = true → gs[nl (os.take p)]? = some h1)
  | [], _, _, _, _, _, _, p, x, hx => by simp at hx
  | o :: os, e, _, h, _, _, hev, p, x, hx => by
    simp only [evOpsD, Option.bind_eq_some_iff] at hev
    obtain ⟨⟨v, h1⟩, hv, ⟨e2, h2, gs'⟩, h4, h5⟩ := hev
    cases p with
    | zero =>
      simp at hx; subst hx
      obtain ⟨G, g1, g2⟩ := evOpsD_head h4
      refine ⟨e, h, v, h1, G, rfl, hv, ?_, ?_, g2, ?_⟩
      · obtain ⟨rfl, h6⟩ := Prod.mk.inj (Option.some.inj h5); obtain ⟨rfl, _⟩ := Prod.mk.inj h6
        exact evOpsD_ops h4
      · cases hl : o.op.loud with
        | true => simp only [hl, if_true] at h5; cases h5; simpa [nl] using g1
        | false => simp only [hl, Bool.false_eq_true, if_false] at h5; cases h5; simpa [nl] using g1
      · intro hl; simp only [hl, if_true] at h5; cases h5; rfl
    | succ p =>
      obtain ⟨e3, h3, u, h6, G, a1, a2, a3, a4, a5, a6⟩ := evOpsD_at h4 (p := p) (x := x) (by simpa using hx)
      refine ⟨e3, h3, u, h6, G, ?_, a2, ?_, ?_, a5, ?_⟩
      · simp only [List.take_succ_cons, evOps, hv, Option.bind_some]; exact a1
      · obtain ⟨rfl, h7⟩ := Prod.mk.inj (Option.some.inj h5); obtain ⟨rfl, _⟩ := Prod.mk.inj h7
        simpa using a3
      · cases hl : o.op.loud with
        | true => simp only [hl, if_true] at h5; cases h5; simp only [List.take_succ_cons, nl, hl, if_true]; rw [Nat.add_assoc, Nat.add_comm 1, List.getElem?_cons_succ]; exact a4
        | false => simp only [hl, Bool.false_eq_true, if_false] at h5; cases h5; simp only [List.take_succ_cons, nl, hl, Bool.false_eq_true, if_false, Nat.zero_add]; exact a4
      · intro hx'
        have a6 := a6 hx'
        cases hl : o.op.loud with
        | true => simp only [hl, if_true] at h5; cases h5; simp only [List.take_succ_cons, nl, hl, if_true]; rw [Nat.add_comm 1, List.getElem?_cons_succ]; exact a6
        | false => simp only [hl, Bool.false_eq_true, if_false] at h5; cases h5; simp only [List.take_succ_cons, nl, hl, Bool.false_eq_true, if_false, Nat.zero_add]; exact a6
def dsts (os : List AOper) : List Nat := os.filterMap (·.dst)
theorem evOps_look {call : CallT} : ∀ {os : List AOper} {e e' : Env} {h h' : H}, evOps call os e h = some (e', h') → ∀ t, t ∉ dsts os → look e' t = look e t
  | [], _, _, _, _, hev, t, _ => by cases hev; rfl
  | o :: os, e, _, _, _, hev, t, ht => by
    simp only [evOps, Option.bind_eq_some_iff] at hev
    obtain ⟨⟨v, h1⟩, hv, h4⟩ := hev
    have hd : o.dst ≠ some t ∧ t ∉ dsts os := by
      unfold dsts at ht ⊢
      rw [List.filterMap_cons] at ht
      cases hd : o.dst with
      | none => rw [hd] at ht; exact ⟨nofun, ht⟩
      | some d => rw [hd] at ht; simp only [List.mem_cons, not_or] at ht; exact ⟨fun q => ht.1 (Option.some.inj q).symm, ht.2⟩
    rw [evOps_look h4 t hd.2]
    cases hd' : o.dst with
    | none => rfl
    | some d =>
      simp only [putEnv, look]
      rw [if_neg (fun q => hd.1 (by rw [hd', q]))]
end Ab
