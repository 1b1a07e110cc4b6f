/- The abstract machine: what the operations of a function do to typed data, without memory. 'awp' is its weakest precondition. -/
import Derived.Test.YtkogipcdjalehaaDoorVmTypes
import Derived.Orders
namespace Go.Proofs.YtkogipcdjalehaaDoor
noncomputable section
@[reducible] def FN : List Ty → Ty → Type
 | [], r => Prop × r.den
 | t :: ts, r => t.den → FN ts r
structure FV where
 ps : List Ty
 r : Ty
 F : FN ps r
def FV.as (ps : List Ty) (r : Ty) (v : FV) : Option (FN ps r) := if h : v.ps = ps then (if k : v.r = r then some (h ▸ k ▸ v.F) else none) else none
theorem FV.as_some {ps : List Ty} {r : Ty} {v : FV} {F : FN ps r} (h : v.as ps r = some F) : v = ⟨ps, r, F⟩ := by
 unfold FV.as at h
 split at h
 ·split at h
  ·rename_i e k
   obtain ⟨ps', r', F'⟩ := v
   simp only at e k
   subst e k
   simp at h
   subst h
   rfl
  ·cases h
 ·cases h
@[simp] theorem FV.as_mk (ps : List Ty) (r : Ty) (F : FN ps r) : FV.as ps r ⟨ps, r, F⟩ = some F := by simp [FV.as]
structure MV where
 κ : Ty
 ε : Ty
 f : κ.den → Option ε.den
 n : Nat
def MV.as (κ ε : Ty) (m : MV) : Option ((κ.den → Option ε.den) × Nat) := if h : m.κ = κ then (if k : m.ε = ε then some (h ▸ k ▸ (m.f, m.n)) else none) else none
theorem MV.as_some {κ ε : Ty} {m : MV} {F : (κ.den → Option ε.den) × Nat} (h : m.as κ ε = some F) : m = ⟨κ, ε, F.1, F.2⟩ := by
 unfold MV.as at h
 split at h
 ·split at h
  ·rename_i e k
   obtain ⟨κ', ε', f', n'⟩ := m
   simp only at e k
   subst e k
   simp at h
   subst h
   rfl
  ·cases h
 ·cases h
@[simp] theorem MV.as_mk (κ ε : Ty) (f : κ.den → Option ε.den) (n : Nat) : MV.as κ ε ⟨κ, ε, f, n⟩ = some (f, n) := by simp [MV.as]
def mput {α β : Type} (f : α → Option β) (k : α) (v : β) : α → Option β := fun x => @ite _ (x = k) (Classical.propDecidable _) (some v) (f x)
def mnone (α β : Type) : α → Option β := fun _ => none
def mlen {β : Type} (o : Option β) (n : Nat) : Nat := bif o.isSome then n else n + 1
inductive AV where
 | any
 | undf
 | imm (v : TV)
 | nil
 | pimm (v : TV)
 | ptr (id off : Nat)
 | row (id : Nat)
 | rptr (id i off : Nat)
 | agg (cs : List AV)
 | tup (vs : List AV)
 | fn (f : FuncId)
 | tree (id : Nat)
 | sub (id i off sz : Nat)
 | tptr (id i off sz : Nat)
 | clo (f : FuncId) (cs : List AV)
 | fun_ (v : FV)
 | mp (id : Nat)
inductive AObj where
 | box (cs : List AV)
 | row (e : TypeId) (τ : Ty) (xs : List τ.den)
 | tree (τ : Ty) (xs : List τ.den)
 | map (m : MV)
structure AState where
 slots : List AV
 objs : List (Nat × AObj)
inductive Arg where
 | val (v : TV)
 | ref (v : TV)
 | fn (f : FuncId)
 | clo (v : FV)
 | own (v : TV)
 | box (k : Nat)
inductive CK where
 | d (τ : Ty)
 | o (τ : Ty)
 | p (k : Nat)
structure SK where
 ps : List (Option Nat)
 sh : List (List CK)
def look {α : Type} : List (Nat × α) → Nat → Option α
 | [], _ => none
 | (k, v) :: r, n => match Nat.beq k n with
  | true => some v
  | false => look r n
abbrev Vc := Option Prop
def Vc.ok : Vc → Prop
 | .none => True
 | .some p => p
def Vc.and (v : Vc) (K : Prop) : Prop := match v with
 | .none => K
 | .some p => p ∧ K
theorem Vc.and_ok {v : Vc} {K : Prop} (h : v.and K) : v.ok ∧ K := by
 cases v with
 | none => exact ⟨trivial, h⟩
 | some p => exact h
structure MCtr where
 τ : Ty
 g : τ.den → Int → Vc × τ.den × Int
structure CloK where
 ps : List Ty
 r : Ty
 caps : List (Bool × Ty)
def Arg.solid : Arg → Bool
 | .ref _ | .clo _ | .box _ => false
 | _ => true
structure Env where
 ty : List (Nat × Ty × Nat × Nat)
 pty : List (Nat × Ty)
 ctr : Nat → List Arg → Option (Vc × List TV)
 wr : List Nat := []
 own : List Nat := []
 octr : Nat → List Arg → Option (Vc × List TV) := fun _ _ => none
 mark : Nat → Option MCtr := fun _ => none
 clo : Nat → Option CloK := fun _ => none
 ro : List Nat := []
 tk : Nat → List Bool := fun _ => []
 sk : Nat → Option SK := fun _ => none
 sctr : Nat → List Arg → List (List TV) → Option (Vc × List TV × List (List TV)) := fun _ _ _ => none
 mty : List (Nat × Ty × Ty) := []
def AState.look (s : AState) (id : Nat) : Option AObj := YtkogipcdjalehaaDoor.look s.objs id
def constOk (k : IntKind) (n : Int) : Bool :=
 match n with
 | .ofNat m => match k with
  | .i64 => Nat.ble m 9223372036854775807
  | .u64 => Nat.ble m 18446744073709551615
  | .u8 => Nat.ble m 255
  | _ => Nat.ble m 127
 | .negSucc m => match k with
  | .i64 => Nat.ble m 9223372036854775807
  | _ => false
def cellAV : Value → AV
 | .int k n => match constOk k n with
  | true => .imm ⟨.int k, n⟩
  | false => .any
 | .bool b => .imm ⟨.bool, b⟩
 | .string s => match Nat.ble s.data.size 1000000 with
  | true => .imm ⟨.str, s.data.toList⟩
  | false => .any
 | .slice none 0 0 => .nil
 | _ => .any
def constAV : Value → AV
 | .agg cs => .agg (cs.toList.map cellAV)
 | v => cellAV v
def AState.eval (s : AState) : Operand → AV
 | .tmp t => s.slots.getD t .any
 | .const v => constAV v
 | .func f => .fn f
 | .global _ => .any
def asT1 (lk : Nat → Option AObj) (τ : Ty) : AV → Option τ.den
 | .imm v => v.as τ
 | .nil => match τ with
  | .slice _ => some []
  | _ => none
 | .row id => match lk id with
  | some (.row _ τ' xs) => TV.as τ ⟨.slice τ', xs⟩
  | _ => none
 | .tree id => match lk id with
  | some (.tree τ' xs) => TV.as τ ⟨.slice τ', xs⟩
  | _ => none
 | _ => none
def noTr (lk : Nat → Option AObj) (id : Nat) : Option AObj := match lk id with
 | some (.tree _ _) => none
 | o => o
def asTVs (lk : Nat → Option AObj) : List AV → List Ty → Option (List TV)
 | [], [] => some []
 | c :: cs, t :: ts => match asT1 lk t c with
  | some x => match asTVs lk cs ts with
   | some r => some (⟨t, x⟩ :: r)
   | none => none
  | none => none
 | _, _ => none
def asT (lk : Nat → Option AObj) (τ : Ty) : AV → Option τ.den
 | .agg cs => match τ with
  | .st s => match asTVs lk cs s.ctys with
   | some l => s.ofCells l
   | none => none
  | _ => none
 | v => asT1 lk τ v
def AV.cell : AV → Bool
 | .any | .undf | .agg _ | .tup _ | .sub .. | .tptr .. | .clo .. | .fun_ .. => false
 | .imm v => match v.τ with
  | .st _ => false
  | _ => true
 | _ => true
def cellsOf (τ : Ty) (v : AV) : Option (List AV) :=
 match τ with
 | .st s => match v with
  | .imm x => match x.as (.st s) with
   | some y => some ((s.cells y).map .imm)
   | none => none
  | .agg cs => match Nat.beq cs.length s.size && cs.all AV.cell with
   | true => some cs
   | false => none
  | _ => none
 | _ => match v.cell with
  | true => some [v]
  | false => none
def getCells (cs : List AV) (off : Nat) (τ : Ty) : Option AV :=
 match τ with
 | .st s => match Nat.ble (off + s.size) cs.length with
  | true => some (.agg ((cs.drop off).take s.size))
  | false => none
 | _ => cs[off]?
def putCells (cs : List AV) (off : Nat) (new : List AV) : Option (List AV) :=
 match Nat.ble (off + new.length) cs.length with
 | true => some (cs.take off ++ (new ++ cs.drop (off + new.length)))
 | false => none
def TV.part (v : TV) (off : Nat) (τ : Ty) : Option TV :=
 match Nat.beq off 0 && decide (v.τ = τ) with
 | true => some v
 | false => match v.cells[off]? with
  | some u => match decide (u.τ = τ) with
   | true => some u
   | false => none
  | none => none
def loadAV (lk : Nat → Option AObj) (τ : Ty) : AV → Option AV
 | .pimm v => match decide (v.τ = τ) with
  | true => some (.imm v)
  | false => none
 | .ptr id off => match lk id with
  | some (.box cs) => getCells cs off τ
  | _ => none
 | .rptr id i off => match lk id with
  | some (.row _ τ' xs) => match TV.part ⟨τ', xs.getD i τ'.zero⟩ off τ with
   | some u => some (.imm u)
   | none => none
  | _ => none
 | _ => none
def deref (lk : Nat → Option AObj) (τ : Ty) (v : AV) : Option τ.den :=
 match loadAV lk τ v with
 | some u => asT lk τ u
 | none => none
def SName.offs (s : SName) (i : Nat) : Nat := ((s.ftys.take i).map Ty.size).sum
def zeroCell (τ : Ty) : AV :=
 match τ with
 | .slice _ => .nil
 | τ => .imm ⟨τ, τ.zero⟩
def zeroCells (τ : Ty) : List AV :=
 match τ with
 | .st s => s.ctys.map zeroCell
 | τ => [zeroCell τ]
def capsOf (lk : Nat → Option AObj) : List (Bool × Ty) → List AV → Option (List Arg)
 | [], [] => some []
 | (true, τ) :: ks, v :: vs => match deref lk τ v with
  | some x => match capsOf lk ks vs with
   | some r => some (.ref ⟨τ, x⟩ :: r)
   | none => none
  | none => none
 | (false, τ) :: ks, v :: vs => match asT lk τ v with
  | some x => match capsOf lk ks vs with
   | some r => some (.val ⟨τ, x⟩ :: r)
   | none => none
  | none => none
 | _, _ => none
def cloF (E : Env) (f : FuncId) (caps : List Arg) : (ps : List Ty) → (r : Ty) → List Arg → FN ps r
 | [], r, acc => match E.ctr f (acc ++ caps) with
  | some (pre, [v]) => match v.as r with
   | some y => (pre.ok, y)
   | none => (False, r.zero)
  | _ => (False, r.zero)
 | t :: ts, r, acc => fun x => cloF E f caps ts r (acc ++ [.val ⟨t, x⟩])
def appFN : (ps : List Ty) → (r : Ty) → FN ps r → List Arg → Option (Prop × r.den)
 | [], _, F, [] => some F
 | t :: ts, r, F, .val a :: zs => match a.as t with
  | some x => appFN ts r (F x) zs
  | none => none
 | _, _, _, _ => none
def cloArg (E : Env) (lk : Nat → Option AObj) : AV → Option FV
 | .clo f cs => match E.clo f with
  | some k => match capsOf lk k.caps cs with
   | some as => some ⟨k.ps, k.r, cloF E f as k.ps k.r []⟩
   | none => none
  | none => none
 | .fun_ v => some v
 | .fn f => match E.clo f with
  | some k => match k.caps with
   | [] => some ⟨k.ps, k.r, cloF E f [] k.ps k.r []⟩
   | _ => none
  | none => none
 | _ => none
def argOf (E : Env) (lk : Nat → Option AObj) (T : TypeId) (v : AV) : Option Arg :=
 match look E.ty T with
 | some (τ, _) => match asT lk τ v with
  | some x => some (.val ⟨τ, x⟩)
  | none => none
 | none => match look E.pty T with
  | some τ => match deref lk τ v with
   | some x => some (.ref ⟨τ, x⟩)
   | none => none
  | none => match cloArg E lk v with
   | some q => some (.clo q)
   | none => match v with
    | .fn f => some (.fn f)
    | _ => none
def argsOf (E : Env) (lk : Nat → Option AObj) : List TypeId → List AV → Option (List Arg)
 | [], [] => some []
 | T :: Ts, v :: vs => match argOf E lk T v with
  | some x => match argsOf E lk Ts vs with
   | some r => some (x :: r)
   | none => none
  | none => none
 | _, _ => none
def resAV : List TV → AV
 | [v] => .imm v
 | vs => .tup (vs.map .imm)
def inI64 (n : Int) : Prop := -9223372036854775808 ≤ n ∧ n ≤ 9223372036854775807
def inKind (k : IntKind) (n : Int) : Prop :=
 match k with
 | .i64 => inI64 n
 | k => k.min ≤ n ∧ n ≤ k.max
def idxOk (n : Int) (len : Nat) : Prop := 0 ≤ n ∧ n < (len : Int)
def cutOk (l h : Int) (len : Nat) : Prop := 0 ≤ l ∧ l ≤ h ∧ h ≤ (len : Int)
def makeOk (n m : Int) (b : Nat) : Prop := 0 ≤ n ∧ n ≤ m ∧ m * ((b : Int) + 1) ≤ 140737488355328
def roomOk (n b : Nat) : Prop := n * (b + 1) ≤ 140737488355328
def arith (op : BinOp) (k : IntKind) (a b : Int) : Option (Vc × Int) :=
 match op with
 | .add => match k with
  | .u64 => some (.none, IntKind.u64.wrap (a + b))
  | k => some (.some (inKind k (a + b)), a + b)
 | .sub => some (.some (inKind k (a - b)), a - b)
 | .mul => match k with
  | .u64 => some (.none, IntKind.u64.wrap (a * b))
  | k => some (.some (inKind k (a * b)), a * b)
 | .quo => some (.some (b ≠ 0 ∧ inKind k (a.tdiv b)), a.tdiv b)
 | .rem => some (.some (b ≠ 0 ∧ inKind k (a.tmod b)), a.tmod b)
 | .shl => some (.some (0 ≤ b ∧ b < k.bits ∧ inKind k (a * 2 ^ b.toNat)), a * 2 ^ b.toNat)
 | .shr => some (.some (0 ≤ b ∧ b < k.bits ∧ inKind k (a.fdiv (2 ^ b.toNat))), a.fdiv (2 ^ b.toNat))
 | .and => some (.some (0 ≤ a ∧ 0 ≤ b ∧ inKind k a ∧ inKind k b), ((a.toNat &&& b.toNat : Nat) : Int))
 | _ => none
def cmp (op : BinOp) (a b : Int) : Option Bool :=
 match op with
 | .eql => some (decide (a = b))
 | .neq => some (!decide (a = b))
 | .lss => some (decide (a < b))
 | .leq => some (decide (a ≤ b))
 | .gtr => some (decide (b < a))
 | .geq => some (decide (b ≤ a))
 | _ => none
def arithW (wr : Bool) (op : BinOp) (k : IntKind) (a b : Int) : Option (Vc × Int) :=
 match wr with
 | true => match op with
  | .add => some (.none, k.wrap (a + b))
  | .sub => some (.none, k.wrap (a - b))
  | .mul => some (.none, k.wrap (a * b))
  | op => arith op k a b
 | false => arith op k a b
def binAV (tb wr : Bool) (op : BinOp) (u v : AV) : Option (Vc × AV) :=
 match u, v with
 | .imm ⟨.int k, a⟩, .imm ⟨.int k', b⟩ => match arithW wr op k a b with
  | some (p, r) => match op with
   | .shl | .shr => some (p, .imm ⟨.int k, r⟩)
   | _ => match decide (k = k') with
    | true => some (p, .imm ⟨.int k, r⟩)
    | false => none
  | none => match decide (k = k') with
   | true => match cmp op a b with
    | some c => some (.none, .imm ⟨.bool, c⟩)
    | none => none
   | false => none
 | .imm ⟨.bool, a⟩, .imm ⟨.bool, b⟩ => match tb with
  | true => match op with
   | .eql => some (.none, .imm ⟨.bool, a == b⟩)
   | .neq => some (.none, .imm ⟨.bool, !(a == b)⟩)
   | _ => none
  | false => none
 | .imm ⟨.str, a⟩, .imm ⟨.str, b⟩ => match op with
  | .eql => some (.none, .imm ⟨.bool, decide (a = b)⟩)
  | .neq => some (.none, .imm ⟨.bool, !decide (a = b)⟩)
  | .add => some (.some (a.length + b.length ≤ 140737488355328), .imm ⟨.str, a ++ b⟩)
  | _ => none
 | _, _ => none
def partsOf (E : Env) (s : SName) (cs : List AV) : List (Nat × AV) → Option (List AV)
 | [] => some cs
 | (i, v) :: r => match s.ftys[i]? with
  | some τ => match cellsOf τ v with
   | some new => match putCells cs (s.offs i) new with
    | some cs' => partsOf E s cs' r
    | none => none
   | none => none
  | none => none
def elemsOf (τ : Ty) : Nat → List (Nat × AV) → Option (List τ.den)
 | _, [] => some []
 | n, (i, v) :: r => match Nat.beq i n with
  | true => match asT (fun _ => none) τ v with
   | some x => match elemsOf τ (n + 1) r with
    | some xs => some (x :: xs)
    | none => none
   | none => none
  | false => none
def TV.flat (v : TV) : Bool := v.cells.all fun u => match u.τ with
 | .slice _ => false
 | .mv _ => false
 | _ => true
def boundOf (d : Int) : Option AV → Option Int
 | none => some d
 | some (.imm ⟨.int _, n⟩) => some n
 | _ => none
def noRows (lk : Nat → Option AObj) (id : Nat) : Option AObj := match lk id with
 | some (.box cs) => some (.box cs)
 | _ => none
def callOp (E : Env) (lk : Nat → Option AObj) (f : FuncId) (Ts : List TypeId) (vs : List AV) : Option (Vc × AV × Option AObj) :=
 match argsOf E (noRows lk) Ts vs with
 | some as => match E.ctr f as with
  | some (pre, res) => some (pre, resAV res, none)
  | none => none
 | none => match argsOf E lk Ts vs with
  | some as => match E.ctr f as with
   | some (pre, res) => match res.all TV.flat with
    | true => some (pre, resAV res, none)
    | false => none
   | none => none
  | none => none
def callClo (E : Env) (lk : Nat → Option AObj) (g : AV) (Ts : List TypeId) (vs : List AV) : Option (Vc × AV × Option AObj) :=
 match (match argsOf E (noRows lk) Ts vs with
  | some as => match cloArg E (noRows lk) g with
   | some q => match appFN q.ps q.r q.F as with
    | some (pre, y) => some (some pre, resAV [⟨q.r, y⟩], none)
    | none => none
   | none => none
  | none => none) with
 | some r => some r
 | none => match argsOf E lk Ts vs with
  | some as => match cloArg E lk g with
   | some q => match appFN q.ps q.r q.F as with
    | some (pre, y) => match TV.flat ⟨q.r, y⟩ with
     | true => some (some pre, resAV [⟨q.r, y⟩], none)
     | false => none
    | none => none
   | none => none
  | none => none
def AV.capOk : AV → Bool
 | .undf | .tup _ | .clo .. | .fun_ .. | .sub .. | .tptr .. => false
 | _ => true
def qop (E : Env) (lk : Nat → Option AObj) (ev : Operand → AV) (o : Oper) : Option (Vc × AV × Option AObj) :=
 match o.op with
 | .move x => some (.none, ev x, none)
 | .assign x => some (.none, ev x, none)
 | .pick c a b => match ev c with
  | .imm ⟨.bool, true⟩ => some (.none, ev a, none)
  | .imm ⟨.bool, false⟩ => some (.none, ev b, none)
  | _ => none
 | .alloc T => match o.dst, look E.ty T with
  | some d, some (τ, _) => some (.none, .ptr d 0, some (.box (zeroCells τ)))
  | _, _ => none
 | .box T x => match o.dst, look E.ty T with
  | some d, some (τ, _) => match E.ro.contains d with
   | true => match asT (fun _ => none) τ (ev x) with
    | some y => some (.none, .pimm ⟨τ, y⟩, none)
    | none => none
   | false => match cellsOf τ (ev x) with
    | some cs => some (.none, .ptr d 0, some (.box cs))
    | none => none
  | _, _ => none
 | .build T parts => match look E.ty T with
  | some (.st n, _) => match partsOf E n (zeroCells (.st n)) (parts.toList.map fun p => (p.1, ev p.2)) with
   | some cs => some (.none, .agg cs, none)
   | none => none
  | _ => none
 | .buildSlice T len parts => match o.dst, look E.ty T with
  | some d, some (.slice τ, _, e) => match Nat.beq parts.size len && Nat.ble len 1000 with
   | true => match elemsOf τ 0 (parts.toList.map fun p => (p.1, ev p.2)) with
    | some xs => some (.none, .row d, some (.row e τ xs))
    | none => none
   | false => none
  | _, _ => none
 | .load T a => match look E.ty T with
  | some (τ, _) => match loadAV lk τ (ev a) with
   | some v => some (.none, v, none)
   | none => none
  | none => none
 | .nilCheck x => match ev x with
  | .pimm v => some (.none, .pimm v, none)
  | .ptr id off => some (.none, .ptr id off, none)
  | .rptr id i off => some (.none, .rptr id i off, none)
  | _ => none
 | .fieldAddr T x i => match look E.ty T with
  | some (.st n, _) => match ev x with
   | .pimm v => match v.as (.st n) with
    | some y => match (n.fields y)[i]? with
     | some f => some (.none, .pimm f, none)
     | none => none
    | none => none
   | .ptr id off => match Nat.blt i n.ftys.length with
    | true => some (.none, .ptr id (off + n.offs i), none)
    | false => none
   | .rptr id k off => match Nat.blt i n.ftys.length with
    | true => some (.none, .rptr id k (off + n.offs i), none)
    | false => none
   | _ => none
  | _ => none
 | .field T x i => match look E.ty T with
  | some (.st n, _) => match ev x with
   | .imm v => match v.as (.st n) with
    | some y => match (n.fields y)[i]? with
     | some f => some (.none, .imm f, none)
     | none => none
    | none => none
   | .agg cs => match n.ftys[i]? with
    | some τ => match getCells cs (n.offs i) τ with
     | some v => some (.none, v, none)
     | none => none
    | none => none
   | _ => none
  | _ => none
 | .indexAddr T x ix => match look E.ty T with
  | some (.slice τ, _) => match ev ix with
   | .imm ⟨.int _, n⟩ => match ev x with
    | .imm v => match v.as (.slice τ) with
     | some xs => some (.some (idxOk n xs.length), .pimm ⟨τ, xs.getD n.toNat τ.zero⟩, none)
     | none => none
    | .row id => match lk id with
     | some (.row _ τ' xs) => match decide (τ' = τ) with
      | true => some (.some (idxOk n xs.length), .rptr id n.toNat 0, none)
      | false => none
     | _ => none
    | _ => none
   | _ => none
  | _ => none
 | .index T x ix => match look E.ty T with
  | some (.str, _) => match ev ix with
   | .imm ⟨.int _, n⟩ => match ev x with
    | .imm ⟨.str, xs⟩ => some (.some (idxOk n xs.length), .imm ⟨.int .u8, ((xs.getD n.toNat 0).toNat : Int)⟩, none)
    | _ => none
   | _ => none
  | _ => none
 | .binOp op T x y _ => match binAV (match look E.ty T with
   | some (.bool, _) => true
   | _ => false) (match o.dst with
   | some d => E.wr.contains d
   | none => false) op (ev x) (ev y) with
  | some (p, v) => some (p, v, none)
  | none => none
 | .unOp op _ x => match op, ev x with
  | .not, .imm ⟨.bool, b⟩ => some (.none, .imm ⟨.bool, !b⟩, none)
  | .neg, .imm ⟨.int k, n⟩ => some (.some (inKind k (-n)), .imm ⟨.int k, -n⟩, none)
  | _, _ => none
 | .convert src dst x => match look E.ty src, look E.ty dst with
  | some (.int _, _), some (.int k, _) => match ev x with
   | .imm ⟨.int _, n⟩ => some (.some (inKind k n), .imm ⟨.int k, n⟩, none)
   | _ => none
  | _, _ => none
 | .slice T x lo hi mx => match look E.ty T, mx with
  | some (.slice τ, _), none => match ev x with
   | .imm v => match v.as (.slice τ) with
    | some xs => match boundOf 0 (lo.map ev), boundOf (xs.length : Int) (hi.map ev) with
     | some l, some h => some (.some (cutOk l h xs.length), .imm ⟨.slice τ, (xs.take h.toNat).drop l.toNat⟩, none)
     | _, _ => none
    | none => none
   | _ => none
  | some (.str, _), none => match ev x with
   | .imm ⟨.str, xs⟩ => match boundOf 0 (lo.map ev), boundOf (xs.length : Int) (hi.map ev) with
    | some l, some h => some (.some (cutOk l h xs.length), .imm ⟨.str, (xs.take h.toNat).drop l.toNat⟩, none)
    | _, _ => none
   | _ => none
  | _, _ => none
 | .extract t i => match ev t with
  | .tup vs => match vs[i]? with
   | some v => some (.none, v, none)
   | none => none
  | _ => none
 | .makeSlice T l c => match o.dst, look E.ty T with
  | some d, some (.slice τ, b, e) => match ev l, ev c with
   | .imm ⟨.int .i64, n⟩, .imm ⟨.int .i64, m⟩ => some (.some (makeOk n m b), .row d, some (.row e τ (List.replicate n.toNat τ.zero)))
   | _, _ => none
  | _, _ => none
 | .call c => match c.callee with
  | .builtin .len => match c.argTypes.toList, c.args.toList.map ev with
   | [T], [v] => match look E.ty T with
    | some (.slice _, _) => match v with
     | .nil => some (.none, .imm ⟨.int .i64, (0 : Int)⟩, none)
     | .imm ⟨.slice _, xs⟩ => some (.none, .imm ⟨.int .i64, (xs.length : Int)⟩, none)
     | .row id => match lk id with
      | some (.row _ _ xs) => some (.none, .imm ⟨.int .i64, (xs.length : Int)⟩, none)
      | _ => none
     | _ => none
    | some (.str, _) => match v with
     | .imm ⟨.str, xs⟩ => some (.none, .imm ⟨.int .i64, (xs.length : Int)⟩, none)
     | _ => none
    | none => match v, look E.mty T with
     | .mp id, some _ => match lk id with
      | some (.map m) => some (.none, .imm ⟨.int .i64, (m.n : Int)⟩, none)
      | _ => none
     | _, _ => none
    | _ => none
   | _, _ => none
  | .builtin .append => match o.dst, c.argTypes.toList with
   | some d, [T, T'] => match Nat.beq T T', look E.ty T with
    | true, some (.slice τ, b, e) => match c.args.toList.map ev with
     | [.nil, y] => match asT1 (noTr lk) (.slice τ) y with
      | some ys => some (.some (roomOk ys.length b), .row d, some (.row e τ ys))
      | none => none
     | _ => none
    | _, _ => none
   | _, _ => none
  | .value (.func f) => callOp E lk f c.argTypes.toList (c.args.toList.map ev)
  | .value (.tmp t) => match ev (.tmp t) with
   | .fn f => callOp E lk f c.argTypes.toList (c.args.toList.map ev)
   | .clo f cs => callClo E lk (.clo f cs) c.argTypes.toList (c.args.toList.map ev)
   | .fun_ v => callClo E lk (.fun_ v) c.argTypes.toList (c.args.toList.map ev)
   | _ => none
  | _ => none
 | .makeMap T none => match o.dst, look E.mty T with
  | some d, some (κ, ε) => some (.none, .mp d, some (.map ⟨κ, ε, mnone κ.den ε.den, 0⟩))
  | _, _ => none
 | .lookup T x ix ok => match look E.mty T with
  | some (κ, ε) => match ev x, ev ix with
   | .mp id, .imm u => match lk id, u.as κ with
    | some (.map m), some k => match m.as κ ε with
     | some (f, _) => match ok with
      | true => some (.none, .tup [.imm ⟨ε, (f k).getD ε.zero⟩, .imm ⟨.bool, (f k).isSome⟩], none)
      | false => some (.none, .imm ⟨ε, (f k).getD ε.zero⟩, none)
     | none => none
    | _, _ => none
   | _, _ => none
  | none => none
 | .makeFunc fn first captured => match fn, first.toList, (captured.toList.map ev).all AV.capOk with
  | .func f, [], true => match captured.toList.map ev with
   | [] => some (.none, .fn f, none)
   | cs => some (.none, .clo f cs, none)
  | _, _, _ => none
 | _ => none
mutual
def AV.refs (id : Nat) : AV → Bool
 | .ptr i _ => Nat.beq i id
 | .row i => Nat.beq i id
 | .rptr i _ _ => Nat.beq i id
 | .tree i => Nat.beq i id
 | .sub i _ _ _ => Nat.beq i id
 | .tptr i _ _ _ => Nat.beq i id
 | .mp i => Nat.beq i id
 | .agg cs => AV.refsL id cs
 | .tup cs => AV.refsL id cs
 | .clo _ cs => AV.refsL id cs
 | _ => false
def AV.refsL (id : Nat) : List AV → Bool
 | [] => false
 | v :: r => match AV.refs id v with
  | true => true
  | false => AV.refsL id r
end
def AV.kill (id : Nat) (v : AV) : AV := match v.refs id with
 | true => .any
 | false => v
def AObj.kill (id : Nat) : AObj → AObj
 | .box cs => .box (cs.map (AV.kill id))
 | o => o
def AState.sweep (s : AState) (id : Nat) : AState :=
 { slots := s.slots.map (AV.kill id), objs := s.objs.map fun p => (p.1, p.2.kill id) }
def dropObj (id : Nat) : List (Nat × AObj) → List (Nat × AObj)
 | [] => []
 | (k, o) :: r => match Nat.beq k id with
  | true => dropObj id r
  | false => (k, o) :: dropObj id r
def AState.put (s : AState) (d : Option Nat) (v : AV) : AState :=
 match d with
 | some d => { s with slots := s.slots.set d v }
 | none => s
def AState.lay (s : AState) (d : Option Nat) (v : AV) (o : Option AObj) : AState :=
 match o, d with
 | some o, some d =>
  let s' := s.sweep d
  { slots := s'.slots.set d v, objs := (d, o.kill d) :: dropObj d s'.objs }
 | _, d => s.put d v
mutual
def AV.rows : AV → List Nat
 | .row i => [i]
 | .agg cs => AV.rowsL cs
 | _ => []
def AV.rowsL : List AV → List Nat
 | [] => []
 | v :: r => AV.rows v ++ AV.rowsL r
end
def argRows1 (s : AState) (v : AV) : List Nat :=
 match v with
 | .ptr id _ => match s.look id with
  | some (.box cs) => AV.rowsL cs
  | _ => []
 | v => v.rows
def argRows (s : AState) (v : AV) : List Nat :=
 match v with
 | .clo _ cs => cs.flatMap (argRows1 s)
 | v => argRows1 s v
def toFreeze (E : Env) (s : AState) (o : Oper) : List Nat :=
 match (match o.dst with
  | some d => E.own.contains d
  | none => false) with
 | true => []
 | false => match o.op with
 | .buildSlice _ _ parts => parts.toList.flatMap fun p => (s.eval p.2).rows
 | .slice _ x _ _ _ => (s.eval x).rows
 | .store _ a x => match s.eval a with
  | .rptr _ _ _ => (s.eval x).rows
  | _ => []
 | .call c => match c.callee with
  | .value _ => match E.ctr (match c.callee with
    | .value (.func f) => f
    | .value (.tmp t) => match s.eval (.tmp t) with
     | .fn f => f
     | _ => 0
    | _ => 0) (match argsOf E s.look c.argTypes.toList (c.args.toList.map s.eval) with
     | some as => as
     | none => []) with
   | some (_, res) => match res.all TV.flat with
    | true => []
    | false => c.args.toList.flatMap fun x => argRows s (s.eval x)
   | none => []
  | _ => []
 | _ => []
mutual
def AV.frz (id : Nat) (u : AV) : AV → AV
 | .row i => match Nat.beq i id with
  | true => u
  | false => .row i
 | .rptr i k off => match Nat.beq i id with
  | true => .any
  | false => .rptr i k off
 | .agg cs => .agg (AV.frzL id u cs)
 | .tup cs => .tup (AV.frzL id u cs)
 | .clo f cs => .clo f (AV.frzL id u cs)
 | v => v
def AV.frzL (id : Nat) (u : AV) : List AV → List AV
 | [] => []
 | v :: r => AV.frz id u v :: AV.frzL id u r
end
def AObj.frz (id : Nat) (u : AV) : AObj → AObj
 | .box cs => .box (AV.frzL id u cs)
 | o => o
def AState.freeze (s : AState) (id : Nat) : AState :=
 match s.look id with
 | some (.row _ τ xs) =>
  { slots := AV.frzL id (.imm ⟨.slice τ, xs⟩) s.slots, objs := (dropObj id s.objs).map fun p => (p.1, p.2.frz id (.imm ⟨.slice τ, xs⟩)) }
 | _ => s
def mapPut (E : Env) (s : AState) (d : Option Nat) (T : TypeId) (m k x : Operand) : Option (Vc × AState) := match look E.mty T with
 | some (κ, ε) => match s.eval m, s.eval k, s.eval x with
  | .mp id, .imm u, .imm v => match s.look id, u.as κ, v.as ε with
   | some (.map m), some k, some x => match m.as κ ε with
    | some (f, n) => some (.some (n < 1000000000), { s with objs := (id, .map ⟨κ, ε, mput f k x, mlen (f k) n⟩) :: dropObj id s.objs }.put d .any)
    | none => none
   | _, _, _ => none
  | _, _, _ => none
 | none => none
def eop (E : Env) (s : AState) (o : Oper) : Option (Vc × AState) :=
 match o.op with
 | .mapUpdate T m k x => mapPut E s o.dst T m k x
 | .insert T m k x => mapPut E s o.dst T m k x
 | .store T a x => match look E.ty T with
  | some (τ, _) => match s.eval a with
   | .ptr id off => match s.look id with
    | some (.box cs) => match cellsOf τ (s.eval x) with
     | some new => match putCells cs off new with
      | some cs' => some (.none, { s with objs := (id, .box cs') :: dropObj id s.objs }.put o.dst .any)
      | none => none
     | none => none
    | _ => none
   | .rptr id i 0 => match s.look id with
    | some (.row e' τ' xs) => match decide (τ' = τ), asT (fun _ => none) τ' (s.eval x) with
     | true, some x => some (.none, { s with objs := (id, .row e' τ' (xs.set i x)) :: dropObj id s.objs }.put o.dst .any)
     | _, _ => none
    | _ => none
   | _ => none
  | none => none
 | .call c => match c.callee with
  | .builtin .append => match o.dst, c.argTypes.toList with
   | some d, [T, T'] => match Nat.beq T T', look E.ty T with
    | true, some (.slice τ, b, e) => match c.args.toList.map s.eval with
     | [.row id, y] => match s.look id, asT1 (noTr s.look) (.slice τ) y with
      | some (.row e' τ' xs), some ys => match Nat.beq e' e, TV.as (.slice τ) ⟨.slice τ', xs⟩ with
       | true, some xs' =>
        let s' := s.sweep id
        some (.some (roomOk (xs'.length + ys.length) b), { slots := s'.slots.set d (.row id), objs := (id, .row e τ (xs' ++ ys)) :: dropObj id s'.objs })
       | _, _ => none
      | _, _ => none
     | _ => none
    | _, _ => none
   | _, _ => none
  | _ => none
 | _ => none
def nodupB : List Nat → Bool
 | [] => true
 | a :: r => match r.contains a with
  | true => false
  | false => nodupB r
def isTree : Option AObj → Bool
 | some (.tree ..) => true
 | _ => false
def ownCell (id : Nat) : TV → AV
 | ⟨.slice _, _⟩ => .tree id
 | ⟨.mv _, _⟩ => .any
 | u => .imm u
def ownObj (id : Nat) : TV → List (Nat × AObj)
 | ⟨.slice τ, xs⟩ => [(id, .tree τ xs)]
 | _ => []
def ownCells : Nat → List TV → List AV
 | _, [] => []
 | id, u :: r => ownCell id u :: ownCells (id + 1) r
def ownObjs : Nat → List TV → List (Nat × AObj)
 | _, [] => []
 | id, u :: r => ownObj id u ++ ownObjs (id + 1) r
def ownVal (id : Nat) : TV → AV
 | ⟨.st s, y⟩ => .agg (ownCells id (s.cells y))
 | v => ownCell id v
def ownVals : Nat → List TV → List AV
 | _, [] => []
 | id, v :: r => ownVal id v :: ownVals (id + 20) r
def ownValsObjs : Nat → List TV → List (Nat × AObj)
 | _, [] => []
 | id, v :: r => ownObjs id v.cells ++ ownValsObjs (id + 20) r
def ownAV (id : Nat) : List TV → AV
 | [v] => ownVal id v
 | vs => .tup (ownVals id vs)
def Ty.agg : Ty → Bool
 | .st _ => true
 | _ => false
def Ty.scal : Ty → Bool
 | .int _ | .bool | .str => true
 | _ => false
def Ty.plain : Ty → Bool
 | .st s => s.ctys.all Ty.scal
 | .slice _ => false
 | .mv _ => false
 | _ => true
def takeC (lk : Nat → Option AObj) (τ : Ty) : AV → Option (τ.den × List Nat)
 | .imm v => match τ.scal, v.as τ with
  | true, some y => some (y, [])
  | _, _ => none
 | .nil => match τ with
  | .slice _ => some ([], [])
  | _ => none
 | .tree id => match lk id with
  | some (.tree τ' xs) => match TV.as τ ⟨.slice τ', xs⟩ with
   | some y => some (y, [id])
   | none => none
  | _ => none
 | .row id => match lk id with
  | some (.row _ τ' xs) => match τ'.plain, TV.as τ ⟨.slice τ', xs⟩ with
   | true, some y => some (y, [id])
   | _, _ => none
  | _ => none
 | _ => none
def takeCs (lk : Nat → Option AObj) : List AV → List Ty → Option (List TV × List Nat)
 | [], [] => some ([], [])
 | c :: cs, t :: ts => match takeC lk t c with
  | some (x, i) => match takeCs lk cs ts with
   | some (r, j) => some (⟨t, x⟩ :: r, i ++ j)
   | none => none
  | none => none
 | _, _ => none
def takeT (lk : Nat → Option AObj) (τ : Ty) : AV → Option (τ.den × List Nat)
 | .agg cs => match τ with
  | .st s => match takeCs lk cs s.ctys with
   | some (l, ids) => match s.ofCells l with
    | some y => some (y, ids)
    | none => none
   | none => none
  | _ => none
 | v => takeC lk τ v
mutual
def AV.subs : AV → Bool
 | .sub .. => true
 | .agg cs => AV.subsL cs
 | .tup cs => AV.subsL cs
 | .clo _ cs => AV.subsL cs
 | _ => false
def AV.subsL : List AV → Bool
 | [] => false
 | v :: r => match AV.subs v with
  | true => true
  | false => AV.subsL r
end
def AV.killSub (v : AV) : AV := match v.subs with
 | true => .any
 | false => v
def AObj.killSub : AObj → AObj
 | .box cs => .box (cs.map AV.killSub)
 | o => o
def AState.noSubs (s : AState) : AState := { slots := s.slots.map AV.killSub, objs := s.objs.map fun p => (p.1, p.2.killSub) }
def AState.setTree (s : AState) (id : Nat) (τ : Ty) (xs : List τ.den) : AState :=
 { s with objs := (id, .tree τ xs) :: dropObj id s.objs }
def AState.gone (s : AState) (id : Nat) : AState :=
 let s' := s.sweep id
 { s' with objs := dropObj id s'.objs }
def AState.setTrees (s : AState) : List AV → List TV → AState
 | .tree id :: cs, ⟨.slice τ, xs⟩ :: us => (s.setTree id τ xs).setTrees cs us
 | _ :: cs, _ :: us => s.setTrees cs us
 | _, _ => s
def putPart (τ : Ty) (x : τ.den) (off : Nat) (u : TV) : Option τ.den :=
 match τ with
 | .st s => match (s.cells x)[off]? with
  | some v => match decide (v.τ = u.τ) with
   | true => s.ofCells ((s.cells x).set off u)
   | false => none
  | none => none
 | τ => match Nat.beq off 0 with
  | true => u.as τ
  | false => none
def Ty.full : Ty → Ty
 | .mv t => .slice t
 | t => t
def Ty.mvOf : Ty → Ty → Bool
 | .st p, .st q => decide (p.ctys.map Ty.full = q.ctys)
 | _, _ => false
def Ty.mvScal : Ty → Bool
 | .mv _ => true
 | t => t.scal
def fullC : TV → TV
 | ⟨.mv t, o⟩ => ⟨.slice t, Option.getD (α := List t.den) o []⟩
 | u => u
def emptyC : TV → TV
 | ⟨.mv t, _⟩ => ⟨.mv t, (none : Option (List t.den))⟩
 | u => u
def allFull : List TV → Prop
 | [] => True
 | ⟨.mv t, o⟩ :: r => Option.isSome (α := List t.den) o = true ∧ allFull r
 | _ :: r => allFull r
def oop (E : Env) (s : AState) (o : Oper) : Option (Vc × AState) :=
 match o.op with
 | .indexAddr T x ix => match look E.ty T with
  | some (.slice τ, _) => match s.eval ix, s.eval x with
   | .imm ⟨.int _, n⟩, .tree id => match s.look id with
    | some (.tree τ' xs) => match decide (τ' = τ) || τ'.mvOf τ with
     | true => some (.some (idxOk n xs.length), s.put o.dst (.tptr id n.toNat 0 τ.size))
     | false => none
    | _ => none
   | _, _ => none
  | _ => none
 | .fieldAddr T x i => match look E.ty T with
  | some (.st n, _) => match s.eval x with
   | .tptr id k off sz => match Nat.blt i n.ftys.length with
    | true => some (.none, s.put o.dst (.tptr id k (off + n.offs i) sz))
    | false => none
   | _ => none
  | _ => none
 | .load T ad => match look E.ty T with
  | some (τ, _) => match s.eval ad with
   | .tptr id i off sz => match s.look id with
    | some (.tree τ' xs) => match TV.part ⟨τ', xs.getD i τ'.zero⟩ off τ, Nat.beq τ'.size sz && (!τ.agg && Nat.blt off τ'.size) with
     | some u, true => match τ.scal with
      | true => some (.none, s.put o.dst (.imm u))
      | false => some (.none, s.put o.dst (.sub id i off sz))
     | _, _ => none
    | _ => none
   | _ => none
  | none => none
 | .store T ad x => match look E.ty T with
  | some (τ, _) => match s.eval ad with
   | .tptr id i off sz => match s.look id with
    | some (.tree τ' xs) => match Nat.beq τ'.size sz && Nat.blt off τ'.size with
     | true => match τ.scal with
      | true => match takeC (fun _ => none) τ (s.eval x) with
       | some (u, _) => match TV.part ⟨τ', xs.getD i τ'.zero⟩ off τ, putPart τ' (xs.getD i τ'.zero) off ⟨τ, u⟩ with
        | some _, some y => some (.none, (s.noSubs.setTree id τ' (xs.set i y)).put o.dst .any)
        | _, _ => none
       | none => none
      | false => match Nat.beq off 0, takeT s.look τ (s.eval x) with
       | true, some (y, ids) => match nodupB (id :: ids), TV.as τ' ⟨τ, y⟩ with
        | true, some y' => some (.none, ((ids.foldl AState.gone s).noSubs.setTree id τ' (xs.set i y')).put o.dst .any)
        | _, _ => none
       | _, _ => none
     | false => none
    | _ => none
   | _ => none
  | none => none
 | .makeSlice T l cc => match o.dst, look E.ty T with
  | some d, some (.slice τ, b, _) => match E.own.contains d && Nat.blt d 50 with
   | true => match s.eval l, s.eval cc with
    | .imm ⟨.int .i64, n⟩, .imm ⟨.int .i64, m⟩ => some (.some (makeOk n m b), { slots := (s.gone d).slots.set d (.tree d), objs := (d, .tree τ (List.replicate n.toNat τ.zero)) :: (s.gone d).objs })
    | _, _ => none
   | false => none
  | _, _ => none
 | .call c => match c.callee with
  | .builtin .len => match c.argTypes.toList, c.args.toList.map s.eval with
   | [T], [.tree id] => match look E.ty T, s.look id with
    | some (.slice _, _), some (.tree _ xs) => some (.none, s.put o.dst (.imm ⟨.int .i64, (xs.length : Int)⟩))
    | _, _ => none
   | _, _ => none
  | .value (.func f) => match o.dst with
   | some d => match E.own.contains d with
    | true => match E.mark f with
     | some m => match c.args.toList.map s.eval with
      | [.tree id, .imm ⟨.int .i64, n⟩] => match s.look id with
       | some (.tree τ xs) => match TV.as m.τ ⟨.slice τ, xs⟩ with
        | some x => match TV.as (.slice τ) ⟨m.τ, (m.g x n).2.1⟩ with
         | some xs' => some ((m.g x n).1, (s.noSubs.setTree id τ xs').put (some d) (.imm ⟨.int .i64, (m.g x n).2.2⟩))
         | none => none
        | none => none
       | _ => none
      | [.sub id i off sz, .imm ⟨.int .i64, n⟩] => match s.look id with
       | some (.tree τ xs) => match TV.part ⟨τ, xs.getD i τ.zero⟩ off m.τ with
        | some u => match u.as m.τ, Nat.beq τ.size sz && (!m.τ.agg && Nat.blt off τ.size) with
         | some x, true => match putPart τ (xs.getD i τ.zero) off ⟨m.τ, (m.g x n).2.1⟩ with
          | some y => some ((m.g x n).1, (s.noSubs.setTree id τ (xs.set i y)).put (some d) (.imm ⟨.int .i64, (m.g x n).2.2⟩))
          | none => none
         | _, _ => none
        | none => none
       | _ => none
      | [.agg cs, .imm ⟨.int .i64, n⟩] => match takeT s.look m.τ (.agg cs) with
       | some (x, ids) => match nodupB ids && ids.all fun id => isTree (s.look id) with
        | true => some ((m.g x n).1, (s.noSubs.setTrees cs (TV.cells ⟨m.τ, (m.g x n).2.1⟩)).put (some d) (.imm ⟨.int .i64, (m.g x n).2.2⟩))
        | false => none
       | none => none
      | _ => none
     | none => match argsOf E s.look c.argTypes.toList (c.args.toList.map s.eval) with
      | some as => match E.octr f as with
       | some (pre, res) => match ((ownValsObjs (100 * (d + 1)) res).all fun p => (s.look p.1).isNone) && nodupB ((ownValsObjs (100 * (d + 1)) res).map (·.1)) with
        | true => some (pre, { slots := s.slots.set d (ownAV (100 * (d + 1)) res), objs := ownValsObjs (100 * (d + 1)) res ++ s.objs })
        | false => none
       | none => none
      | none => none
    | false => none
   | none => none
  | _ => none
 | _ => none
def newId (d : Nat) : Nat := 100 * (d + 1)
def takeE (lk : Nat → Option AObj) (τ : Ty) : Nat → List (Nat × AV) → Option (List τ.den × List Nat)
 | _, [] => some ([], [])
 | n, (i, v) :: r => match Nat.beq i n with
  | true => match takeT lk τ v with
   | some (x, ids) => match takeE lk τ (n + 1) r with
    | some (xs, js) => some (x :: xs, ids ++ js)
    | none => none
   | none => none
  | false => none
def AState.addTree (s : AState) (d : Nat) (τ : Ty) (xs : List τ.den) : AState :=
 { slots := s.slots.set d (.tree (newId d)), objs := (newId d, .tree τ xs) :: s.objs }
def takeArgs (E : Env) (lk : Nat → Option AObj) : List Bool → List TypeId → List AV → Option (List (Option TV) × List Nat)
 | [], [], [] => some ([], [])
 | true :: fl, T :: Ts, v :: vs => match look E.ty T with
  | some (τ, _) => match takeT lk τ v with
   | some (x, i) => match takeArgs E lk fl Ts vs with
    | some (r, j) => some (some ⟨τ, x⟩ :: r, i ++ j)
    | none => none
   | none => none
  | none => none
 | false :: fl, _ :: Ts, _ :: vs => match takeArgs E lk fl Ts vs with
  | some (r, j) => some (none :: r, j)
  | none => none
 | _, _, _ => none
def mergeArgs (E : Env) (lk : Nat → Option AObj) : List (Option TV) → List TypeId → List AV → Option (List Arg)
 | [], [], [] => some []
 | some x :: r, _ :: Ts, _ :: vs => match mergeArgs E lk r Ts vs with
  | some as => some (.own x :: as)
  | none => none
 | none :: r, T :: Ts, v :: vs => match argOf E lk T v with
  | some x => match x.solid, mergeArgs E lk r Ts vs with
   | true, some as => some (x :: as)
   | _, _ => none
  | none => none
 | _, _, _ => none
def bop (E : Env) (s : AState) (o : Oper) : Option (Vc × AState) :=
 match o.dst with
 | some d => match E.own.contains d with
  | true => match o.op with
   | .buildSlice T len parts => match look E.ty T with
    | some (.slice τ, _) => match Nat.beq parts.size len && Nat.ble len 1000 with
     | true => match takeE s.look τ 0 (parts.toList.map fun p => (p.1, s.eval p.2)) with
      | some (xs, ids) => match nodupB ids, (ids.foldl AState.gone s).look (newId d) with
       | true, none => some (.none, (ids.foldl AState.gone s).addTree d τ xs)
       | _, _ => none
      | none => none
     | false => none
    | _ => none
   | .load T ad => match look E.ty T, s.eval ad with
    | some (.st q, _), .tptr id i 0 sz => match s.look id with
     | some (.tree (.st p) xs) => match Nat.beq p.size sz && p.ctys.all Ty.mvScal, p.ofCells ((p.cells (xs.getD i (Ty.zero (.st p)))).map emptyC), q.ofCells ((p.cells (xs.getD i (Ty.zero (.st p)))).map fullC) with
      | true, some y, some z => match ((ownObjs (newId d) (q.cells z)).all fun e => (s.look e.1).isNone) && nodupB ((ownObjs (newId d) (q.cells z)).map (·.1)) with
       | true => some (.some (allFull (p.cells (xs.getD i (Ty.zero (.st p))))), { slots := s.noSubs.slots.set d (ownVal (newId d) ⟨.st q, z⟩), objs := ownObjs (newId d) (q.cells z) ++ (s.noSubs.setTree id (.st p) (xs.set i y)).objs })
       | false => none
      | _, _, _ => none
     | _ => none
    | _, _ => none
   | .call c => match c.callee with
    | .builtin .append => match c.argTypes.toList with
     | [T, T'] => match Nat.beq T T', look E.ty T with
      | true, some (.slice τ, b, _) => match c.args.toList.map s.eval with
       | [x, y] => match takeC s.look (.slice τ) x, takeC s.look (.slice τ) y with
        | some (xs, i), some (ys, j) => match nodupB (i ++ j), ((i ++ j).foldl AState.gone s).look (newId d) with
         | true, none => some (.some (roomOk (xs.length + ys.length) b), ((i ++ j).foldl AState.gone s).addTree d τ (xs ++ ys))
         | _, _ => none
        | _, _ => none
       | _ => none
      | _, _ => none
     | _ => none
    | .value (.func f) => match E.tk f with
     | [] => none
     | fl => match takeArgs E s.look fl c.argTypes.toList (c.args.toList.map s.eval) with
      | some (own, ids) => match nodupB ids, mergeArgs E (ids.foldl AState.gone s).look own c.argTypes.toList (c.args.toList.map (ids.foldl AState.gone s).eval) with
       | true, some as => match E.octr f as with
        | some (pre, res) => match ((ownValsObjs (newId d) res).all fun p => ((ids.foldl AState.gone s).look p.1).isNone) && nodupB ((ownValsObjs (newId d) res).map (·.1)) with
         | true => some (pre, { slots := (ids.foldl AState.gone s).slots.set d (ownAV (newId d) res), objs := ownValsObjs (newId d) res ++ (ids.foldl AState.gone s).objs })
         | false => none
        | none => none
       | _, _ => none
      | none => none
    | _ => none
   | _ => none
  | false => none
 | none => none
def bindArgs : List (Option Nat) → List AV → List (Nat × Nat) → Option (List (Nat × Nat))
 | [], [], m => some m
 | some k :: fl, v :: vs, m => match v with
  | .ptr id 0 => match look m k with
   | some i => match Nat.beq i id with
    | true => bindArgs fl vs m
    | false => none
   | none => bindArgs fl vs ((k, id) :: m)
  | _ => none
 | none :: fl, _ :: vs, m => bindArgs fl vs m
 | _, _, _ => none
def takeCells (lk : Nat → Option AObj) : List CK → List AV → List (Nat × Nat) → Option (List TV × List Nat × List (Nat × Nat))
 | [], [], m => some ([], [], m)
 | .d τ :: ks, v :: vs, m => match asT1 (fun _ => none) τ v, τ.agg with
  | some x, false => match takeCells lk ks vs m with
   | some (ds, ids, m) => some (⟨τ, x⟩ :: ds, ids, m)
   | none => none
  | _, _ => none
 | .o τ :: ks, v :: vs, m => match takeC lk τ v, τ.agg with
  | some (x, i), false => match takeCells lk ks vs m with
   | some (ds, ids, m) => some (⟨τ, x⟩ :: ds, i ++ ids, m)
   | none => none
  | _, _ => none
 | .p j :: ks, v :: vs, m => match v with
  | .ptr id 0 => match look m j with
   | some i => match Nat.beq i id with
    | true => takeCells lk ks vs m
    | false => none
   | none => takeCells lk ks vs ((j, id) :: m)
  | _ => none
 | _, _, _ => none
def takeBoxes (lk : Nat → Option AObj) : List (List CK) → Nat → List (Nat × Nat) → Option (List (List TV) × List Nat × List (Nat × Nat))
 | [], _, m => some ([], [], m)
 | ks :: sh, k, m => match look m k with
  | some id => match lk id with
   | some (.box cs) => match takeCells lk ks cs m with
    | some (ds, i, m) => match takeBoxes lk sh (k + 1) m with
     | some (dss, ids, m) => some (ds :: dss, i ++ ids, m)
     | none => none
    | none => none
   | _ => none
  | none => none
def onlyB (lk : Nat → Option AObj) (ids : List Nat) (id : Nat) : Option AObj := match ids.contains id with
 | true => none
 | false => match lk id with
  | some (.box cs) => some (.box cs)
  | _ => none
def Arg.noClo : Arg → Bool
 | .clo _ => false
 | _ => true
def sArgs (E : Env) (lk : Nat → Option AObj) : List (Option Nat) → List TypeId → List AV → Option (List Arg)
 | [], [], [] => some []
 | some k :: fl, _ :: Ts, _ :: vs => match sArgs E lk fl Ts vs with
  | some r => some (.box k :: r)
  | none => none
 | none :: fl, T :: Ts, v :: vs => match argOf E lk T v with
  | some x => match x.noClo, sArgs E lk fl Ts vs with
   | true, some r => some (x :: r)
   | _, _ => none
  | none => none
 | _, _, _ => none
def newCells (m : List (Nat × Nat)) : List CK → List AV → List TV → Nat → Option (List AV × List (Nat × AObj) × Nat)
 | [], [], [], n => some ([], [], n)
 | .d τ :: ks, _ :: cs, v :: ds, n => match decide (v.τ = τ) with
  | true => match newCells m ks cs ds n with
   | some (r, os, n) => some (.imm v :: r, os, n)
   | none => none
  | false => none
 | .o τ :: ks, _ :: cs, v :: ds, n => match decide (v.τ = τ) with
  | true => match newCells m ks cs ds (n + 1) with
   | some (r, os, n') => some (ownCell n v :: r, ownObj n v ++ os, n')
   | none => none
  | false => none
 | .p j :: ks, c :: cs, ds, n => match c with
  | .ptr id 0 => match look m j with
   | some i => match Nat.beq i id, newCells m ks cs ds n with
    | true, some (r, os, n) => some (.ptr id 0 :: r, os, n)
    | _, _ => none
   | none => none
  | _ => none
 | _, _, _, _ => none
def newBoxes (lk : Nat → Option AObj) (m : List (Nat × Nat)) : List (List CK) → Nat → List (List TV) → Nat → Option (List (Nat × AObj) × List (Nat × AObj))
 | [], _, [], _ => some ([], [])
 | ks :: sh, k, ds :: dss, n => match look m k with
  | some id => match lk id with
   | some (.box cs) => match newCells m ks cs ds n with
    | some (r, os, n) => match newBoxes lk m sh (k + 1) dss n with
     | some (bs, ts) => some ((id, .box r) :: bs, os ++ ts)
     | none => none
    | none => none
   | _ => none
  | none => none
 | _, _, _, _ => none
def dropObjs : List Nat → List (Nat × AObj) → List (Nat × AObj)
 | [], os => os
 | id :: r, os => dropObjs r (dropObj id os)
def sop (E : Env) (s : AState) (o : Oper) : Option (Vc × AState) :=
 match o.dst with
 | some d => match o.op with
  | .call c => match c.callee with
   | .value (.func f) => match E.sk f with
    | some sk => match bindArgs sk.ps (c.args.toList.map s.eval) [] with
     | some m0 => match takeBoxes s.look sk.sh 0 m0 with
      | some (dss, ids, m) => match nodupB ids && (nodupB (m.map (·.1)) && (nodupB (m.map (·.2)) && Nat.beq m.length sk.sh.length)) with
       | true => match sArgs E (onlyB (ids.foldl AState.gone s).look (m.map (·.2))) sk.ps c.argTypes.toList (c.args.toList.map (ids.foldl AState.gone s).eval) with
        | some as => match E.sctr f as dss with
         | some (pre, res, dss') => match newBoxes (ids.foldl AState.gone s).look m sk.sh 0 dss' (newId d + 60) with
          | some (bs, ts) => match ((ownValsObjs (newId d) res ++ ts).all fun p => ((ids.foldl AState.gone s).look p.1).isNone) && nodupB ((ownValsObjs (newId d) res ++ ts).map (·.1)) with
           | true => some (pre, { slots := (ids.foldl AState.gone s).slots.set d (ownAV (newId d) res), objs := bs ++ (ownValsObjs (newId d) res ++ ts) ++ dropObjs (m.map (·.2)) (ids.foldl AState.gone s).objs })
           | false => none
          | none => none
         | none => none
        | none => none
       | false => none
      | none => none
     | none => none
    | none => none
   | _ => none
  | _ => none
 | none => none
def known (v : AV) (K : Prop) : Prop :=
 match v with
 | .imm ⟨.int .i64, n⟩ => inI64 n → K
 | .imm ⟨.slice _, xs⟩ => xs.length ≤ 140737488355328 → K
 | .imm ⟨.str, xs⟩ => xs.length ≤ 140737488355328 → K
 | _ => K
def tells : Op → Bool
 | .load .. | .field .. | .index .. | .extract .. => true
 | .call c => match c.callee with
  | .builtin .append => false
  | _ => true
 | _ => false
def dstOk : Option Nat → Bool
 | none => true
 | some d => Nat.blt d 400000
def runOp (E : Env) (o : Oper) (K : AState → Prop) (s : AState) : Prop :=
 match dstOk o.dst with
 | false => False
 | true =>
 let s := (toFreeze E s o).foldl AState.freeze s
 match sop E s o with
 | some (vc, s') => vc.and (K s')
 | none => match bop E s o with
 | some (vc, s') => vc.and (K s')
 | none => match eop E s o with
 | some (vc, s') => vc.and (K s')
 | none => match oop E s o with
 | some (vc, s') => vc.and (K s')
 | none => match qop E s.look s.eval o with
  | some (vc, v, ob) => vc.and (match tells o.op with
   | true => known v (K (s.lay o.dst v ob))
   | false => K (s.lay o.dst v ob))
  | none => False
def guardSlot (ops : Array Oper) (g : Nat) : Option Nat := (ops[g]?).bind (·.dst)
def awpOps (E : Env) (ops : Array Oper) : List Oper → List (Nat × Bool) → (AState → Prop) → AState → Prop
 | [], _, Q, s => Q s
 | o :: r, kn, Q, s => match o.guard with
  | none => runOp E o (awpOps E ops r kn Q) s
  | some (g, want) => match guardSlot ops g with
   | none => False
   | some t => match look kn t with
    | some b => match s.eval (.tmp t) with
     | .imm ⟨.bool, b'⟩ => match b' == b, b == want with
      | true, true => runOp E o (awpOps E ops r kn Q) s
      | true, false => awpOps E ops r kn Q (s.put o.dst .undf)
      | false, _ => False
     | .undf => awpOps E ops r kn Q (s.put o.dst .undf)
     | _ => False
    | none => match s.eval (.tmp t) with
     | .imm ⟨.bool, b⟩ =>
      (b = want → runOp E o (awpOps E ops r ((t, want) :: kn) Q) (s.put (some t) (.imm ⟨.bool, want⟩))) ∧
      (b = !want → awpOps E ops r ((t, !want) :: kn) Q ((s.put (some t) (.imm ⟨.bool, !want⟩)).put o.dst .undf))
     | .undf => awpOps E ops r kn Q (s.put o.dst .undf)
     | _ => False
def edgeStep (acc : List Nat) (s : Nat) (e : Edge) : Nat :=
 match Region.binds .any e with
 | true => s ||| (1 <<< e.on ||| acc.getD e.on 0)
 | false => s
def ancGo : List Oper → List Nat → List Nat
 | [], acc => acc
 | o :: r, acc => ancGo r (acc ++ [o.after.toList.foldl (edgeStep acc) 0])
def splitGo : List Nat → Nat → Nat → Nat
 | [], _, m => m
 | b :: r, i, m => match Nat.beq (b + 1) (2 ^ i) with
  | true => splitGo r (i + 1) m
  | false => splitGo r (i + 1) (i + 1)
def dstOf (ops : List Oper) (k : Nat) : Option Nat := (ops[k]?).bind (·.dst)
def hidden (ops : List Oper) (m bits t : Nat) : Bool := (List.range m).any fun k => match dstOf ops k with
 | some d => match Nat.beq d t with
  | true => !Nat.testBit bits k
  | false => false
 | none => false
def evR (ops : List Oper) (m bits : Nat) (s : AState) : Operand → AV
 | .tmp t => match hidden ops m bits t with
  | true => .any
  | false => s.eval (.tmp t)
 | x => s.eval x
def lkR (ops : List Oper) (m bits : Nat) (s : AState) (id : Nat) : Option AObj := match hidden ops m bits id with
 | true => none
 | false => s.look id
def creator : Op → Bool
 | .alloc _ | .box .. | .buildSlice .. | .makeSlice .. | .makeMap .. => true
 | .call c => match c.callee with
  | .builtin .append => true
  | _ => false
 | _ => false
def AState.fresh (s : AState) (o : Oper) : AState :=
 match creator o.op, o.dst with
 | true, some d => let s' := s.sweep d
  { s' with objs := dropObj d s'.objs }
 | _, _ => s
def AState.layN (s : AState) (d : Option Nat) (v : AV) (o : Option AObj) : AState :=
 match d with
 | some d => { slots := s.slots.set d v, objs := match o with
  | some o => (d, o) :: s.objs
  | none => s.objs }
 | none => s
def runPre (E : Env) (ops : List Oper) (m bits : Nat) (o : Oper) (K : AState → Prop) (s : AState) : Prop :=
 match toFreeze E s o with
 | [] => match qop E (lkR ops m bits s) (evR ops m bits s) o with
  | some (vc, v, ob) => vc.and (K (s.layN o.dst v ob))
  | none => False
 | _ => False
def awpPre (E : Env) (ops : List Oper) (m : Nat) (anc : List Nat) : Nat → List Oper → List (Nat × Bool) → (List (Nat × Bool) → AState → Prop) → AState → Prop
 | _, [], kn, Q, s => Q kn s
 | i, o :: r, kn, Q, s => match o.guard with
  | none => runPre E ops m (anc.getD i 0) o (awpPre E ops m anc (i + 1) r kn Q) s
  | some (g, want) => match dstOf ops g, Nat.testBit (anc.getD i 0) g with
   | some t, true => match look kn t with
    | some b => match s.eval (.tmp t) with
     | .imm ⟨.bool, b'⟩ => match b' == b, b == want with
      | true, true => runPre E ops m (anc.getD i 0) o (awpPre E ops m anc (i + 1) r kn Q) s
      | true, false => awpPre E ops m anc (i + 1) r kn Q (s.put o.dst .undf)
      | false, _ => False
     | .undf => awpPre E ops m anc (i + 1) r kn Q (s.put o.dst .undf)
     | _ => False
    | none => match s.eval (.tmp t) with
     | .imm ⟨.bool, b⟩ =>
      (b = want → runPre E ops m (anc.getD i 0) o (awpPre E ops m anc (i + 1) r ((t, want) :: kn) Q) (s.put (some t) (.imm ⟨.bool, want⟩))) ∧
      (b = !want → awpPre E ops m anc (i + 1) r ((t, !want) :: kn) Q ((s.put (some t) (.imm ⟨.bool, !want⟩)).put o.dst .undf))
     | .undf => awpPre E ops m anc (i + 1) r kn Q (s.put o.dst .undf)
     | _ => False
   | _, _ => False
def distinct : List (Option Nat) → Bool
 | [] => true
 | none :: _ => false
 | some d :: r => match r.any fun x => match x with
   | some e => Nat.beq d e
   | none => false with
  | true => false
  | false => distinct r
def backward (ops : List Oper) : Bool := (List.range ops.length).all fun i => match ops[i]? with
 | some o => o.after.toList.all fun e => match Region.binds .any e with
  | true => Nat.blt e.on i
  | false => true
 | none => true
def knownAll (ops : List Oper) (s : AState) (K : Prop) : Prop :=
 match ops with
 | [] => K
 | o :: r => match tells o.op, o.dst with
  | true, some d => known (s.slots.getD d .any) (knownAll r s K)
  | _, _ => knownAll r s K
def isCut (anc : List Nat) (p : Nat) : Bool := (anc.drop p).all fun b => Nat.beq (b % 2 ^ p) (2 ^ p - 1)
def cutsOf (anc : List Nat) : List Nat → List Nat
 | [] => []
 | p :: r => match isCut anc p with
  | true => p :: cutsOf anc r
  | false => cutsOf anc r
def distinctS : List (Option Nat) → Bool
 | [] => true
 | none :: r => distinctS r
 | some d :: r => match r.any fun x => match x with
   | some e => Nat.beq d e
   | none => false with
  | true => false
  | false => distinctS r
def freshDs (l : List Oper) (lo hi : Nat) : Bool :=
 (((l.take hi).drop lo).all fun o => dstOk o.dst) && distinctS (((l.take hi).drop lo).map (·.dst)) && (l.take lo).all fun o => match o.dst with
  | none => true
  | some d => !(((l.take hi).drop lo).any fun p => match p.dst with
   | some e => Nat.beq d e
   | none => false)
def Oper.alone (E : Env) (o : Oper) : Bool := match o.op with
 | .store .. | .mapUpdate .. | .insert .. => true
 | _ => match o.dst with
  | some d => E.own.contains d
  | none => false
def tvEq (u v : TV) : Prop := match u.as v.τ with
 | some x => x = v.x
 | none => False
def opnds : Op → Option (List Operand)
 | .move x | .assign x | .nilCheck x | .fieldAddr _ x _ | .load _ x | .box _ x | .extract x _ => some [x]
 | .indexAddr _ x i | .store _ x i | .lookup _ x i _ => some [x, i]
 | .mapUpdate _ m k x | .insert _ m k x => some [m, k, x]
 | .makeMap _ none => some []
 | .alloc _ => some []
 | .build _ ps => some (ps.toList.map (·.2))
 | .buildSlice _ _ ps => some (ps.toList.map (·.2))
 | .call c => match c.callee with
  | .value f => some (f :: c.args.toList)
  | .builtin _ => some c.args.toList
  | _ => none
 | _ => none
def usesOk (D : List Nat) (o : Oper) : Bool := match opnds o.op with
 | some l => l.all fun x => match x with
  | .tmp t => !D.contains t
  | _ => true
 | none => false
def reads : Op → Bool
 | .move _ | .nilCheck _ | .fieldAddr .. | .load .. | .indexAddr .. => true
 | _ => false
def rop (E : Env) (s : AState) (o : Oper) : Option (Vc × AV) := match reads o.op with
 | true => match qop E s.look s.eval o with
  | some (vc, v, none) => some (vc, v)
  | _ => none
 | false => none
def avSame1 : AV → AV → Prop
 | .imm v, .imm u => tvEq v u
 | .pimm v, .pimm u => tvEq v u
 | .tree i, .tree j => i = j
 | .row i, .row j => i = j
 | .ptr i p, .ptr j q => i = j ∧ p = q
 | .nil, .nil => True
 | _, _ => False
def avSameL : List AV → List AV → Prop
 | [], [] => True
 | a :: as, b :: bs => avSame1 a b ∧ avSameL as bs
 | _, _ => False
def avSame (a b : AV) : Prop := match a, b with
 | .agg as, .agg bs => avSameL as bs
 | a, b => avSame1 a b
def sameReads (E : Env) : List (Nat × Oper) → AState → Prop → Prop
 | [], _, K => K
 | r :: rs, s, K => match r.2.dst, rop E s r.2 with
  | some d, some (vc, v) => vc.and (avSame v (s.slots.getD d .any) ∧ sameReads E rs s K)
  | _, _ => False
def awpMixR (E : Env) : List (Nat × Oper) → (AState → Prop) → AState → Prop
 | [], K, s => K s
 | r :: rs, K, s => match r.2.dst, rop E s r.2 with
  | some d, some (vc, v) => vc.and (known v (awpMixR E rs K (s.put (some d) v)))
  | _, _ => False
def dstsOf (R : List (Nat × Oper)) : List Nat := R.filterMap fun r => r.2.dst
def isAlloc : Op → Bool
 | .alloc _ => true
 | _ => false
def isExtract : Op → Bool
 | .extract .. => true
 | _ => false
def isLazy (op : Op) : Bool := isAlloc op || isExtract op
def lazyDs (X : List (Nat × Oper)) : List Nat := X.filterMap fun x => match isLazy x.2.op with
 | true => x.2.dst
 | false => none
def canExtract (s : AState) : Op → Bool
 | .extract t i => match s.eval t with
  | .tup vs => Nat.blt i vs.length
  | _ => false
 | _ => true
def lazyOk (anc : List Nat) (X : List (Nat × Oper)) (s : AState) : Bool := X.all fun e => canExtract s e.2.op || X.any fun y => !isLazy y.2.op && Nat.testBit (anc.getD e.1 0) y.1
def insLate (anc : List Nat) (x : Nat × Oper) : List (Nat × Oper) → List (Nat × Oper)
 | [] => [x]
 | y :: ys => match Nat.testBit (anc.getD y.1 0) x.1 with
  | true => x :: y :: ys
  | false => y :: insLate anc x ys
def lateX (anc : List Nat) : List (Nat × Oper) → List (Nat × Oper)
 | [] => []
 | x :: xs => match isLazy x.2.op with
  | true => insLate anc x (lateX anc xs)
  | false => x :: lateX anc xs
def allocOk (E : Env) (o : Oper) : Bool := match o.op with
 | .alloc T => o.dst.isSome && (dstOk o.dst && (look E.ty T).isSome)
 | .extract .. => o.dst.isSome
 | _ => true
def awpMixX (E : Env) (anc : List Nat) : List (Nat × Oper) → List (Nat × Oper) → (AState → Prop) → AState → Prop
 | _, [], K, s => K s
 | R, x :: xs, K, s => match lazyOk anc (x :: xs) s && (usesOk (dstsOf (R.filter fun r => !Nat.testBit (anc.getD x.1 0) r.1) ++ lazyDs xs) x.2 && xs.all fun y => isLazy y.2.op || Nat.testBit (anc.getD y.1 0) x.1) with
  | true => runOp E x.2 (fun s' => sameReads E (R.filter fun r => !Nat.testBit (anc.getD x.1 0) r.1) s' (awpMixX E anc (R.filter fun r => !Nat.testBit (anc.getD x.1 0) r.1) xs K s')) s
  | false => False
def placed : Nat → List Oper → List (Nat × Oper)
 | _, [] => []
 | i, o :: r => (i, o) :: placed (i + 1) r
def readsR (anc : List Nat) (seg : List (Nat × Oper)) (r : Nat × Oper) : Bool :=
 reads r.2.op && seg.all fun y => reads y.2.op || !Nat.testBit (anc.getD r.1 0) y.1
def mixOk (E : Env) (anc : List Nat) (seg : List (Nat × Oper)) : Bool :=
 (seg.all fun r => r.2.guard.isNone && allocOk E r.2) && seg.all fun r => !(readsR anc seg r || isExtract r.2.op) || usesOk (dstsOf (seg.filter fun y => !Nat.testBit (anc.getD r.1 0) y.1) ++ bif isExtract r.2.op then lazyDs seg else []) r.2
def awpMix (E : Env) (anc : List Nat) (seg : List (Nat × Oper)) (K : AState → Prop) (s : AState) : Prop :=
 match mixOk E anc seg with
 | true => awpMixR E (seg.filter (readsR anc seg)) (fun s' => sameReads E (seg.filter (readsR anc seg)) s' (awpMixX E anc (seg.filter (readsR anc seg)) (lateX anc (seg.filter fun r => !readsR anc seg r)) K s')) s
 | false => False
def awpSegs (E : Env) (ops : Array Oper) (l : List Oper) (anc : List Nat) : List Nat → Nat → List (Nat × Bool) → (AState → Prop) → AState → Prop
 | [], lo, _, Q, s => match Nat.beq lo l.length with
  | true => Q s
  | false => False
 | hi :: r, lo, kn, Q, s => match isCut anc hi && (isCut anc lo && (Nat.blt lo hi && Nat.ble hi l.length)) with
  | true => match Nat.beq hi (lo + 1) with
   | true => awpOps E ops ((l.take hi).drop lo) kn (awpSegs E ops l anc r hi kn Q) s
   | false => match freshDs l lo hi, ((l.take hi).drop lo).any (Oper.alone E) with
    | true, true => awpMix E anc (placed lo ((l.take hi).drop lo)) (awpSegs E ops l anc r hi kn Q) s
    | true, false => awpPre E l hi anc lo ((l.take hi).drop lo) kn (fun kn s => knownAll ((l.take hi).drop lo) s (awpSegs E ops l anc r hi kn Q s)) (((l.take hi).drop lo).foldl AState.fresh s)
    | false, _ => False
  | false => False
def awpFree (E : Env) (ops : Array Oper) (Q : AState → Prop) (s : AState) : Prop :=
 let l := ops.toList
 let anc := ancGo l []
 let m := splitGo anc 0 0
 match ((l.take m).all fun o => dstOk o.dst) && (distinct ((l.take m).map (·.dst)) && backward l) with
 | true => awpPre E l m anc 0 (l.take m) [] (fun kn s => knownAll (l.take m) s (awpOps E ops (l.drop m) kn Q s)) ((l.take m).foldl AState.fresh s)
 | false => False
def awpDraw (E : Env) (ops : Array Oper) (Q : AState → Prop) (s : AState) : Prop :=
 let l := ops.toList
 let anc := ancGo l []
 match (l.take (splitGo anc 0 0)).any (Oper.alone E) with
 | false => awpFree E ops Q s
 | true => match backward l with
  | true => awpSegs E ops l anc (cutsOf anc ((List.range l.length).map (· + 1))) 0 [] Q s
  | false => False
inductive LoopInv : Type 1 where
 | none
 | mk (ι : Type) (P : ι → Prop) (μ : ι → Nat) (fz dead : List Nat) (ins : ι → List (Nat × AV)) (keep : List Nat) (os : ι → List (Nat × AObj)) (ren0 ren : List (Nat × Nat)) (sub : ι → Nat → LoopInv)
def Code.asg : Code → List Nat
 | .region _ ops _ => ops.toList.filterMap (·.dst)
 | .seq a b => Code.asg a ++ Code.asg b
 | .cond _ a b => Code.asg a ++ Code.asg b
 | .block _ c => Code.asg c
 | .loop c => Code.asg c
 | .scope c => Code.asg c
 | _ => []
def Code.first : Code → Option Nat
 | .region id _ _ => some id
 | .seq a _ => Code.first a
 | .block _ c => Code.first c
 | .loop c => Code.first c
 | _ => none
def Code.joinAt (Λ : Nat → LoopInv) (b : Code) : LoopInv := match Code.first b with
 | some r => Λ (r + 100000)
 | none => .none
def setAll (sl : List AV) : List (Nat × AV) → List AV
 | [] => sl
 | (t, v) :: r => setAll (sl.set t v) r
def keepObjs (keep : List Nat) : List (Nat × AObj) → List (Nat × AObj)
 | [] => []
 | (k, o) :: r => match keep.contains k with
  | true => (k, o) :: keepObjs keep r
  | false => keepObjs keep r
def headState (s : AState) (asg : List Nat) (ins : List (Nat × AV)) (keep : List Nat) (os : List (Nat × AObj)) : AState :=
 { slots := setAll (asg.foldl (fun l t => l.set t .any) s.slots) ins, objs := os ++ keepObjs keep s.objs }
def renOf (ρ : List (Nat × Nat)) (id : Nat) : Nat := match look ρ id with
 | some k => k
 | none => id
def isRow : Option AObj → Bool
 | some (.row ..) => true
 | _ => false
def isBox : Option AObj → Bool
 | some (.box _) => true
 | _ => false
def isMap : Option AObj → Bool
 | some (.map _) => true
 | _ => false
def AV.fit1 (ρ : List (Nat × Nat)) (s t : AState) (a b : AV) : Prop :=
 match b with
 | .any => True
 | .imm v => match a with
  | .imm u => tvEq u v
  | .nil => match v with
   | ⟨.slice _, xs⟩ => xs = []
   | _ => False
  | _ => False
 | .nil => match a with
  | .nil => True
  | _ => False
 | .pimm v => match a with
  | .pimm u => tvEq u v
  | _ => False
 | .ptr id off => match a with
  | .ptr i o => match Nat.beq i (renOf ρ id) && Nat.beq o off && isBox (t.look id) with
   | true => True
   | false => False
  | _ => False
 | .row id => match a with
  | .row i => match Nat.beq i (renOf ρ id) && isRow (t.look id) with
   | true => True
   | false => False
  | .nil => match isRow (t.look id), s.look (renOf ρ id) with
   | true, Option.none => True
   | _, _ => False
  | _ => False
 | .tree id => match a with
  | .tree i => match Nat.beq i (renOf ρ id) && isTree (t.look id) with
   | true => True
   | false => False
  | .nil => match isTree (t.look id), s.look (renOf ρ id) with
   | true, Option.none => True
   | _, _ => False
  | _ => False
 | .fn f => match a with
  | .fn g => match Nat.beq f g with
   | true => True
   | false => False
  | _ => False
 | .mp id => match a with
  | .mp i => match Nat.beq i (renOf ρ id) && isMap (t.look id) with
   | true => True
   | false => False
  | _ => False
 | _ => False
def fitL (ρ : List (Nat × Nat)) (s t : AState) : List AV → List AV → Prop
 | [], [] => True
 | a :: as, b :: bs => match b with
  | .any => fitL ρ s t as bs
  | b => AV.fit1 ρ s t a b ∧ fitL ρ s t as bs
 | _, _ => False
def AV.fit0 (ρ : List (Nat × Nat)) (s t : AState) (a b : AV) : Prop :=
 match a, b with
 | .agg as, .agg bs => fitL ρ s t as bs
 | a, b => AV.fit1 ρ s t a b
def fitC (ρ : List (Nat × Nat)) (s t : AState) : List AV → List AV → Prop
 | [], [] => True
 | a :: as, b :: bs => match b with
  | .any => fitC ρ s t as bs
  | b => AV.fit0 ρ s t a b ∧ fitC ρ s t as bs
 | _, _ => False
def fnEq (u v : FV) : Prop := match u.as v.ps v.r with
 | some F => F = v.F
 | none => False
def AV.fit (ρ : List (Nat × Nat)) (s t : AState) (a b : AV) : Prop :=
 match a, b with
 | .clo f as, .clo g bs => match Nat.beq f g with
  | true => fitC ρ s t as bs
  | false => False
 | .fun_ u, .fun_ v => fnEq u v
 | .agg as, .agg bs => fitL ρ s t as bs
 | .agg as, .imm v => match asT (fun _ => none) v.τ (.agg as) with
  | some x => x = v.x
  | none => False
 | a, b => AV.fit1 ρ s t a b
def fitSlots (ρ : List (Nat × Nat)) (s t : AState) : List AV → List AV → Prop
 | [], [] => True
 | a :: as, b :: bs => match b with
  | .any => fitSlots ρ s t as bs
  | b => AV.fit ρ s t a b ∧ fitSlots ρ s t as bs
 | _, _ => False
def toO (x : GExpr) : GOExpr := ⟨x.kind, x.num, some x.kids⟩
def treeEq (τ' : Ty) (ys : List τ'.den) (τ : Ty) (xs : List τ.den) : Prop :=
 match decide (τ = .st .oExpr), decide (τ' = .st .expr) with
 | true, true => tvEq ⟨.slice (.st .oExpr), ((show Option (List GExpr) from TV.as (.slice (.st .expr)) ⟨.slice τ', ys⟩).getD []).map toO⟩ ⟨.slice τ, xs⟩
 | _, _ => tvEq ⟨.slice τ', ys⟩ ⟨.slice τ, xs⟩
def mapEq (a b : MV) : Prop := match a.as b.κ b.ε with
 | some (f, n) => f = b.f ∧ n = b.n
 | none => False
def fitObjs (ρ : List (Nat × Nat)) (s t : AState) : List (Nat × AObj) → Prop
 | [] => True
 | (id, .box bs) :: r => match s.look (renOf ρ id) with
  | some (.box as) => fitL ρ s t as bs ∧ fitObjs ρ s t r
  | _ => False
 | (id, .row e τ xs) :: r => match s.look (renOf ρ id) with
  | some (.row e' τ' ys) => match Nat.beq e e' with
   | true => tvEq ⟨.slice τ', ys⟩ ⟨.slice τ, xs⟩ ∧ fitObjs ρ s t r
   | false => False
  | Option.none => xs = [] ∧ fitObjs ρ s t r
  | _ => False
 | (id, .tree τ xs) :: r => match s.look (renOf ρ id) with
  | some (.tree τ' ys) => treeEq τ' ys τ xs ∧ fitObjs ρ s t r
  | Option.none => xs = [] ∧ fitObjs ρ s t r
  | _ => False
 | (id, .map m) :: r => match s.look (renOf ρ id) with
  | some (.map m') => mapEq m' m ∧ fitObjs ρ s t r
  | _ => False
def Fits (ρ : List (Nat × Nat)) (s t : AState) : Prop :=
 match (nodupB (t.objs.map (·.1)) && nodupB (t.objs.map fun p => renOf ρ p.1)) && t.objs.all (fun p => Nat.blt p.1 50 || (Nat.ble 100 p.1 || (Nat.beq (renOf ρ p.1) p.1 && isTree (s.look p.1)))) && t.objs.all (fun p => Nat.blt p.1 400000 || (!isBox (some p.2) || (Nat.beq (renOf ρ p.1) p.1 && isBox (s.look p.1)))) with
 | true => fitSlots ρ s t s.slots t.slots ∧ fitObjs ρ s t t.objs
 | false => False
def pair1 (ρ : List (Nat × Nat)) (a b : AV) : List (Nat × Nat) := match b with
 | .tree k => match a with
  | .tree i => match Nat.beq i (renOf ρ k) with
   | true => []
   | false => [(k, i)]
  | _ => []
 | _ => []
def pairL (ρ : List (Nat × Nat)) : List AV → List AV → List (Nat × Nat)
 | a :: as, b :: bs => pair1 ρ a b ++ pairL ρ as bs
 | _, _ => []
def pairV (ρ : List (Nat × Nat)) (a b : AV) : List (Nat × Nat) := match b with
 | .agg bs => match a with
  | .agg as => pairL ρ as bs
  | _ => []
 | b => pair1 ρ a b
def pairSlots (ρ : List (Nat × Nat)) : List AV → List AV → List (Nat × Nat)
 | a :: as, b :: bs => pairV ρ a b ++ pairSlots ρ as bs
 | _, _ => []
def pairObjs (ρ : List (Nat × Nat)) (s : AState) : List (Nat × AObj) → List (Nat × Nat)
 | [] => []
 | (id, .box bs) :: r => match s.look (renOf ρ id) with
  | some (.box as) => pairL ρ as bs ++ pairObjs ρ s r
  | _ => pairObjs ρ s r
 | _ :: r => pairObjs ρ s r
def forceL : List (Nat × Nat) → (List (Nat × Nat) → Prop) → Prop
 | [], K => K []
 | (a, b) :: r, K => forceL r fun r' => K ((a, b) :: r')
theorem forceL_spec : ∀ {l : List (Nat × Nat)} {K : List (Nat × Nat) → Prop}, forceL l K → K l
 | [], _, h => h
 | (a, b) :: r, K, h => forceL_spec (l := r) (K := fun r' => K ((a, b) :: r')) h
def FitsA (ρ : List (Nat × Nat)) (s t : AState) : Prop := forceL (pairObjs ρ s t.objs ++ pairSlots ρ s.slots t.slots) fun r => Fits (r ++ ρ) s t
theorem FitsA.ex {ρ : List (Nat × Nat)} {s t : AState} (h : FitsA ρ s t) : ∃ r, Fits (r ++ ρ) s t := ⟨_, forceL_spec h⟩
def awp (E : Env) : Code → (Nat → LoopInv) → Nat → (Exit → AState → Prop) → AState → Prop
 | .skip, _, _, Q, s => Q .normal s
 | .region _ ops draw, _, _, Q, s => match draw with
  | true => awpDraw E ops (Q .normal) s
  | false => awpOps E ops ops.toList [] (Q .normal) s
 | .seq a b, Λ, cur, Q, s => match Code.joinAt Λ b with
  | .none => awp E a Λ cur (fun e s' => match e with
   | .normal => awp E b Λ cur Q s'
   | e => Q e s') s
  | .mk ι P _ fz dead ins keep os ren0 _ sub =>
   let asg := dead ++ Code.asg a
   awp E a Λ cur (fun e s' => match e with
    | .normal => ∃ j : ι, P j ∧ FitsA ren0 (fz.foldl AState.freeze s') (headState s asg (ins j) keep (os j))
    | e => Q e s') s ∧
   ∀ i : ι, P i → awp E b (sub i) cur Q (headState s asg (ins i) keep (os i))
 | .cond c a b, Λ, cur, Q, s => match s.eval c with
  | .imm ⟨.bool, t⟩ => (t = true → awp E a Λ cur Q s) ∧ (t = false → awp E b Λ cur Q s)
  | _ => False
 | .block id c, Λ, _, Q, s => awp E c Λ id (fun e s' => match e with
  | .exit i => match Nat.beq i id with
   | true => Q .normal s'
   | false => Q (.exit i) s'
  | e => Q e s') s
 | .loop c, Λ, cur, Q, s => match Λ cur with
  | .none => False
  | .mk ι P μ fz dead ins keep os ren0 ren sub =>
   let asg := dead ++ Code.asg c
   (∃ i : ι, P i ∧ FitsA ren0 (fz.foldl AState.freeze s) (headState s asg (ins i) keep (os i))) ∧
   ∀ i : ι, P i → awp E c (sub i) cur (fun e s' => match e with
    | .normal => ∃ j : ι, P j ∧ μ j < μ i ∧ FitsA ren (fz.foldl AState.freeze s') (headState s asg (ins j) keep (os j))
    | e => Q e s') (headState s asg (ins i) keep (os i))
 | .exit id, _, _, Q, s => Q (.exit id) s
 | .ret, _, _, Q, s => Q .ret s
 | .label _, _, _, Q, s => Q .normal s
 | _, _, _, _, _ => False
def resOf (E : Env) (s : AState) : List ResultVar → List TypeId → Option (List TV)
 | [], [] => some []
 | r :: rs, T :: Ts => match look E.ty T with
  | some (τ, _) => match (match r with
    | .tmp t => asT (noTr s.look) τ (s.eval (.tmp t))
    | .cell a t => match Nat.beq t T with
     | true => deref (noTr s.look) τ (s.eval (.tmp a))
     | false => none) with
   | some x => match resOf E s rs Ts with
    | some l => some (⟨τ, x⟩ :: l)
    | none => none
   | none => none
  | none => none
 | _, _ => none
def argAV : Arg → AV
 | .val v => .imm v
 | .ref v => .pimm v
 | .fn f => .fn f
 | .clo v => .fun_ v
 | .own _ => .any
 | .box _ => .any
def startState (fn : Func) (args : List Arg) : AState :=
 { slots := args.map argAV ++ List.replicate (fn.ntmps - args.length) .any, objs := [] }
def startOwn : Nat → List Arg → AState → AState
 | _, [], s => s
 | p, .own v :: r, s => startOwn (p + 1) r { slots := s.slots.set p (ownVal (1000000 + 100 * p) v), objs := ownObjs (1000000 + 100 * p) v.cells ++ s.objs }
 | p, _ :: r, s => startOwn (p + 1) r s
def startO (fn : Func) (args : List Arg) : AState := startOwn 0 args (startState fn args)
def funPost (E : Env) (fn : Func) (post : List TV → Prop) (e : Exit) (s : AState) : Prop :=
 match e with
 | .ret | .normal => match resOf E s fn.results.toList fn.resultTypes.toList with
  | some vs => post vs
  | none => False
 | _ => False
def areEq : List TV → List TV → Prop
 | [], [] => True
 | [v], [u] => tvEq v u
 | v :: vs, u :: us => tvEq v u ∧ areEq vs us
 | _, _ => False
end
end Go.Proofs.YtkogipcdjalehaaDoor
