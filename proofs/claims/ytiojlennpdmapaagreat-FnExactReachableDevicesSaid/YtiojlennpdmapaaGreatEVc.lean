/-
  THE EVALUATOR's KIT, third part: the evaluator: what a code does to a symbolic state, as a term in Option. Definitions only; any program.
-/
import Derived.Test.YtiojlennpdmapaaGreatEVb
set_option linter.unusedVariables false
set_option linter.unusedSimpArgs false
namespace Go.EV
open Go.RowKit Go.VK
noncomputable section

/-! ### Lists, types -/
def nth {α : Type} (l : List α) : Nat → Option α := List.rec (motive := fun _ => Nat → Option α) (fun _ => none) (fun x _ ih n => Nat.rec (motive := fun _ => Option α) (some x) (fun m _ => ih m) n) l
def upd {α : Type} (l : List α) : Nat → α → List α := List.rec (motive := fun _ => Nat → α → List α) (fun _ _ => []) (fun x t ih n y => Nat.rec (motive := fun _ => List α) (y :: t) (fun m _ => x :: ih m y) n) l
def drp {α : Type} (l : List α) : Nat → List α := List.rec (motive := fun _ => Nat → List α) (fun _ => []) (fun x t ih n => Nat.rec (motive := fun _ => List α) (x :: t) (fun m _ => ih m) n) l
def tk {α : Type} (l : List α) : Nat → List α := List.rec (motive := fun _ => Nat → List α) (fun _ => []) (fun x _ ih n => Nat.rec (motive := fun _ => List α) [] (fun m _ => x :: ih m) n) l
def len {α : Type} (l : List α) : Nat := List.rec (motive := fun _ => Nat) 0 (fun _ _ ih => Nat.succ ih) l
def fnd {α : Type} (l : List (Nat × α)) (n : Nat) : Option α := List.rec (motive := fun _ => Option α) none (fun x _ ih => cond (Nat.beq x.1 n) (some x.2) ih) l

inductive Kz where
  | int (k : IntKind)
  | bool
  | str
  | nil
def Kz.v : Kz → V
  | .int k => .int k 0
  | .bool => .bool false
  | .str => .str ⟨#[]⟩
  | .nil => .nil
inductive UT where
  | int (k : IntKind)
  | bool
  | str
  | sl (e ek eb : Nat)
  | st (fs : List (Nat × Nat × Nat))
structure TInfo where
  u : UT
  k : Nat
  z : List Kz
inductive Kd where
  | int (k : IntKind)
  | bool
  | str
  | sl (τ : Nat)
  | st (T : Nat)

variable {U : Uni}
def Kz.lf : Kz → Lf U
  | .int k => .int k (0 : Int)
  | .bool => .bool false
  | .str => .str (⟨#[]⟩ : ByteArray)
  | .nil => .nil
def Kd.ty (U : Uni) : Kd → Type
  | .int _ => Int
  | .bool => Bool
  | .str => ByteArray
  | .sl τ => List (U.El τ)
  | .st T => U.El T
def Tup (U : Uni) : List Kd → Type
  | [] => Unit
  | [k] => k.ty U
  | k :: k' :: ks => k.ty U × Tup U (k' :: ks)

/-- Contracts: kinds of the arguments and of the results, whether the result is fresh, whether the function writes its first argument (then the first result is what that is behind), the model. -/
structure Sum (U : Uni) where
  ar : List Kd
  rs : List Kd
  fr : Bool
  wt : Bool
  m : Tup U ar → Option (Tup U rs)

/-! ### Reading data out of a state -/
def slq (τ τ' : Nat) (l : List (U.El τ')) : Option (List (U.El τ)) := if h : τ' = τ then some (h ▸ l) else none
def okv (m : Mm U) (i c : Nat) : Bool := match nth m.o i with
  | some e => Nat.beq e.cv c
  | none => false
/-- A counter as the int or the bool that it is. -/
def rsv (ns : List (Nat × Bool)) : Lf U → Lf U
  | .nat a => match nth ns a with | some (i, _) => .int .i64 (i : Int) | none => .any
  | .lt a m => match nth ns a with | some (i, _) => .bool (decide ((i : Int) < m)) | none => .any
  | x => x
def rdl (m : Mm U) : Lf U → Option (Lf U)
  | .int k n => some (.int k n)
  | .bool b => some (.bool b)
  | .str s => some (.str s)
  | .sl τ l => some (.sl τ l)
  | .nat a => match nth m.ns a with | some (i, _) => some (.int .i64 (i : Int)) | none => none
  | .lt a n => match nth m.ns a with | some (i, _) => some (.bool (decide ((i : Int) < n))) | none => none
  | .own i r => match nth m.o i with
    | some ⟨.tree τ _ l, rv, _⟩ => bif Nat.beq rv r then some (.sl τ l) else none
    | _ => none
  | .bor i c τ l => bif okv m i c then some (.sl τ l) else none
  | .inn i c _ _ _ _ τ' l => bif okv m i c then some (.sl τ' l) else none
  | _ => none
def rdn (m : Mm U) (kd : Kd) : Lf U → Option (Lf U)
  | .nil => match kd with | .sl τ => some (.sl τ []) | _ => none
  | x => rdl m x
def rds (m : Mm U) : List Kd → List (Lf U) → Option (List (Lf U))
  | [], [] => some []
  | kd :: ks, x :: xs => match rdn m kd x with
    | some y => match rds m ks xs with
      | some ys => some (y :: ys)
      | none => none
    | none => none
  | _, _ => none
def lfTy : (kd : Kd) → Lf U → Option (kd.ty U)
  | .int k, .int k' n => if k' = k then some n else none
  | .bool, .bool b => some b
  | .str, .str s => some s
  | .sl τ, .sl τ' l => slq τ τ' l
  | _, _ => none

/-- The data's layout, with the kinds of the cells, and the type of bytes. -/
structure Lay (U : Uni) where
  C : Cod U
  kd : Nat → List Kd
  bt : Nat
  be : Int → U.El bt
  bi : U.El bt → Int
  hb : ∀ x, C.cel bt x = [.int .u8 (bi x)]
  hbe : ∀ n, bi (be n) = n
/-- Bytes as a string. -/
def bstr (ns : List Int) : ByteArray := ns.foldl (fun r n => r.push (UInt8.ofNat n.toNat)) ByteArray.empty

variable (Y : Lay U)
def svTy (m : Mm U) : (kd : Kd) → Sv U → Option (kd.ty U)
  | .st T, .a cs => match rds m (Y.kd T) cs with
    | some ds => Y.C.bld T ds
    | none => none
  | kd, .l x => match rdn m kd x with
    | some y => lfTy kd y
    | none => none
  | _, _ => none
def svsTy (m : Mm U) : (ks : List Kd) → List (Sv U) → Option (Tup U ks)
  | [], [] => some ()
  | [k], [x] => svTy Y m k x
  | k :: k' :: ks, x :: xs => match svTy Y m k x with
    | some a => match svsTy m (k' :: ks) xs with
      | some b => some (a, b)
      | none => none
    | none => none
  | _, _ => none

def toLf : (kd : Kd) → kd.ty U → Lf U
  | .int k, n => .int k n
  | .bool, b => .bool b
  | .str, s => .str s
  | .sl τ, l => .sl τ l
  | .st _, _ => .any
def toCp : (kd : Kd) → kd.ty U → Bool × List (Lf U)
  | .st T, x => (true, Y.C.cel T x)
  | .int k, n => (false, [.int k n])
  | .bool, b => (false, [.bool b])
  | .str, s => (false, [.str s])
  | .sl τ, l => (false, [.sl τ l])
def toCps : (ks : List Kd) → Tup U ks → List (Bool × List (Lf U))
  | [], _ => []
  | [k], x => [toCp Y k x]
  | k :: k' :: ks, x => toCp Y k x.1 :: toCps (k' :: ks) x.2
def cpSv : Bool × List (Lf U) → Sv U
  | (true, cs) => .a cs
  | (false, [x]) => .l x
  | _ => .l .any
def cpsSv : List (Bool × List (Lf U)) → Sv U
  | [x] => cpSv x
  | xs => .t xs

/-! ### Operands and operations that only compute or read -/
def inR64 (k : IntKind) (n : Int) : Bool := decide (k.min ≤ n) && decide (n ≤ k.max)
def conSv : Value → Sv U
  | .int k n => bif inR64 k n then .l (.int k n) else .l .any
  | .bool b => .l (.bool b)
  | .string s => bif Nat.ble (len s.data.toList) 1000 then .l (.str s) else .l .any
  | .slice none 0 0 => .l .nil
  | _ => .l .any
/-- A slot's value as it stands; counters stay counters. -/
def opr (s : St U) : Operand → Sv U
  | .tmp n => match nth s.t n with | some x => x | none => .l .any
  | .const v => conSv v
  | _ => .l .any
def opd (s : St U) (x : Operand) : Sv U := match opr s x with
  | .l y => .l (rsv s.m.ns y)
  | y => y

variable (TI : List (Nat × TInfo))
/-- Two integers of one kind. -/
def binI (b : BinOp) (k : IntKind) (m n : Int) : Option (Lf U) := match b with
  | .add => some (.int k (k.wrap (m + n)))
  | .sub => some (.int k (k.wrap (m - n)))
  | .mul => some (.int k (k.wrap (m * n)))
  | .lss => some (.bool (decide (m < n)))
  | .leq => some (.bool (decide (m ≤ n)))
  | .gtr => some (.bool (decide (m > n)))
  | .geq => some (.bool (decide (m ≥ n)))
  | .eql => some (.bool (m == n))
  | .neq => some (.bool (m != n))
  | .and => some (.int k (andI k m n))
  | .or => some (.int k (orI k m n))
  | .xor => some (.int k (xorI k m n))
  | _ => none
def binS (b : BinOp) (m n : ByteArray) : Option (Lf U) := match b with
  | .eql => some (.bool (m.toList == n.toList))
  | .neq => some (.bool (!(m.toList == n.toList)))
  | _ => none
def bin (b : BinOp) (t : TypeId) : Sv U → Sv U → Option (Lf U)
  | .l (.int k m), .l (.int k' n) => if k = k' then binI b k m n else none
  | .l (.str m), .l (.str n) => binS b m n
  | .l (.bool m), .l (.bool n) => match fnd TI t with
    | some ⟨.bool, _, _⟩ => match b with
      | .eql => some (.bool (m == n))
      | .neq => some (.bool (!(m == n)))
      | _ => none
    | _ => none
  | _, _ => none

/-- The cells from off on as a value of type t. -/
def cut (i : TInfo) (cs : List (Lf U)) (off : Nat) : Option (Sv U) := match i.u with
  | .st _ => let ds := tk (drp cs off) i.k
    bif Nat.beq (len ds) i.k then some (.a ds) else none
  | _ => match nth cs off with
    | some x => some (.l x)
    | none => none
/-- A tree's element's cells: its slices are known by where they stand. -/
def inns (i c τ : Nat) (q : Int) (z : U.El τ) : Nat → List (Lf U) → List (Lf U)
  | _, [] => []
  | j, .sl τ' l :: xs => .inn i c τ q z j τ' l :: inns i c τ q z (Nat.succ j) xs
  | j, x :: xs => x :: inns i c τ q z (Nat.succ j) xs
def fld (fs : List (Nat × Nat × Nat)) (f : Nat) : Option (Nat × Nat × Nat) := nth fs f
def fldAddr (m : Mm U) (f : Nat) : Lf U → Option (Lf U)
  | .box i off => match nth m.o i with
    | some ⟨.box .., _, _⟩ => some (.box i (off + f))
    | _ => none
  | .ptr τ z off => some (.ptr τ z (off + f))
  | .oel i c τ q z off => bif okv m i c then some (.oel i c τ q z (off + f)) else none
  | _ => none
def load (s : St U) (i : TInfo) : Lf U → Option (Sv U)
  | .box b off => match nth s.m.o b with
    | some ⟨.box _ cs _, _, _⟩ => cut i cs off
    | _ => none
  | .ptr τ z off => cut i (Y.C.cel τ z) off
  | .oel b c τ q z off => bif okv s.m b c then cut i (inns b c τ q z 0 (Y.C.cel τ z)) off else none
  | _ => none
def lenOf (m : Mm U) : Lf U → Option (Lf U)
  | .str z => some (.int .i64 (z.size : Int))
  | .nil => some (.int .i64 (0 : Int))
  | x => match rdl m x with
    | some (.sl _ l) => some (.int .i64 (l.length : Int))
    | _ => none
/-- Fields put over zeros. -/
def spl {α : Type} (l : List α) (off : Nat) (vs : List α) : List α := List.rec (motive := fun _ => Nat → List α) (fun _ => []) (fun x t ih n => Nat.rec (motive := fun _ => List α) (vs ++ drp (x :: t) (len vs)) (fun m _ => x :: ih m) n) l off
def parts : Sv U → Option (List (Lf U))
  | .l x => some [x]
  | .a cs => some cs
  | _ => none
def isOne : Lf U → Bool
  | .und => false
  | .any => false
  | _ => true
def allO : List (Lf U) → Bool
  | [] => true
  | x :: xs => isOne x && allO xs
def bldF (s : St U) (fs : List (Nat × Nat × Nat)) : List (Nat × Operand) → List (Lf U) → Option (List (Lf U))
  | [], cs => some cs
  | (f, x) :: xs, cs => match fld fs f, parts (opr s x) with
    | some (off, _, n), some ps => bif Nat.beq (len ps) n && Nat.ble (off + n) (len cs) && allO ps then bldF s fs xs (spl cs off ps) else none
    | _, _ => none
def pur (s : St U) (op : Op) : Option (Sv U) := match op with
  | .move x => some (opr s x)
  | .assign x => some (opr s x)
  | .pick c x y => match opd s c with
    | .l (.bool b) => bif b then some (opr s x) else some (opr s y)
    | _ => none
  | .unOp u _ x => match u, opd s x with
    | .not, .l (.bool b) => some (.l (.bool (!b)))
    | .neg, .l (.int k n) => some (.l (.int k (k.wrap (0 - n))))
    | _, _ => none
  | .convert a b x => match fnd TI a, fnd TI b, opd s x with
    | some ⟨.int _, _, _⟩, some ⟨.int j, _, _⟩, .l (.int _ n) => some (.l (.int j (j.wrap n)))
    | _, _, _ => none
  | .fieldAddr t x f => match fnd TI t, opd s x with
    | some ⟨.st fs, _, _⟩, .l p => match fld fs f with
      | some (off, _, _) => match fldAddr s.m off p with
        | some z => some (.l z)
        | none => none
      | none => none
    | _, _ => none
  | .load t x => match fnd TI t, opd s x with
    | some i, .l p => load Y s i p
    | _, _ => none
  | .field t x f => match fnd TI t, opd s x with
    | some ⟨.st fs, _, _⟩, .a cs => match fld fs f with
      | some (off, ft, _) => match fnd TI ft with
        | some i => cut i cs off
        | none => none
      | none => none
    | _, _ => none
  | .build t ps => match fnd TI t with
    | some ⟨.st fs, _, z⟩ => match bldF s fs ps.toList (z.map Kz.lf) with
      | some cs => some (.a cs)
      | none => none
    | _ => none
  | .extract x i => match opd s x with
    | .t xs => match nth xs i with
      | some c => some (cpSv c)
      | none => none
    | _ => none
  | .call ⟨.builtin .len, xa, ats⟩ => match xa.toList, ats.toList with
    | [x], [t] => match fnd TI t, opd s x with
      | some ⟨.sl .., _, _⟩, .l y => match y with
        | .str _ => none
        | y => match lenOf s.m y with
          | some z => some (.l z)
          | none => none
      | some ⟨.str, _, _⟩, .l (.str z) => some (.l (.int .i64 (z.size : Int)))
      | _, _ => none
    | _, _ => none
  | .call ⟨.builtin .min, xa, _⟩ => match xa.toList with
    | [x, y] => match opd s x, opd s y with
      | .l (.int k a), .l (.int k' b) => if k = k' then some (.l (.int k (if b < a then b else a))) else none
      | _, _ => none
    | _ => none
  | .call ⟨.builtin .max, xa, _⟩ => match xa.toList with
    | [x, y] => match opd s x, opd s y with
      | .l (.int k a), .l (.int k' b) => if k = k' then some (.l (.int k (if b > a then b else a))) else none
      | _, _ => none
    | _ => none
  | _ => none

/-! ### Operations under a condition -/
variable {α : Type}
/-- A slice as data, and as what it may be from then on when it is cut: plain where it was plain. -/
def subl (f : (τ : Nat) → List (U.El τ) → List (U.El τ)) (o : List (EO U)) : Lf U → Option (Lf U)
  | .sl τ l => some (.sl τ (f τ l))
  | .own i r => match nth o i with
    | some ⟨.tree τ _ l, rv, cv⟩ => bif Nat.beq rv r then some (.bor i cv τ (f τ l)) else none
    | _ => none
  | .bor i c τ l => some (.bor i c τ (f τ l))
  | .inn i c _ _ _ _ τ' l => some (.bor i c τ' (f τ' l))
  | _ => none
/-- Elements of type τ, where the code says e of k cells. -/
def okE (e k τ : Nat) : Bool := Nat.beq e τ && Nat.beq (U.K τ) k
def natOf : Sv U → Option Int
  | .l (.int _ n) => some n
  | _ => none
def stpM (s : St U) (op : Op) (K : Sv U → Option α) : Option α := match op with
  | .binOp b t x y u => match opd s x, opd s y with
    | .l (.int k m), .l (.int k' n) => match b with
      | .lss => if k = k' then (match opr s x with
        | .l (.nat a) => K (.l (.lt a n))
        | _ => K (.l (.bool (decide (m < n))))) else none
      | .quo => if k = k' then gd (n ≠ 0) (K (.l (.int k (k.wrap (m.tdiv n))))) else none
      | .rem => if k = k' then gd (n ≠ 0) (K (.l (.int k (m.tmod n)))) else none
      | .shl => gd (0 ≤ n) (K (.l (.int k (shlI k m n))))
      | .shr => gd (0 ≤ n) (K (.l (.int k (shrI k m n))))
      | b => if k = k' then (match binI b k m n with | some z => K (.l z) | none => none) else none
    | .l (.str m), .l (.str n) => match b with
      | .add => gd (m.size + n.size ≤ 9223372036854775807) (K (.l (.str (m ++ n))))
      | b => match binS b m n with | some z => K (.l z) | none => none
    | x, y => match bin TI b t x y with
      | some z => K (.l z)
      | none => none
  | .indexAddr t x y => match fnd TI t, opd s x, opd s y with
    | some ⟨.sl e ek _, _, _⟩, .l p, .l (.int _ q) => match p with
      | .sl τ l => bif okE (U := U) e ek τ then bd (atq l q) fun z => K (.l (.ptr τ z 0)) else none
      | .own i r => match nth s.m.o i with
        | some ⟨.tree τ _ l, rv, cv⟩ => bif Nat.beq rv r && okE (U := U) e ek τ then bd (atq l q) fun z => K (.l (.oel i cv τ q z 0)) else none
        | _ => none
      | _ => none
    | _, _, _ => none
  | .index t x y => match fnd TI t, opd s x, opd s y with
    | some ⟨.str, _, _⟩, .l (.str z), .l (.int _ q) => bd (atq (bytesI z) q) fun c => K (.l (.int .u8 c))
    | _, _, _ => none
  | .slice t x lo hi none => match fnd TI t, opd s x with
    | some ⟨.str, _, _⟩, .l (.str z) => match lo, hi with
      | none, some h => match natOf (opd s h) with
        | some n => gd (subOk z 0 n) (K (.l (.str (z.extract 0 n.toNat))))
        | none => none
      | some l, none => match natOf (opd s l) with
        | some m => gd (subOk z m z.size) (K (.l (.str (z.extract m.toNat z.size))))
        | none => none
      | some l, some h => match natOf (opd s l), natOf (opd s h) with
        | some m, some n => gd (subOk z m n) (K (.l (.str (z.extract m.toNat n.toNat))))
        | _, _ => none
      | none, none => none
    | some ⟨.sl e ek _, _, _⟩, .l p => match rdl s.m p with
      | some (.sl τ l) => bif okE (U := U) e ek τ then (match lo, hi with
        | none, none => match subl (fun _ l => l) s.m.o p with
          | some p' => K (.l p')
          | none => none
        | none, some h => match natOf (opd s h), subl (fun _ l => l.take (match natOf (opd s h) with | some n => n.toNat | none => 0)) s.m.o p with
          | some n, some p' => gd (hiOk l n) (K (.l p'))
          | _, _ => none
        | some b, none => match natOf (opd s b), subl (fun _ l => l.drop (match natOf (opd s b) with | some n => n.toNat | none => 0)) s.m.o p with
          | some n, some p' => gd (hiOk l n) (K (.l p'))
          | _, _ => none
        | some b, some h => match natOf (opd s b), natOf (opd s h), subl (fun _ l => (l.take (match natOf (opd s h) with | some n => n.toNat | none => 0)).drop (match natOf (opd s b) with | some n => n.toNat | none => 0)) s.m.o p with
          | some n, some m, some p' => gd (0 ≤ n ∧ n ≤ m ∧ hiOk l m) (K (.l p'))
          | _, _, _ => none) else none
      | _ => none
    | _, _ => none
  | .convert ta tb x => match fnd TI ta, fnd TI tb, opd s x with
    | some ⟨.sl e _ _, _, _⟩, some ⟨.str, _, _⟩, .l p => match rdl s.m p, fnd TI e with
      | some (.sl τ l), some ⟨.int .u8, _, _⟩ => match slq Y.bt τ l with
        | some l => bif Nat.beq e τ then gd (l.length ≤ 68719476736) (K (.l (.str (bstr (l.map Y.bi))))) else none
        | none => none
      | _, _ => none
    | _, _, _ => match pur Y TI s (.convert ta tb x) with
      | some x => K x
      | none => none
  | op => match pur Y TI s op with
    | some x => K x
    | none => none
end
end Go.EV
