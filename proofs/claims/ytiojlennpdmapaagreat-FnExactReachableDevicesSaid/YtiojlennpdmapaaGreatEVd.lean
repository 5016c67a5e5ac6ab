/-
  THE EVALUATOR's KIT, fourth part: operations that make or write memory, calls, regions, code with its joins and loops. Definitions only; any program.
-/
import Derived.Test.YtiojlennpdmapaaGreatEVc
set_option linter.unusedVariables false
set_option linter.unusedSimpArgs false
namespace Go.EV
open Go.RowKit Go.VK
noncomputable section
variable {U : Uni} (Y : Lay U) (TI : List (Nat × TInfo)) (FZ : List (Nat × Sum U)) {α : Type}

def put (s : St U) (d : Option Nat) (x : Sv U) : St U := match d with
  | some n => ⟨upd s.t n x, s.m, s.fr⟩
  | none => s
/-- A new object. -/
def psh (s : St U) (b : Ob U) : St U := ⟨s.t, ⟨s.m.o ++ [⟨b, s.m.k, s.m.k⟩], s.m.k, s.m.ns⟩, s.fr⟩
/-- An object turns; its root stays. -/
def trn (s : St U) (i : Nat) (b : Ob U) (rv : Nat) : St U := ⟨s.t, ⟨upd s.m.o i ⟨b, rv, Nat.succ s.m.k⟩, Nat.succ s.m.k, s.m.ns⟩, s.fr⟩
/-- Objects are given up. -/
def kil (k : Nat) (ids : List Nat) (o : List (EO U)) : List (EO U) := List.rec (motive := fun _ => List (EO U)) o (fun i _ ih => upd ih i ⟨.dead, k, k⟩) ids
def memb (i : Nat) (l : List Nat) : Bool := List.rec (motive := fun _ => Bool) false (fun x _ ih => cond (Nat.beq x i) true ih) l
def dist (l : List Nat) : Bool := List.rec (motive := fun _ => Bool) true (fun x xs ih => cond (memb x xs) false ih) l

/-- What is put into a tree: the datum, the objects that go with it, whether all of it is the run's own. -/
def abs1 (m : Mm U) (kd : Kd) : Lf U → Option (Lf U × List Nat × Bool)
  | .nil => match kd with | .sl τ => some (.sl τ [], [], true) | _ => none
  | .sl τ l => some (.sl τ l, [], false)
  | .own i r => match nth m.o i with
    | some ⟨.tree τ d l, rv, _⟩ => bif Nat.beq rv r then some (.sl τ l, [i], d) else none
    | _ => none
  | .bor .. => none
  | .inn .. => none
  | x => match rdl m x with
    | some y => some (y, [], true)
    | none => none
def absb (m : Mm U) : List Kd → List (Lf U) → Option (List (Lf U) × List Nat × Bool)
  | [], [] => some ([], [], true)
  | kd :: ks, x :: xs => match abs1 m kd x with
    | some (y, i, d) => match absb m ks xs with
      | some (ys, is, ds) => some (y :: ys, i ++ is, d && ds)
      | none => none
    | none => none
  | _, _ => none
/-- A whole element out of a slot. -/
def absE (s : St U) (e : Nat) (x : Sv U) : Option (U.El e × List Nat × Bool) := match parts x with
  | some cs => match absb s.m (Y.kd e) cs with
    | some (ds, ids, d) => match Y.C.bld e ds with
      | some z => some (z, ids, d)
      | none => none
    | none => none
  | none => none
def absEs (s : St U) (e : Nat) : Nat → List (Nat × Operand) → Option (List (U.El e) × List Nat × Bool)
  | _, [] => some ([], [], true)
  | n, (i, x) :: ps => bif Nat.beq i n then (match absE Y s e (opd s x) with
    | some (z, ids, d) => match absEs s e (Nat.succ n) ps with
      | some (zs, js, ds) => some (z :: zs, ids ++ js, d && ds)
      | none => none
    | none => none) else none
def Kd.isSl : Kd → Bool
  | .sl _ => true
  | _ => false
def anySl (l : List Kd) : Bool := List.rec (motive := fun _ => Bool) false (fun x _ ih => cond x.isSl true ih) l
/-- Elements of type τ hold no slice. -/
def flatT (τ : Nat) : Bool := cond (anySl (Y.kd τ)) false true
def flatK : Kd → Bool
  | .sl _ => false
  | .st T => flatT Y T
  | _ => true
def flatKs (l : List Kd) : Bool := List.rec (motive := fun _ => Bool) true (fun x _ ih => cond (flatK Y x) ih false) l
def freeL : Lf U → Bool
  | .own .. => false
  | .bor .. => false
  | .inn .. => false
  | _ => true
def freeLs : List (Lf U) → Bool
  | [] => true
  | x :: xs => freeL x && freeLs xs
def freeV : Sv U → Bool
  | .l x => freeL x
  | .a cs => freeLs cs
  | .t _ => false
def freeVs : List (Sv U) → Bool
  | [] => true
  | x :: xs => freeV x && freeVs xs
def sameOp : Operand → Operand → Bool
  | .tmp i, .tmp j => Nat.beq i j
  | .const (.int k m), .const (.int k' n) => decide (k = k') && decide (m = n)
  | _, _ => false
/-- Fresh results: each slice becomes a tree. -/
def ownC (k : Nat) : Nat → List (Lf U) → List (Lf U) × List (EO U)
  | _, [] => ([], [])
  | n, .sl τ l :: xs => let r := ownC k (Nat.succ n) xs
    (.own n k :: r.1, ⟨.tree τ true l, k, k⟩ :: r.2)
  | n, x :: xs => let r := ownC k n xs
    (x :: r.1, r.2)
def ownCs (k : Nat) : Nat → List (Bool × List (Lf U)) → List (Bool × List (Lf U)) × List (EO U)
  | _, [] => ([], [])
  | n, (b, cs) :: xs => let r := ownC k n cs
    let q := ownCs k (n + len r.2) xs
    ((b, r.1) :: q.1, r.2 ++ q.2)

/-- What is appended to: a tree (the nil slice becomes one). -/
def apD (s : St U) (e : Nat) : Lf U → Option (Nat × Bool × List (U.El e) × St U)
  | .nil => some (len s.m.o, true, [], psh s (.tree e true []))
  | .own i r => match nth s.m.o i with
    | some ⟨.tree τ d l, rv, _⟩ => bif Nat.beq rv r then (match slq e τ l with
      | some l => some (i, d, l, s)
      | none => none) else none
    | _ => none
  | _ => none
/-- A leaf does not lie in object i. -/
def notIn (i : Nat) : Lf U → Bool
  | .own j _ => cond (Nat.beq i j) false true
  | .bor j _ _ _ => cond (Nat.beq i j) false true
  | .inn j _ _ _ _ _ _ _ => cond (Nat.beq i j) false true
  | _ => true
/-- What is appended: the list, the object that goes along, whether it is the run's own. -/
def apS (m : Mm U) (e i : Nat) (py : Lf U) : Option (List (U.El e) × List Nat × Bool) := match py with
  | .nil => some ([], [], true)
  | py => bif flatT Y e then (match rdl m py with
      | some (.sl τ l) => match slq e τ l with
        | some l => bif notIn i py then some (l, [], true) else none
        | none => none
      | _ => none) else (match py with
      | .sl τ l => match slq e τ l with
        | some l => some (l, [], false)
        | none => none
      | .own j r => match nth m.o j with
        | some ⟨.tree τ d l, rv, _⟩ => bif Nat.beq rv r && notIn i py then (match slq e τ l with
          | some l => some (l, [j], d)
          | none => none) else none
        | _ => none
      | _ => none)
def posKs : List Kd → Bool
  | [] => true
  | .sl τ :: ks => Nat.ble 1 (U.K τ) && posKs ks
  | _ :: ks => posKs ks
/-- What a call writes: the objects as they are behind. -/
def wr1 (m : Mm U) : Lf U → Lf U → Option (List (Nat × EO U))
  | .own i r, y => match nth m.o i, y with
    | some ⟨.tree τ' d _, rv, _⟩, .sl τ l => bif d && (Nat.beq rv r && Nat.beq τ' τ) then some [(i, ⟨.tree τ true l, rv, Nat.succ m.k⟩)] else none
    | _, _ => none
  | .inn i c τ q z j τ' _, y => match nth m.o i, y with
    | some ⟨.tree τ1 d L, rv, cv⟩, .sl τ'' l => bif d && (Nat.beq cv c && Nat.beq τ'' τ') then (match slq τ τ1 L with
      | some L => match Y.C.bld τ (upd (Y.C.cel τ z) j (.sl τ'' l)) with
        | some z' => some [(i, ⟨.tree τ true (L.set q.toNat z'), rv, Nat.succ m.k⟩)]
        | none => none
      | none => none) else none
    | _, _ => none
  | .sl .., _ => none
  | .bor .., _ => none
  | _, _ => some []
def wrm (m : Mm U) : List (Lf U) → List (Lf U) → Option (List (Nat × EO U))
  | [], [] => some []
  | x :: xs, y :: ys => match wr1 Y m x y with
    | some u => match wrm m xs ys with
      | some us => some (u ++ us)
      | none => none
    | none => none
  | _, _ => none
def updA (l : List (Nat × EO U)) (o : List (EO U)) : List (EO U) := List.rec (motive := fun _ => List (EO U)) o (fun x _ ih => upd ih x.1 x.2) l
def fstE (l : List (Nat × EO U)) : List Nat := List.rec (motive := fun _ => List Nat) [] (fun x _ ih => x.1 :: ih) l
/-- What an operation does: its value, and the state that it leaves. -/
def stp (s : St U) (op : Op) (K : Sv U → St U → Option α) : Option α := match op with
  | .box T x => match parts (opr s x) with
    | some cs => bif allO cs then K (.l (.box (len s.m.o) 0)) (psh s (.box T cs (cs.map fun _ => s.m.k))) else none
    | none => none
  | .alloc T => match fnd TI T with
    | some i => K (.l (.box (len s.m.o) 0)) (psh s (.box T (i.z.map Kz.lf) (i.z.map fun _ => s.m.k)))
    | none => none
  | .store t x y => match fnd TI t, opd s x, parts (opr s y) with
    | some i, .l (.box b off), some ps => match nth s.m.o b with
      | some ⟨.box T cs us, rv, _⟩ => bif Nat.beq (len ps) i.k && (Nat.ble (off + i.k) (len cs) && allO ps) then K (.l .any) (trn s b (.box T (spl cs off ps) (spl us off (ps.map fun _ => Nat.succ s.m.k))) rv) else none
      | _ => none
    | some i, .l (.oel b c τ q z off), some ps => bif okv s.m b c then (match nth s.m.o b with
      | some ⟨.tree τ' d l, rv, _⟩ => match slq τ τ' l with
        | some l => match absb s.m (tk (drp (Y.kd τ) off) i.k) ps with
          | some (ds, ids, d') => bif Nat.beq (len ps) i.k && (Nat.ble (off + i.k) (U.K τ) && (allO ps && dist (b :: ids))) then (match Y.C.bld τ (spl (Y.C.cel τ z) off ds) with
            | some z' => let s' := trn s b (.tree τ (d && d') (l.set q.toNat z')) rv
              K (.l .any) ⟨s'.t, ⟨kil s'.m.k ids s'.m.o, s'.m.k, s'.m.ns⟩, s'.fr⟩
            | none => none) else none
          | none => none
        | none => none
      | _ => none) else none
    | _, _, _ => none
  | .buildSlice t n ps => match fnd TI t with
    | some ⟨.sl e ek _, _, _⟩ => bif Nat.beq (len ps.toList) n && (Nat.ble (n * ek) 16777216 && okE (U := U) e ek e) then (match absEs Y s e 0 ps.toList with
      | some (l, ids, d) => bif dist (len s.m.o :: ids) then (let s' := trn (psh s .dead) (len s.m.o) (.tree e d l) s.m.k
        K (.l (.own (len s.m.o) s.m.k)) ⟨s'.t, ⟨kil s'.m.k ids s'.m.o, s'.m.k, s'.m.ns⟩, s'.fr⟩) else none
      | none => none) else none
    | _ => none
  | .makeSlice t x y => match fnd TI t with
    | some ⟨.sl e ek eb, _, _⟩ => match fnd TI e, opd s x with
      | some i, .l (.int .i64 n) => bif sameOp x y && (Nat.ble eb 2048 && okE (U := U) e ek e) then (match rds s.m (Y.kd e) (i.z.map Kz.lf) with
        | some ds => match Y.C.bld e ds with
          | some z => gd (mkOk n) (K (.l (.own (len s.m.o) s.m.k)) (psh s (.tree e true (List.replicate n.toNat z))))
          | none => none
        | none => none) else none
      | _, _ => none
    | _ => none
  | .call ⟨.builtin .append, xa, ats⟩ => match xa.toList, ats.toList with
    | [x, y], [t, t2] => match fnd TI t with
      | some ⟨.sl e ek eb, _, _⟩ => bif Nat.beq t t2 && (Nat.ble eb 2048 && okE (U := U) e ek e) then (match opd s x, opd s y with
        | .l px, .l py => match apD s e px with
          | some (i, d, l, s1) => match apS Y s1.m e i py with
            | some (l', ids, d') => gd (apOk l l') (
              let s2 := trn s1 i (.tree e (d && d') (l ++ l')) (Nat.succ s1.m.k)
              K (.l (.own i (Nat.succ s1.m.k))) ⟨s2.t, ⟨kil s2.m.k ids s2.m.o, s2.m.k, s2.m.ns⟩, s2.fr⟩)
            | none => none
          | none => none
        | _, _ => none) else none
      | _ => none
    | _, _ => none
  | .call ⟨.value (.func f), xa, _⟩ => match fnd FZ f with
    | some S => let xs := xa.toList.map (opd s)
      match svsTy Y s.m S.ar xs with
      | some a => bif S.wt then (match xs with
        | [x, _] => match parts x with
          | some cs => bd (S.m a) fun r => match toCps Y S.rs r with
            | [(_, ds), (_, [.int .i64 k])] => match wrm Y s.m cs ds with
              | some us => bif dist (fstE us) && posKs (U := U) S.ar then K (.l (.int .i64 k)) ⟨s.t, ⟨updA us s.m.o, Nat.succ s.m.k, s.m.ns⟩, s.fr⟩ else none
              | none => none
            | _ => none
          | none => none
        | _ => none)
        else bif S.fr then bd (S.m a) fun r =>
          let q := ownCs s.m.k (len s.m.o) (toCps Y S.rs r)
          K (cpsSv q.1) ⟨s.t, ⟨s.m.o ++ q.2, s.m.k, s.m.ns⟩, s.fr⟩
        else bif flatKs Y S.rs || freeVs xs then bd (S.m a) fun r => K (cpsSv (toCps Y S.rs r)) s
        else none
      | none => none
    | none => none
  | .binOp .add _ x y _ => match opr s x, y with
    | .l (.nat a), .const (.int .i64 n) => bif decide (n = 1) then (match nth s.m.ns a with
        | some (i, f) => bif f then K (.l (.nat (len s.m.ns))) ⟨s.t, ⟨s.m.o, s.m.k, s.m.ns ++ [(Nat.succ i, false)]⟩, s.fr⟩ else stpM Y TI s op (fun x => K x s)
        | none => none) else stpM Y TI s op (fun x => K x s)
    | _, _ => stpM Y TI s op (fun x => K x s)
  | op => stpM Y TI s op (fun x => K x s)

/-! ### Regions -/
def one (o : Oper) (s : St U) (K : St U → Option α) : Option α := stp Y TI FZ s o.op fun x s' => K (put s' o.dst x)
/-- A test's outcome is written into its slot; a counter below a bound may be counted up. -/
def tst (n : Nat) (s : St U) (T F : St U → Option α) : Option α := match nth s.t n with
  | some (.l (.bool b)) => bif b then T (put s (some n) (.l (.bool true))) else F (put s (some n) (.l (.bool false)))
  | some (.l (.lt a m)) => match nth s.m.ns a with
    | some (i, _) => bif decide ((i : Int) < m) then T (put ⟨s.t, ⟨s.m.o, s.m.k, upd s.m.ns a (i, true)⟩, s.fr⟩ (some n) (.l (.bool true))) else F (put s (some n) (.l (.bool false)))
    | none => none
  | _ => none
def skp (o : Oper) (s : St U) (K : St U → Option α) : Option α := K (put s o.dst (.l .und))
def isUnd : Option (Sv U) → Bool
  | some (.l .und) => true
  | _ => false
def grd (al : List Oper) (o : Oper) (s : St U) (K : St U → Option α) : Option α := match o.guard with
  | none => one Y TI FZ o s K
  | some (j, want) => match nth al j with
    | some oj => match oj.dst with
      | some n => bif isUnd (nth s.t n) then skp o s K else
        tst n s (fun s => bif want then one Y TI FZ o s K else skp o s K) (fun s => bif want then skp o s K else one Y TI FZ o s K)
      | none => none
    | none => none
def ops (al : List Oper) : List Oper → St U → (St U → Option α) → Option α
  | [], s, K => K s
  | o :: l, s, K => grd Y TI FZ al o s fun s => ops al l s K

/-- What an operation may do besides its value: nothing (0), make memory (1), write it (2). -/
def cls : Op → Nat
  | .box .. | .alloc _ | .makeSlice .. => 1
  | .buildSlice .. => 1
  | .call ⟨.value (.func f), _, _⟩ => match fnd FZ f with
    | some S => bif S.wt then 2 else 1
    | none => 1
  | .call ⟨.value _, _, _⟩ => 1
  | .store .. => 2
  | .call ⟨.builtin .append, _, _⟩ => 2
  | _ => 0

/-! ### Joins -/
/-- Where a value stands: a slot, a box's cell. -/
inductive Lo where
  | s (n : Nat)
  | c (b j : Nat)
/-- What turns and lives on: a datum, a natural that is an int, a tree that was there, a new tree, a tree that keeps its root (that of the beginning, of version 0). -/
inductive DI where
  | dat (l : Lo) (kd : Kd)
  | nat (l : Lo)
  | tr (l : Lo) (i τ : Nat) (d : Bool)
  | nt (l : Lo) (τ : Nat) (d : Bool)
  | ti (i τ : Nat) (d : Bool)
/-- A template, over the state before: runs of slots that stay and that are wiped; what turns and lives on; boxes' cells that are given up; objects that are given up. -/
structure Tm where
  ws : List (Nat × Nat)
  it : List DI
  an : List (Nat × Nat)
  dd : List Nat
def DI.ty (U : Uni) : DI → Type
  | .dat _ kd => kd.ty U
  | .nat _ => Nat
  | .tr _ _ τ _ => List (U.El τ)
  | .nt _ τ _ => List (U.El τ)
  | .ti _ τ _ => List (U.El τ)
def Dat (U : Uni) : List DI → Type
  | [] => Unit
  | [k] => k.ty U
  | k :: k' :: ks => k.ty U × Dat U (k' :: ks)
def lkp (s : St U) : Lo → Option (Sv U)
  | .s n => nth s.t n
  | .c b j => match nth s.m.o b with
    | some ⟨.box _ cs _, _, _⟩ => match nth cs j with
      | some x => some (.l x)
      | none => none
    | _ => none
/-- The tree of version 0 that stands under a name. -/
def tiAt (m : Mm U) (i τ : Nat) (d : Bool) : Option (List (U.El τ)) := match nth m.o i with
  | some ⟨.tree τ' d' l, rv, _⟩ => bif Nat.beq rv 0 && (d' || !d) then slq τ τ' l else none
  | _ => none
/-- The tree that a leaf names (none: the nil slice), with its list. -/
def treeAt (m : Mm U) (τ : Nat) (d : Bool) : Sv U → Option (Option Nat × List (U.El τ))
  | .l .nil => bif Nat.ble 1 (U.K τ) then some (none, []) else none
  | .l (.own i r) => match nth m.o i with
    | some ⟨.tree τ' d' l, rv, _⟩ => bif Nat.beq rv r && (d' || !d) then (match slq τ τ' l with
      | some l => some (some i, l)
      | none => none) else none
    | _ => none
  | _ => none
def natAt (m : Mm U) : Sv U → Option Nat
  | .l (.nat a) => match nth m.ns a with
    | some (i, _) => some i
    | none => none
  | .l (.int .i64 n) => bif decide (n = 0) then some 0 else none
  | _ => none
def get1 (s : St U) : (x : DI) → Option (x.ty U)
  | .ti i τ d => tiAt s.m i τ d
  | .dat l kd => match lkp s l with
    | some v => bif freeV v then svTy Y s.m kd v else none
    | none => none
  | .nat l => match lkp s l with
    | some v => natAt s.m v
    | none => none
  | .tr l _ τ d => match lkp s l with
    | some v => match treeAt s.m τ d v with
      | some q => some q.2
      | none => none
    | none => none
  | .nt l τ d => match lkp s l with
    | some v => match treeAt s.m τ d v with
      | some q => some q.2
      | none => none
    | none => none
def gets (s : St U) : (xs : List DI) → Option (Dat U xs)
  | [] => some ()
  | [x] => get1 Y s x
  | x :: x' :: xs => match get1 Y s x with
    | some a => match gets s (x' :: xs) with
      | some b => some (a, b)
      | none => none
    | none => none
/-- The objects that the template's trees are now. -/
def srcs (s : St U) : List DI → Option (List (Option Nat × Option Nat))
  | [] => some []
  | .ti i _ _ :: xs => match srcs s xs with
    | some r => some ((some i, some i) :: r)
    | none => none
  | .tr l i τ d :: xs => match lkp s l with
    | some v => match treeAt s.m τ d v with
      | some q => match srcs s xs with
        | some r => some ((some i, q.1) :: r)
        | none => none
      | none => none
    | none => none
  | .nt l τ d :: xs => match lkp s l with
    | some v => match treeAt s.m τ d v with
      | some q => match srcs s xs with
        | some r => some ((none, q.1) :: r)
        | none => none
      | none => none
    | none => none
  | _ :: xs => srcs s xs
def snds (l : List (Option Nat × Option Nat)) : List Nat := List.rec (motive := fun _ => List Nat) [] (fun x _ ih => match x.2 with | some i => i :: ih | none => ih) l
/-- The boxes' cells that the items turn over. -/
def celsOf : List DI → List (Nat × Nat)
  | [] => []
  | .dat (.c b j) _ :: xs => (b, j) :: celsOf xs
  | .nat (.c b j) :: xs => (b, j) :: celsOf xs
  | .tr (.c b j) _ _ _ :: xs => (b, j) :: celsOf xs
  | .nt (.c b j) _ _ :: xs => (b, j) :: celsOf xs
  | _ :: xs => celsOf xs
def hasA (b j : Nat) (l : List (Nat × Nat)) : Bool := List.rec (motive := fun _ => Bool) false (fun x _ ih => cond (Nat.beq x.1 b && Nat.beq x.2 j) true ih) l
def hasB (b : Nat) (l : List (Nat × Nat)) : Bool := List.rec (motive := fun _ => Bool) false (fun x _ ih => cond (Nat.beq x.1 b) true ih) l
/-- The cells of a box that are not turned over are as they were. -/
def chkC (cs : List (Nat × Nat)) (k b : Nat) : Nat → List Nat → Bool
  | _, [] => true
  | j, v :: vs => (Nat.ble v k || hasA b j cs) && chkC cs k b (Nat.succ j) vs
/-- The objects that are not turned over are as they were. -/
def chkO (cs : List (Nat × Nat)) (dd : List Nat) (k : Nat) : Nat → List (EO U) → List (EO U) → Bool
  | _, [], _ => true
  | i, _ :: es, e' :: es' => (Nat.ble e'.cv k || (memb i dd || (match e'.ob with | .box _ _ vs => hasB i cs && chkC cs k i 0 vs | _ => false))) && chkO cs dd k (Nat.succ i) es es'
  | _, _, [] => false
/-- Each tree that goes into the template was named by it, or given up by it, or is new. -/
def chkT (N : Nat) (dd : List Nat) : List Nat → Bool
  | [] => true
  | i :: is => (Nat.ble N i || memb i dd) && chkT N dd is
/-- The trees that the template names stand below. -/
def chkB (N : Nat) : List Nat → Bool
  | [] => true
  | i :: is => Nat.ble (Nat.succ i) N && chkB N is
def trsOf : List DI → List Nat
  | [] => []
  | .tr _ i _ _ :: xs => i :: trsOf xs
  | .ti i _ _ :: xs => i :: trsOf xs
  | _ :: xs => trsOf xs
def Tm.dead (tm : Tm) : List Nat := trsOf tm.it ++ tm.dd
def Tm.cels (tm : Tm) : List (Nat × Nat) := celsOf tm.it ++ tm.an
/-- Does the slot stand in a run that is wiped? -/
def inW : List (Nat × Nat) → Nat → Nat → Bool
  | [], _, _ => false
  | (a, b) :: r, p, n => (Nat.ble (p + a) n && Nat.ble (Nat.succ n) (p + a + b)) || inW r (p + a + b) n
/-- The items' slots are wiped. -/
def slI (ws : List (Nat × Nat)) : List DI → Bool
  | [] => true
  | .dat (.s n) _ :: xs => inW ws 0 n && slI ws xs
  | .nat (.s n) :: xs => inW ws 0 n && slI ws xs
  | .tr (.s n) _ _ _ :: xs => inW ws 0 n && slI ws xs
  | .nt (.s n) _ _ :: xs => inW ws 0 n && slI ws xs
  | _ :: xs => slI ws xs
def col (b : St U) (tm : Tm) (s : St U) : Option (Dat U tm.it) := match srcs s tm.it with
  | some q => bif slI tm.ws tm.it && (chkO tm.cels tm.dead b.m.k 0 b.m.o s.m.o && (chkT (len b.m.o) tm.dead (snds q) && (dist (snds q) && (dist (trsOf tm.it) && chkB (len b.m.o) (trsOf tm.it))))) then gets Y s tm.it else none
  | none => none

/-- Slots are wiped. -/
def wip1 (n : Nat) (K : List (Sv U) → List (Sv U)) : List (Sv U) → List (Sv U) := Nat.rec (motive := fun _ => List (Sv U) → List (Sv U)) K (fun _ ih l => match l with | [] => [] | _ :: t => Sv.l .any :: ih t) n
def kep1 (n : Nat) (K : List (Sv U) → List (Sv U)) : List (Sv U) → List (Sv U) := Nat.rec (motive := fun _ => List (Sv U) → List (Sv U)) K (fun _ ih l => match l with | [] => [] | x :: t => x :: ih t) n
def wip : List (Nat × Nat) → List (Sv U) → List (Sv U)
  | [], l => l
  | (a, b) :: r, l => kep1 a (wip1 b (wip r)) l
/-- All that these steps write is wiped. -/
def wrG (ws : List (Nat × Nat)) (al : List Oper) (l : List Oper) : Bool := List.rec (motive := fun _ => Bool) true (fun o _ ih => cond ((match o.dst with | some n => inW ws 0 n | none => true) && (match o.guard with | some (j, _) => (match nth al j with | some oj => (match oj.dst with | some n => inW ws 0 n | none => true) | none => true) | none => true)) ih false) l
def wr (ws : List (Nat × Nat)) : Nat → Code → Bool
  | 0, _ => false
  | f + 1, .seq a b => wr ws f a && wr ws f b
  | f + 1, .cond (.tmp n) a b => inW ws 0 n && (wr ws f a && wr ws f b)
  | f + 1, .block _ c => wr ws f c
  | f + 1, .loop c => wr ws f c
  | _ + 1, .region _ os _ => wrG ws os.toList os.toList
  | _ + 1, .skip => true
  | _ + 1, .ret => true
  | _ + 1, .exit _ => true
  | _ + 1, _ => false

/-- A value is put where the template says. -/
def setL (s : St U) (x : Sv U) : Lo → St U
  | .s n => put s (some n) x
  | .c b j => match nth s.m.o b, x with
    | some ⟨.box T cs vs, rv, _⟩, .l y => trn s b (.box T (upd cs j y) (upd vs j (Nat.succ s.m.k))) rv
    | _, _ => s
def set1 (k n : Nat) (s : St U) : (x : DI) → x.ty U → St U
  | .dat l kd, d => setL s (cpSv (toCp Y kd d)) l
  | .nat l, i => setL ⟨s.t, ⟨s.m.o, s.m.k, s.m.ns ++ [(⟨i, false⟩ : Nat × Bool)]⟩, s.fr⟩ (.l (.nat (len s.m.ns))) l
  | .tr l i _ _, _ => setL s (.l (.own i k)) l
  | .nt l _ _, _ => setL s (.l (.own n k)) l
  | .ti _ _ _, _ => s
def nxt (n : Nat) : DI → Nat
  | .nt .. => Nat.succ n
  | _ => n
def sets (k n : Nat) (s : St U) : (xs : List DI) → Dat U xs → St U
  | [], _ => s
  | [x], d => set1 Y k n s x d
  | x :: x' :: xs, d => sets k (nxt n x) (set1 Y k n s x d.1) (x' :: xs) d.2
/-- Trees are put in. -/
def putT1 (k : Nat) : (x : DI) → x.ty U → List (EO U) → List (EO U)
  | .tr _ i τ b, d, o => upd o i ⟨.tree τ b d, k, k⟩
  | .nt _ τ b, d, o => o ++ [⟨.tree τ b d, k, k⟩]
  | .ti i τ b, d, o => upd o i ⟨.tree τ b d, 0, k⟩
  | _, _, o => o
def putT (k : Nat) : (xs : List DI) → Dat U xs → List (EO U) → List (EO U)
  | [], _, o => o
  | [x], d, o => putT1 k x d o
  | x :: x' :: xs, d, o => putT k (x' :: xs) d.2 (putT1 k x d.1 o)
/-- Boxes' cells are forgotten. -/
def forC (k : Nat) (l : List (Nat × Nat)) (o : List (EO U)) : List (EO U) := List.rec (motive := fun _ => List (EO U)) o (fun x _ ih => match nth ih x.1 with | some ⟨.box T cs vs, _, _⟩ => upd ih x.1 ⟨.box T (upd cs x.2 .any) (upd vs x.2 k), k, k⟩ | _ => ih) l
/-- The state behind a join. -/
def reb (b : St U) (tm : Tm) (d : Dat U tm.it) : St U :=
  let k := Nat.succ b.m.k
  sets Y k (len b.m.o) ⟨wip tm.ws b.t, ⟨putT k tm.it d (forC k tm.cels (kil k tm.dead b.m.o)), k, b.m.ns⟩, b.fr⟩ tm.it d

/-! ### Code -/
/-- What a code's annotations are: nothing, the parts', a join (jx: with ways that leave), a loop, a region's order. -/
inductive An where
  | n
  | s (a b : An)
  | j (t : Tm) (a : An)
  | jx (t : Tm) (a : An)
  | l (t : Tm) (f : Nat) (a : An)
  | r (a0 : Option Nat) (ord : List (Nat × Bool))
  | rj (k : Nat) (t : Tm) (a : An)
  | z (ord : List Nat)
/-- A run lies in the runs. -/
def covR : List (Nat × Nat) → Nat → Nat → Nat → Bool
  | [], _, _, _ => false
  | (a, b) :: r, p, lo, hi => (Nat.ble (p + a) lo && Nat.ble hi (p + a + b)) || covR r (p + a + b) lo hi
def subR (ws : List (Nat × Nat)) : List (Nat × Nat) → Nat → Bool
  | [], _ => true
  | (a, b) :: r, p => (Nat.beq b 0 || covR ws 0 (p + a) (p + a + b)) && subR ws r (p + a + b)
/-- All that the inner joins wipe is wiped. -/
def anW (ws : List (Nat × Nat)) : An → Bool
  | .s a b => anW ws a && anW ws b
  | .j t a => subR ws t.ws 0 && anW ws a
  | .jx t a => subR ws t.ws 0 && anW ws a
  | .l t _ a => subR ws t.ws 0 && anW ws a
  | .rj _ t _ => subR ws t.ws 0
  | _ => true
def An.a : An → An
  | .s a _ => a
  | _ => .n
def An.b : An → An
  | .s _ b => b
  | _ => .n
def itr {β : Type} (n : Nat) (F : (β → Option α) → β → Option α) : β → Option α := Nat.rec (motive := fun _ => β → Option α) (fun _ => none) (fun _ ih => F ih) n
def opsO (al : List Oper) : List Nat → St U → (St U → Option α) → Option α
  | [], s, K => K s
  | i :: l, s, K => match nth al i with
    | some o => grd Y TI FZ al o s fun s => opsO al l s K
    | none => none
def noneF (l : List (Nat × Bool)) : Bool := List.rec (motive := fun _ => Bool) true (fun x _ ih => cond x.2 false ih) l
/-- The steps do what their places in the order allow: those that are taken early nothing but a value, the others no more than to make memory, up to the one (a0) behind which each step is the only one that may come up. -/
def frees (al : List Oper) (a0 : Option Nat) : List (Nat × Bool) → Bool
  | [] => true
  | (i, f) :: l => match nth al i with
    | some o => bif f then Nat.beq (cls FZ o.op) 0 && frees al a0 l else
      (bif Nat.ble (cls FZ o.op) 1 then frees al a0 l else (match a0 with | some b => Nat.beq b i | none => false) && noneF l)
    | none => false
def fstsN (l : List (Nat × Bool)) : List Nat := List.rec (motive := fun _ => List Nat) [] (fun x _ ih => x.1 :: ih) l
/-- The order of a region's steps, where it may be gone by. -/
def ordr (al : List Oper) (os : Array Oper) : An → Option (List Nat)
  | .r a0 ord => bif chkAll os a0 ord && frees FZ al a0 ord then some (fstsN ord) else none
  | .z ord => bif Region.noSelect os && (Nat.beq (len ord) (len al) && chz os ord (Array.replicate os.size false)) then some ord else none
  | _ => none
def opsAt (al : List Oper) (l : List Nat) : List Oper := List.rec (motive := fun _ => List Oper) [] (fun i _ ih => match nth al i with | some o => o :: ih | none => ih) l
def rgn (al : List Oper) (os : Array Oper) (d : Bool) (an : An) (s : St U) (N : St U → Option α) : Option α := match an with
  | .rj k tm a => bif d then (match ordr FZ al os a with
      | some l => opsO Y TI FZ al (tk l k) s fun s1 => bif wrG tm.ws al (opsAt al (drp l k)) then bd (opsO Y TI FZ al (drp l k) s1 fun s' => col Y s1 tm s') fun d => N (reb Y s1 tm d) else none
      | none => none) else
      ops Y TI FZ al (tk al k) s fun s1 => bif wrG tm.ws al (drp al k) then bd (ops Y TI FZ al (drp al k) s1 fun s' => col Y s1 tm s') fun d => N (reb Y s1 tm d) else none
  | an => bif d then (match ordr FZ al os an with
      | some l => opsO Y TI FZ al l s N
      | none => none) else ops Y TI FZ al al s N
def ev : Nat → An → Code → (α : Type) → St U → (St U → Option α) → (Nat → St U → Option α) → (St U → Option α) → Option α
  | 0, _, _, _, _, _, _, _ => none
  | f + 1, .j tm a, c, α, s, N, _, _ => bif wr tm.ws f c && anW tm.ws a then bd (ev f a c (Dat U tm.it) s (fun s' => col Y s tm s') (fun _ _ => none) (fun _ => none)) fun d => N (reb Y s tm d) else none
  | f + 1, .jx tm a, c, α, s, N, X, R => bif wr tm.ws f c && anW tm.ws a then nx (ev f a c (α ⊕ Dat U tm.it) s (fun s' => bd (col Y s tm s') fun d => some (.inr d)) (fun i s' => bd (X i s') fun r => some (.inl r)) (fun s' => bd (R s') fun r => some (.inl r))) fun d => N (reb Y s tm d) else none
  | f + 1, an, .seq a b, α, s, N, X, R => ev f an.a a α s (fun s' => ev f an.b b α s' N X R) X R
  | f + 1, an, .cond c a b, α, s, N, X, R => match c with
    | .tmp n => tst n s (fun s => ev f an.a a α s N X R) (fun s => ev f an.b b α s N X R)
    | _ => none
  | f + 1, an, .block id c, α, s, N, X, R => ev f an.a c α s N (fun i s' => bif Nat.beq i id then N s' else X i s') R
  | f + 1, .l tm n a, .loop c, α, s, _, X, R => bif wr tm.ws f c && anW tm.ws a then bd (col Y s tm s) (itr n fun rec d => ev f a c α (reb Y s tm d) (fun s' => bd (col Y s tm s') rec) X R) else none
  | _ + 1, _, .skip, _, s, N, _, _ => N s
  | _ + 1, _, .ret, _, s, _, _, R => R s
  | _ + 1, _, .exit i, _, s, _, X, _ => X i s
  | _ + 1, an, .region _ os d, _, s, N, _, _ => rgn Y TI FZ os.toList os d an s N
  | _ + 1, _, _, _, _, _, _, _ => none

/-! ### Functions -/
/-- A function's results, out of the state at its return. -/
def resV (s : St U) : ResultVar → Option (Sv U)
  | .tmp n => nth s.t n
  | .cell a t => match nth s.t a, fnd TI t with
    | some (.l (.box b 0)), some i => match nth s.m.o b with
      | some ⟨.box _ cs _, _, _⟩ => cut i cs 0
      | _ => none
    | _, _ => none
def resVs (s : St U) : List ResultVar → Option (List (Sv U))
  | [] => some []
  | r :: rs => match resV TI s r with
    | some x => match resVs s rs with
      | some xs => some (x :: xs)
      | none => none
    | none => none
/-- The trees that a result is made of: all its slices are the run's own, each a tree of its own. -/
def ownL (m : Mm U) : List (Lf U) → Option (List Nat)
  | [] => some []
  | .own i r :: xs => match nth m.o i with
    | some ⟨.tree _ d _, rv, _⟩ => bif Nat.beq rv r && d then (match ownL m xs with
      | some l => some (i :: l)
      | none => none) else none
    | _ => none
  | x :: xs => match x with
    | .sl .. => none
    | .bor .. => none
    | .inn .. => none
    | _ => ownL m xs
def ownS (m : Mm U) : List (Sv U) → Option (List Nat)
  | [] => some []
  | x :: xs => match parts x with
    | some cs => match ownL m cs with
      | some l => match ownS m xs with
        | some l' => some (l ++ l')
        | none => none
      | none => none
    | none => none
def fin (fr : Bool) (ks : List Kd) (rs : List ResultVar) (s : St U) : Option (Tup U ks) := match resVs TI s rs with
  | some xs => bif fr then (match ownS s.m xs with
    | some l => bif dist l && posKs (U := U) ks then svsTy Y s.m ks xs else none
    | none => none) else svsTy Y s.m ks xs
  | none => none
def ini (n : Nat) (ks : List Kd) (a : Tup U ks) : St U :=
  let l := (toCps Y ks a).map cpSv
  ⟨l ++ List.replicate (n - len l) (.l .any), ⟨[], 0, []⟩, []⟩
/-- The function, evaluated. -/
def evF (an : An) (c : Code) (n : Nat) (ar rs : List Kd) (fr : Bool) (rv : List ResultVar) (a : Tup U ar) : Option (Tup U rs) :=
  ev Y TI FZ 1000 an c (Tup U rs) (ini Y n ar a) (fin Y TI fr rs rv) (fun _ _ => none) (fin Y TI fr rs rv)
/-- A function that writes its first argument: the state at its beginning, what it leaves, the whole. -/
def iniM (n : Nat) (kd : Kd) (a : kd.ty U) (k : Int) : St U :=
  let q := ownCs 0 0 [toCp Y kd a]
  let l := q.1.map cpSv ++ [Sv.l (.int .i64 k)]
  ⟨l ++ List.replicate (n - len l) (.l .any), ⟨q.2, 0, []⟩, []⟩
def finM (kd : Kd) (a0 : kd.ty U) (rv : List ResultVar) (s : St U) : Option (Tup U [kd, .int .i64]) := match resVs TI s rv with
  | some [x] => match svTy Y s.m (.int .i64) x, (ownCs (U := U) 0 0 [toCp Y kd a0]).1.map cpSv with
    | some k, [y] => match ownS s.m [y], svTy Y s.m kd y with
      | some l, some a => bif dist l && posKs (U := U) [kd] then some (a, k) else none
      | _, _ => none
    | _, _ => none
  | _ => none
def evM (an : An) (c : Code) (n : Nat) (kd : Kd) (rv : List ResultVar) (a : Tup U [kd, .int .i64]) : Option (Tup U [kd, .int .i64]) :=
  ev Y TI FZ 1000 an c (Tup U [kd, .int .i64]) (iniM Y n kd a.1 a.2) (finM Y TI kd a.1 rv) (fun _ _ => none) (finM Y TI kd a.1 rv)
end
end Go.EV
