import PyProof.Rows.All
import Wide.All
import OpenK.AllK
import KE.FramesApart
import KE.KTryMore
import KE.KTurns
import KE.KRevIter
import KE.KIntText
import Lean
import PySem.Challenge.RW_uf030032_11
set_option Elab.async false
set_option linter.unusedVariables false
set_option linter.unusedSimpArgs false
set_option linter.unnecessarySimpa false
set_option maxRecDepth 100000
namespace Mine
inductive Dat where
  | none
  | bool (b : Bool)
  | int (i : Int)
  | str (s : List Nat)
  | tup (ds : List Dat)
  | lst (ds : List Dat)
  | dic
mutual
noncomputable def pyOf : Dat → PySem.PyData
  | .none => .none
  | .bool b => .bool b
  | .int i => .int i
  | .str s => .str ⟨s.toArray⟩
  | .tup ds => .tuple (pyOfs ds)
  | .lst ds => .list (pyOfs ds)
  | .dic => .dict []
noncomputable def pyOfs : List Dat → List PySem.PyData
  | [] => []
  | d :: r => pyOf d :: pyOfs r
end
noncomputable def Dat.eq (a b : Dat) : Bool := PySem.PyData.eqv (pyOf a) (pyOf b)
noncomputable def Dat.fine : Nat → Dat → Bool
  | _, .none => true
  | _, .bool _ => true
  | _, .int _ => true
  | _, .str _ => true
  | n + 1, .tup ds => ds.all (Dat.fine n)
  | n + 1, .lst ds => ds.all (Dat.fine n)
  | _, _ => false
inductive Val where
  | un
  | sh (d : Dat)
  | own (ds : List Dat)
  | bor (ds : List Dat)
  | shop (ns ps : List Dat)
  | exc (c : Nat)
  | pr (d : Dat) (ds : List Dat)
inductive Out (α : Type) where
  | ok (a : α)
  | exn (c : Nat)
  | bad
namespace Out
@[simp] noncomputable def bind {α β : Type} : Out α → (α → Out β) → Out β
  | .ok a, f => f a
  | .exn c, _ => .exn c
  | .bad, _ => .bad
noncomputable instance : Monad Out where
  pure := .ok
  bind := bind
@[simp] theorem pure_eq {α : Type} (a : α) : (pure a : Out α) = .ok a := rfl
@[simp] theorem bind_ok {α β : Type} (a : α) (f : α → Out β) : (Out.ok a >>= f) = f a := rfl
@[simp] theorem bind_exn {α β : Type} (c : Nat) (f : α → Out β) : ((Out.exn c : Out α) >>= f) = .exn c := rfl
@[simp] theorem bind_bad {α β : Type} (f : α → Out β) : ((Out.bad : Out α) >>= f) = .bad := rfl
end Out
set_option genSizeOf false in
set_option genInjectivity false in
inductive BOp where | add | sub | mul | fdiv | mod | pow
set_option genSizeOf false in
set_option genInjectivity false in
inductive COp where | eq | ne | lt | le | gt | ge | isin | notin
set_option genSizeOf false in
set_option genInjectivity false in
inductive BI where | len | int | str | min | max | sum | abs
set_option genSizeOf false in
set_option genInjectivity false in
inductive Ty where | int | bool | str | list | tuple | shop | exc (c : Nat)
set_option genSizeOf false in
set_option genInjectivity false in
inductive Me where | index | join | split | upper | count
set_option genSizeOf false in
set_option genInjectivity false in
inductive T where
  | nil
  | cons (a b : T)
  | cN
  | cB (b : Bool)
  | cI (i : Int)
  | cS (s : List Nat)
  | gI (i : Int)
  | gS (s : List Nat)
  | v (i : Nat)
  | neg (a : T)
  | bin (o : BOp) (a b : T)
  | cmp (o : COp) (a b : T)
  | cmp2 (o p : COp) (a b c : T)
  | isN (n : Bool) (a : T)
  | not (a : T)
  | and (a b : T)
  | or (a b : T)
  | ite (c a b : T)
  | tup (ts : T)
  | lst (ts : T)
  | idx (a i : T)
  | sl (a lo hi : T)
  | dget (k : List (List Nat × Int)) (a : T)
  | din (k : List (List Nat × Int)) (n : Bool) (a : T)
  | dic
  | call (f : Nat) (ts : T)
  | bi (b : BI) (ts : T)
  | isi (t : Ty) (a : T)
  | mkL (it : T)
  | mkT (it : T)
  | rng (a b c : T)
  | zip (a b : T)
  | rev (a : T)
  | meth (m : Me) (a ts : T)
  | attr (k : Bool) (a : T)
  | mcall (f : Nat) (a ts : T)
  | new (f : Nat) (ts : T)
  | comp (elt : T) (tg : List Nat) (it c : T)
  | asg (i : Nat) (e : T)
  | asgO (i : Nat) (e : T)
  | asgT (is : List Nat) (e : T)
  | seti (i : Nat) (k e : T)
  | app (i : Nat) (e : T)
  | rvs (i : Nat)
  | clr (i : Nat)
  | ex (e : T)
  | iff (c a b : T)
  | for_ (tg : List Nat) (it b : T)
  | whl (c b : T)
  | ret (e : T)
  | retO (i : Nat)
  | retP (e : T) (i : Nat)
  | frz (i : Nat)
  | raise (c : Nat) (m : List Nat)
  | try_ (b : T) (c : Nat) (i : Nat) (h : T)
noncomputable def needD : Val → Out Dat
  | .sh d => .ok d
  | .own ds => .ok (.lst ds)
  | .pr d ds => .ok (.tup [d, .lst ds])
  | _ => .bad
noncomputable def needB : Val → Out Dat
  | .sh d => .ok d
  | .own ds => .ok (.lst ds)
  | .bor ds => .ok (.lst ds)
  | .pr d ds => .ok (.tup [d, .lst ds])
  | _ => .bad
noncomputable def rd : Val → Out Val
  | .un => .bad
  | .own ds => .ok (.bor ds)
  | .pr _ _ => .bad
  | x => .ok x
noncomputable def line : Nat := 16777216
noncomputable def posOf (k : Int) (n : Nat) : Option Nat := if 0 ≤ k then (if k < n then some k.toNat else Option.none) else if 0 ≤ k + n then some (k + n).toNat else Option.none
noncomputable def clampAt (n : Nat) (k : Int) : Nat := (max 0 (min (if k < 0 then k + n else k) n)).toNat
noncomputable def cut {α : Type} (lo hi : Option Int) (l : List α) : List α :=
  (l.drop (lo.elim 0 (clampAt l.length))).take (hi.elim l.length (clampAt l.length) - lo.elim 0 (clampAt l.length))
noncomputable def strOfInt (i : Int) : List Nat := (toString i).toList.map Char.toNat
noncomputable def ii (f : Int → Int → Out Val) (x y : Dat) : Out Val := match x with
  | .int a => match y with
    | .int b => f a b
    | _ => .bad
  | _ => .bad
noncomputable def addD (x y : Dat) : Out Val := match x with
  | .int a => match y with
    | .int b => .ok (.sh (.int (a + b)))
    | _ => .bad
  | .str a => match y with
    | .str b => if a.length + b.length ≤ line then .ok (.sh (.str (a ++ b))) else .bad
    | _ => .bad
  | .lst a => match y with
    | .lst b => if a.length + b.length ≤ line then .ok (.own (a ++ b)) else .bad
    | _ => .bad
  | .tup a => match y with
    | .tup b => if a.length + b.length ≤ line then .ok (.sh (.tup (a ++ b))) else .bad
    | _ => .bad
  | _ => .bad
noncomputable def mulD (x y : Dat) : Out Val := match x with
  | .int a => match y with
    | .int b => if a.natAbs < 2 ^ 64 ∨ b.natAbs < 2 ^ 64 then .ok (.sh (.int (a * b))) else .bad
    | _ => .bad
  | .str a => match y with
    | .int n => if n = 0 then .ok (.sh (.str [])) else if n = 1 then .ok (.sh (.str a)) else .bad
    | _ => .bad
  | .lst a => match y with
    | .int n => if a.length * n.toNat ≤ line ∧ 0 ≤ n ∧ n < 2 ^ 20 then .ok (.own (List.replicate n.toNat a).flatten) else .bad
    | _ => .bad
  | _ => .bad
noncomputable def binD (o : BOp) (x y : Dat) : Out Val := match o with
  | .add => addD x y
  | .sub => ii (fun a b => .ok (.sh (.int (a - b)))) x y
  | .mul => mulD x y
  | .fdiv => ii (fun a b => if b ≠ 0 ∧ b.natAbs < 1073741824 then .ok (.sh (.int (a.fdiv b))) else .bad) x y
  | .mod => ii (fun a b => if b ≠ 0 then .ok (.sh (.int (a.fmod b))) else .bad) x y
  | .pow => ii (fun a b => if a = 10 ∧ b = 60 then .ok (.sh (.int (10 ^ 60))) else .bad) x y
noncomputable def ib (f : Int → Int → Bool) (x y : Dat) : Out Bool := match x with
  | .int a => match y with
    | .int b => .ok (f a b)
    | _ => .bad
  | _ => .bad
noncomputable def eqD (f : Bool → Bool) (a b : Dat) : Out Bool := if a.fine 20 && b.fine 20 then .ok (f (Dat.eq a b)) else .bad
noncomputable def inL (f : Bool → Bool) (a : Dat) (b : List Dat) : Out Bool := if a.fine 20 && b.all (Dat.fine 20) then .ok (f (b.any (fun x => Dat.eq x a))) else .bad
noncomputable def inS (f : Bool → Bool) (a : List Nat) (b : List Nat) : Out Bool := match a with
  | [] => .bad
  | c :: r => match r with
    | [] => .ok (f (decide (c ∈ b)))
    | _ :: _ => .bad
noncomputable def inD (f : Bool → Bool) (a b : Dat) : Out Bool := match b with
  | .lst b => inL f a b
  | .tup b => inL f a b
  | .str b => match a with
    | .str a => inS f a b
    | _ => .bad
  | _ => .bad
noncomputable def cmpD (o : COp) (a b : Dat) : Out Bool := match o with
  | .eq => eqD (fun r => r) a b
  | .ne => eqD (fun r => !r) a b
  | .lt => ib (fun a b => decide (a < b)) a b
  | .le => ib (fun a b => decide (a ≤ b)) a b
  | .gt => ib (fun a b => decide (b < a)) a b
  | .ge => ib (fun a b => decide (b ≤ a)) a b
  | .isin => inD (fun r => r) a b
  | .notin => inD (fun r => !r) a b
noncomputable def intsOf : List Dat → Option (List Int)
  | [] => some []
  | .int i :: r => (intsOf r).map (i :: ·)
  | _ => Option.none
noncomputable def strsOf : List Dat → Option (List (List Nat))
  | [] => some []
  | .str i :: r => (strsOf r).map (i :: ·)
  | _ => Option.none
noncomputable def minL : Int → List Int → Int
  | a, [] => a
  | a, b :: r => minL (if b < a then b else a) r
noncomputable def on1 (f : Dat → Out Dat) (l : List Dat) : Out Dat := match l with
  | [] => .bad
  | d :: r => match r with
    | [] => f d
    | _ :: _ => .bad
noncomputable def on2 (f : Int → Int → Int) (a b : Dat) : Out Dat := match a with
  | .int i => match b with
    | .int j => .ok (.int (f i j))
    | _ => .bad
  | _ => .bad
noncomputable def lenD (d : Dat) : Out Dat := match d with
  | .str s => .ok (.int s.length)
  | .lst s => .ok (.int s.length)
  | .tup s => .ok (.int s.length)
  | _ => .bad
noncomputable def isFig (c : Nat) : Bool := (48).ble c && c.ble 57
noncomputable def figs (s : List Nat) : Bool := s.all isFig && !s.isEmpty && s.length.ble 600
noncomputable def valOf (s : List Nat) : Nat := s.foldl (fun acc c => acc * 10 + (c - 48)) 0
noncomputable def intB (d : Dat) : Out Dat := match d with
  | .bool b => .ok (.int (if b then 1 else 0))
  | .str s => if figs s = true then .ok (.int (valOf s : Nat)) else .bad
  | _ => .bad
noncomputable def strD (d : Dat) : Out Dat := match d with
  | .int i => if i.natAbs < 2 ^ 64 ∧ (strOfInt i).length ≤ line then .ok (.str (strOfInt i)) else .bad
  | .str s => .ok (.str s)
  | _ => .bad
noncomputable def minI (l : Option (List Int)) : Out Dat := match l with
  | Option.none => .bad
  | some l => match l with
    | [] => .bad
    | a :: r => .ok (.int (minL a r))
noncomputable def sumI (l : Option (List Int)) : Out Dat := match l with
  | Option.none => .bad
  | some r => .ok (.int r.sum)
noncomputable def minD (d : Dat) : Out Dat := match d with
  | .lst l => minI (intsOf l)
  | _ => .bad
noncomputable def sumD (d : Dat) : Out Dat := match d with
  | .lst l => sumI (intsOf l)
  | _ => .bad
noncomputable def absD (d : Dat) : Out Dat := match d with
  | .int a => .ok (.int (if a < 0 then -a else a))
  | _ => .bad
noncomputable def m12 (f : Dat → Out Dat) (g : Dat → Dat → Out Dat) (l : List Dat) : Out Dat := match l with
  | [] => .bad
  | a :: r => match r with
    | [] => f a
    | b :: r => match r with
      | [] => g a b
      | _ :: _ => .bad
noncomputable def biD (b : BI) (l : List Dat) : Out Dat := match b with
  | .len => on1 lenD l
  | .int => on1 intB l
  | .str => on1 strD l
  | .min => m12 minD (on2 fun a b => if b < a then b else a) l
  | .max => m12 (fun _ => .bad) (on2 fun a b => if b > a then b else a) l
  | .sum => on1 sumD l
  | .abs => on1 absD l
noncomputable def isT (p : Nat → Bool) (d : Dat) : Out Bool := match d with
  | .none => .ok (p 5)
  | .bool _ => .ok (p 1)
  | .int _ => .ok (p 0)
  | .str _ => .ok (p 2)
  | .tup _ => .ok (p 4)
  | .lst _ => .ok (p 3)
  | .dic => .bad
noncomputable def isiD (t : Ty) (d : Dat) : Out Bool := match t with
  | .int => isT (fun k => k.ble 1) d
  | .bool => isT (fun k => k.beq 1) d
  | .str => isT (fun k => k.beq 2) d
  | .list => isT (fun k => k.beq 3) d
  | .tuple => isT (fun k => k.beq 4) d
  | .shop => .bad
  | .exc _ => .bad
noncomputable def splitOn (sep : Nat) : List Nat → List (List Nat)
  | [] => [[]]
  | c :: r => if c = sep then [] :: splitOn sep r else match splitOn sep r with
    | [] => [[c]]
    | w :: ws => (c :: w) :: ws
noncomputable def joinW (sep : List Nat) : List (List Nat) → List Nat
  | [] => []
  | [x] => x
  | x :: r => x ++ sep ++ joinW sep r
noncomputable def joinD (sep : List Nat) (l : List Dat) : Out Val := match strsOf l with
  | Option.none => .bad
  | some ws => if (ws.map List.length).sum + ws.length * sep.length ≤ line then .ok (.sh (.str (joinW sep ws))) else .bad
noncomputable def join1 (sep : List Nat) (as : List Dat) : Out Val := match as with
  | [] => .bad
  | a :: r => match r with
    | [] => match a with
      | .lst l => joinD sep l
      | _ => .bad
    | _ :: _ => .bad
noncomputable def upperC (c : Nat) : Nat := if 97 ≤ c ∧ c ≤ 122 then c - 32 else c
noncomputable def indexD (l : List Dat) (a : Dat) : Out Val :=
  if a.fine 20 && l.all (Dat.fine 20) then (match l.findIdx? (fun x => Dat.eq x a) with | some i => .ok (.sh (.int i)) | Option.none => .bad) else .bad
noncomputable def countD (l : List Dat) (a : Dat) : Out Val :=
  if a.fine 20 && l.all (Dat.fine 20) then .ok (.sh (.int (l.countP fun x => Dat.eq x a : Nat))) else .bad
noncomputable def upper1 (x : List Nat) (as : List Dat) : Out Val := match as with
  | [] => if x.all (fun c => c.blt 128) && x.length.ble 1000 then .ok (.sh (.str (x.map upperC))) else .bad
  | _ :: _ => .bad
noncomputable def meOk (m : Me) (d : Dat) : Bool := match m with
  | .index => match d with
    | .lst _ => true
    | _ => false
  | .join => match d with
    | .str _ => true
    | _ => false
  | .upper => match d with
    | .str _ => true
    | _ => false
  | .count => match d with
    | .lst _ => true
    | _ => false
  | .split => match d with
    | .str _ => true
    | _ => false
noncomputable def idx1 (l : List Dat) (as : List Dat) : Out Val := match as with
  | [] => .bad
  | a :: r => match r with
    | [] => indexD l a
    | _ :: _ => .bad
noncomputable def cnt1 (l : List Dat) (as : List Dat) : Out Val := match as with
  | [] => .bad
  | a :: r => match r with
    | [] => countD l a
    | _ :: _ => .bad
noncomputable def split2 (x : List Nat) (d : Dat) : Out Val := match d with
  | .str sep => if sep = [32] ∧ x.length ≤ 100000 then .ok (.own ((splitOn 32 x).map .str)) else .bad
  | _ => .bad
noncomputable def split1 (x : List Nat) (as : List Dat) : Out Val := match as with
  | [] => .bad
  | a :: r => match r with
    | [] => split2 x a
    | _ :: _ => .bad
noncomputable def meD (m : Me) (d : Dat) (as : List Dat) : Out Val := match m with
  | .index => match d with
    | .lst l => idx1 l as
    | _ => .bad
  | .join => match d with
    | .str x => join1 x as
    | _ => .bad
  | .upper => match d with
    | .str x => upper1 x as
    | _ => .bad
  | .count => match d with
    | .lst l => cnt1 l as
    | _ => .bad
  | .split => match d with
    | .str x => split1 x as
    | _ => .bad
noncomputable def signs (s : List Nat) : List Dat := s.map fun c => Dat.str [c]
noncomputable def itemsV : Val → Out (List Dat)
  | .sh (.lst l) => .ok l
  | .sh (.tup l) => .ok l
  | .sh (.str s) => .ok (signs s)
  | .own l => .ok l
  | .bor l => .ok l
  | _ => .bad
noncomputable def itemsS : Val → Out (List Dat)
  | .sh (.lst l) => .ok l
  | .sh (.tup l) => .ok l
  | .own l => .ok l
  | .bor l => .ok l
  | _ => .bad
noncomputable def itemsL : Val → Out (List Dat)
  | .sh (.lst l) => .ok l
  | .own l => .ok l
  | .bor l => .ok l
  | _ => .bad
noncomputable def rangeL (a : Int) (c : Int) : Nat → List Dat
  | 0 => []
  | n + 1 => Dat.int a :: rangeL (a + c) c n
noncomputable def setAll : List Val → List Nat → List Dat → Option (List Val)
  | ρ, [], [] => some ρ
  | ρ, i :: is, d :: ds => setAll (ρ.set i (.sh d)) is ds
  | _, _, _ => Option.none
noncomputable def bindM (tg : List Nat) (d : Dat) (ρ : List Val) : Out (List Val) := match d with
  | .tup ds => match setAll ρ tg ds with
    | some ρ' => .ok ρ'
    | Option.none => .bad
  | _ => .bad
noncomputable def bindT (tg : List Nat) (d : Dat) (ρ : List Val) : Out (List Val) := match tg with
  | [] => bindM [] d ρ
  | i :: r => match r with
    | [] => .ok (ρ.set i (.sh d))
    | j :: r => bindM (i :: j :: r) d ρ
inductive Fl where | next | ret (v : Val)
noncomputable def retV : Val → Out Val
  | .un => .bad
  | .bor _ => .bad
  | x => .ok x
noncomputable def argV : Val → Out Val
  | .sh d => .ok (.sh d)
  | .own ds => .ok (.sh (.lst ds))
  | .bor ds => .ok (.bor ds)
  | .pr d ds => .ok (.sh (.tup [d, .lst ds]))
  | .shop a b => .ok (.shop a b)
  | .exc c => .ok (.exc c)
  | .un => .bad
noncomputable def stoV : Val → Out Val
  | .sh d => .ok (.sh d)
  | .own ds => .ok (.sh (.lst ds))
  | .pr d ds => .ok (.sh (.tup [d, .lst ds]))
  | .shop a b => .ok (.shop a b)
  | _ => .bad
noncomputable def seq (x : Out (Fl × List Val)) (f : List Val → Out (Fl × List Val)) : Out (Fl × List Val) := x >>= fun r => match r.1 with
  | .next => f r.2
  | .ret v => .ok (.ret v, r.2)
noncomputable def forL (f : List Val → Dat → Out (Fl × List Val)) : List Dat → List Val → Out (Fl × List Val)
  | [], ρ => .ok (.next, ρ)
  | d :: ds, ρ => seq (f ρ d) (forL f ds)
noncomputable def whlL (f : List Val → Out (Option (Fl × List Val))) : Nat → List Val → Out (Fl × List Val)
  | 0, _ => .bad
  | n + 1, ρ => do
    match ← f ρ with
    | Option.none => .ok (.next, ρ)
    | some r => seq (.ok r) (whlL f n)
noncomputable def noX {α : Type} (r : Out α) : Out α := match r with
  | .exn _ => .bad
  | r => r
noncomputable def compL (f : Dat → Out (Option Dat)) : List Dat → Out (List Dat)
  | [] => .ok []
  | d :: ds => do
    match ← f d with
    | Option.none => compL f ds
    | some x => do
      let r ← compL f ds
      .ok (x :: r)
noncomputable def boolD : Val → Out Bool
  | .sh (.bool b) => .ok b
  | _ => .bad
noncomputable def intD : Val → Out Int
  | .sh (.int i) => .ok i
  | _ => .bad
noncomputable def allD : List Val → Out (List Dat)
  | [] => .ok []
  | v :: r => do
    let d ← needD v
    let ds ← allD r
    .ok (d :: ds)
noncomputable def allB : List Val → Out (List Dat)
  | [] => .ok []
  | v :: r => do
    let d ← needB v
    let ds ← allB r
    .ok (d :: ds)
noncomputable def bin2 (o : BOp) (x y : Out Val) : Out Val := x >>= needB >>= fun x => y >>= needB >>= fun y => binD o x y
noncomputable def cmpB (o : COp) (x y : Out Val) : Out Bool := x >>= needB >>= fun x => y >>= needB >>= fun y => cmpD o x y
noncomputable def andB (x y : Out Bool) : Out Bool := x >>= fun b => if b then y else .ok false
noncomputable def orB (x y : Out Bool) : Out Bool := x >>= fun b => if b then .ok true else y
noncomputable def isNV (n : Bool) (x : Val) : Out Bool := match x with
  | .sh d => match d with
    | .none => .ok (!n)
    | _ => .ok n
  | .un => .bad
  | _ => .ok n
noncomputable def idxL (l : List Dat) (k : Int) : Out Val := match posOf k l.length with
  | some j => match l[j]? with
    | some d => .ok (.sh d)
    | Option.none => .bad
  | Option.none => .bad
noncomputable def idxS (l : List Nat) (k : Int) : Out Val := match posOf k l.length with
  | some j => match l[j]? with
    | some d => .ok (.sh (.str [d]))
    | Option.none => .bad
  | Option.none => .bad
noncomputable def idxD (d : Dat) (k : Int) : Out Val := match d with
  | .lst l => idxL l k
  | .tup l => idxL l k
  | .str l => idxS l k
  | _ => .bad
noncomputable def idx2 (x : Val) (k : Int) : Out Val := match x with
  | .pr d l => if k = 0 then .ok (.sh d) else if k = 1 then .ok (.own l) else .bad
  | .sh d => idxD d k
  | .own l => idxL l k
  | .bor l => idxL l k
  | _ => .bad
noncomputable def sl2 (x : Dat) (l h : Option Int) : Out Val := match x with
  | .lst xs => .ok (.own (cut l h xs))
  | .tup xs => .ok (.sh (.tup (cut l h xs)))
  | .str xs => .ok (.sh (.str (cut l h xs)))
  | _ => .bad
noncomputable def mcall1 (Φ : Nat → List Val → Out Val) (f : Nat) (vs : Out (List Val)) (x : Val) : Out Val := match x with
  | .shop x y => vs >>= fun vs => Φ f (.shop x y :: vs)
  | _ => .bad
noncomputable def attr1 (k : Bool) (x : Val) : Out Val := match x with
  | .shop x y => .ok (.sh (.lst (if k then y else x)))
  | _ => .bad
noncomputable def lkI (o : Option Int) : Out Val := match o with
  | some i => .ok (.sh (.int i))
  | Option.none => .bad
noncomputable def lk (k : List (List Nat × Int)) (s : List Nat) : Out Val := lkI (k.lookup s)
noncomputable def dg1 (k : List (List Nat × Int)) (d : Dat) : Out Val := match d with
  | .str s => lk k s
  | _ => .bad
noncomputable def din1 (k : List (List Nat × Int)) (n : Bool) (d : Dat) : Out Bool := match d with
  | .str s => .ok ((k.lookup s).isSome != n)
  | _ => .bad
theorem rngD_ex : ∃ f : Int → Out (List Dat), ∀ y, f y = if -(2 ^ 20) ≤ y ∧ y < 2 ^ 20 then .ok (rangeL 0 1 y.toNat) else .bad := ⟨_, fun _ => rfl⟩
noncomputable def rngD : Int → Out (List Dat) := Classical.choose rngD_ex
theorem rngD_eq (y : Int) : rngD y = if -(2 ^ 20) ≤ y ∧ y < 2 ^ 20 then .ok (rangeL 0 1 y.toNat) else .bad := Classical.choose_spec rngD_ex y
theorem rngD2_ex : ∃ f : Int → Int → Out (List Dat), ∀ x y, f x y = if 0 ≤ x ∧ x < 2 ^ 20 ∧ -(2 ^ 20) ≤ y ∧ y < 2 ^ 20 then .ok (rangeL x 1 (y - x).toNat) else .bad := ⟨_, fun _ _ => rfl⟩
noncomputable def rngD2 : Int → Int → Out (List Dat) := Classical.choose rngD2_ex
theorem rngD2_eq (x y : Int) : rngD2 x y = if 0 ≤ x ∧ x < 2 ^ 20 ∧ -(2 ^ 20) ≤ y ∧ y < 2 ^ 20 then .ok (rangeL x 1 (y - x).toNat) else .bad := Classical.choose_spec rngD2_ex x y
theorem rngD3_ex : ∃ f : Int → Int → Int → Out (List Dat), ∀ x y z, f x y z = if z = 2 ∧ 0 ≤ x ∧ x < 2 ^ 20 ∧ -(2 ^ 20) ≤ y ∧ y < 2 ^ 20 then .ok (rangeL x 2 ((y - x + 1) / 2).toNat) else .bad := ⟨_, fun _ _ _ => rfl⟩
noncomputable def rngD3 : Int → Int → Int → Out (List Dat) := Classical.choose rngD3_ex
theorem rngD3_eq (x y z : Int) : rngD3 x y z = if z = 2 ∧ 0 ≤ x ∧ x < 2 ^ 20 ∧ -(2 ^ 20) ≤ y ∧ y < 2 ^ 20 then .ok (rangeL x 2 ((y - x + 1) / 2).toNat) else .bad := Classical.choose_spec rngD3_ex x y z
noncomputable def zipD (x y : List Dat) : List Dat := (x.zip y).map fun p => Dat.tup [p.1, p.2]
noncomputable def srcF1 (x : Val) : Out Val := match x with
  | .sh d => .ok (.sh d)
  | .bor l => .ok (.bor l)
  | _ => .bad
noncomputable def srcE1 (x : Val) : Out Val := match x with
  | .sh d => .ok (.sh d)
  | .own l => .ok (.sh (.lst l))
  | _ => .bad
noncomputable def own1 (x : Val) : Out Val := match x with
  | .own l => .ok (.own l)
  | .sh d => .ok (.sh d)
  | _ => .bad
noncomputable def ownX (f : List Dat → Out (Fl × List Val)) (x : Val) : Out (Fl × List Val) := match x with
  | .own l => f l
  | _ => .bad
noncomputable def asgT1 (is : List Nat) (ρ : List Val) (d : Dat) : Out (Fl × List Val) := match d with
  | .tup ds => match setAll ρ is ds with
    | some ρ' => .ok (.next, ρ')
    | Option.none => .bad
  | _ => .bad
noncomputable def un1 (ρ : List Val) (x : Val) : Out (Fl × List Val) := match x with
  | .un => .bad
  | _ => .ok (.next, ρ)
noncomputable def isiX (t : Ty) (k : Nat) : Out Bool := match t with
  | .exc c => .ok (c.beq k || c.ble 1)
  | _ => .bad
noncomputable def isiH (t : Ty) : Out Bool := match t with
  | .shop => .ok true
  | _ => .bad
noncomputable def needX (x : Val) : Out (Dat ⊕ Option Nat) := match x with
  | .exc k => .ok (.inr (some k))
  | .shop _ _ => .ok (.inr Option.none)
  | x => needB x >>= fun d => .ok (.inl d)
noncomputable def isiY (t : Ty) (y : Dat ⊕ Option Nat) : Out Bool := match y with
  | .inl d => isiD t d
  | .inr (some k) => isiX t k
  | .inr Option.none => isiH t
noncomputable def isiV (t : Ty) (x : Val) : Out Bool := needX x >>= isiY t
noncomputable def plF (f : Fl) : Out Fl := match f with
  | .next => .ok .next
  | .ret (.sh d) => .ok (.ret (.sh d))
  | _ => .bad
noncomputable def tryS (i : Nat) (H : List Val → Out (Fl × List Val)) (ρ : List Val) (r : Out (Fl × List Val)) : Out (Fl × List Val) := match r with
  | .exn c => noX (H ((ρ.map fun _ => Val.un).set i (.exc c))) >>= fun r => plF r.1 >>= fun f => .ok (f, r.2.set i .un)
  | r => r
noncomputable def T.isNil (t : T) : Bool := t.ctorIdx.beq 0
set_option genSizeOf false in
set_option genInjectivity false in
structure Sm where
  e : List Val → Out Val
  l : List Val → Out (List Val)
  i : List Val → Out (List Dat)
  v : List Val → Out Val
  f : List Val → Out (List Dat)
  k : List Val → Out (List Dat)
  x : List Val → Out (Fl × List Val)
noncomputable def bd {α : Type} (_ : List Val) : Out α := .bad
noncomputable def smE (e : List Val → Out Val) : Sm := ⟨e, bd, fun ρ => e ρ >>= argV >>= itemsV, fun ρ => e ρ >>= srcE1, fun ρ => e ρ >>= srcE1 >>= itemsV, fun ρ => e ρ >>= itemsS, bd⟩
noncomputable def smX (x : List Val → Out (Fl × List Val)) : Sm := ⟨bd, bd, bd, bd, bd, bd, x⟩
noncomputable def smI (i f k : List Val → Out (List Dat)) : Sm := ⟨bd, bd, i, bd, f, k, bd⟩
noncomputable def optS (t : T) (C : Sm) (ρ : List Val) : Out (Option Int) := cond t.isNil (.ok Option.none) (C.e ρ >>= intD >>= fun i => .ok (some i))
noncomputable def ifS (t : T) (C : Sm) (ρ : List Val) : Out Bool := cond t.isNil (.ok true) (C.e ρ >>= boolD)
noncomputable def compS (E : Sm) (tg : List Nat) (t : T) (C : Sm) (ρ : List Val) (d : Dat) : Out (Option Dat) :=
  noX (bindT tg d ρ >>= fun ρ' => ifS t C ρ' >>= fun b => if b then E.e ρ' >>= needD >>= fun x => .ok (some x) else .ok Option.none)
noncomputable def rngS (a c : T) (A B C : Sm) (ρ : List Val) : Out (List Dat) :=
  cond c.isNil (cond a.isNil (B.e ρ >>= intD >>= rngD) (A.e ρ >>= intD >>= fun x => B.e ρ >>= intD >>= fun y => rngD2 x y)) (A.e ρ >>= intD >>= fun x => B.e ρ >>= intD >>= fun y => C.e ρ >>= intD >>= fun z => rngD3 x y z)
noncomputable def zipS (x y : Out Val) : Out (List Dat) := x >>= itemsS >>= fun x => y >>= itemsS >>= fun y => .ok (zipD x y)
noncomputable def forS (tg : List Nat) (B : Sm) (ρ : List Val) (d : Dat) : Out (Fl × List Val) := bindT tg d ρ >>= B.x
noncomputable def whlS (C B : Sm) (ρ : List Val) : Out (Option (Fl × List Val)) := C.e ρ >>= boolD >>= fun x => if x then B.x ρ >>= fun r => .ok (some r) else .ok Option.none
noncomputable def turns : Nat := 1000
noncomputable def evA (Φ : Nat → List Val → Out Val) (t : T) : Sm :=
  T.rec (motive := fun _ => Sm)
    (nil := ⟨bd, fun _ => .ok [], bd, bd, bd, bd, fun ρ => .ok (.next, ρ)⟩)
    (cons := fun _ _ A B => ⟨bd, fun ρ => A.e ρ >>= argV >>= fun x => B.l ρ >>= fun y => .ok (x :: y), bd, bd, bd, bd, fun ρ => seq (A.x ρ) B.x⟩)
    (cN := smE fun _ => .ok (.sh .none))
    (cB := fun b => smE fun _ => .ok (.sh (.bool b)))
    (cI := fun i => smE fun _ => .ok (.sh (.int i)))
    (cS := fun s => smE fun _ => .ok (.sh (.str s)))
    (gI := fun i => smE fun _ => .ok (.sh (.int i)))
    (gS := fun s => smE fun _ => .ok (.sh (.str s)))
    (v := fun i => ⟨fun ρ => rd (ρ.getD i .un), bd, fun ρ => rd (ρ.getD i .un) >>= argV >>= itemsV, fun ρ => srcF1 (ρ.getD i .un), fun ρ => srcF1 (ρ.getD i .un) >>= itemsV, fun ρ => rd (ρ.getD i .un) >>= itemsS, bd⟩)
    (neg := fun _ A => smE fun ρ => A.e ρ >>= intD >>= fun i => .ok (.sh (.int (-i))))
    (bin := fun o _ _ A B => smE fun ρ => bin2 o (A.e ρ) (B.e ρ))
    (cmp := fun o _ _ A B => smE fun ρ => cmpB o (A.e ρ) (B.e ρ) >>= fun r => .ok (.sh (.bool r)))
    (cmp2 := fun o p _ _ _ A B C => smE fun ρ => (A.e ρ >>= needB >>= fun x => B.e ρ >>= needB >>= fun y => cmpD o x y >>= fun r => if r then C.e ρ >>= needB >>= fun z => cmpD p y z else .ok false) >>= fun r => .ok (.sh (.bool r)))
    (isN := fun n _ A => smE fun ρ => A.e ρ >>= isNV n >>= fun r => .ok (.sh (.bool r)))
    (not := fun _ A => smE fun ρ => (A.e ρ >>= boolD >>= fun b => .ok (!b)) >>= fun r => .ok (.sh (.bool r)))
    (and := fun _ _ A B => smE fun ρ => andB (A.e ρ >>= boolD) (B.e ρ >>= boolD) >>= fun r => .ok (.sh (.bool r)))
    (or := fun _ _ A B => smE fun ρ => orB (A.e ρ >>= boolD) (B.e ρ >>= boolD) >>= fun r => .ok (.sh (.bool r)))
    (ite := fun _ _ _ C A B => smE fun ρ => C.e ρ >>= boolD >>= fun x => if x then A.e ρ else B.e ρ)
    (tup := fun _ A => smE fun ρ => A.l ρ >>= allD >>= fun r => .ok (.sh (.tup r)))
    (lst := fun _ A => smE fun ρ => A.l ρ >>= allD >>= fun r => .ok (.own r))
    (idx := fun _ _ A B => smE fun ρ => A.e ρ >>= fun x => B.e ρ >>= intD >>= fun k => idx2 x k)
    (sl := fun _ b c A B C => smE fun ρ => A.e ρ >>= needB >>= fun x => optS b B ρ >>= fun l => optS c C ρ >>= fun h => sl2 x l h)
    (dget := fun k _ A => smE fun ρ => A.e ρ >>= needB >>= dg1 k)
    (din := fun k n _ A => smE fun ρ => A.e ρ >>= needB >>= din1 k n >>= fun r => .ok (.sh (.bool r)))
    (dic := smE bd)
    (call := fun f _ A => smE fun ρ => A.l ρ >>= Φ f)
    (bi := fun b _ A => smE fun ρ => A.l ρ >>= allB >>= biD b >>= fun d => .ok (.sh d))
    (isi := fun t _ A => smE fun ρ => A.e ρ >>= isiV t >>= fun d => .ok (.sh (.bool d)))
    (mkL := fun _ A => smE fun ρ => A.k ρ >>= fun ds => .ok (.own ds))
    (mkT := fun _ A => smE fun ρ => A.e ρ >>= itemsL >>= fun ds => .ok (.sh (.tup ds)))
    (rng := fun a _ c A B C => smI (rngS a c A B C) (rngS a c A B C) (fun ρ => cond (a.isNil && c.isNil) (B.e ρ >>= intD >>= rngD) .bad))
    (zip := fun _ _ A B => smI (fun ρ => zipS (A.e ρ >>= argV) (B.e ρ >>= argV)) (fun ρ => zipS (A.v ρ) (B.v ρ)) bd)
    (rev := fun _ A => smI bd (fun ρ => A.v ρ >>= itemsL >>= fun x => .ok x.reverse) (fun ρ => A.e ρ >>= itemsL >>= fun x => .ok x.reverse))
    (meth := fun m _ _ A B => smE fun ρ => A.e ρ >>= needB >>= fun x => if meOk m x then B.l ρ >>= allB >>= meD m x else .bad)
    (attr := fun k _ A => smE fun ρ => A.e ρ >>= attr1 k)
    (mcall := fun f _ _ A B => smE fun ρ => A.e ρ >>= mcall1 Φ f (B.l ρ))
    (new := fun f _ A => smE fun ρ => A.l ρ >>= fun vs => Φ f (.un :: vs))
    (comp := fun _ tg _ c E I C => smE fun ρ => I.i ρ >>= compL (compS E tg c C ρ) >>= fun r => .ok (.own r))
    (asg := fun i _ A => smX fun ρ => A.e ρ >>= stoV >>= fun x => .ok (.next, ρ.set i x))
    (asgO := fun i _ A => smX fun ρ => A.e ρ >>= own1 >>= fun x => .ok (.next, ρ.set i x))
    (asgT := fun is _ A => smX fun ρ => A.e ρ >>= needD >>= asgT1 is ρ)
    (seti := fun i _ _ K A => smX fun ρ => A.e ρ >>= needD >>= fun d => ownX (fun l => K.e ρ >>= intD >>= fun j => if 0 ≤ j ∧ j < l.length then .ok (.next, ρ.set i (.own (l.set j.toNat d))) else .bad) (ρ.getD i .un))
    (app := fun i _ A => smX fun ρ => ownX (fun l => A.e ρ >>= needD >>= fun d => if l.length < line then .ok (.next, ρ.set i (.own (l ++ [d]))) else .bad) (ρ.getD i .un))
    (rvs := fun i => smX fun ρ => ownX (fun l => .ok (.next, ρ.set i (.own l.reverse))) (ρ.getD i .un))
    (clr := fun i => smX fun ρ => ownX (fun _ => .ok (.next, ρ.set i (.own []))) (ρ.getD i .un))
    (ex := fun _ A => smX fun ρ => A.e ρ >>= un1 ρ)
    (iff := fun _ _ _ C A B => smX fun ρ => C.e ρ >>= boolD >>= fun x => if x then A.x ρ else B.x ρ)
    (for_ := fun tg _ _ I B => smX fun ρ => I.f ρ >>= fun ds => forL (forS tg B) ds ρ)
    (whl := fun _ _ C B => smX fun ρ => whlL (whlS C B) turns ρ)
    (ret := fun _ A => smX fun ρ => A.e ρ >>= retV >>= fun x => .ok (.ret x, ρ))
    (retO := fun i => smX fun ρ => ownX (fun l => .ok (.ret (.own l), ρ)) (ρ.getD i .un))
    (retP := fun _ i A => smX fun ρ => A.e ρ >>= needD >>= fun d => ownX (fun l => .ok (.ret (.pr d l), ρ)) (ρ.getD i .un))
    (frz := fun i => smX fun ρ => ownX (fun l => .ok (.next, ρ.set i (.sh (.lst l)))) (ρ.getD i .un))
    (raise := fun c _ => smX fun _ => .exn c)
    (try_ := fun _ _ i _ B H => smX fun ρ => tryS i H.x ρ (B.x ρ))
    t
section
variable (Φ : Nat → List Val → Out Val) (t : T) (ρ : List Val)
noncomputable def ev : Out Val := (evA Φ t).e ρ
noncomputable def evO : Out (Option Int) := optS t (evA Φ t) ρ
noncomputable def evT : Out (List Val) := (evA Φ t).l ρ
noncomputable def its : Out (List Dat) := (evA Φ t).i ρ
noncomputable def srcV : Out Val := (evA Φ t).v ρ
noncomputable def itsF : Out (List Dat) := (evA Φ t).f ρ
noncomputable def itsK : Out (List Dat) := (evA Φ t).k ρ
noncomputable def ex : Out (Fl × List Val) := (evA Φ t).x ρ
end
set_option genSizeOf false in
set_option genInjectivity false in
structure Fn where
  pars : Nat
  names : Nat
  body : T
  init : Option (Nat × Nat) := Option.none
noncomputable def outOf (r : Fl × List Val) : Val := match r.1 with
  | .ret v => v
  | .next => .sh .none
noncomputable def shop2 (x y : Dat) : Out Val := match x with
  | .lst ns => match y with
    | .lst ps => .ok (.shop ns ps)
    | _ => .bad
  | _ => .bad
noncomputable def shopOf (i j : Nat) (r : Fl × List Val) : Out Val := match r.1 with
  | .next => needD (r.2.getD i .un) >>= fun x => needD (r.2.getD j .un) >>= fun y => shop2 x y
  | .ret _ => .bad
noncomputable def runFn (Φ : Nat → List Val → Out Val) (f : Fn) (as : List Val) : Out Val :=
  if as.length = f.pars then
    match f.init with
    | Option.none => ex Φ f.body (as ++ List.replicate (f.names - f.pars) .un) >>= fun r => .ok (outOf r)
    | some p => ex Φ f.body (as ++ List.replicate (f.names - f.pars) .un) >>= shopOf p.1 p.2
  else .bad
noncomputable def callF (fns : List Fn) : Nat → Nat → List Val → Out Val
  | 0, _, _ => .bad
  | n + 1, f, as => match fns[f]? with
    | some fn => runFn (callF fns n) fn as
    | Option.none => .bad
end Mine
namespace Mine
open PySem
inductive G where
  | fn (i : Nat)
  | cI (i : Int)
  | cS (s : List Nat)
  | dict (k : List (List Nat × Int))
  | cls (f : Nat)
  | meth (f : Nat)
  | exc (c : Nat)
  | bi (v : Value)
  deriving DecidableEq
noncomputable abbrev Nm := List (Str × Nat)
noncomputable abbrev Gs := List (Str × G)
noncomputable def varOf (nm : Nm) (sc : Scope) (x : Str) : Option Nat :=
  match sc.names.lookup x with
  | some .local => nm.lookup x
  | some .cell => nm.lookup x
  | _ => Option.none
noncomputable def globOf (gs : Gs) (sc : Scope) (x : Str) : Option G :=
  match sc.names.lookup x with
  | some .globalImplicit => gs.lookup x
  | _ => Option.none
noncomputable def notDebug (x : Str) : Bool := !(x == ("__debug__" : Str))
noncomputable def bopOf : BOp → Operator
  | .add => .Add
  | .sub => .Sub
  | .mul => .Mult
  | .fdiv => .FloorDiv
  | .mod => .Mod
  | .pow => .Pow
noncomputable def copOf : COp → CmpOp
  | .eq => .Eq
  | .ne => .NotEq
  | .lt => .Lt
  | .le => .LtE
  | .gt => .Gt
  | .ge => .GtE
  | .isin => .In
  | .notin => .NotIn
noncomputable def bopOk (o : BOp) (p : Operator) : Bool := p == bopOf o
noncomputable def copOk (o : COp) (p : CmpOp) : Bool := p == copOf o
noncomputable def biV : BI → Value
  | .len => .builtin "len"
  | .int => .type "int"
  | .str => .type "str"
  | .min => .builtin "min"
  | .max => .builtin "max"
  | .sum => .builtin "sum"
  | .abs => .builtin "abs"
noncomputable def tyG : Ty → G
  | .int => .bi (.type "int")
  | .bool => .bi (.type "bool")
  | .str => .bi (.type "str")
  | .list => .bi (.type "list")
  | .tuple => .bi (.type "tuple")
  | .shop => .cls 0
  | .exc c => .exc c
noncomputable def isCls (g : Option G) : Bool := match g with
  | some g => match g with
    | .cls _ => true
    | _ => false
  | none => false
noncomputable def tyOk (t : Ty) (g : Option G) : Bool := match t with
  | .shop => isCls g
  | t => g == some (tyG t)
noncomputable def meN : Me → Str
  | .index => "index"
  | .join => "join"
  | .split => "split"
  | .upper => "upper"
  | .count => "count"
noncomputable def onBoolOp (e : Expr) (k : BoolOp → List Expr → Pos → Bool) : Bool := dite (e.ctorIdx = 0) (fun h => @Expr.BoolOp.elim (fun _ => Bool) e h k) fun _ => false
theorem onBoolOp_inv {P : Prop} {e : Expr} {k : BoolOp → List Expr → Pos → Bool} (h : onBoolOp e k = true) (f : ∀ a0 a1 a2, e = .BoolOp a0 a1 a2 → k a0 a1 a2 = true → P) : P :=
  if q : e.ctorIdx = 0 then @Expr.BoolOp.elim (fun x => e = x → onBoolOp x k = true → P) e q f rfl h else (Bool.false_ne_true ((dif_neg q).symm.trans h)).elim
noncomputable def onBinOp (e : Expr) (k : Expr → Operator → Expr → Pos → Bool) : Bool := dite (e.ctorIdx = 2) (fun h => @Expr.BinOp.elim (fun _ => Bool) e h k) fun _ => false
theorem onBinOp_inv {P : Prop} {e : Expr} {k : Expr → Operator → Expr → Pos → Bool} (h : onBinOp e k = true) (f : ∀ a0 a1 a2 a3, e = .BinOp a0 a1 a2 a3 → k a0 a1 a2 a3 = true → P) : P :=
  if q : e.ctorIdx = 2 then @Expr.BinOp.elim (fun x => e = x → onBinOp x k = true → P) e q f rfl h else (Bool.false_ne_true ((dif_neg q).symm.trans h)).elim
noncomputable def onUnaryOp (e : Expr) (k : UnaryOp → Expr → Pos → Bool) : Bool := dite (e.ctorIdx = 3) (fun h => @Expr.UnaryOp.elim (fun _ => Bool) e h k) fun _ => false
theorem onUnaryOp_inv {P : Prop} {e : Expr} {k : UnaryOp → Expr → Pos → Bool} (h : onUnaryOp e k = true) (f : ∀ a0 a1 a2, e = .UnaryOp a0 a1 a2 → k a0 a1 a2 = true → P) : P :=
  if q : e.ctorIdx = 3 then @Expr.UnaryOp.elim (fun x => e = x → onUnaryOp x k = true → P) e q f rfl h else (Bool.false_ne_true ((dif_neg q).symm.trans h)).elim
noncomputable def onIfExp (e : Expr) (k : Expr → Expr → Expr → Pos → Bool) : Bool := dite (e.ctorIdx = 5) (fun h => @Expr.IfExp.elim (fun _ => Bool) e h k) fun _ => false
theorem onIfExp_inv {P : Prop} {e : Expr} {k : Expr → Expr → Expr → Pos → Bool} (h : onIfExp e k = true) (f : ∀ a0 a1 a2 a3, e = .IfExp a0 a1 a2 a3 → k a0 a1 a2 a3 = true → P) : P :=
  if q : e.ctorIdx = 5 then @Expr.IfExp.elim (fun x => e = x → onIfExp x k = true → P) e q f rfl h else (Bool.false_ne_true ((dif_neg q).symm.trans h)).elim
noncomputable def onListComp (e : Expr) (k : Expr → List Comprehension → Scope → Pos → Bool) : Bool := dite (e.ctorIdx = 8) (fun h => @Expr.ListComp.elim (fun _ => Bool) e h k) fun _ => false
theorem onListComp_inv {P : Prop} {e : Expr} {k : Expr → List Comprehension → Scope → Pos → Bool} (h : onListComp e k = true) (f : ∀ a0 a1 a2 a3, e = .ListComp a0 a1 a2 a3 → k a0 a1 a2 a3 = true → P) : P :=
  if q : e.ctorIdx = 8 then @Expr.ListComp.elim (fun x => e = x → onListComp x k = true → P) e q f rfl h else (Bool.false_ne_true ((dif_neg q).symm.trans h)).elim
noncomputable def onCompare (e : Expr) (k : Expr → List CmpOp → List Expr → Pos → Bool) : Bool := dite (e.ctorIdx = 15) (fun h => @Expr.Compare.elim (fun _ => Bool) e h k) fun _ => false
theorem onCompare_inv {P : Prop} {e : Expr} {k : Expr → List CmpOp → List Expr → Pos → Bool} (h : onCompare e k = true) (f : ∀ a0 a1 a2 a3, e = .Compare a0 a1 a2 a3 → k a0 a1 a2 a3 = true → P) : P :=
  if q : e.ctorIdx = 15 then @Expr.Compare.elim (fun x => e = x → onCompare x k = true → P) e q f rfl h else (Bool.false_ne_true ((dif_neg q).symm.trans h)).elim
noncomputable def onCall (e : Expr) (k : Expr → List Expr → List Keyword → Pos → Bool) : Bool := dite (e.ctorIdx = 16) (fun h => @Expr.Call.elim (fun _ => Bool) e h k) fun _ => false
theorem onCall_inv {P : Prop} {e : Expr} {k : Expr → List Expr → List Keyword → Pos → Bool} (h : onCall e k = true) (f : ∀ a0 a1 a2 a3, e = .Call a0 a1 a2 a3 → k a0 a1 a2 a3 = true → P) : P :=
  if q : e.ctorIdx = 16 then @Expr.Call.elim (fun x => e = x → onCall x k = true → P) e q f rfl h else (Bool.false_ne_true ((dif_neg q).symm.trans h)).elim
noncomputable def onConstant (e : Expr) (k : Const → Nat → Pos → Bool) : Bool := dite (e.ctorIdx = 19) (fun h => @Expr.Constant.elim (fun _ => Bool) e h k) fun _ => false
theorem onConstant_inv {P : Prop} {e : Expr} {k : Const → Nat → Pos → Bool} (h : onConstant e k = true) (f : ∀ a0 a1 a2, e = .Constant a0 a1 a2 → k a0 a1 a2 = true → P) : P :=
  if q : e.ctorIdx = 19 then @Expr.Constant.elim (fun x => e = x → onConstant x k = true → P) e q f rfl h else (Bool.false_ne_true ((dif_neg q).symm.trans h)).elim
noncomputable def onAttribute (e : Expr) (k : Expr → Str → Pos → Bool) : Bool := dite (e.ctorIdx = 20) (fun h => @Expr.Attribute.elim (fun _ => Bool) e h k) fun _ => false
theorem onAttribute_inv {P : Prop} {e : Expr} {k : Expr → Str → Pos → Bool} (h : onAttribute e k = true) (f : ∀ a0 a1 a2, e = .Attribute a0 a1 a2 → k a0 a1 a2 = true → P) : P :=
  if q : e.ctorIdx = 20 then @Expr.Attribute.elim (fun x => e = x → onAttribute x k = true → P) e q f rfl h else (Bool.false_ne_true ((dif_neg q).symm.trans h)).elim
noncomputable def onSubscript (e : Expr) (k : Expr → Expr → Pos → Bool) : Bool := dite (e.ctorIdx = 21) (fun h => @Expr.Subscript.elim (fun _ => Bool) e h k) fun _ => false
theorem onSubscript_inv {P : Prop} {e : Expr} {k : Expr → Expr → Pos → Bool} (h : onSubscript e k = true) (f : ∀ a0 a1 a2, e = .Subscript a0 a1 a2 → k a0 a1 a2 = true → P) : P :=
  if q : e.ctorIdx = 21 then @Expr.Subscript.elim (fun x => e = x → onSubscript x k = true → P) e q f rfl h else (Bool.false_ne_true ((dif_neg q).symm.trans h)).elim
noncomputable def onName (e : Expr) (k : Str → Pos → Bool) : Bool := dite (e.ctorIdx = 23) (fun h => @Expr.Name.elim (fun _ => Bool) e h k) fun _ => false
theorem onName_inv {P : Prop} {e : Expr} {k : Str → Pos → Bool} (h : onName e k = true) (f : ∀ a0 a1, e = .Name a0 a1 → k a0 a1 = true → P) : P :=
  if q : e.ctorIdx = 23 then @Expr.Name.elim (fun x => e = x → onName x k = true → P) e q f rfl h else (Bool.false_ne_true ((dif_neg q).symm.trans h)).elim
noncomputable def onList (e : Expr) (k : List Expr → Pos → Bool) : Bool := dite (e.ctorIdx = 24) (fun h => @Expr.List.elim (fun _ => Bool) e h k) fun _ => false
theorem onList_inv {P : Prop} {e : Expr} {k : List Expr → Pos → Bool} (h : onList e k = true) (f : ∀ a0 a1, e = .List a0 a1 → k a0 a1 = true → P) : P :=
  if q : e.ctorIdx = 24 then @Expr.List.elim (fun x => e = x → onList x k = true → P) e q f rfl h else (Bool.false_ne_true ((dif_neg q).symm.trans h)).elim
noncomputable def onTuple (e : Expr) (k : List Expr → Nat → Pos → Bool) : Bool := dite (e.ctorIdx = 25) (fun h => @Expr.Tuple.elim (fun _ => Bool) e h k) fun _ => false
theorem onTuple_inv {P : Prop} {e : Expr} {k : List Expr → Nat → Pos → Bool} (h : onTuple e k = true) (f : ∀ a0 a1 a2, e = .Tuple a0 a1 a2 → k a0 a1 a2 = true → P) : P :=
  if q : e.ctorIdx = 25 then @Expr.Tuple.elim (fun x => e = x → onTuple x k = true → P) e q f rfl h else (Bool.false_ne_true ((dif_neg q).symm.trans h)).elim
noncomputable def onSlice (e : Expr) (k : Option Expr → Option Expr → Option Expr → Pos → Bool) : Bool := dite (e.ctorIdx = 26) (fun h => @Expr.Slice.elim (fun _ => Bool) e h k) fun _ => false
theorem onSlice_inv {P : Prop} {e : Expr} {k : Option Expr → Option Expr → Option Expr → Pos → Bool} (h : onSlice e k = true) (f : ∀ a0 a1 a2 a3, e = .Slice a0 a1 a2 a3 → k a0 a1 a2 a3 = true → P) : P :=
  if q : e.ctorIdx = 26 then @Expr.Slice.elim (fun x => e = x → onSlice x k = true → P) e q f rfl h else (Bool.false_ne_true ((dif_neg q).symm.trans h)).elim
noncomputable def onSReturn (e : Stmt) (k : Option Expr → Pos → Bool) : Bool := dite (e.ctorIdx = 3) (fun h => @Stmt.Return.elim (fun _ => Bool) e h k) fun _ => false
theorem onSReturn_inv {P : Prop} {e : Stmt} {k : Option Expr → Pos → Bool} (h : onSReturn e k = true) (f : ∀ a0 a1, e = .Return a0 a1 → k a0 a1 = true → P) : P :=
  if q : e.ctorIdx = 3 then @Stmt.Return.elim (fun x => e = x → onSReturn x k = true → P) e q f rfl h else (Bool.false_ne_true ((dif_neg q).symm.trans h)).elim
noncomputable def onSAssign (e : Stmt) (k : List Expr → Expr → Pos → Bool) : Bool := dite (e.ctorIdx = 5) (fun h => @Stmt.Assign.elim (fun _ => Bool) e h k) fun _ => false
theorem onSAssign_inv {P : Prop} {e : Stmt} {k : List Expr → Expr → Pos → Bool} (h : onSAssign e k = true) (f : ∀ a0 a1 a2, e = .Assign a0 a1 a2 → k a0 a1 a2 = true → P) : P :=
  if q : e.ctorIdx = 5 then @Stmt.Assign.elim (fun x => e = x → onSAssign x k = true → P) e q f rfl h else (Bool.false_ne_true ((dif_neg q).symm.trans h)).elim
noncomputable def onSFor (e : Stmt) (k : Expr → Expr → List Stmt → List Stmt → Pos → Bool) : Bool := dite (e.ctorIdx = 9) (fun h => @Stmt.For.elim (fun _ => Bool) e h k) fun _ => false
theorem onSFor_inv {P : Prop} {e : Stmt} {k : Expr → Expr → List Stmt → List Stmt → Pos → Bool} (h : onSFor e k = true) (f : ∀ a0 a1 a2 a3 a4, e = .For a0 a1 a2 a3 a4 → k a0 a1 a2 a3 a4 = true → P) : P :=
  if q : e.ctorIdx = 9 then @Stmt.For.elim (fun x => e = x → onSFor x k = true → P) e q f rfl h else (Bool.false_ne_true ((dif_neg q).symm.trans h)).elim
noncomputable def onSIf (e : Stmt) (k : Expr → List Stmt → List Stmt → Pos → Bool) : Bool := dite (e.ctorIdx = 12) (fun h => @Stmt.If.elim (fun _ => Bool) e h k) fun _ => false
theorem onSIf_inv {P : Prop} {e : Stmt} {k : Expr → List Stmt → List Stmt → Pos → Bool} (h : onSIf e k = true) (f : ∀ a0 a1 a2 a3, e = .If a0 a1 a2 a3 → k a0 a1 a2 a3 = true → P) : P :=
  if q : e.ctorIdx = 12 then @Stmt.If.elim (fun x => e = x → onSIf x k = true → P) e q f rfl h else (Bool.false_ne_true ((dif_neg q).symm.trans h)).elim
noncomputable def onSExpr (e : Stmt) (k : Expr → Pos → Bool) : Bool := dite (e.ctorIdx = 24) (fun h => @Stmt.Expr.elim (fun _ => Bool) e h k) fun _ => false
theorem onSExpr_inv {P : Prop} {e : Stmt} {k : Expr → Pos → Bool} (h : onSExpr e k = true) (f : ∀ a0 a1, e = .Expr a0 a1 → k a0 a1 = true → P) : P :=
  if q : e.ctorIdx = 24 then @Stmt.Expr.elim (fun x => e = x → onSExpr x k = true → P) e q f rfl h else (Bool.false_ne_true ((dif_neg q).symm.trans h)).elim
noncomputable def onSRaise (e : Stmt) (k : Option Expr → Option Expr → Pos → Bool) : Bool := dite (e.ctorIdx = 16) (fun h => @Stmt.Raise.elim (fun _ => Bool) e h k) fun _ => false
theorem onSRaise_inv {P : Prop} {e : Stmt} {k : Option Expr → Option Expr → Pos → Bool} (h : onSRaise e k = true) (f : ∀ a0 a1 a2, e = .Raise a0 a1 a2 → k a0 a1 a2 = true → P) : P :=
  if q : e.ctorIdx = 16 then @Stmt.Raise.elim (fun x => e = x → onSRaise x k = true → P) e q f rfl h else (Bool.false_ne_true ((dif_neg q).symm.trans h)).elim
noncomputable def onSTry (e : Stmt) (k : List Stmt → List ExceptHandler → List Stmt → List Stmt → Pos → Bool) : Bool := dite (e.ctorIdx = 17) (fun h => @Stmt.Try.elim (fun _ => Bool) e h k) fun _ => false
theorem onSTry_inv {P : Prop} {e : Stmt} {k : List Stmt → List ExceptHandler → List Stmt → List Stmt → Pos → Bool} (h : onSTry e k = true) (f : ∀ a0 a1 a2 a3 a4, e = .Try a0 a1 a2 a3 a4 → k a0 a1 a2 a3 a4 = true → P) : P :=
  if q : e.ctorIdx = 17 then @Stmt.Try.elim (fun x => e = x → onSTry x k = true → P) e q f rfl h else (Bool.false_ne_true ((dif_neg q).symm.trans h)).elim
noncomputable def onCbool (e : Const) (k : Bool → Bool) : Bool := dite (e.ctorIdx = 1) (fun h => @Const.bool.elim (fun _ => Bool) e h k) fun _ => false
theorem onCbool_inv {P : Prop} {e : Const} {k : Bool → Bool} (h : onCbool e k = true) (f : ∀ a0, e = .bool a0 → k a0 = true → P) : P :=
  if q : e.ctorIdx = 1 then @Const.bool.elim (fun x => e = x → onCbool x k = true → P) e q f rfl h else (Bool.false_ne_true ((dif_neg q).symm.trans h)).elim
noncomputable def onCint (e : Const) (k : Int → Bool) : Bool := dite (e.ctorIdx = 2) (fun h => @Const.int.elim (fun _ => Bool) e h k) fun _ => false
theorem onCint_inv {P : Prop} {e : Const} {k : Int → Bool} (h : onCint e k = true) (f : ∀ a0, e = .int a0 → k a0 = true → P) : P :=
  if q : e.ctorIdx = 2 then @Const.int.elim (fun x => e = x → onCint x k = true → P) e q f rfl h else (Bool.false_ne_true ((dif_neg q).symm.trans h)).elim
noncomputable def onCstr (e : Const) (k : Str → Bool) : Bool := dite (e.ctorIdx = 5) (fun h => @Const.str.elim (fun _ => Bool) e h k) fun _ => false
theorem onCstr_inv {P : Prop} {e : Const} {k : Str → Bool} (h : onCstr e k = true) (f : ∀ a0, e = .str a0 → k a0 = true → P) : P :=
  if q : e.ctorIdx = 5 then @Const.str.elim (fun x => e = x → onCstr x k = true → P) e q f rfl h else (Bool.false_ne_true ((dif_neg q).symm.trans h)).elim
noncomputable def isCNone (e : Const) : Bool := e.ctorIdx.beq 0
noncomputable def notSet (e : Expr) : Bool := !(e.ctorIdx.beq 7)
noncomputable def notComp (e : Expr) : Bool := !(e.ctorIdx.beq 8 || e.ctorIdx.beq 9 || e.ctorIdx.beq 10)
noncomputable def notSlice (e : Expr) : Bool := !(e.ctorIdx.beq 26)
noncomputable def notStar (e : Expr) : Bool := !(e.ctorIdx.beq 22)
noncomputable def notCall (e : Expr) : Bool := !(e.ctorIdx.beq 16)
noncomputable def onCons {α : Type} (l : List α) (k : α → List α → Bool) : Bool := List.casesOn (motive := fun _ => Bool) l false k
theorem onCons_inv {P : Prop} {α : Type} {l : List α} {k : α → List α → Bool} (h : onCons l k = true) (f : ∀ a r, l = a :: r → k a r = true → P) : P :=
  @List.casesOn α (fun x => l = x → onCons x k = true → P) l (fun _ h => (Bool.false_ne_true h).elim) f rfl h
theorem and_inv {a b : Bool} (h : (a && b) = true) : a = true ∧ b = true := by
  cases a
  · exact (Bool.false_ne_true h).elim
  · exact ⟨rfl, h⟩
theorem nil_inv {α : Type} {l : List α} (h : l.isEmpty = true) : l = [] := by
  cases l with
  | nil => rfl
  | cons a r => exact (Bool.false_ne_true h).elim
noncomputable def on1L {α : Type} (l : List α) (k : α → Bool) : Bool := onCons l fun a r => r.isEmpty && k a
noncomputable def on2L {α : Type} (l : List α) (k : α → α → Bool) : Bool := onCons l fun a r => on1L r (k a)
theorem on1L_inv {P : Prop} {α : Type} {l : List α} {k : α → Bool} (h : on1L l k = true) (f : ∀ a, l = [a] → k a = true → P) : P :=
  onCons_inv h fun a _ e g => f a (nil_inv (and_inv g).1 ▸ e) (and_inv g).2
theorem on2L_inv {P : Prop} {α : Type} {l : List α} {k : α → α → Bool} (h : on2L l k = true) (f : ∀ a b, l = [a, b] → k a b = true → P) : P :=
  onCons_inv h fun a _ e g => on1L_inv g fun b e' g => f a b (e' ▸ e) g
noncomputable def onSome {α : Type} (o : Option α) (k : α → Bool) : Bool := Option.casesOn (motive := fun _ => Bool) o false k
theorem onSome_inv {P : Prop} {α : Type} {o : Option α} {k : α → Bool} (h : onSome o k = true) (f : ∀ a, o = some a → k a = true → P) : P :=
  @Option.casesOn α (fun x => o = x → onSome x k = true → P) o (fun _ h => (Bool.false_ne_true h).elim) f rfl h
noncomputable def onCallN (e : Expr) (k : Str → List Expr → Bool) : Bool := onCall e fun f es ks _ => ks.isEmpty && onName f fun x _ => notDebug x && k x es
theorem onCallN_inv {P : Prop} {e : Expr} {k : Str → List Expr → Bool} (h : onCallN e k = true) (f : ∀ x p es q, e = .Call (.Name x p) es [] q → notDebug x = true → k x es = true → P) : P :=
  onCall_inv h fun _ es _ q he g => onName_inv (and_inv g).2 fun x p hx g' => f x p es q (hx ▸ nil_inv (and_inv g).1 ▸ he) (and_inv g').1 (and_inv g').2
noncomputable def onCallA (e : Expr) (k : Expr → Str → List Expr → Bool) : Bool := onCall e fun f es ks q => ks.isEmpty && onAttribute f fun o n p => p.endLine == q.line && k o n es
theorem onCallA_inv {P : Prop} {e : Expr} {k : Expr → Str → List Expr → Bool} (h : onCallA e k = true) (f : ∀ o n p es q, e = .Call (.Attribute o n p) es [] q → (p.endLine == q.line) = true → k o n es = true → P) : P :=
  onCall_inv h fun _ es _ q he g => onAttribute_inv (and_inv g).2 fun o n p hx g' => f o n p es q (hx ▸ nil_inv (and_inv g).1 ▸ he) (and_inv g').1 (and_inv g').2
noncomputable def onCmp1 (e : Expr) (k : Expr → CmpOp → Expr → Bool) : Bool := onCompare e fun l ops rs _ => on1L ops fun op => on1L rs fun r => k l op r
theorem onCmp1_inv {P : Prop} {e : Expr} {k : Expr → CmpOp → Expr → Bool} (h : onCmp1 e k = true) (f : ∀ l op r p, e = .Compare l [op] [r] p → k l op r = true → P) : P :=
  onCompare_inv h fun l _ _ p he g => on1L_inv g fun op ho g => on1L_inv g fun r hr g => f l op r p (hr ▸ ho ▸ he) g
noncomputable def relabS (sc outer : Scope) : Scope :=
  { sc with names := sc.names.map fun (n, k) => if (k == .free && outer.kind == .function && outer.names.lookup n == some .cell) then (n, .cell) else (n, k) }
noncomputable def tgNames : List Expr → List Str → Bool
  | [], xs => xs.isEmpty
  | e :: r, xs => onName e fun x _ => onCons xs fun y ys => x == y && tgNames r ys
noncomputable def tgtOk (e : Expr) (xs : List Str) : Bool := match xs with
  | [] => false
  | x :: r => match r with
    | [] => onName e fun y _ => y == x
    | _ :: _ => onTuple e fun es _ _ => tgNames es xs
noncomputable def nmRead (e : Expr) : List Str := @Expr.casesOn (fun _ => List Str) e (fun _ _ _ => []) (fun _ _ _ => []) (fun _ _ _ _ => []) (fun _ _ _ => []) (fun _ _ _ _ => []) (fun _ _ _ _ => []) (fun _ _ _ => []) (fun _ _ _ => []) (fun _ _ _ _ => []) (fun _ _ _ _ => []) (fun _ _ _ _ _ => []) (fun _ _ _ _ => []) (fun _ _ => []) (fun _ _ => []) (fun _ _ => []) (fun _ _ _ _ => []) (fun _ _ _ _ => []) (fun _ _ _ _ => []) (fun _ _ => []) (fun _ _ _ => []) (fun _ _ _ => []) (fun _ _ _ => []) (fun _ _ => []) (fun x _ => [x]) (fun _ _ => []) (fun _ _ _ => []) (fun _ _ _ _ => [])
noncomputable def tgRead (e : Expr) : List Str := @Expr.casesOn (fun _ => List Str) e (fun _ _ _ => []) (fun _ _ _ => []) (fun _ _ _ _ => []) (fun _ _ _ => []) (fun _ _ _ _ => []) (fun _ _ _ _ => []) (fun _ _ _ => []) (fun _ _ _ => []) (fun _ _ _ _ => []) (fun _ _ _ _ => []) (fun _ _ _ _ _ => []) (fun _ _ _ _ => []) (fun _ _ => []) (fun _ _ => []) (fun _ _ => []) (fun _ _ _ _ => []) (fun _ _ _ _ => []) (fun _ _ _ _ => []) (fun _ _ => []) (fun _ _ _ => []) (fun _ _ _ => []) (fun _ _ _ => []) (fun _ _ => []) (fun x _ => [x]) (fun _ _ => []) (fun es _ _ => es.flatMap nmRead) (fun _ _ _ _ => [])
noncomputable def keepNm (sc : Scope) (nm : Nm) : Nm := nm.filter fun p => sc.names.lookup p.1 == some .cell
noncomputable def allLoc (sc : Scope) (xs : List Str) : Bool := xs.all fun x => sc.names.lookup x == some .local && notDebug x
noncomputable def tgVars (nm : Nm) (sc : Scope) (xs : List Str) (is : List Nat) : Bool := xs.length == is.length && (xs.zip is).all fun p => varOf nm sc p.1 == some p.2 && notDebug p.1
set_option genSizeOf false in
set_option genInjectivity false in
structure Ck where
  e : Nm → Scope → Expr → Bool
  l : Nm → Scope → List Expr → Bool
  i : Nm → Scope → Expr → Bool
  s : Nm → Scope → Stmt → Bool
  b : Nm → Scope → List Stmt → Bool
noncomputable def T.isZip (t : T) : Bool := t.ctorIdx.beq 31
noncomputable def T.isComp (t : T) : Bool := t.ctorIdx.beq 37
noncomputable def quietS : Str := "%quiet"
noncomputable def loud (nm : Nm) : Bool := (nm.lookup quietS).isNone
noncomputable def quietNm (nm : Nm) : Nm := nm ++ [(quietS, 1000)]
noncomputable def quietOk (nm : Nm) (sc : Scope) : Bool := (sc.names.lookup quietS).isNone && nm.all fun p => p.2.blt 1000
noncomputable def quietFn (f : Nat) : Bool := f.beq 63 || f.beq 73
noncomputable def quietBi (b : BI) : Bool := b.ctorIdx.ble 2
noncomputable def no3 {α : Type} (_ : Nm) (_ : Scope) (_ : α) : Bool := false
noncomputable def ckE (e : Nm → Scope → Expr → Bool) : Ck := ⟨e, no3, e, no3, no3⟩
noncomputable def ckI (i : Nm → Scope → Expr → Bool) : Ck := ⟨no3, no3, i, no3, no3⟩
noncomputable def ckX (s : Nm → Scope → Stmt → Bool) : Ck := ⟨no3, no3, no3, s, no3⟩
noncomputable def ckOpt (t : T) (C : Ck) (nm : Nm) (sc : Scope) (o : Option Expr) : Bool := Option.casesOn (motive := fun _ => Bool) o t.isNil fun x => !t.isNil && C.e nm sc x
noncomputable def boolRest (op : BoolOp) (y : Expr) (r : List Expr) (p : Pos) : Expr := List.casesOn (motive := fun _ => Expr) r y fun z r => .BoolOp op (y :: z :: r) p
noncomputable def ckBool (op : BoolOp) (A B : Ck) : Ck := ckE fun nm sc e => onBoolOp e fun o vs p => o == op && onCons vs fun x r => onCons r fun y r => A.e nm sc x && B.e nm sc (boolRest op y r p)
noncomputable def ckN (gs : Gs) (g : G) (sc : Scope) (x : Str) : Bool := globOf gs sc x == some g
noncomputable def scOk (sc cs : Scope) : Bool := cs.kind == .function && cs.names.all (fun p => p.2 != .cell) && cs.names.all (fun p => p.2 != .local || cs.names.lookup p.1 == some .local) &&
  (cs.names.all fun p => p.2 != .free || (sc.kind == .function && sc.names.lookup p.1 == some .cell))
noncomputable def tgOk (nm : Nm) (sc : Scope) (xs : List Str) (tg : List Nat) : Bool := allLoc sc xs && decide xs.Nodup && decide tg.Nodup && xs.length == tg.length && tg.all (fun i => (nm.all fun p => p.2 != i))
noncomputable def ckIfs (t : T) (C : Ck) (nm : Nm) (sc : Scope) (ifs : List Expr) : Bool := List.casesOn (motive := fun _ => Bool) ifs t.isNil fun e r => r.isEmpty && !t.isNil && C.e nm sc e
noncomputable def ckComp (it c : T) (E : Ck) (tg : List Nat) (I C : Ck) (nm : Nm) (sc : Scope) (x : Expr) (target iter : Expr) (ifs : List Expr) (cs : Scope) (xs : List Str) : Bool :=
  notSet iter && (!it.isZip || tg.length == 2) && I.i nm sc iter && scOk sc cs && tgtOk target xs && tgOk nm (relabS cs sc) xs tg &&
    E.e (xs.zip tg ++ keepNm (relabS cs sc) nm) (relabS cs sc) x && ckIfs c C (xs.zip tg ++ keepNm (relabS cs sc) nm) (relabS cs sc) ifs
noncomputable def ckRng (gs : Gs) (a c : T) (A B C : Ck) : Ck := ckI (fun nm sc e => loud nm && onCallN e fun x es => ckN gs (.bi (.type "range")) sc x && onCons es fun y r => notStar y &&
  List.casesOn (motive := fun _ => Bool) r (c.isNil && a.isNil && B.e nm sc y) fun z r => notStar z && A.e nm sc y && B.e nm sc z && List.casesOn (motive := fun _ => Bool) r (c.isNil && !a.isNil) fun w r => r.isEmpty && !c.isNil && notStar w && C.e nm sc w)
noncomputable def ckOwn (nm : Nm) (sc : Scope) (i : Nat) (m : Str) (e : Expr) (k : List Expr → Bool) : Bool := onCallA e fun o n es => n == m && onName o fun x _ => notDebug x && varOf nm sc x == some i && k es
noncomputable def isStrC (m : List Nat) (e : Expr) : Bool := onConstant e fun c _ _ => onCstr c fun x => x.cps.toList == m && x.cps.all (· < 0x110000) && decide (x.length ≤ line)
noncomputable def onHandler (h : ExceptHandler) (k : Option Expr → Option Str → List Stmt → Bool) : Bool := match h with
  | .ExceptHandler t n b _ => k t n b
noncomputable def ckA (gs : Gs) (t : T) : Ck :=
  T.rec (motive := fun _ => Ck)
    (nil := ⟨no3, fun _ _ es => es.isEmpty, no3, no3, fun _ _ ss => ss.isEmpty⟩)
    (cons := fun _ _ A B => ⟨no3, fun nm sc es => onCons es fun x r => notStar x && A.e nm sc x && B.l nm sc r, no3, no3, fun nm sc ss => onCons ss fun s r => A.s nm sc s && B.b nm sc r⟩)
    (cN := ckE fun _ _ e => onConstant e fun c _ _ => isCNone c)
    (cB := fun b => ckE fun _ _ e => onConstant e fun c _ _ => onCbool c fun x => x == b)
    (cI := fun i => ckE fun _ _ e => onConstant e fun c _ _ => onCint c fun x => x == i)
    (cS := fun s => ckE fun _ _ e => onConstant e fun c _ _ => onCstr c fun x => x.cps.toList == s && x.cps.all (· < 0x110000) && decide (x.length ≤ line))
    (gI := fun i => ckE fun _ sc e => onName e fun x _ => notDebug x && ckN gs (.cI i) sc x)
    (gS := fun s => ckE fun _ sc e => onName e fun x _ => notDebug x && ckN gs (.cS s) sc x)
    (v := fun i => ckE fun nm sc e => onName e fun x _ => notDebug x && varOf nm sc x == some i)
    (neg := fun _ A => ckE fun nm sc e => onUnaryOp e fun o x _ => o == .USub && A.e nm sc x)
    (bin := fun o _ _ A B => ckE fun nm sc e => onBinOp e fun l op r _ => bopOk o op && A.e nm sc l && B.e nm sc r)
    (cmp := fun o _ _ A B => ckE fun nm sc e => onCmp1 e fun l op r => copOk o op && notSet r && A.e nm sc l && B.e nm sc r)
    (cmp2 := fun o p _ _ _ A B C => ckE fun nm sc e => onCompare e fun l ops rs _ => on2L ops fun op oq => on2L rs fun r z => copOk o op && copOk p oq && notSet r && notSet z && A.e nm sc l && B.e nm sc r && C.e nm sc z)
    (isN := fun n _ A => ckE fun nm sc e => onCmp1 e fun l op r => op == cond n .IsNot .Is && (onConstant r fun c _ _ => isCNone c) && A.e nm sc l)
    (not := fun _ A => ckE fun nm sc e => onUnaryOp e fun o x _ => o == .Not && A.e nm sc x)
    (and := fun _ _ A B => ckBool .And A B)
    (or := fun _ _ A B => ckBool .Or A B)
    (ite := fun _ _ _ C A B => ckE fun nm sc e => onIfExp e fun t x y _ => C.e nm sc t && A.e nm sc x && B.e nm sc y)
    (tup := fun _ A => ckE fun nm sc e => onTuple e fun es _ _ => decide (es.length ≤ 100) && A.l nm sc es)
    (lst := fun _ A => ckE fun nm sc e => onList e fun es _ => decide (es.length ≤ 100) && A.l nm sc es)
    (idx := fun _ _ A B => ckE fun nm sc e => onSubscript e fun v s _ => notSlice s && A.e nm sc v && B.e nm sc s)
    (sl := fun _ b c A B C => ckE fun nm sc e => onSubscript e fun v s _ => onSlice s fun l u st _ => st.isNone && A.e nm sc v && ckOpt b B nm sc l && ckOpt c C nm sc u)
    (dget := fun _ _ _ => ckE no3)
    (din := fun _ _ _ _ => ckE no3)
    (dic := ckE no3)
    (call := fun f _ A => ckE fun nm sc e => (loud nm || quietFn f) && onCallN e fun x es => ckN gs (.fn f) sc x && A.l nm sc es)
    (bi := fun b _ A => ckE fun nm sc e => (loud nm || quietBi b) && onCallN e fun x es => ckN gs (.bi (biV b)) sc x && A.l nm sc es)
    (isi := fun t _ A => ckE fun nm sc e => onCallN e fun x es => ckN gs (.bi (.builtin "isinstance")) sc x && on2L es fun v u => onName u fun y _ => notDebug y && tyOk t (globOf gs sc y) && notStar v && A.e nm sc v)
    (mkL := fun _ A => ckE fun nm sc e => onCallN e fun x es => ckN gs (.bi (.type "list")) sc x && on1L es fun v => notStar v && A.i nm sc v)
    (mkT := fun _ A => ckE fun nm sc e => onCallN e fun x es => ckN gs (.bi (.type "tuple")) sc x && on1L es fun v => notStar v && A.e nm sc v)
    (rng := fun a _ c A B C => ckRng gs a c A B C)
    (zip := fun _ _ _ _ => ckI no3)
    (rev := fun _ A => ckI (fun nm sc e => loud nm && onCallN e fun x es => ckN gs (.bi (.type "reversed")) sc x && on1L es fun y => notStar y && A.e nm sc y))
    (meth := fun m _ _ A B => ckE fun nm sc e => onCallA e fun o n es => n == meN m && notCall o && decide (es.length < 30) && A.e nm sc o && B.l nm sc es)
    (attr := fun _ _ _ => ckE no3)
    (mcall := fun _ _ _ _ _ => ckE no3)
    (new := fun _ _ _ => ckE no3)
    (comp := fun _ tg it c E I C => ckE fun nm sc e => loud nm && (onListComp e fun x gens cs _ => on1L gens fun g => g.is_async == 0 && ckComp it c E tg I C nm sc x g.target g.iter g.ifs cs (tgRead g.target)))
    (asg := fun i e A => ckX fun nm sc s => onSAssign s fun ts v _ => on1L ts fun t => onName t fun x _ => varOf nm sc x == some i && (notComp v || e.isComp) && A.e nm sc v)
    (asgO := fun i e A => ckX fun nm sc s => onSAssign s fun ts v _ => on1L ts fun t => onName t fun x _ => varOf nm sc x == some i && (notComp v || e.isComp) && A.e nm sc v)
    (asgT := fun _ _ _ => ckX no3)
    (seti := fun _ _ _ _ _ => ckX no3)
    (app := fun i _ A => ckX fun nm sc s => onSExpr s fun e _ => ckOwn nm sc i "append" e fun es => on1L es fun y => notStar y && A.e nm sc y)
    (rvs := fun i => ckX fun nm sc s => onSExpr s fun e _ => ckOwn nm sc i "reverse" e fun es => es.isEmpty)
    (clr := fun _ => ckX no3)
    (ex := fun _ _ => ckX no3)
    (iff := fun _ _ _ C A B => ckX fun nm sc s => onSIf s fun t x y _ => C.e nm sc t && A.b nm sc x && B.b nm sc y)
    (for_ := fun tg it _ I B => ckX fun nm sc s => loud nm && (onSFor s fun target iter body els _ => els.isEmpty && notSet iter && (!it.isZip || tg.length == 2) && I.i nm sc iter && tgtOk target (tgRead target) && tgVars nm sc (tgRead target) tg && decide (tgRead target).Nodup && decide tg.Nodup && B.b nm sc body))
    (whl := fun _ _ _ _ => ckX no3)
    (ret := fun _ A => ckX fun nm sc s => onSReturn s fun o _ => onSome o fun v => A.e nm sc v)
    (retO := fun i => ckX fun nm sc s => onSReturn s fun o _ => onSome o fun v => onName v fun x _ => notDebug x && varOf nm sc x == some i)
    (retP := fun _ _ _ => ckX no3)
    (frz := fun _ => ckX no3)
    (raise := fun c m => ckX fun nm sc s => (loud nm && !c.beq 0) && onSRaise s fun o cs _ => cs.isNone && onSome o fun e => onCallN e fun x es => ckN gs (.exc c) sc x && on1L es fun v => isStrC m v)
    (try_ := fun _ c i _ B H => ckX fun nm sc s => loud nm && onSTry s fun body hs els fin _ => els.isEmpty && fin.isEmpty && on1L hs fun h => onHandler h fun t n hb => onSome t fun t => onSome n fun n => onName t fun x _ => notDebug x && ckN gs (.exc c) sc x && c.beq 1 && sc.names.lookup n == some .local && varOf nm sc n == some i && quietOk nm sc && !hb.isEmpty && B.b nm sc body && H.b (quietNm nm) sc hb)
    t
section
variable (gs : Gs) (t : T) (nm : Nm) (sc : Scope)
noncomputable def chk (e : Expr) : Bool := (ckA gs t).e nm sc e
noncomputable def chkO (e : Option Expr) : Bool := ckOpt t (ckA gs t) nm sc e
noncomputable def chkT (e : List Expr) : Bool := (ckA gs t).l nm sc e
noncomputable def chkI (e : Expr) : Bool := (ckA gs t).i nm sc e
noncomputable def chkS (e : Stmt) : Bool := (ckA gs t).s nm sc e
noncomputable def chkB (e : List Stmt) : Bool := (ckA gs t).b nm sc e
end
end Mine
namespace Mine
open PySem
theorem and3 {a b c : Bool} (h : (a && b && c) = true) : a = true ∧ b = true ∧ c = true := ⟨(and_inv (and_inv h).1).1, (and_inv (and_inv h).1).2, (and_inv h).2⟩
theorem and4 {a b c d : Bool} (h : (a && b && c && d) = true) : a = true ∧ b = true ∧ c = true ∧ d = true := ⟨(and3 (and_inv h).1).1, (and3 (and_inv h).1).2.1, (and3 (and_inv h).1).2.2, (and_inv h).2⟩
theorem and6 {a b c d e f : Bool} (h : (a && b && c && d && e && f) = true) : a = true ∧ b = true ∧ c = true ∧ d = true ∧ e = true ∧ f = true :=
  ⟨(and4 (and_inv (and_inv h).1).1).1, (and4 (and_inv (and_inv h).1).1).2.1, (and4 (and_inv (and_inv h).1).1).2.2.1, (and4 (and_inv (and_inv h).1).1).2.2.2, (and_inv (and_inv h).1).2, (and_inv h).2⟩
theorem not_inv {a : Bool} (h : (!a) = true) : a = false := by
  cases a
  · rfl
  · exact (Bool.false_ne_true h).elim
theorem none_inv {α : Type} {o : Option α} (h : o.isNone = true) : o = none := by
  cases o
  · rfl
  · exact (Bool.false_ne_true h).elim
theorem beq_inv {α : Type} [BEq α] [LawfulBEq α] {a b : α} (h : (a == b) = true) : a = b := eq_of_beq h
theorem isNil_inv {t : T} (h : t.isNil = true) : t = .nil := @T.nil.elim (fun t => t = .nil) t (Nat.eq_of_beq_eq_true h) rfl
theorem isComp_inv {t : T} (h : t.isComp = true) : ∃ elt tg it c, t = .comp elt tg it c := @T.comp.elim (fun t => ∃ elt tg it c, t = .comp elt tg it c) t (Nat.eq_of_beq_eq_true h) fun a b c d => ⟨a, b, c, d, rfl⟩
theorem cnone_inv {P : Prop} {e : Expr} (h : (onConstant e fun c _ _ => isCNone c) = true) (f : ∀ k p, e = .Constant .none k p → P) : P :=
  onConstant_inv h fun _ k p he g => f k p (he.trans (congrArg (Expr.Constant · k p) (@Const.none.elim (fun c => c = .none) _ (Nat.eq_of_beq_eq_true g) rfl)))
section
variable {P : Prop} {gs : Gs} {a b c ts it elt lo hi : T} {nm : Nm} {sc : Scope} {e : Expr} {s : Stmt}
theorem glob_inv {g : G} (h : (onName e fun x _ => notDebug x && ckN gs g sc x) = true) (f : ∀ x p, e = .Name x p → notDebug x = true → globOf gs sc x = some g → P) : P :=
  onName_inv h fun x p he g => f x p he (and_inv g).1 (beq_inv (and_inv g).2)
theorem var_inv {i : Nat} (h : (onName e fun x _ => notDebug x && varOf nm sc x == some i) = true) (f : ∀ x p, e = .Name x p → notDebug x = true → varOf nm sc x = some i → P) : P :=
  onName_inv h fun x p he g => f x p he (and_inv g).1 (beq_inv (and_inv g).2)
theorem un_inv {o : UnaryOp} {k : Expr → Bool} (h : (onUnaryOp e fun q x _ => q == o && k x) = true) (f : ∀ x p, e = .UnaryOp o x p → k x = true → P) : P :=
  onUnaryOp_inv h fun _ x p he g => f x p (beq_inv (and_inv g).1 ▸ he) (and_inv g).2
theorem bool_inv {op : BoolOp} {A B : Expr → Bool} (h : (onBoolOp e fun o vs p => o == op && onCons vs fun x r => onCons r fun y r => A x && B (boolRest op y r p)) = true)
    (f : ∀ x y r p, e = .BoolOp op (x :: y :: r) p → A x = true → B (boolRest op y r p) = true → P) : P :=
  onBoolOp_inv h fun _ _ p he g => onCons_inv (and_inv g).2 fun x _ h1 g1 => onCons_inv g1 fun y r h2 g2 => f x y r p (h2 ▸ h1 ▸ beq_inv (and_inv g).1 ▸ he) (and_inv g2).1 (and_inv g2).2
theorem callN_inv {g : G} {k : List Expr → Bool} (h : (onCallN e fun x es => ckN gs g sc x && k es) = true) (f : ∀ x p es q, e = .Call (.Name x p) es [] q → notDebug x = true → globOf gs sc x = some g → k es = true → P) : P :=
  onCallN_inv h fun x p es q he h1 g => f x p es q he h1 (beq_inv (and_inv g).1) (and_inv g).2
theorem call1_inv {g : G} {k : Expr → Bool} (h : (onCallN e fun x es => ckN gs g sc x && on1L es fun v => notStar v && k v) = true) (f : ∀ x p v q, e = .Call (.Name x p) [v] [] q → notDebug x = true → globOf gs sc x = some g → notStar v = true → k v = true → P) : P :=
  callN_inv (k := fun es => on1L es fun v => notStar v && k v) h fun x p _ q he h1 h2 g => on1L_inv g fun v hv g => f x p v q (hv ▸ he) h1 h2 (and_inv g).1 (and_inv g).2
theorem inv_cN (h : chk gs .cN nm sc e = true) (f : ∀ k p, e = .Constant .none k p → P) : P := cnone_inv h f
theorem inv_cB {i : Bool} (h : chk gs (.cB i) nm sc e = true) (f : ∀ k p, e = .Constant (.bool i) k p → P) : P :=
  onConstant_inv (k := fun c _ _ => onCbool c fun x => x == i) h fun _ k p he g => onCbool_inv g fun _ hi g => f k p (beq_inv g ▸ hi ▸ he)
theorem inv_cI {i : Int} (h : chk gs (.cI i) nm sc e = true) (f : ∀ k p, e = .Constant (.int i) k p → P) : P :=
  onConstant_inv (k := fun c _ _ => onCint c fun x => x == i) h fun _ k p he g => onCint_inv g fun _ hi g => f k p (beq_inv g ▸ hi ▸ he)
theorem inv_cS {y : List Nat} (h : chk gs (.cS y) nm sc e = true) (f : ∀ x k p, e = .Constant (.str x) k p → x.cps.toList = y → (x.cps.all fun c => decide (c < 0x110000)) = true → x.length ≤ line → P) : P :=
  onConstant_inv (k := fun c _ _ => onCstr c fun x => x.cps.toList == y && x.cps.all (· < 0x110000) && decide (x.length ≤ line)) h fun _ k p he g => onCstr_inv g fun x hi g => f x k p (hi ▸ he) (beq_inv (and3 g).1) (and3 g).2.1 (of_decide_eq_true (and3 g).2.2)
theorem inv_gI {i : Int} (h : chk gs (.gI i) nm sc e = true) (f : ∀ x p, e = .Name x p → notDebug x = true → globOf gs sc x = some (.cI i) → P) : P :=
  glob_inv h f
theorem inv_gS {y : List Nat} (h : chk gs (.gS y) nm sc e = true) (f : ∀ x p, e = .Name x p → notDebug x = true → globOf gs sc x = some (.cS y) → P) : P :=
  glob_inv h f
theorem inv_v {i : Nat} (h : chk gs (.v i) nm sc e = true) (f : ∀ x p, e = .Name x p → notDebug x = true → varOf nm sc x = some i → P) : P :=
  var_inv h f
theorem inv_neg (h : chk gs (.neg a) nm sc e = true) (f : ∀ x p, e = .UnaryOp .USub x p → chk gs a nm sc x = true → P) : P :=
  un_inv (k := chk gs a nm sc) h f
theorem inv_not (h : chk gs (.not a) nm sc e = true) (f : ∀ x p, e = .UnaryOp .Not x p → chk gs a nm sc x = true → P) : P :=
  un_inv (k := chk gs a nm sc) h f
theorem inv_bin {o : BOp} (h : chk gs (.bin o a b) nm sc e = true) (f : ∀ l r p, e = .BinOp l (bopOf o) r p → chk gs a nm sc l = true → chk gs b nm sc r = true → P) : P :=
  onBinOp_inv (k := fun l op r _ => bopOk o op && chk gs a nm sc l && chk gs b nm sc r) h fun l _ r p he g => f l r p (beq_inv (and3 g).1 ▸ he) (and3 g).2.1 (and3 g).2.2
theorem inv_cmp {o : COp} (h : chk gs (.cmp o a b) nm sc e = true) (f : ∀ l r p, e = .Compare l [copOf o] [r] p → notSet r = true → chk gs a nm sc l = true → chk gs b nm sc r = true → P) : P :=
  onCmp1_inv (k := fun l op r => copOk o op && notSet r && chk gs a nm sc l && chk gs b nm sc r) h fun l _ r p he g => f l r p (beq_inv (and4 g).1 ▸ he) (and4 g).2.1 (and4 g).2.2.1 (and4 g).2.2.2
theorem inv_cmp2 {o q : COp} (h : chk gs (.cmp2 o q a b c) nm sc e = true) (f : ∀ l r z p, e = .Compare l [copOf o, copOf q] [r, z] p → notSet z = true → chk gs a nm sc l = true → chk gs b nm sc r = true → chk gs c nm sc z = true → P) : P :=
  onCompare_inv (k := fun l ops rs _ => on2L ops fun op oq => on2L rs fun r z => copOk o op && copOk q oq && notSet r && notSet z && chk gs a nm sc l && chk gs b nm sc r && chk gs c nm sc z) h fun l _ _ p he g => on2L_inv g fun _ _ ho g => on2L_inv g fun r z hr g => f l r z p (hr ▸ beq_inv (and6 (and_inv g).1).1 ▸ beq_inv (and6 (and_inv g).1).2.1 ▸ ho ▸ he) (and6 (and_inv g).1).2.2.2.1 (and6 (and_inv g).1).2.2.2.2.1 (and6 (and_inv g).1).2.2.2.2.2 (and_inv g).2
theorem inv_isN {n : Bool} (h : chk gs (.isN n a) nm sc e = true) (f : ∀ l k p q, e = .Compare l [cond n .IsNot .Is] [.Constant .none k p] q → chk gs a nm sc l = true → P) : P :=
  onCmp1_inv (k := fun l op r => op == cond n .IsNot .Is && (onConstant r fun c _ _ => isCNone c) && chk gs a nm sc l) h fun l _ _ q he g => cnone_inv (and3 g).2.1 fun k p hr => f l k p q (hr ▸ beq_inv (and3 g).1 ▸ he) (and3 g).2.2
theorem inv_and (h : chk gs (.and a b) nm sc e = true) (f : ∀ x y r p, e = .BoolOp .And (x :: y :: r) p → chk gs a nm sc x = true → chk gs b nm sc (boolRest .And y r p) = true → P) : P :=
  bool_inv (A := chk gs a nm sc) (B := chk gs b nm sc) h f
theorem inv_or (h : chk gs (.or a b) nm sc e = true) (f : ∀ x y r p, e = .BoolOp .Or (x :: y :: r) p → chk gs a nm sc x = true → chk gs b nm sc (boolRest .Or y r p) = true → P) : P :=
  bool_inv (A := chk gs a nm sc) (B := chk gs b nm sc) h f
theorem inv_ite (h : chk gs (.ite c a b) nm sc e = true) (f : ∀ t x y p, e = .IfExp t x y p → chk gs c nm sc t = true → chk gs a nm sc x = true → chk gs b nm sc y = true → P) : P :=
  onIfExp_inv (k := fun t x y _ => chk gs c nm sc t && chk gs a nm sc x && chk gs b nm sc y) h fun t x y p he g => f t x y p he (and3 g).1 (and3 g).2.1 (and3 g).2.2
theorem inv_tup (h : chk gs (.tup ts) nm sc e = true) (f : ∀ es k p, e = .Tuple es k p → es.length ≤ 100 → chkT gs ts nm sc es = true → P) : P :=
  onTuple_inv (k := fun es _ _ => decide (es.length ≤ 100) && chkT gs ts nm sc es) h fun es k p he g => f es k p he (of_decide_eq_true (and_inv g).1) (and_inv g).2
theorem inv_lst (h : chk gs (.lst ts) nm sc e = true) (f : ∀ es p, e = .List es p → es.length ≤ 100 → chkT gs ts nm sc es = true → P) : P :=
  onList_inv (k := fun es _ => decide (es.length ≤ 100) && chkT gs ts nm sc es) h fun es p he g => f es p he (of_decide_eq_true (and_inv g).1) (and_inv g).2
theorem inv_idx (h : chk gs (.idx a b) nm sc e = true) (f : ∀ v s p, e = .Subscript v s p → notSlice s = true → chk gs a nm sc v = true → chk gs b nm sc s = true → P) : P :=
  onSubscript_inv (k := fun v s _ => notSlice s && chk gs a nm sc v && chk gs b nm sc s) h fun v s p he g => f v s p he (and3 g).1 (and3 g).2.1 (and3 g).2.2
theorem inv_sl (h : chk gs (.sl a lo hi) nm sc e = true) (f : ∀ v l u q p, e = .Subscript v (.Slice l u none q) p → chk gs a nm sc v = true → chkO gs lo nm sc l = true → chkO gs hi nm sc u = true → P) : P :=
  onSubscript_inv (k := fun v s _ => onSlice s fun l u st _ => st.isNone && chk gs a nm sc v && chkO gs lo nm sc l && chkO gs hi nm sc u) h fun v _ p he g => onSlice_inv g fun l u _ q hs g => f v l u q p (none_inv (and4 g).1 ▸ hs ▸ he) (and4 g).2.1 (and4 g).2.2.1 (and4 g).2.2.2
theorem inv_call {f : Nat} (h : chk gs (.call f ts) nm sc e = true) (F : ∀ x p es q, e = .Call (.Name x p) es [] q → notDebug x = true → globOf gs sc x = some (.fn f) → chkT gs ts nm sc es = true → P) : P := callN_inv (k := chkT gs ts nm sc) (and_inv h).2 F
theorem inv_bi {f : BI} (h : chk gs (.bi f ts) nm sc e = true) (F : ∀ x p es q, e = .Call (.Name x p) es [] q → notDebug x = true → globOf gs sc x = some (.bi (biV f)) → chkT gs ts nm sc es = true → P) : P := callN_inv (k := chkT gs ts nm sc) (and_inv h).2 F
theorem inv_isi {t : Ty} (h : chk gs (.isi t a) nm sc e = true) (f : ∀ x p v y py q, e = .Call (.Name x p) [v, .Name y py] [] q → notDebug x = true → notDebug y = true → globOf gs sc x = some (.bi (.builtin "isinstance")) → tyOk t (globOf gs sc y) = true → notStar v = true → chk gs a nm sc v = true → P) : P :=
  callN_inv (k := fun es => on2L es fun v u => onName u fun y _ => notDebug y && tyOk t (globOf gs sc y) && notStar v && chk gs a nm sc v) h fun x p _ q he h1 h2 g => on2L_inv g fun v _ hv g => onName_inv g fun y py hy g => f x p v y py q (hy ▸ hv ▸ he) h1 (and4 g).1 h2 (and4 g).2.1 (and4 g).2.2.1 (and4 g).2.2.2
theorem inv_mkL (h : chk gs (.mkL it) nm sc e = true) (f : ∀ x p v q, e = .Call (.Name x p) [v] [] q → notDebug x = true → globOf gs sc x = some (.bi (.type "list")) → notStar v = true → chkI gs it nm sc v = true → P) : P :=
  call1_inv (k := chkI gs it nm sc) h f
theorem inv_mkT (h : chk gs (.mkT a) nm sc e = true) (f : ∀ x p v q, e = .Call (.Name x p) [v] [] q → notDebug x = true → globOf gs sc x = some (.bi (.type "tuple")) → notStar v = true → chk gs a nm sc v = true → P) : P :=
  call1_inv (k := chk gs a nm sc) h f
theorem inv_rev (h : chkI gs (.rev a) nm sc e = true) (f : ∀ x p v q, e = .Call (.Name x p) [v] [] q → notDebug x = true → globOf gs sc x = some (.bi (.type "reversed")) → notStar v = true → chk gs a nm sc v = true → P) : P :=
  call1_inv (k := chk gs a nm sc) (and_inv h).2 f
theorem inv_rng (h : chkI gs (.rng a b c) nm sc e = true) (f : ∀ x p q, notDebug x = true → globOf gs sc x = some (.bi (.type "range")) →
    (∀ y, e = .Call (.Name x p) [y] [] q → c = .nil → a = .nil → notStar y = true → chk gs b nm sc y = true → P) ∧
    (∀ y z, e = .Call (.Name x p) [y, z] [] q → c = .nil → a.isNil = false → notStar y = true → notStar z = true → chk gs a nm sc y = true → chk gs b nm sc z = true → P) ∧
    (∀ y z w, e = .Call (.Name x p) [y, z, w] [] q → c.isNil = false → notStar y = true → notStar z = true → notStar w = true → chk gs a nm sc y = true → chk gs b nm sc z = true → chk gs c nm sc w = true → P)) : P :=
  onCallN_inv (k := fun x es => ckN gs (.bi (.type "range")) sc x && onCons es fun y r => notStar y &&
      List.casesOn (motive := fun _ => Bool) r (c.isNil && a.isNil && chk gs b nm sc y) fun z r => notStar z && chk gs a nm sc y && chk gs b nm sc z && List.casesOn (motive := fun _ => Bool) r (c.isNil && !a.isNil) fun w r => r.isEmpty && !c.isNil && notStar w && chk gs c nm sc w) (and_inv h).2 fun x p es q he h1 g =>
    have F := f x p q h1 (beq_inv (and_inv g).1)
    onCons_inv (and_inv g).2 fun y r hy g' => by
      subst hy
      cases r with
      | nil =>
        have k := and3 (and_inv g').2
        exact F.1 y he (isNil_inv k.1) (isNil_inv k.2.1) (and_inv g').1 k.2.2
      | cons z r =>
        have k := and4 (and_inv g').2
        cases r with
        | nil => exact F.2.1 y z he (isNil_inv (and_inv k.2.2.2).1) (not_inv (and_inv k.2.2.2).2) (and_inv g').1 k.1 k.2.1 k.2.2.1
        | cons w r =>
          have k2 := and4 k.2.2.2
          exact F.2.2 y z w (nil_inv k2.1 ▸ he) (not_inv k2.2.1) (and_inv g').1 k.1 k2.2.2.1 k.2.1 k.2.2.1 k2.2.2.2
theorem loud_rng (h : chkI gs (.rng a b c) nm sc e = true) : loud nm = true := (and_inv h).1
theorem inv_meth {m : Me} (h : chk gs (.meth m a ts) nm sc e = true) (f : ∀ o p es q, e = .Call (.Attribute o (meN m) p) es [] q → (p.endLine == q.line) = true → notCall o = true → es.length < 30 → chk gs a nm sc o = true → chkT gs ts nm sc es = true → P) : P :=
  onCallA_inv (k := fun o n es => n == meN m && notCall o && decide (es.length < 30) && chk gs a nm sc o && chkT gs ts nm sc es) h fun o _ p es q he h1 g => f o p es q (beq_inv (and4 (and_inv g).1).1 ▸ he) h1 (and4 (and_inv g).1).2.1 (of_decide_eq_true (and4 (and_inv g).1).2.2.1) (and4 (and_inv g).1).2.2.2 (and_inv g).2
structure CompChk (gs : Gs) (elt it c : T) (tg : List Nat) (nm : Nm) (sc : Scope) (x target iter : Expr) (ifs : List Expr) (cs : Scope) (xs : List Str) : Prop where
  set : notSet iter = true
  zip : (!it.isZip || tg.length == 2) = true
  iter : chkI gs it nm sc iter = true
  sco : scOk sc cs = true
  tgt : tgtOk target xs = true
  tgs : tgOk nm (relabS cs sc) xs tg = true
  elt : chk gs elt (xs.zip tg ++ keepNm (relabS cs sc) nm) (relabS cs sc) x = true
  ifs : (ifs = [] ∧ c = .nil) ∨ ∃ t, ifs = [t] ∧ c.isNil = false ∧ chk gs c (xs.zip tg ++ keepNm (relabS cs sc) nm) (relabS cs sc) t = true
theorem ifs_inv {nm : Nm} {sc : Scope} {ifs : List Expr} (h : ckIfs c (ckA gs c) nm sc ifs = true) : (ifs = [] ∧ c = .nil) ∨ ∃ t, ifs = [t] ∧ c.isNil = false ∧ chk gs c nm sc t = true := by
  cases ifs with
  | nil => exact .inl ⟨rfl, isNil_inv h⟩
  | cons t r =>
    have h : (r.isEmpty && !c.isNil && chk gs c nm sc t) = true := h
    exact .inr ⟨t, nil_inv (and3 h).1 ▸ rfl, not_inv (and3 h).2.1, (and3 h).2.2⟩
theorem inv_comp {tg : List Nat} (h : chk gs (.comp elt tg it c) nm sc e = true) (f : ∀ x target iter ifs cs pos xs, e = .ListComp x [⟨target, iter, ifs, 0⟩] cs pos → CompChk gs elt it c tg nm sc x target iter ifs cs xs → P) : P :=
  onListComp_inv (k := fun x gens cs _ => on1L gens fun g => g.is_async == 0 && ckComp it c (ckA gs elt) tg (ckA gs it) (ckA gs c) nm sc x g.target g.iter g.ifs cs (tgRead g.target)) (and_inv h).2 fun x _ cs pos he g =>
    on1L_inv g fun G hG g => by
      obtain ⟨target, iter, ifs, as⟩ := G
      have h0 := beq_inv (and_inv g).1
      dsimp only at h0
      subst h0
      have k2 := and_inv (and_inv g).2
      have k1 := and_inv k2.1
      have k := and6 k1.1
      exact f x target iter ifs cs pos _ (hG ▸ he) ⟨k.1, k.2.1, k.2.2.1, k.2.2.2.1, k.2.2.2.2.1, k.2.2.2.2.2, k1.2, ifs_inv k2.2⟩
theorem inv_asg {i : Nat} (h : chkS gs (.asg i a) nm sc s = true) (f : ∀ x q v p, s = .Assign [.Name x q] v p → varOf nm sc x = some i → (notComp v || a.isComp) = true → chk gs a nm sc v = true → P) : P :=
  onSAssign_inv (k := fun ts v _ => on1L ts fun t => onName t fun x _ => varOf nm sc x == some i && (notComp v || a.isComp) && chk gs a nm sc v) h fun _ v p he g => on1L_inv g fun _ ht g => onName_inv g fun x q hx g => f x q v p (hx ▸ ht ▸ he) (beq_inv (and3 g).1) (and3 g).2.1 (and3 g).2.2
theorem inv_asgO {i : Nat} (h : chkS gs (.asgO i a) nm sc s = true) (f : ∀ x q v p, s = .Assign [.Name x q] v p → varOf nm sc x = some i → (notComp v || a.isComp) = true → chk gs a nm sc v = true → P) : P :=
  onSAssign_inv (k := fun ts v _ => on1L ts fun t => onName t fun x _ => varOf nm sc x == some i && (notComp v || a.isComp) && chk gs a nm sc v) h fun _ v p he g => on1L_inv g fun _ ht g => onName_inv g fun x q hx g => f x q v p (hx ▸ ht ▸ he) (beq_inv (and3 g).1) (and3 g).2.1 (and3 g).2.2
theorem own_inv {i : Nat} {m : Str} {k : List Expr → Bool} (h : (onSExpr s fun e _ => ckOwn nm sc i m e k) = true) (f : ∀ x q ap es cp p, s = .Expr (.Call (.Attribute (.Name x q) m ap) es [] cp) p → notDebug x = true → (ap.endLine == cp.line) = true → varOf nm sc x = some i → k es = true → P) : P :=
  onSExpr_inv h fun _ p he g => onCallA_inv g fun _ _ ap es cp hc h1 g => onName_inv (and_inv g).2 fun x q hx g2 => f x q ap es cp p (beq_inv (and_inv g).1 ▸ hx ▸ hc ▸ he) (and3 g2).1 h1 (beq_inv (and3 g2).2.1) (and3 g2).2.2
theorem inv_app {i : Nat} (h : chkS gs (.app i a) nm sc s = true) (f : ∀ x q ap y cp p, s = .Expr (.Call (.Attribute (.Name x q) "append" ap) [y] [] cp) p → notDebug x = true → (ap.endLine == cp.line) = true → varOf nm sc x = some i → notStar y = true → chk gs a nm sc y = true → P) : P :=
  own_inv (m := "append") (k := fun es => on1L es fun y => notStar y && chk gs a nm sc y) h fun x q ap _ cp p he h1 h2 h3 g => on1L_inv g fun y hy g => f x q ap y cp p (hy ▸ he) h1 h2 h3 (and_inv g).1 (and_inv g).2
theorem inv_rvs {i : Nat} (h : chkS gs (.rvs i) nm sc s = true) (f : ∀ x q ap cp p, s = .Expr (.Call (.Attribute (.Name x q) "reverse" ap) [] [] cp) p → notDebug x = true → (ap.endLine == cp.line) = true → varOf nm sc x = some i → P) : P :=
  own_inv (m := "reverse") (k := fun es => es.isEmpty) h fun x q ap _ cp p he h1 h2 h3 g => f x q ap cp p (nil_inv g ▸ he) h1 h2 h3
theorem inv_iff (h : chkS gs (.iff c a b) nm sc s = true) (f : ∀ t x y p, s = .If t x y p → chk gs c nm sc t = true → chkB gs a nm sc x = true → chkB gs b nm sc y = true → P) : P :=
  onSIf_inv (k := fun t x y _ => chk gs c nm sc t && chkB gs a nm sc x && chkB gs b nm sc y) h fun t x y p he g => f t x y p he (and3 g).1 (and3 g).2.1 (and3 g).2.2
theorem inv_for {tg : List Nat} (h : chkS gs (.for_ tg it b) nm sc s = true) (f : ∀ target iter body p xs, s = .For target iter body [] p → notSet iter = true → (!it.isZip || tg.length == 2) = true → chkI gs it nm sc iter = true → tgtOk target xs = true → tgVars nm sc xs tg = true → xs.Nodup → tg.Nodup → chkB gs b nm sc body = true → P) : P :=
  onSFor_inv (k := fun target iter body els _ => els.isEmpty && notSet iter && (!it.isZip || tg.length == 2) && chkI gs it nm sc iter && tgtOk target (tgRead target) && tgVars nm sc (tgRead target) tg && decide (tgRead target).Nodup && decide tg.Nodup && chkB gs b nm sc body) (and_inv h).2 fun target iter body _ p he g =>
    have k1 := and_inv g
    have k := and4 k1.1
    have m := and4 (and_inv k.1).1
    f target iter body p (tgRead target) (nil_inv m.1 ▸ he) m.2.1 m.2.2.1 m.2.2.2 (and_inv k.1).2 k.2.1 (of_decide_eq_true k.2.2.1) (of_decide_eq_true k.2.2.2) k1.2
theorem inv_ret (h : chkS gs (.ret a) nm sc s = true) (f : ∀ v p, s = .Return (some v) p → chk gs a nm sc v = true → P) : P :=
  onSReturn_inv (k := fun o _ => onSome o fun v => chk gs a nm sc v) h fun _ p he g => onSome_inv g fun v hv g => f v p (hv ▸ he) g
theorem inv_retO {i : Nat} (h : chkS gs (.retO i) nm sc s = true) (f : ∀ x q p, s = .Return (some (.Name x q)) p → notDebug x = true → varOf nm sc x = some i → P) : P :=
  onSReturn_inv (k := fun o _ => onSome o fun v => onName v fun x _ => notDebug x && varOf nm sc x == some i) h fun _ p he g => onSome_inv g fun _ hv g => var_inv g fun x q hx h1 h2 => f x q p (hx ▸ hv ▸ he) h1 h2
theorem loud_for {tg : List Nat} (h : chkS gs (.for_ tg it b) nm sc s = true) : loud nm = true := (and_inv h).1
theorem loud_comp {tg : List Nat} (h : chk gs (.comp elt tg it c) nm sc e = true) : loud nm = true := (and_inv h).1
theorem loud_rev (h : chkI gs (.rev a) nm sc e = true) : loud nm = true := (and_inv h).1
theorem loud_call {f : Nat} (h : chk gs (.call f ts) nm sc e = true) : loud nm = true ∨ quietFn f = true := (Bool.or_eq_true _ _).mp (and_inv h).1
theorem loud_bi {f : BI} (h : chk gs (.bi f ts) nm sc e = true) : loud nm = true ∨ quietBi f = true := (Bool.or_eq_true _ _).mp (and_inv h).1
theorem inv_raise {k : Nat} {y : List Nat} (h : chkS gs (.raise k y) nm sc s = true) (f : ∀ x px v q p, s = .Raise (some (.Call (.Name x px) [v] [] q)) none p → (loud nm && !k.beq 0) = true → notDebug x = true → globOf gs sc x = some (.exc k) → chk gs (.cS y) nm sc v = true → P) : P :=
  onSRaise_inv (k := fun o cs _ => cs.isNone && onSome o fun e => onCallN e fun x es => ckN gs (.exc k) sc x && on1L es fun v => isStrC y v) (and_inv h).2 fun _ cs p he g0 => onSome_inv (and_inv g0).2 fun _ ho g2 => callN_inv (k := fun es => on1L es fun v => isStrC y v) g2 fun x px _ q hx h1 h2 g => on1L_inv g fun v hv g => f x px v q p (hv ▸ hx ▸ ho ▸ none_inv (and_inv g0).1 ▸ he) (and_inv h).1 h1 h2 g
theorem inv_try {k i : Nat} (h : chkS gs (.try_ a k i b) nm sc s = true) (f : ∀ body x px n b0 hb hp p, s = .Try body [.ExceptHandler (some (.Name x px)) (some n) (b0 :: hb) hp] [] [] p → loud nm = true → notDebug x = true → globOf gs sc x = some (.exc 1) → sc.names.lookup n = some .local → varOf nm sc n = some i → quietOk nm sc = true → chkB gs a nm sc body = true → chkB gs b (quietNm nm) sc (b0 :: hb) = true → P) : P :=
  onSTry_inv (k := fun body hs els fin _ => els.isEmpty && fin.isEmpty && on1L hs fun h => onHandler h fun t n hb => onSome t fun t => onSome n fun n => onName t fun x _ => notDebug x && ckN gs (.exc k) sc x && k.beq 1 && sc.names.lookup n == some .local && varOf nm sc n == some i && quietOk nm sc && !hb.isEmpty && chkB gs a nm sc body && chkB gs b (quietNm nm) sc hb) (and_inv h).2 fun body hs els fin p he g => on1L_inv (and3 g).2.2 fun H hH g2 => by
    obtain ⟨t, n, hb, hp⟩ := H
    refine onSome_inv g2 fun t ht g3 => onSome_inv g3 fun n hn g4 => onName_inv g4 fun x px hx g5 => ?_
    have k2 := and_inv g5
    have k1 := and_inv k2.1
    have k3 := and_inv k1.1
    have k0 := and6 k3.1
    have hk : k = 1 := Nat.eq_of_beq_eq_true k0.2.2.1
    subst hk
    cases hb with
    | nil => exact (Bool.false_ne_true k3.2).elim
    | cons b0 hb => exact f body x px n b0 hb hp p (by rw [he, hH, ht, hn, hx, nil_inv (and3 g).1, nil_inv (and3 g).2.1]) (and_inv h).1 k0.1 (beq_inv k0.2.1) (beq_inv k0.2.2.2.1) (beq_inv k0.2.2.2.2.1) k0.2.2.2.2.2 k1.2 k2.2
theorem inv_nilT {es : List Expr} (h : chkT gs .nil nm sc es = true) : es = [] := nil_inv h
theorem inv_consT {es : List Expr} (h : chkT gs (.cons a b) nm sc es = true) (f : ∀ x r, es = x :: r → notStar x = true → chk gs a nm sc x = true → chkT gs b nm sc r = true → P) : P :=
  onCons_inv (k := fun x r => notStar x && chk gs a nm sc x && chkT gs b nm sc r) h fun x r he g => f x r he (and3 g).1 (and3 g).2.1 (and3 g).2.2
theorem inv_nilB {ss : List Stmt} (h : chkB gs .nil nm sc ss = true) : ss = [] := nil_inv h
theorem inv_consB {ss : List Stmt} (h : chkB gs (.cons a b) nm sc ss = true) (f : ∀ s r, ss = s :: r → chkS gs a nm sc s = true → chkB gs b nm sc r = true → P) : P :=
  onCons_inv (k := fun s r => chkS gs a nm sc s && chkB gs b nm sc r) h fun s r he g => f s r he (and_inv g).1 (and_inv g).2
end
end Mine
namespace Mine
open PySem PySem.Calls PyProof.Rows
noncomputable abbrev Led := Addr → Option Obj
mutual
inductive Rep (Z : Led) : Value → Dat → Prop
  | none : Rep Z .none .none
  | bool (b : Bool) : Rep Z (.bool b) (.bool b)
  | int (i : Int) (t : Tok) : Rep Z (.int i t) (.int i)
  | str (x : Str) (t : Tok) (ok : PyData.strOk x = true) (le : x.length ≤ line) : Rep Z (.str x t) (.str x.cps.toList)
  | tup {a : Addr} {vs : List Value} {n : Nat} {ds : List Dat} : Z a = some { cls := .type "tuple", data := .seq vs.toArray n } → vs.length ≤ line → RepL Z vs ds → Rep Z (.ref a) (.tup ds)
  | lst {a : Addr} {vs : List Value} {n : Nat} {ds : List Dat} : Z a = some { cls := .type "list", data := .seq vs.toArray n } → vs.length ≤ line → RepL Z vs ds → Rep Z (.ref a) (.lst ds)
  | dic {a : Addr} {n : Nat} : Z a = some { cls := .type "dict", data := .dict #[] n } → Rep Z (.ref a) .dic
inductive RepL (Z : Led) : List Value → List Dat → Prop
  | nil : RepL Z [] []
  | cons {v : Value} {d : Dat} {vs : List Value} {ds : List Dat} : Rep Z v d → RepL Z vs ds → RepL Z (v :: vs) (d :: ds)
end
noncomputable def Led.le (Z Z' : Led) : Prop := ∀ a o, Z a = some o → Z' a = some o
theorem Rep.both {Z : Led} {P : Value → Dat → Prop} {Q : List Value → List Dat → Prop}
    (m1 : P .none .none) (m2 : ∀ b, P (.bool b) (.bool b)) (m3 : ∀ i t, P (.int i t) (.int i)) (m4 : ∀ x t, PyData.strOk x = true → x.length ≤ line → P (.str x t) (.str x.cps.toList))
    (m5 : ∀ {a : Addr} {vs : List Value} {n : Nat} {ds : List Dat}, Z a = some { cls := .type "tuple", data := .seq vs.toArray n } → vs.length ≤ line → Q vs ds → P (.ref a) (.tup ds))
    (m6 : ∀ {a : Addr} {vs : List Value} {n : Nat} {ds : List Dat}, Z a = some { cls := .type "list", data := .seq vs.toArray n } → vs.length ≤ line → Q vs ds → P (.ref a) (.lst ds))
    (m7 : ∀ {a : Addr} {n : Nat}, Z a = some { cls := .type "dict", data := .dict #[] n } → P (.ref a) .dic)
    (m8 : Q [] []) (m9 : ∀ {v : Value} {d : Dat} {vs : List Value} {ds : List Dat}, P v d → Q vs ds → Q (v :: vs) (d :: ds)) :
    (∀ {v d}, Rep Z v d → P v d) ∧ (∀ {vs ds}, RepL Z vs ds → Q vs ds) :=
  ⟨fun r => Rep.rec (motive_1 := fun v d _ => P v d) (motive_2 := fun vs ds _ => Q vs ds) m1 m2 m3 m4 (fun a l _ q => m5 a l q) (fun a l _ q => m6 a l q) m7 m8 (fun _ _ a b => m9 a b) r,
   fun r => RepL.rec (motive_1 := fun v d _ => P v d) (motive_2 := fun vs ds _ => Q vs ds) m1 m2 m3 m4 (fun a l _ q => m5 a l q) (fun a l _ q => m6 a l q) m7 m8 (fun _ _ a b => m9 a b) r⟩
theorem Rep.monos {Z Z' : Led} (h : Led.le Z Z') : (∀ {v d}, Rep Z v d → Rep Z' v d) ∧ (∀ {vs ds}, RepL Z vs ds → RepL Z' vs ds) :=
  Rep.both .none .bool .int .str (fun a l r => .tup (h _ _ a) l r) (fun a l r => .lst (h _ _ a) l r) (fun a => .dic (h _ _ a)) .nil .cons
theorem Rep.mono {Z Z' : Led} (h : Led.le Z Z') {v : Value} {d : Dat} (r : Rep Z v d) : Rep Z' v d := (Rep.monos h).1 r
theorem RepL.mono {Z Z' : Led} (h : Led.le Z Z') {vs : List Value} {ds : List Dat} (r : RepL Z vs ds) : RepL Z' vs ds := (Rep.monos h).2 r
section
variable {Z : Led} {vs ws : List Value} {ds es : List Dat} {v : Value} {d : Dat}
theorem RepL.length (h : RepL Z vs ds) : vs.length = ds.length := by
  induction vs generalizing ds with
  | nil => cases h; rfl
  | cons v vs ih => cases h with | cons _ r => simp [ih r]
theorem RepL.append (h : RepL Z vs ds) (k : RepL Z ws es) : RepL Z (vs ++ ws) (ds ++ es) := by
  induction vs generalizing ds with
  | nil => cases h; exact k
  | cons v vs ih => cases h with | cons a r => exact .cons a (ih r)
theorem RepL.one (h : Rep Z v d) : RepL Z [v] [d] := .cons h .nil
theorem RepL.get (h : RepL Z vs ds) {k : Nat} (hd : ds[k]? = some d) : ∃ v, vs[k]? = some v ∧ Rep Z v d := by
  induction vs generalizing ds k with
  | nil => cases h; simp at hd
  | cons v vs ih =>
    cases h with
    | cons a r =>
      cases k with
      | zero => simp at hd; subst hd; exact ⟨v, rfl, a⟩
      | succ k => simp at hd; simpa using ih r hd
theorem RepL.get' (h : RepL Z vs ds) {k : Nat} (hv : vs[k]? = some v) : ∃ d, ds[k]? = some d ∧ Rep Z v d := by
  induction vs generalizing ds k with
  | nil => simp at hv
  | cons u vs ih =>
    cases h with
    | cons a r =>
      cases k with
      | zero => simp at hv; subst hv; exact ⟨_, rfl, a⟩
      | succ k => simp at hv; simpa using ih r hv
theorem RepL.drop (h : RepL Z vs ds) (k : Nat) : RepL Z (vs.drop k) (ds.drop k) := by
  induction vs generalizing ds k with
  | nil => cases h; simp; exact .nil
  | cons v vs ih =>
    cases h with
    | cons a r =>
      cases k with
      | zero => exact .cons a r
      | succ k => simpa using ih r k
theorem RepL.take (h : RepL Z vs ds) (k : Nat) : RepL Z (vs.take k) (ds.take k) := by
  induction vs generalizing ds k with
  | nil => cases h; simp; exact .nil
  | cons v vs ih =>
    cases h with
    | cons a r =>
      cases k with
      | zero => exact .nil
      | succ k => simpa using .cons a (ih r k)
theorem RepL.reverse (h : RepL Z vs ds) : RepL Z vs.reverse ds.reverse := by
  induction vs generalizing ds with
  | nil => cases h; exact .nil
  | cons v vs ih =>
    cases h with
    | cons a r => simp only [List.reverse_cons]; exact (ih r).append (.one a)
theorem RepL.set (h : RepL Z vs ds) (k : Nat) (hv : Rep Z v d) : RepL Z (vs.set k v) (ds.set k d) := by
  induction vs generalizing ds k with
  | nil => cases h; exact .nil
  | cons u vs ih =>
    cases h with
    | cons a r =>
      cases k with
      | zero => exact .cons hv r
      | succ k => exact .cons a (ih r k)
end
noncomputable def NoDict (o : Obj) : Prop := ∀ es n, o.data ≠ .dict es n
theorem nd_fields {o : Obj} {vs : Array Value} (h : o.data = .fields vs) : NoDict o := fun es n q => by rw [h] at q; cases q
theorem nd_seq {o : Obj} {vs : Array Value} (h : ∃ n, o.data = .seq vs n) : NoDict o := fun es n q => by obtain ⟨k, h⟩ := h; rw [h] at q; cases q
noncomputable def Tt (_ : Obj) : Prop := True
noncomputable def Kp (h h' : Heap) : Prop := ∀ b o, h.get? b = some o → h'.get? b = some o
noncomputable def Kw (Z : Led) (h h' : Heap) : Prop := ∀ b o, h.get? b = some o → ((Z b = some o ∨ NoDict o) → h'.get? b = some o) ∧ ∃ o', h'.get? b = some o' ∧ o'.data = o.data ∧ o'.cls = o.cls
theorem Kp.keep {h h' : Heap} (k : Kp h h') : ∀ b o, h.get? b = some o → h'.get? b = some o := k
theorem Kp.refl (h : Heap) : Kp h h := fun _ o e => e
theorem Kp.trans {h h' h'' : Heap} (a : Kp h h') (b : Kp h' h'') : Kp h h'' := fun x o e => b x o (a x o e)
theorem Kp.of {h h' : Heap} (k : ∀ b o, h.get? b = some o → h'.get? b = some o) : Kp h h' := k
theorem Kp.w {h h' : Heap} (k : Kp h h') (Z : Led) : Kw Z h h' := fun b o e => ⟨fun _ => k b o e, o, k b o e, rfl, rfl⟩
theorem Kw.trans {Z Z' : Led} {h h' h'' : Heap} (le : Led.le Z Z') (a : Kw Z h h') (b : Kw Z' h' h'') : Kw Z h h'' := fun x o e => by
  obtain ⟨p, o', e', d', c'⟩ := a x o e
  obtain ⟨q, o'', e'', d'', c''⟩ := b x o' e'
  refine ⟨fun n => ?_, o'', e'', d''.trans d', c''.trans c'⟩
  have := p n
  rw [e'] at this
  cases this
  exact q (n.imp (le _ _) id)
theorem Kw.none {Z : Led} {h h' : Heap} (k : Kw Z h h') {a : Addr} (e : h'.get? a = none) : h.get? a = none := by
  cases q : h.get? a with
  | none => rfl
  | some o => obtain ⟨_, o', e', _⟩ := k a o q; rw [e] at e'; cases e'
theorem Kp.none {h h' : Heap} (k : Kp h h') {a : Addr} (e : h'.get? a = none) : h.get? a = none := (k.w fun _ => Option.none).none e
theorem Kw.isList {Z : Led} {h h' : Heap} (k : Kw Z h h') {a : Addr} {xs : Array Value} (e : h.IsList a xs) : h'.IsList a xs := by
  obtain ⟨o, ho, hc, n, hd⟩ := e
  exact ⟨o, (k a o ho).1 (.inr fun es m q => by rw [hd] at q; cases q), hc, n, hd⟩
theorem Kw.plain {Z : Led} {h h' : Heap} (k : Kw Z h h') {a : Addr} {xs : Array Value} (e : h.PlainList a xs) : h'.PlainList a xs := by
  obtain ⟨n, ho⟩ := e
  exact ⟨n, (k a _ ho).1 (.inr fun es m q => by cases q)⟩
theorem Kw.ns {Z : Led} {h h' : Heap} (k : Kw Z h h') {a : Addr} {m : Str → Option Value} (e : h.Ns a m) : h'.Ns a m := by
  obtain ⟨o, es, ep, ho, hd, r⟩ := e
  obtain ⟨_, o', e', d', _⟩ := k a o ho
  exact ⟨o', es, ep, e', d'.trans hd, r⟩
theorem Kw.cell {Z : Led} {h h' : Heap} (k : Kw Z h h') {a : Addr} {v : Option Value} (e : h.IsCell a v) : h'.IsCell a v := by
  obtain ⟨o, ho, hd⟩ := e
  obtain ⟨_, o', e', d', _⟩ := k a o ho
  exact ⟨o', e', d'.trans hd⟩
theorem Kp.isList {h h' : Heap} (k : Kp h h') {a : Addr} {xs : Array Value} (e : h.IsList a xs) : h'.IsList a xs := (k.w fun _ => Option.none).isList e
theorem Kp.plain {h h' : Heap} (k : Kp h h') {a : Addr} {xs : Array Value} (e : h.PlainList a xs) : h'.PlainList a xs := (k.w fun _ => Option.none).plain e
theorem Kp.ns {h h' : Heap} (k : Kp h h') {a : Addr} {m : Str → Option Value} (e : h.Ns a m) : h'.Ns a m := (k.w fun _ => Option.none).ns e
theorem Kp.cell {h h' : Heap} (k : Kp h h') {a : Addr} {v : Option Value} (e : h.IsCell a v) : h'.IsCell a v := (k.w fun _ => Option.none).cell e
noncomputable def KpB (Z : Led) (P : Addr → Prop) (h h' : Heap) : Prop := ∀ b o, ¬ P b → h.get? b = some o → ((Z b = some o ∨ NoDict o) → h'.get? b = some o) ∧ ∃ o', h'.get? b = some o' ∧ o'.data = o.data ∧ o'.cls = o.cls
theorem Kw.but {Z : Led} {P : Addr → Prop} {h h' : Heap} (k : Kw Z h h') : KpB Z P h h' := fun b o _ e => k b o e
theorem KpB.mono {Z : Led} {P P' : Addr → Prop} {h h' : Heap} (k : KpB Z P h h') (s : ∀ a o, h.get? a = some o → P a → P' a) : KpB Z P' h h' := fun b o n e => k b o (fun q => n (s b o e q)) e
theorem KpB.none {Z : Led} {P : Addr → Prop} {h h' : Heap} (k : KpB Z P h h') {a : Addr} (n : ¬ P a) (e : h'.get? a = none) : h.get? a = none := by
  cases q : h.get? a with
  | none => rfl
  | some o => obtain ⟨_, o', e', _⟩ := k a o n q; rw [e] at e'; cases e'
structure Grow (Z : Led) (h : Heap) (Z' : Led) (h' : Heap) : Prop where
  kp : Kw Z h h'
  le : Led.le Z Z'
  new : ∀ a o, Z' a = some o → Z a = some o ∨ h.get? a = none
  sub : ∀ a o, Z' a = some o → h'.get? a = some o
  ok : ∀ a o, Z' a = some o → Tt o
theorem Grow.refl {Z : Led} {h : Heap} (s : ∀ a o, Z a = some o → h.get? a = some o) (k : ∀ a o, Z a = some o → Tt o) : Grow Z h Z h :=
  ⟨(Kp.refl h).w Z, fun _ _ e => e, fun _ _ e => .inl e, s, k⟩
theorem Grow.trans {Z Z' Z'' : Led} {h h' h'' : Heap} (a : Grow Z h Z' h') (b : Grow Z' h' Z'' h'') : Grow Z h Z'' h'' :=
  ⟨a.kp.trans a.le b.kp, fun x o e => b.le x o (a.le x o e), fun x o e => by
    rcases b.new x o e with q | q
    · exact a.new x o q
    · exact .inr (a.kp.none q), b.sub, b.ok⟩
theorem Grow.keep {Z : Led} {h h' : Heap} (s : ∀ a o, Z a = some o → h.get? a = some o) (k : ∀ a o, Z a = some o → Tt o) (kp : Kp h h') : Grow Z h Z h' :=
  ⟨kp.w Z, fun _ _ e => e, fun _ _ e => .inl e, fun a o e => kp a o (s a o e), k⟩
noncomputable def Led.put (Z : Led) (a : Addr) (o : Obj) : Led := fun b => if b = a then some o else Z b
theorem Led.put_self (Z : Led) (a : Addr) (o : Obj) : Led.put Z a o a = some o := by simp [Led.put]
theorem Led.put_le {Z : Led} {a : Addr} {o : Obj} (n : Z a = none) : Led.le Z (Led.put Z a o) := fun b q e => by
  unfold Led.put
  split
  · rename_i hb; rw [hb, n] at e; cases e
  · exact e
theorem Grow.put {Z Z' : Led} {h h' : Heap} (g : Grow Z h Z' h') {a : Addr} {o : Obj} (n : Z' a = none) (f : h.get? a = none) (e : h'.get? a = some o) (c : Tt o) : Grow Z h (Led.put Z' a o) h' :=
  ⟨g.kp, fun b q x => Led.put_le n b q (g.le b q x), fun b q x => by
    unfold Led.put at x
    split at x
    · rename_i hb; subst hb; exact .inr f
    · exact g.new b q x, fun b q x => by
    unfold Led.put at x
    split at x
    · rename_i hb; subst hb; cases x; exact e
    · exact g.sub b q x, fun b q x => by
    unfold Led.put at x
    split at x
    · cases x; exact c
    · exact g.ok b q x⟩
end Mine
namespace Mine
open PySem PySem.Calls PyProof.Rows
set_option genSizeOf false in
set_option genInjectivity false in
structure Cx where
  prog : Program
  w : World
  base : Heap
  mg : Str → Option Value
  mb : Str → Option Value
  fns : List Fn
  gs : Gs
  shopC : Addr
  K : PySem.W.Frag
  up : List Addr
  exc : Nat → Option Addr
noncomputable def shopObj (C dx : Addr) : Obj := { cls := .ref C, dict := some dx, data := .plain }
noncomputable def dictObj (o : Obj) (es : List DictEntry) (n : Nat) : Obj := ⟨o.cls, o.dict, .dict es.toArray n, o.slots⟩
inductive ShopIs (C : Addr) (Z : Led) (v : Value) (ns ps : List Dat) : Prop
  | mk (x : _) (dx : _) (od : _) (es : _) (n : _) (e₁ : _) (e₂ : _) : (v = .ref x) → (Z x = some (shopObj C dx)) → (Z dx = some (dictObj od es n)) → (es.find? (·.key.isStr "names") = some e₁) → (es.find? (·.key.isStr "prices") = some e₂) → (es.find? (·.key.isStr "place") = none) → (es.any (·.refKey) = false) → Rep Z e₁.val (.lst ns) → Rep Z e₂.val (.lst ps) → ShopIs C Z v ns ps
inductive ExcI (X : Nat → Option Addr) (h : Heap) (v : Value) (c : Nat) : Prop
  | mk (e : _) (oe : _) (vs : _) (C : _) : v = .ref e → X c = some C → h.get? e = some oe → oe.cls = .ref C → oe.data = .fields vs → ExcI X h v c
noncomputable def ExcIs (Γ : Cx) (h : Heap) (v : Value) (c : Nat) : Prop := ExcI Γ.exc h v c
noncomputable def TrIs (f : Option Addr) (Z : Led) (h₀ h : Heap) (e : Addr) (v : Value) : Prop := v = .none ∨ ∃ T oT ts, v = .ref T ∧ h₀.get? T = none ∧ Z T = none ∧ T ≠ e ∧ h.get? T = some oT ∧ oT.data = .fields ts ∧ (ts[3]? = some .none ∨ ∃ L, f = some L ∧ ts[3]? = some (rawInt L))
inductive XPi (X : Nat → Option Addr) (f : Option Addr) (c : Nat) (v : Value) (Z : Led) (h₀ h : Heap) : Prop
  | mk (e : _) (oe : _) (vs : _) (C : _) (u : _) : v = .ref e → X c = some C → h₀.get? e = none → Z e = none → h.get? e = some oe → oe.cls = .ref C → oe.data = .fields vs → vs[1]? = some u → TrIs f Z h₀ h e u → XPi X f c v Z h₀ h
noncomputable def XP (Γ : Cx) (f : Option Addr) (c : Nat) (v : Value) (Z : Led) (h₀ h : Heap) : Prop := XPi Γ.exc f c v Z h₀ h
inductive OwnIs (Z : Led) (h : Heap) (a : Addr) (ds : List Dat) : Prop
  | mk (vs : _) : (Z a = none) → h.PlainList a vs.toArray → (vs.length ≤ line) → RepL Z vs ds → OwnIs Z h a ds
inductive OwnV (Z : Led) (fr : Addr → Prop) (h : Heap) (v : Value) (ds : List Dat) : Prop
  | mk (a : _) : v = .ref a → fr a → OwnIs Z h a ds → OwnV Z fr h v ds
inductive LisV (Z : Led) (h : Heap) (v : Value) (ds : List Dat) : Prop
  | mk (a : _) (vs : _) : v = .ref a → h.PlainList a vs.toArray → vs.length ≤ line → RepL Z vs ds → LisV Z h v ds
inductive PrV (Z : Led) (fr : Addr → Prop) (h : Heap) (v : Value) (d : Dat) (ds : List Dat) : Prop
  | mk (t : _) (a : _) (u : _) (k : _) : v = .ref t → t ≠ a → fr t → fr a → Z t = none → h.get? t = some { cls := .type "tuple", data := .seq #[u, .ref a] k } → Rep Z u d → OwnIs Z h a ds → PrV Z fr h v d ds
noncomputable def RepV (Γ : Cx) (Z : Led) (fr : Addr → Prop) (h : Heap) (v : Value) : Val → Prop
  | .un => False
  | .sh d => Rep Z v d
  | .own ds => OwnV Z fr h v ds
  | .bor ds => LisV Z h v ds
  | .shop ns ps => ShopIs Γ.shopC Z v ns ps
  | .exc c => ExcIs Γ h v c
  | .pr d ds => PrV Z fr h v d ds
theorem OwnIs.grow {Z Z' : Led} {h h' : Heap} {a : Addr} {ds : List Dat} (x : OwnIs Z h a ds) (g : Grow Z h Z' h') : OwnIs Z' h' a ds := by
  obtain ⟨vs, n, p, l, r⟩ := x
  refine ⟨vs, ?_, g.kp.plain p, l, r.mono g.le⟩
  cases q : Z' a with
  | none => rfl
  | some o =>
    rcases g.new a o q with e | e
    · rw [n] at e; cases e
    · obtain ⟨k, e'⟩ := p; rw [e] at e'; cases e'
theorem ShopIs.mono {C : Addr} {Z Z' : Led} (h : Led.le Z Z') {v : Value} {ns ps : List Dat} (x : ShopIs C Z v ns ps) : ShopIs C Z' v ns ps := by
  obtain ⟨x, dx, od, es, n, e₁, e₂, a, b, c, d, e, f, g, i, j⟩ := x
  exact ⟨x, dx, od, es, n, e₁, e₂, a, h _ _ b, h _ _ c, d, e, f, g, i.mono h, j.mono h⟩
theorem RepV.grow {Γ : Cx} {Z Z' : Led} {fr : Addr → Prop} {h h' : Heap} {v : Value} {x : Val} (r : RepV Γ Z fr h v x) (g : Grow Z h Z' h') : RepV Γ Z' fr h' v x := by
  cases x with
  | un => exact r
  | sh d => exact Rep.mono g.le r
  | own ds => obtain ⟨a, e, f, o⟩ := r; exact ⟨a, e, f, o.grow g⟩
  | bor ds => obtain ⟨a, vs, e, l, z, o⟩ := r; exact ⟨a, vs, e, g.kp.plain l, z, o.mono g.le⟩
  | shop ns ps => exact ShopIs.mono g.le r
  | exc c =>
    obtain ⟨e, oe, vs, C, h1, h2, h3, h4, h5⟩ := r
    obtain ⟨_, o', e', d', c'⟩ := g.kp e oe h3
    exact ⟨e, o', vs, C, h1, h2, e', c'.trans h4, d'.trans h5⟩
  | pr d ds =>
    obtain ⟨t, a, u, k, e, n, f1, f2, z, o, rr, ow⟩ := r
    refine ⟨t, a, u, k, e, n, f1, f2, ?_, (g.kp t _ o).1 (.inr fun es m q => by cases q), rr.mono g.le, ow.grow g⟩
    cases q : Z' t with
    | none => rfl
    | some o' =>
      rcases g.new t o' q with e | e
      · rw [z] at e; cases e
      · rw [e] at o; cases o
theorem RepV.weak {Γ : Cx} {Z : Led} {fr fr' : Addr → Prop} {h : Heap} {v : Value} {x : Val} (r : RepV Γ Z fr h v x) (s : ∀ a, fr a → fr' a) : RepV Γ Z fr' h v x := by
  cases x with
  | own ds => obtain ⟨a, e, f, o⟩ := r; exact ⟨a, e, s a f, o⟩
  | pr d ds => obtain ⟨t, a, u, k, e, n, f1, f2, z, o, rr, ow⟩ := r; exact ⟨t, a, u, k, e, n, s t f1, s a f2, z, o, rr, ow⟩
  | _ => exact r
structure FrS (env : Env) (h : Heap) (m : Str → Option Value) : Prop where
  loc : ∃ ml, h.Ns env.locals ml ∧ ∀ x, env.kindOf x = some .local → ml x = m x
  cel : ∀ x, env.kindOf x = some .cell → ∃ c, env.cells.lookup x = some c ∧ h.IsCell c (m x)
  inj : ∀ x y c, env.kindOf x = some .cell → env.kindOf y = some .cell → env.cells.lookup x = some c → env.cells.lookup y = some c → x = y
theorem FrS.kp {Z : Led} {env : Env} {h h' : Heap} {m : Str → Option Value} (F : FrS env h m) (k : Kw Z h h') : FrS env h' m := by
  obtain ⟨⟨ml, a, b⟩, c, d⟩ := F
  exact ⟨⟨ml, k.ns a, b⟩, fun x e => let ⟨q, l, i⟩ := c x e; ⟨q, l, k.cell i⟩, d⟩
noncomputable def FP (env : Env) (a : Addr) : Prop := a = env.locals ∨ ∃ x, env.kindOf x = some .cell ∧ env.cells.lookup x = some a
theorem FrS.there {env : Env} {h : Heap} {m : Str → Option Value} (F : FrS env h m) {a : Addr} (p : FP env a) : ∃ o, h.get? a = some o := by
  rcases p with rfl | ⟨x, k, l⟩
  · obtain ⟨⟨ml, ⟨o, _, _, e, _⟩, _⟩, _, _⟩ := F; exact ⟨o, e⟩
  · obtain ⟨c, l', o, e, _⟩ := F.cel x k
    rw [l] at l'; cases l'; exact ⟨o, e⟩
inductive OwnAt (nm : Nm) (ρ : List Val) (m : Str → Option Value) (a : Addr) : Prop
  | mk (x : _) (i : _) (ds : _) : (nm.lookup x = some i) → (ρ.getD i .un = .own ds) → (m x = some (.ref a)) → OwnAt nm ρ m a
structure Inv (Γ : Cx) (nm : Nm) (ρ : List Val) (env : Env) (Z : Led) (h : Heap) (m : Str → Option Value) : Prop where
  fr : FrS env h m
  sub : ∀ a o, Z a = some o → h.get? a = some o
  ok : ∀ a o, Z a = some o → Tt o
  zfp : ∀ a, FP env a → Z a = none
  kz : ∀ a o, Γ.base.get? a = some o → Z a = some o
  ups : ∀ L ∈ Γ.up, Z L = none ∧ ∃ o es k, h.get? L = some o ∧ o.data = .dict es k
  var : ∀ x i, nm.lookup x = some i → ρ.getD i .un ≠ .un → ∃ v, m x = some v ∧ RepV Γ Z (fun _ => True) h v (ρ.getD i .un)
  nopr : ∀ i d ds, ρ.getD i .un ≠ .pr d ds
  inj : ∀ x y k, nm.lookup x = some k → nm.lookup y = some k → x = y
  fpb : ∀ a, FP env a → Γ.base.get? a = none
  ownb : ∀ a, OwnAt nm ρ m a → Γ.base.get? a = none
  apart : ∀ x y i j a ds es, nm.lookup x = some i → nm.lookup y = some j → ρ.getD i .un = .own ds → (ρ.getD j .un = .own es ∨ ρ.getD j .un = .bor es) → m x = some (.ref a) → m y = some (.ref a) → x = y
theorem Inv.grow {Γ : Cx} {nm : Nm} {ρ : List Val} {env : Env} {Z Z' : Led} {h h' : Heap} {m : Str → Option Value} (I : Inv Γ nm ρ env Z h m) (g : Grow Z h Z' h') : Inv Γ nm ρ env Z' h' m where
  fr := I.fr.kp g.kp
  sub := g.sub
  ok := g.ok
  zfp := fun a p => by
    cases q : Z' a with
    | none => rfl
    | some o =>
      rcases g.new a o q with e | e
      · rw [I.zfp a p] at e; cases e
      · obtain ⟨o', e'⟩ := I.fr.there p; rw [e] at e'; cases e'
  kz := fun a o e => g.le a o (I.kz a o e)
  ups := fun L hL => by
    obtain ⟨z, o, es, k, e, d⟩ := I.ups L hL
    obtain ⟨_, o', e', d', _⟩ := g.kp L o e
    refine ⟨?_, o', es, k, e', d'.trans d⟩
    cases q : Z' L with
    | none => rfl
    | some o2 =>
      rcases g.new L o2 q with q | q
      · rw [z] at q; cases q
      · rw [e] at q; cases q
  var := fun x i l n => let ⟨v, e, r⟩ := I.var x i l n; ⟨v, e, r.grow g⟩
  nopr := I.nopr
  inj := I.inj
  fpb := I.fpb
  ownb := I.ownb
  apart := I.apart
theorem Inv.kb {Γ : Cx} {nm : Nm} {ρ : List Val} {env : Env} {Z : Led} {h : Heap} {m : Str → Option Value} (I : Inv Γ nm ρ env Z h m) : Kp Γ.base h := fun a o e => I.sub a o (I.kz a o e)
theorem Inv.refl {Γ : Cx} {nm : Nm} {ρ : List Val} {env : Env} {Z : Led} {h : Heap} {m : Str → Option Value} (I : Inv Γ nm ρ env Z h m) : Grow Z h Z h := Grow.refl I.sub I.ok
structure EnvOk (env : Env) : Prop where
  kind : env.scope.kind = .function
  glob : env.globals = mainGlobals
  bui : env.builtins = builtinsNs
structure AOk (n : Nat) (A : Around) : Prop where
  depth : A.depth + 2 * n < recursionLimit
  units : A.units + 8 * n + 200 ≤ cLine
structure AOx (Γ : Cx) (nm : Nm) (n : Nat) (A : Around) (env : Env) : Prop extends AOk n A where
  hd : loud nm = true → A.handled = none
  fr : ∃ e₀ l, A.frames = some (e₀ :: l) ∧ e₀.frame = env.frame ∧ ∀ e ∈ e₀ :: l, e.scope.kind ≠ .module ∧ ∃ L, e.frame = some L ∧ L ∈ Γ.up
noncomputable instance {Γ : Cx} {nm : Nm} {n : Nat} {A : Around} {env : Env} : CoeOut (AOx Γ nm n A env) (AOk n A) := ⟨fun h => h.toAOk⟩
theorem XP.old {Γ : Cx} {f : Option Addr} {c : Nat} {v : Value} {Z : Led} {h₀ h₁ h : Heap} (n : ∀ a, h₁.get? a = none → h₀.get? a = none) (x : XP Γ f c v Z h₁ h) : XP Γ f c v Z h₀ h := by
  obtain ⟨e, oe, vs, C, u, a1, a2, a3, a4, a5, a6, a7, a8, t⟩ := x
  refine ⟨e, oe, vs, C, u, a1, a2, n _ a3, a4, a5, a6, a7, a8, t.imp id ?_⟩
  rintro ⟨T, oT, ts, b1, b2, b3⟩
  exact ⟨T, oT, ts, b1, n _ b2, b3⟩
end Mine
namespace Mine
open PySem PySem.Calls PyProof.Rows
theorem Out.bind_assoc {α β γ : Type} (r : Out α) (f : α → Out β) (g : β → Out γ) : ((r >>= f) >>= g) = (r >>= fun x => f x >>= g) := by
  cases r <;> rfl
noncomputable abbrev Tr (β : Type) := (β → Shared → Prop) → (Value → Shared → Prop) → Shared → Prop
noncomputable abbrev wpt (Γ : Cx) (A : Around) {β : Type} (t : Sem β) : Tr β := fun Q E s => wpAny (model Γ.prog Γ.w) A t Q E s
noncomputable def EvT {α β : Type} (Γ : Cx) (A : Around) (env : Env) (Z : Led) (s : Shared) (P : Led → Heap → β → α → Prop) (r : Out α) (W : Tr β) : Prop :=
  r ≠ .bad → ∀ Q E, (∀ x v Z' h' tk, r = .ok x → Grow Z s.heap Z' h' → P Z' h' v x → Q v { s with heap := h', toks := tk }) →
    (∀ c e Z' h' tk, r = .exn c → Grow Z s.heap Z' h' → XP Γ env.frame c e Z' s.heap h' → E e { s with heap := h', toks := tk }) → W Q E s
section
variable {α β γ δ : Type} {Γ : Cx} {A : Around} {env : Env} {Z : Led} {s : Shared}
theorem EvT.bind {P1 : Led → Heap → β → α → Prop} {P2 : Led → Heap → δ → γ → Prop} {r1 : Out α} {f : α → Out γ} {W1 : Tr β} {W2 : β → Tr δ}
    (H1 : EvT Γ A env Z s P1 r1 W1)
    (H2 : ∀ x v Z' h' tk, r1 = .ok x → Grow Z s.heap Z' h' → P1 Z' h' v x → EvT Γ A env Z' { s with heap := h', toks := tk } P2 (f x) (W2 v)) :
    EvT Γ A env Z s P2 (r1 >>= f) (fun Q E s => W1 (fun v s' => W2 v Q E s') E s) := by
  intro hne Q E hQ hE
  refine H1 (fun q => hne (by rw [q]; rfl)) _ E (fun x v Z' h' tk e g p => ?_) (fun c e Z' h' tk q g xp => hE c e Z' h' tk (by rw [q]; rfl) g xp)
  subst e
  exact H2 x v Z' h' tk rfl g p hne Q E (fun y u Z'' h'' tk' e' g' p' => hQ y u Z'' h'' tk' e' (g.trans g') p') (fun c e Z'' h'' tk' q g' xp => hE c e Z'' h'' tk' q (g.trans g') (xp.old fun a q => g.kp.none q))
theorem EvT.rule {P : Led → Heap → β → α → Prop} {r : Out α} {W W' : Tr β} (h : ∀ Q E, W Q E s → W' Q E s) (H : EvT Γ A env Z s P r W) : EvT Γ A env Z s P r W' :=
  fun hne Q E hQ hE => h Q E (H hne Q E hQ hE)
theorem EvT.mono {P P' : Led → Heap → β → α → Prop} {r : Out α} {W : Tr β} (H : EvT Γ A env Z s P r W) (h : ∀ Z' h' v x, r = .ok x → Grow Z s.heap Z' h' → P Z' h' v x → P' Z' h' v x) : EvT Γ A env Z s P' r W :=
  fun hne Q E hQ hE => H hne Q E (fun x v Z' h' tk e g p => hQ x v Z' h' tk e g (h Z' h' v x e g p)) hE
theorem EvT.conv {P : Led → Heap → β → α → Prop} {P' : Led → Heap → β → γ → Prop} {r : Out α} {f : α → Out γ} {W : Tr β} (H : EvT Γ A env Z s P r W)
    (h : ∀ Z' h' v x, Grow Z s.heap Z' h' → P Z' h' v x → (f x = .bad) ∨ ∃ y Z'', f x = .ok y ∧ Grow Z s.heap Z'' h' ∧ P' Z'' h' v y) : EvT Γ A env Z s P' (r >>= f) W := by
  intro hne Q E hQ hE
  refine H (fun q => hne (by rw [q]; rfl)) Q E (fun x v Z' h' tk e g p => ?_) (fun c e Z' h' tk q g xp => hE c e Z' h' tk (by rw [q]; rfl) g xp)
  subst e
  rcases h Z' h' v x g p with q | ⟨y, Z'', q, g', p'⟩
  · exact absurd q hne
  · exact hQ y v Z'' h' tk q g' p'
theorem EvT.badE {P : Led → Heap → β → α → Prop} {W : Tr β} {r : Out α} (h : r = .bad) : EvT Γ A env Z s P r W := fun hne => absurd h hne
theorem EvT.bad {P : Led → Heap → β → α → Prop} {W : Tr β} : EvT Γ A env Z s P .bad W := fun hne => absurd rfl hne
theorem EvT.guard {P : Led → Heap → β → α → Prop} {W : Tr β} {r : Out α} {c : Prop} [Decidable c] (H : c → EvT Γ A env Z s P r W) : EvT Γ A env Z s P (if c then r else .bad) W := by
  by_cases h : c
  · rw [if_pos h]; exact H h
  · rw [if_neg h]; exact .bad
theorem EvT.eq {P : Led → Heap → β → α → Prop} {r r' : Out α} {W : Tr β} (H : EvT Γ A env Z s P r W) (e : r' = r) : EvT Γ A env Z s P r' W := e ▸ H
theorem EvT.now {P : Led → Heap → β → α → Prop} {x : α} {W : Tr β} (sub : ∀ a o, Z a = some o → s.heap.get? a = some o) (ok : ∀ a o, Z a = some o → Tt o)
    (h : ∀ Q E, (∀ v h' tk, Kp s.heap h' → P Z h' v x → Q v { s with heap := h', toks := tk }) → W Q E s) : EvT Γ A env Z s P (.ok x) W :=
  fun _ Q E hQ _ => h Q E fun v h' tk k p => hQ x v Z h' tk rfl (Grow.keep sub ok k) p
end
noncomputable abbrev PW (Γ : Cx) (h₀ : Heap) : Led → Heap → Value → Val → Prop := fun Z h v x => RepV Γ Z (fun a => h₀.get? a = none) h v x
inductive LentAt (Z : Led) (h : Heap) (v : Value) (d : Dat) : Prop
  | mk (a : _) (vs : _) (ds : _) : v = .ref a → d = .lst ds → h.PlainList a vs.toArray → vs.length ≤ line → RepL Z vs ds → LentAt Z h v d
noncomputable def RepB (Z : Led) (h : Heap) (v : Value) (d : Dat) : Prop := Rep Z v d ∨ LentAt Z h v d
noncomputable abbrev PD : Led → Heap → Value → Dat → Prop := fun Z _ v d => Rep Z v d
noncomputable abbrev PI : Led → Heap → Value → Int → Prop := fun _ _ v i => ∃ t, v = .int i t
noncomputable abbrev PBo : Led → Heap → Value → Bool → Prop := fun _ _ v b => v = .bool b
noncomputable abbrev PTr : Led → Heap → Bool → Bool → Prop := fun _ _ v b => v = b
section
variable {Γ : Cx} {A : Around} {env : Env} {Z : Led} {s : Shared} {r : Out Val} {W : Tr Value}
theorem RepB.grow {Z Z' : Led} {h h' : Heap} {v : Value} {d : Dat} (x : RepB Z h v d) (g : Grow Z h Z' h') : RepB Z' h' v d := by
  rcases x with x | ⟨a, vs, ds, e, e', l, z, r⟩
  · exact .inl (x.mono g.le)
  · exact .inr ⟨a, vs, ds, e, e', g.kp.plain l, z, r.mono g.le⟩
inductive Frozen (Z : Led) (h : Heap) (Z' : Led) (h' : Heap) (a : Addr) (ds : List Dat) : Prop
  | mk (Z'' : _) : Grow Z h Z'' h' → Led.le Z' Z'' → Rep Z'' (.ref a) (.lst ds) → (∀ b, b ≠ a → Z'' b = Z' b) → Frozen Z h Z' h' a ds
theorem freeze_own {Z Z' : Led} {h h' : Heap} (g : Grow Z h Z' h') {a : Addr} {ds : List Dat} (f : h.get? a = none) (o : OwnIs Z' h' a ds) :
    Frozen Z h Z' h' a ds := by
  obtain ⟨vs, n, ⟨k, e⟩, l, r⟩ := o
  refine ⟨Led.put Z' a _, g.put n f e trivial, Led.put_le n, ?_, fun b hb => if_neg hb⟩
  exact .lst (Led.put_self _ _ _) l (r.mono (Led.put_le n))
theorem freeze_pr {Z Z' : Led} {h h' : Heap} (g : Grow Z h Z' h') {v : Value} {d : Dat} {ds : List Dat} (x : RepV Γ Z' (fun a => h.get? a = none) h' v (.pr d ds)) : ∃ Z'', Grow Z h Z'' h' ∧ Rep Z'' v (.tup [d, .lst ds]) := by
  obtain ⟨t, a, u, k, e, n, f1, f2, z, o, rr, ow⟩ := x
  obtain ⟨Z'', g', le, r, q⟩ := freeze_own g f2 ow
  have zt : Z'' t = none := (q t n).trans z
  subst e
  exact ⟨Led.put Z'' t _, g'.put zt f1 o trivial, .tup (vs := [u, .ref a]) (Led.put_self _ _ _) (by show 2 ≤ line; decide) (.cons ((rr.mono le).mono (Led.put_le zt)) (.one (r.mono (Led.put_le zt))))⟩
theorem EvT.toD (H : EvT Γ A env Z s (PW Γ s.heap) r W) : EvT Γ A env Z s PD (r >>= needD) W := by
  refine H.conv fun Z' h' v x g p => ?_
  cases x with
  | sh d => exact .inr ⟨d, Z', rfl, g, p⟩
  | own ds =>
    obtain ⟨a, rfl, f, o⟩ := p
    obtain ⟨Z'', g', _, r, _⟩ := freeze_own g f o
    exact .inr ⟨_, Z'', rfl, g', r⟩
  | pr d ds =>
    obtain ⟨Z'', g', r⟩ := freeze_pr g p
    exact .inr ⟨_, Z'', rfl, g', r⟩
  | _ => exact .inl rfl
theorem EvT.toB (H : EvT Γ A env Z s (PW Γ s.heap) r W) : EvT Γ A env Z s RepB (r >>= needB) W := by
  refine H.conv fun Z' h' v x g p => ?_
  cases x with
  | sh d => exact .inr ⟨d, Z', rfl, g, .inl p⟩
  | own ds =>
    obtain ⟨a, rfl, f, o⟩ := p
    obtain ⟨Z'', g', _, r, _⟩ := freeze_own g f o
    exact .inr ⟨_, Z'', rfl, g', .inl r⟩
  | bor ds =>
    obtain ⟨a, vs, rfl, l, z, r⟩ := p
    exact .inr ⟨_, Z', rfl, g, .inr ⟨a, vs, ds, rfl, rfl, l, z, r⟩⟩
  | pr d ds =>
    obtain ⟨Z'', g', r⟩ := freeze_pr g p
    exact .inr ⟨_, Z'', rfl, g', .inl r⟩
  | _ => exact .inl rfl
theorem EvT.toI (H : EvT Γ A env Z s (PW Γ s.heap) r W) : EvT Γ A env Z s PI (r >>= intD) W := by
  refine H.conv fun Z' h' v x g p => ?_
  cases x with
  | sh d =>
    cases d with
    | int i => cases p with | int _ t => exact .inr ⟨i, Z', rfl, g, t, rfl⟩
    | _ => exact .inl rfl
  | _ => exact .inl rfl
theorem EvT.toBo (H : EvT Γ A env Z s (PW Γ s.heap) r W) : EvT Γ A env Z s PBo (r >>= boolD) W := by
  refine H.conv fun Z' h' v x g p => ?_
  cases x with
  | sh d =>
    cases d with
    | bool i => cases p with | bool _ => exact .inr ⟨i, Z', rfl, g, rfl⟩
    | _ => exact .inl rfl
  | _ => exact .inl rfl
theorem EvT.old {Z₀ : Led} {h₀ : Heap} (g : Grow Z₀ h₀ Z s.heap) (H : EvT Γ A env Z s (PW Γ s.heap) r W) : EvT Γ A env Z s (PW Γ h₀) r W :=
  H.mono fun _ _ _ _ _ _ p => RepV.weak p fun _ q => g.kp.none q
theorem EvT.data {d : Dat} (sub : ∀ a o, Z a = some o → s.heap.get? a = some o) (ok : ∀ a o, Z a = some o → Tt o) {h₀ : Heap}
    (h : ∀ Q E, (∀ v h' tk, Kp s.heap h' → Rep Z v d → Q v { s with heap := h', toks := tk }) → W Q E s) : EvT Γ A env Z s (PW Γ h₀) (.ok (.sh d)) W :=
  EvT.now sub ok h
end
end Mine
namespace Mine
open PySem PySem.Calls PyProof.Rows
theorem notDebug_of {x : Str} (h : notDebug x = true) : (x == ("__debug__" : Str)) = false := by
  unfold notDebug at h; simpa using h
section
variable {Γ : Cx} {A : Around} {env : Env} {Z : Led} {s : Shared} {nm : Nm} {ρ : List Val} {m : Str → Option Value}
theorem ev_int (I : Inv Γ nm ρ env Z s.heap m) (i : Int) (k : Nat) (pos : Pos) : EvT Γ A env Z s (PW Γ s.heap) (.ok (.sh (.int i))) (wpt Γ A (eval (.Constant (.int i) k pos) env)) :=
  EvT.data I.sub I.ok fun _ _ hQ => wpAny_Constant_int (hQ _ _ _ (.refl _) (.int _ _))
theorem ev_str (I : Inv Γ nm ρ env Z s.heap m) (x : Str) (ok : PyData.strOk x = true) (le : x.length ≤ line) (k : Nat) (pos : Pos) : EvT Γ A env Z s (PW Γ s.heap) (.ok (.sh (.str x.cps.toList))) (wpt Γ A (eval (.Constant (.str x) k pos) env)) :=
  EvT.data I.sub I.ok fun _ _ hQ => Constant_str (hQ _ _ _ (.refl _) (.str _ _ ok le))
theorem ev_none (I : Inv Γ nm ρ env Z s.heap m) (k : Nat) (pos : Pos) : EvT Γ A env Z s (PW Γ s.heap) (.ok (.sh .none)) (wpt Γ A (eval (.Constant .none k pos) env)) :=
  EvT.data I.sub I.ok fun _ _ hQ => show wpAny _ _ (pure Value.none) _ _ _ from wpAny_pure (hQ _ s.heap s.toks (.refl _) .none)
theorem ev_bool (I : Inv Γ nm ρ env Z s.heap m) (b : Bool) (k : Nat) (pos : Pos) : EvT Γ A env Z s (PW Γ s.heap) (.ok (.sh (.bool b))) (wpt Γ A (eval (.Constant (.bool b) k pos) env)) :=
  EvT.data I.sub I.ok fun _ _ hQ => show wpAny _ _ (pure (Value.bool b)) _ _ _ from wpAny_pure (hQ _ s.heap s.toks (.refl _) (.bool _))
theorem load_var (hk : env.scope.kind = .function) (F : FrS env s.heap m) {x : Str} {v : Value} (hx : env.kindOf x = some .local ∨ env.kindOf x = some .cell) (hv : m x = some v) (hd : notDebug x = true) {pos : Pos} {Q : Value → Shared → Prop} {E : Value → Shared → Prop}
    (h : Q v s) : wpAny (model Γ.prog Γ.w) A (eval (.Name x pos) env) Q E s := by
  rcases hx with hx | hx
  · obtain ⟨ml, a, b⟩ := F.loc
    exact wpAny_Name (wpAny_loadName_local hk hx a ((b x hx).trans hv) h) (notDebug_of hd)
  · obtain ⟨c, l, i⟩ := F.cel x hx
    exact wpAny_Name (wpAny_loadName_cell hk hx l (hv ▸ i) h) (notDebug_of hd)
theorem varOf_kind {nm : Nm} {sc : Scope} {x : Str} {i : Nat} (h : varOf nm sc x = some i) : (sc.names.lookup x = some .local ∨ sc.names.lookup x = some .cell) ∧ nm.lookup x = some i := by
  unfold varOf at h
  split at h
  · rename_i q; exact ⟨.inl q, h⟩
  · rename_i q; exact ⟨.inr q, h⟩
  · cases h
theorem ev_var (hk : env.scope.kind = .function) (I : Inv Γ nm ρ env Z s.heap m) {x : Str} {i : Nat} (hv : varOf nm env.scope x = some i) (hd : notDebug x = true) (pos : Pos) :
    EvT Γ A env Z s (PW Γ s.heap) (rd (ρ.getD i .un)) (wpt Γ A (eval (.Name x pos) env)) := by
  obtain ⟨kd, nl⟩ := varOf_kind hv
  intro hne Q E hQ hE
  have hu : ρ.getD i .un ≠ .un := fun q => hne (by rw [q]; rfl)
  obtain ⟨v, e, r⟩ := I.var x i nl hu
  generalize ρ.getD i .un = y at *
  have key : ∀ z, rd y = .ok z → RepV Γ Z (fun a => s.heap.get? a = none) s.heap v z := by
    intro z hz
    cases y with
    | un => cases hz
    | sh d => cases hz; exact r
    | own ds => cases hz; obtain ⟨a, e, _, vs, n, p, l, rr⟩ := r; exact ⟨a, vs, e, p, l, rr⟩
    | bor ds => cases hz; exact r
    | shop a b => cases hz; exact r
    | exc c => cases hz; exact r
    | pr d ds => cases hz
  have hz : ∃ z, rd y = .ok z := by
    cases y <;> first | exact ⟨_, rfl⟩ | exact absurd rfl hne
  obtain ⟨z, hz⟩ := hz
  refine load_var hk I.fr kd e hd ?_
  exact hQ z v Z s.heap s.toks hz I.refl (key z hz)
theorem load_glob (O : EnvOk env) (g : Γ.base.Ns mainGlobals Γ.mg) (I : Inv Γ nm ρ env Z s.heap m) {x : Str} {v : Value} (hx : env.kindOf x = some .globalImplicit) (hv : Γ.mg x = some v) (hd : notDebug x = true) {pos : Pos}
    {Q : Value → Shared → Prop} {E : Value → Shared → Prop} (h : Q v s) : wpAny (model Γ.prog Γ.w) A (eval (.Name x pos) env) Q E s :=
  Name_function_global O.kind hx (loadGlobal_global (O.glob ▸ I.kb.ns g) hv h) (notDebug_of hd)
theorem load_bui (O : EnvOk env) (g : Γ.base.Ns mainGlobals Γ.mg) (b : Γ.base.Ns builtinsNs Γ.mb) (I : Inv Γ nm ρ env Z s.heap m) {x : Str} {v : Value} (hx : env.kindOf x = some .globalImplicit) (hm : Γ.mg x = none) (hv : Γ.mb x = some v) (hd : notDebug x = true)
    {pos : Pos} {Q : Value → Shared → Prop} {E : Value → Shared → Prop} (h : Q v s) : wpAny (model Γ.prog Γ.w) A (eval (.Name x pos) env) Q E s :=
  Name_function_global O.kind hx (loadGlobal_builtin (O.glob ▸ I.kb.ns g) hm (O.bui ▸ I.kb.ns b) hv h) (notDebug_of hd)
theorem globOf_kind {gs : Gs} {sc : Scope} {x : Str} {v : G} (h : globOf gs sc x = some v) : sc.names.lookup x = some .globalImplicit ∧ gs.lookup x = some v := by
  unfold globOf at h
  split at h
  · rename_i q; exact ⟨q, h⟩
  · cases h
end
end Mine
namespace Mine
open PySem PySem.Calls PyProof.Rows
theorem get_size (h : Heap) : h.get? h.objs.size = none := by
  cases e : h.get? h.objs.size with
  | none => rfl
  | some o => exact absurd (Heap.lt_size e) (Nat.lt_irrefl _)
theorem kp_push (h : Heap) (o : Obj) : Kp h (h.push o) := Kp.of fun _ _ e => Heap.get?_push_of_some o e
section
variable {Γ : Cx} {A : Around} {env : Env} {Z : Led} {s : Shared} {h : Heap} {v u : Value} {ds es : List Dat} {d : Dat}
theorem led_none (sub : ∀ a o, Z a = some o → h.get? a = some o) {a : Addr} (e : h.get? a = none) : Z a = none := by
  cases q : Z a with
  | none => rfl
  | some o => have := sub a o q; rw [e] at this; cases this
theorem RepB.list (sub : ∀ a o, Z a = some o → h.get? a = some o) (r : RepB Z h v (.lst ds)) : LisV Z h v ds := by
  rcases r with r | ⟨a, vs, ds', e, e', l, q, r⟩
  · cases r with
    | lst z q r => exact ⟨_, _, rfl, ⟨_, sub _ _ z⟩, q, r⟩
  · cases e'; exact ⟨a, vs, e, l, q, r⟩
inductive TupV (Z : Led) (h : Heap) (v : Value) (ds : List Dat) : Prop
  | mk (a : _) (vs : _) (n : _) : v = .ref a → h.get? a = some { cls := .type "tuple", data := .seq vs.toArray n } → vs.length ≤ line → RepL Z vs ds → TupV Z h v ds
theorem Rep.tuple (sub : ∀ a o, Z a = some o → h.get? a = some o) (r : Rep Z v (.tup ds)) : TupV Z h v ds := by
  cases r with
  | tup z q r => exact ⟨_, _, _, rfl, sub _ _ z, q, r⟩
theorem RepB.rep (r : RepB Z h v d) (n : ∀ ds, d ≠ .lst ds) : Rep Z v d := by
  rcases r with r | ⟨a, vs, ds', e, e', l, q, r⟩
  · exact r
  · exact absurd e' (n _)
theorem own_new (sub : ∀ a o, Z a = some o → h.get? a = some o) {vs : List Value} (l : vs.length ≤ line) (r : RepL Z vs ds) (k : Nat := 0) :
    RepV Γ Z (fun a => h.get? a = none) (h.push { cls := .type "list", data := .seq vs.toArray k }) (.ref h.objs.size) (.own ds) :=
  ⟨_, rfl, get_size h, vs, led_none sub (get_size h), ⟨k, Heap.get?_push_size _ rfl⟩, l, r⟩
theorem tup_new (sub : ∀ a o, Z a = some o → h.get? a = some o) (ok : ∀ a o, Z a = some o → Tt o) {vs : List Value} (l : vs.length ≤ line) (r : RepL Z vs ds) (k : Nat := 0) :
    ∃ Z', Grow Z h Z' (h.push { cls := .type "tuple", data := .seq vs.toArray k }) ∧ Rep Z' (.ref h.objs.size) (.tup ds) := by
  have n := led_none sub (get_size h)
  refine ⟨Led.put Z h.objs.size { cls := .type "tuple", data := .seq vs.toArray k }, ?_, .tup (Led.put_self _ _ _) l (r.mono (Led.put_le n))⟩
  exact (Grow.keep sub ok (kp_push h _)).put n (get_size h) (Heap.get?_push_size _ rfl) trivial
theorem EvT.own {W : Tr Value} (sub : ∀ a o, Z a = some o → s.heap.get? a = some o) (ok : ∀ a o, Z a = some o → Tt o) {vs : List Value} (l : vs.length ≤ line) (r : RepL Z vs ds)
    (hW : ∀ Q E, (∀ tk, Q (.ref s.heap.objs.size) { s with heap := s.heap.push { cls := .type "list", data := .seq vs.toArray }, toks := tk }) → W Q E s) : EvT Γ A env Z s (PW Γ s.heap) (.ok (.own ds)) W :=
  EvT.now sub ok fun _ _ hQ => hW _ _ fun tk => hQ _ _ tk (kp_push _ _) (own_new sub l r)
theorem EvT.tup {W : Tr Value} (sub : ∀ a o, Z a = some o → s.heap.get? a = some o) (ok : ∀ a o, Z a = some o → Tt o) {vs : List Value} (l : vs.length ≤ line) (r : RepL Z vs ds)
    (hW : ∀ Q E, (∀ tk, Q (.ref s.heap.objs.size) { s with heap := s.heap.push { cls := .type "tuple", data := .seq vs.toArray }, toks := tk }) → W Q E s) {h₀ : Heap} : EvT Γ A env Z s (PW Γ h₀) (.ok (.sh (.tup ds))) W := by
  intro _ Q E hQ _
  obtain ⟨Z', g, rr⟩ := tup_new sub ok l r
  exact hW Q E fun tk => hQ _ _ Z' _ tk rfl g rr
theorem strOk_append {x y : Str} (a : PyData.strOk x = true) (b : PyData.strOk y = true) : PyData.strOk (x ++ y) = true := by
  show (x.cps ++ y.cps).all _ = true
  unfold PyData.strOk at a b
  rw [Array.all_append, a, b]; rfl
theorem cps_append (x y : Str) : (x ++ y).cps.toList = x.cps.toList ++ y.cps.toList := by
  show (x.cps ++ y.cps).toList = _
  simp
theorem intBits_le {b : Int} (h : b.natAbs < 2 ^ 64) : Builtin.Int.intBits b ≤ 64 := by
  unfold Builtin.Int.intBits
  by_cases h0 : b.natAbs = 0
  · simp [h0]; split <;> lia
  · have := (Nat.log2_lt h0).mpr h
    split <;> lia
theorem foldl_app {α : Type} (l : List (Array α)) (z : Array α) : (l.foldl (fun a b => a ++ b) z).toList = z.toList ++ (l.map Array.toList).flatten := by
  induction l generalizing z with
  | nil => simp
  | cons a r ih => rw [List.foldl_cons, ih]; simp
theorem RepL.rep {vs : List Value} (r : RepL Z vs ds) (n : Nat) : RepL Z (List.replicate n vs).flatten (List.replicate n ds).flatten := by
  induction n with
  | zero => exact .nil
  | succ n ih => simp only [List.replicate_succ, List.flatten_cons]; exact r.append ih
theorem wp_mul_list {l : Addr} {vs : List Value} {k : Nat} {x : Int} {t : Tok} {Q : Value → Shared → Prop} {E : Value → Shared → Prop}
    (hl : s.heap.get? l = some { cls := .type "list", data := .seq vs.toArray k }) (hlo : 0 ≤ x) (hhi : x < 2 ^ 20) (hsz : vs.length * x.toNat ≤ line)
    (h : Q (.ref s.heap.objs.size) { s with heap := s.heap.push { cls := .type "list", data := .seq (List.replicate x.toNat vs).flatten.toArray } }) :
    wpAny (model Γ.prog Γ.w) A (binaryOp .Mult (.ref l) (.int x t)) Q E s := by
  have hz : vs.toArray.size * x.toNat ≤ 2 ^ 24 := by simpa [line] using hsz
  refine wpAny_binaryOp_repeat_ref (T := "list") (U := "int") (by decide) ⟨_, hl, rfl⟩ (fun s' => typeIs_int s' x t) noFill_list_mul F.fills_int_mul F.slot_int_rmul repeat_list F.slot_int_index.lookup
    (call_meets F.slot_int_rmul (typeIs_int s x t) F.entry_int_rmul (F.args_int_rmul_2 _ _) (int___rmul___int_list x t l vs.toArray k)
      ⟨hl, rfl, ⟨_, hl, rfl⟩, call_meets F.slot_list_mul ⟨_, hl, rfl⟩ F.entry_list_mul (F.args_list_mul_2 _ _)
        (AutoListH.list___mul___list_int_3 l vs.toArray k x t (by simp [Builtin.List.listFitsIndex]; omega) (by omega) (by simp [Builtin.List.listTooLong, sizeLine]; omega)) ⟨hl, ?_⟩⟩)
  have e : (List.foldl (fun x1 x2 => x1 ++ x2) #[] (List.replicate (if vs.toArray.isEmpty = true then 0 else x.toNat) vs.toArray)) = (List.replicate x.toNat vs).flatten.toArray := by
    apply Array.toList_inj.mp
    rw [foldl_app]
    cases vs with
    | nil => simp
    | cons v vs => simp
  rw [e]; exact h
theorem wp_add_tuple {l b : Addr} {vs ws : List Value} {n k : Nat} {Q : Value → Shared → Prop} {E : Value → Shared → Prop}
    (hl : s.heap.get? l = some { cls := .type "tuple", data := .seq vs.toArray n }) (hb : s.heap.get? b = some { cls := .type "tuple", data := .seq ws.toArray k }) (hsz : vs.length + ws.length ≤ line)
    (h0 : vs = [] → Q (.ref b) s) (h1 : vs ≠ [] → ws = [] → Q (.ref l) s) (h2 : Q (.ref s.heap.objs.size) { s with heap := s.heap.push { cls := .type "tuple", data := .seq (vs ++ ws).toArray } }) :
    wpAny (model Γ.prog Γ.w) A (binaryOp .Add (.ref l) (.ref b)) Q E s := by
  by_cases hv : vs = []
  · exact concat_meets ⟨_, hl, rfl⟩ ⟨_, hb, rfl⟩ noFill_tuple_add seq_tuple_add F.slot_tuple_add F.entry_tuple_add (F.args_tuple_add_2 _ _) (tuple_addW0 l b vs.toArray ws.toArray n k none none #[] #[] (by simp [hv])) ⟨hl, hb, h0 hv⟩
  · by_cases hw : ws = []
    · exact concat_meets ⟨_, hl, rfl⟩ ⟨_, hb, rfl⟩ noFill_tuple_add seq_tuple_add F.slot_tuple_add F.entry_tuple_add (F.args_tuple_add_2 _ _) (tuple_addW1 l b vs.toArray ws.toArray n k none none #[] #[] (by simpa using hv) (by simp [hw])) ⟨hl, hb, h1 hv hw⟩
    · refine P.add_tuple hl hb (by simpa using hv) (by simpa using hw) ?_ (by simpa [line, sizeLine] using hsz)
      rw [List.append_toArray]; exact h2
theorem Rep.int_inv {a : Int} (r : Rep Z v (.int a)) : ∃ t, v = .int a t := by cases r; exact ⟨_, rfl⟩
inductive StrV (v : Value) (a : List Nat) : Prop
  | mk (x : _) (t : _) : v = .str x t → x.cps.toList = a → PyData.strOk x = true → x.length ≤ line → StrV v a
theorem Rep.str_inv {a : List Nat} (r : Rep Z v (.str a)) : StrV v a := by
  cases r with
  | str x t o l => exact ⟨x, t, rfl, rfl, o, l⟩
theorem RepB.int (r : RepB Z h v (.int a)) : ∃ t, v = .int a t := Rep.int_inv (r.rep nofun)
theorem RepB.str {a : List Nat} (r : RepB Z h v (.str a)) : StrV v a := Rep.str_inv (r.rep nofun)
theorem ii_cases {x y : Dat} {f : Int → Int → Out Val} {P : Out Val → Prop} (hb : P .bad) (h : ∀ a b, x = .int a → y = .int b → P (f a b)) : P (ii f x y) := by
  cases x <;> first | exact hb | skip
  cases y <;> first | exact hb | exact h _ _ rfl rfl
theorem ev_ii {x y : Dat} {f : Int → Int → Out Val} {W : Tr Value} (hx : RepB Z s.heap v x) (hy : RepB Z s.heap u y) (H : ∀ a b t t', v = .int a t → u = .int b t' → EvT Γ A env Z s (PW Γ s.heap) (f a b) W) :
    EvT Γ A env Z s (PW Γ s.heap) (ii f x y) W :=
  ii_cases (P := fun r => EvT Γ A env Z s (PW Γ s.heap) r W) .bad fun a b ha hb => by
    subst ha hb
    obtain ⟨t, e⟩ := hx.int
    obtain ⟨t', e'⟩ := hy.int
    exact H a b t t' e e'
theorem ev_add {x y : Dat} (sub : ∀ a o, Z a = some o → s.heap.get? a = some o) (ok : ∀ a o, Z a = some o → Tt o)
    (hx : RepB Z s.heap v x) (hy : RepB Z s.heap u y) : EvT Γ A env Z s (PW Γ s.heap) (addD x y) (wpt Γ A (binaryOp .Add v u)) := by
  cases x <;> first | exact .bad | skip
  · cases y <;> first | exact .bad | skip
    obtain ⟨t, rfl⟩ := hx.int
    obtain ⟨t', rfl⟩ := hy.int
    exact EvT.data sub ok fun _ _ hQ => add_int (hQ _ _ _ (.refl _) (.int _ _))
  · cases y <;> first | exact .bad | skip
    obtain ⟨x, t, rfl, rfl, ox, lx⟩ := hx.str
    obtain ⟨y, t', rfl, rfl, oy, ly⟩ := hy.str
    refine EvT.guard fun hb => ?_
    have hz : x.length + y.length ≤ sizeLine := hb
    refine EvT.data sub ok fun _ _ hQ => add_str (fun t'' tk => hQ _ _ _ (.refl _) ?_) hz
    rw [← cps_append]
    exact Rep.str (x ++ y) t'' (strOk_append ox oy) (by rw [Str.length_append]; exact hz)
  · cases y <;> first | exact .bad | skip
    refine EvT.guard fun hb => ?_
    have hx' := hx.rep nofun
    have hy' := hy.rep nofun
    obtain ⟨a, vs, n, rfl, p, lx, r⟩ := Rep.tuple sub hx'
    obtain ⟨b, ws, k, rfl, q, ly, r'⟩ := Rep.tuple sub hy'
    have hl : vs.length + ws.length ≤ line := by rw [r.length, r'.length]; exact hb
    intro _ Q E hQ hE
    obtain ⟨Z', g, rr⟩ := tup_new sub ok (by rw [List.length_append]; exact hl) (r.append r')
    refine wp_add_tuple p q hl (fun e => ?_) (fun _ e => ?_) (hQ _ _ Z' _ s.toks rfl g rr)
    · subst e; cases r; exact hQ _ _ Z s.heap s.toks rfl (Grow.refl sub ok) hy'
    · subst e; cases r'; exact hQ _ _ Z s.heap s.toks rfl (Grow.refl sub ok) (by rw [List.append_nil]; exact hx')
  · cases y <;> first | exact .bad | skip
    obtain ⟨a, vs, rfl, ⟨n, p⟩, lx, r⟩ := hx.list sub
    obtain ⟨b, ws, rfl, ⟨k, q⟩, ly, r'⟩ := hy.list sub
    refine EvT.guard fun hb => ?_
    have hl : vs.length + ws.length ≤ line := by rw [r.length, r'.length]; exact hb
    exact EvT.own sub ok (by rw [List.length_append]; exact hl) (r.append r') fun _ _ hQ => P.add_list p q (by have := hQ s.toks; rwa [← List.append_toArray] at this) hl
theorem ev_mul {x y : Dat} (sub : ∀ a o, Z a = some o → s.heap.get? a = some o) (ok : ∀ a o, Z a = some o → Tt o)
    (hx : RepB Z s.heap v x) (hy : RepB Z s.heap u y) : EvT Γ A env Z s (PW Γ s.heap) (mulD x y) (wpt Γ A (binaryOp .Mult v u)) := by
  cases x <;> first | exact .bad | skip
  · cases y <;> first | exact .bad | skip
    obtain ⟨t, rfl⟩ := hx.int
    obtain ⟨t', rfl⟩ := hy.int
    exact EvT.guard fun hb => EvT.data sub ok fun _ _ hQ => mul_int (hQ _ _ _ (.refl _) (.int _ _)) (hb.elim (fun hb => .of_left (intBits_le hb)) fun hb => .of_right (intBits_le hb))
  · cases y <;> first | exact .bad | skip
    rename_i n
    obtain ⟨x, t, rfl, rfl, ox, lx⟩ := hx.str
    obtain ⟨t', rfl⟩ := hy.int
    show EvT Γ A env Z s _ (if n = 0 then _ else if n = 1 then _ else _) _
    by_cases h0 : n = 0
    · rw [if_pos h0]
      subst h0
      exact EvT.data sub ok fun _ _ hQ => SB.mul ⟨by decide, fun h => absurd (by decide) h, fun h => absurd (by decide) h⟩ fun t'' tk => hQ _ _ _ (.refl _) (.str Str.empty t'' (by decide +kernel) (by decide +kernel))
    · rw [if_neg h0]
      refine EvT.guard fun hb => ?_
      subst hb
      exact EvT.data sub ok fun _ _ hQ => SB.mul ⟨by decide, fun _ h => absurd h (by simp), fun _ h => absurd h (by simp)⟩ fun t'' tk => hQ _ _ _ (.refl _) (.str x t'' ox lx)
  · cases y <;> first | exact .bad | skip
    obtain ⟨a, vs, rfl, ⟨n, p⟩, lx, r⟩ := hx.list sub
    obtain ⟨t', rfl⟩ := hy.int
    exact EvT.guard fun hb => EvT.own sub ok (by rw [(r.rep _).length]; simp; rw [Nat.mul_comm]; exact hb.1) (r.rep _) fun _ _ hQ => wp_mul_list p hb.2.1 hb.2.2 (by rw [r.length]; exact hb.1) (hQ s.toks)
theorem ev_binop {o : BOp} {x y : Dat} (sub : ∀ a o, Z a = some o → s.heap.get? a = some o) (ok : ∀ a o, Z a = some o → Tt o)
    (hx : RepB Z s.heap v x) (hy : RepB Z s.heap u y) : EvT Γ A env Z s (PW Γ s.heap) (binD o x y) (wpt Γ A (binaryOp (bopOf o) v u)) := by
  cases o
  · exact ev_add sub ok hx hy
  · refine ev_ii hx hy fun a b t t' e e' => ?_
    subst e e'
    exact EvT.data sub ok fun _ _ hQ => sub_int (hQ _ _ _ (.refl _) (.int _ _))
  · exact ev_mul sub ok hx hy
  · refine ev_ii hx hy fun a b t t' e e' => ?_
    subst e e'
    exact EvT.guard fun hb => EvT.data sub ok fun _ _ hQ => floordiv_int hb.1 (hQ _ _ _ (.refl _) (.int _ _)) (.inl (PyProof.noPylong_small hb.2))
  · refine ev_ii hx hy fun a b t t' e e' => ?_
    subst e e'
    exact EvT.guard fun hb => EvT.data sub ok fun _ _ hQ => mod_int' hb (hQ _ _ _ (.refl _) (.int _ _))
  · refine ev_ii hx hy fun a b t t' e e' => ?_
    subst e e'
    refine EvT.guard fun hb => ?_
    obtain ⟨rfl, rfl⟩ := hb
    exact EvT.data sub ok fun _ _ hQ => pow_int (by decide) (by decide +kernel) (hQ _ _ _ (.refl _) (.int _ _))
end
end Mine
namespace Mine
open PySem PySem.Calls PyProof.Rows
section
variable {Z : Led} {h : Heap}
theorem rl_both (sub : ∀ a o, Z a = some o → h.get? a = some o) :
    (∀ {v d}, Rep Z v d → ∀ n, d.fine n = true → (∃ as, Reads h v (pyOf d) as) ∧ (pyOf d).canLay0 = true ∧ (pyOf d).depth ≤ n) ∧
    (∀ {vs ds}, RepL Z vs ds → ∀ n, (∀ d ∈ ds, d.fine n = true) → (∃ as, ReadsAll h vs (pyOfs ds) as) ∧ PyData.canLayAll0 (pyOfs ds) = true ∧ PyData.depthAll (pyOfs ds) ≤ n) := by
  refine Rep.both (fun n _ => ⟨⟨_, .none⟩, rfl, Nat.zero_le _⟩) (fun b n _ => ⟨⟨_, .bool b⟩, rfl, Nat.zero_le _⟩) (fun i t n _ => ⟨⟨_, .int i t⟩, rfl, Nat.zero_le _⟩) (fun x t o _ n _ => ⟨⟨_, .str x t⟩, o, Nat.zero_le _⟩) ?_ ?_ ?_ (fun n _ => ⟨⟨_, .nil⟩, rfl, Nat.zero_le _⟩) ?_
  · intro a vs k ds z _ q n f
    cases n with
    | zero => simp [Dat.fine] at f
    | succ n =>
      obtain ⟨⟨as, p⟩, b, c⟩ := q n (by simpa [Dat.fine] using f)
      exact ⟨⟨as, .tuple (sub _ _ z) rfl rfl p⟩, b, Nat.succ_le_succ c⟩
  · intro a vs k ds z _ q n f
    cases n with
    | zero => simp [Dat.fine] at f
    | succ n =>
      obtain ⟨⟨as, p⟩, b, c⟩ := q n (by simpa [Dat.fine] using f)
      exact ⟨⟨_, .list (sub _ _ z) rfl rfl p⟩, b, Nat.succ_le_succ c⟩
  · intro a k _ n f
    cases n <;> simp [Dat.fine] at f
  · intro v d vs ds p q n f
    obtain ⟨⟨as, p1⟩, p2, p3⟩ := p n (f _ (.head _))
    obtain ⟨⟨bs, q1⟩, q2, q3⟩ := q n fun d m => f d (.tail _ m)
    refine ⟨⟨_, .cons p1 q1⟩, ?_, ?_⟩
    · simp only [pyOfs, PyData.canLayAll0, p2, q2, Bool.and_self]
    · simp only [pyOfs, PyData.depthAll]; exact Nat.max_le.2 ⟨p3, q3⟩
theorem reads_of (sub : ∀ a o, Z a = some o → h.get? a = some o) {v : Value} {d : Dat} (n : Nat) (r : Rep Z v d) (f : d.fine n = true) : ∃ as, Reads h v (pyOf d) as := ((rl_both sub).1 r n f).1
end
section
variable {Γ : Cx} {A : Around} {env : Env} {Z : Led} {s : Shared} {h : Heap} {v u : Value} {x y : Dat}
theorem RepB.reads (sub : ∀ a o, Z a = some o → h.get? a = some o) {n : Nat} (r : RepB Z h v x) (f : x.fine n = true) : (∃ as, Reads h v (pyOf x) as) ∧ (pyOf x).canLay0 = true ∧ (pyOf x).depth ≤ n := by
  rcases r with r | ⟨a, vs, ds, rfl, rfl, ⟨k, p⟩, _, r⟩
  · exact (rl_both sub).1 r n f
  · cases n with
    | zero => simp [Dat.fine] at f
    | succ n =>
      have f' : ∀ d ∈ ds, d.fine n = true := by simpa [Dat.fine] using f
      obtain ⟨⟨as, q⟩, b, c⟩ := (rl_both sub).2 r n f'
      refine ⟨⟨_, .list p rfl rfl q⟩, b, ?_⟩
      simp only [pyOf, PyData.depth]; lia
theorem any_of (ds : List Dat) (a : Dat) : (pyOfs ds).any (fun y => PyData.eqv y (pyOf a)) = ds.any fun y => Dat.eq y a := by
  induction ds with
  | nil => rfl
  | cons d ds ih => exact congrArg (Dat.eq d a || ·) ih
theorem fine_up : ∀ (d : Dat) (n : Nat), d.fine n = true → d.fine (n + 1) = true
  | .none, n, h => by cases n <;> simp [Dat.fine]
  | .bool _, n, h => by cases n <;> simp [Dat.fine]
  | .int _, n, h => by cases n <;> simp [Dat.fine]
  | .str _, n, h => by cases n <;> simp [Dat.fine]
  | .dic, n, h => by cases n <;> simp [Dat.fine] at h
  | .tup _, 0, h => by simp [Dat.fine] at h
  | .lst _, 0, h => by simp [Dat.fine] at h
  | .tup ds, n + 1, h => by
    simp only [Dat.fine, List.all_eq_true] at h ⊢
    exact fun d m => fine_up d n (h d m)
  | .lst ds, n + 1, h => by
    simp only [Dat.fine, List.all_eq_true] at h ⊢
    exact fun d m => fine_up d n (h d m)
theorem EvT.bo {b : Bool} {W : Tr Value} (sub : ∀ a o, Z a = some o → s.heap.get? a = some o) (ok : ∀ a o, Z a = some o → Tt o) (hW : ∀ Q E, Q (.bool b) s → W Q E s) : EvT Γ A env Z s PBo (.ok b) W :=
  EvT.now sub ok fun _ _ hQ => hW _ _ (hQ _ s.heap s.toks (.refl _) rfl)
theorem single (x : Str) (c : Nat) (h : x.cps.toList = [c]) : x = ⟨#[c]⟩ := by
  cases x with
  | mk cps =>
    have : cps = #[c] := Array.toList_inj.mp (by simpa using h)
    rw [this]
theorem inL_fine {a : Dat} {b : List Dat} (f : (a.fine 20 && b.all (Dat.fine 20)) = true) : a.fine 20 = true ∧ (Dat.lst b).fine 21 = true ∧ (Dat.tup b).fine 21 = true := ⟨(and_inv f).1, (and_inv f).2, (and_inv f).2⟩
theorem AOk.deep {n k a b : Nat} (AO : AOk n A) (hk : k ≤ 1) (h : a ≤ 20 ∨ b ≤ 20) : A.units + k + min a b < cLine := by
  have := AO.units
  have : cLine = 9900 := rfl
  lia
theorem ev_eqop {n : Nat} (AO : AOk n A) (o : Bool) (sub : ∀ a o, Z a = some o → s.heap.get? a = some o) (ok : ∀ a o, Z a = some o → Tt o)
    (hx : RepB Z s.heap v x) (hy : RepB Z s.heap u y) : EvT Γ A env Z s PBo (eqD (fun r => cond o (!r) r) x y) (wpt Γ A (compareOp (cond o .NotEq .Eq) v u)) :=
  EvT.guard fun f => by
    obtain ⟨⟨as, ra⟩, la, da⟩ := hx.reads sub (and_inv f).1
    obtain ⟨⟨bs, rb⟩, lb, db⟩ := hy.reads sub (and_inv f).2
    have hu := AO.deep (k := 0) (b := (pyOf y).depth) (by decide) (.inl da)
    cases o
    · exact EvT.bo sub ok fun Q E hQ => SeqAt.compareEq_reads ra rb la lb hu hQ
    · exact EvT.bo sub ok fun Q E hQ => SeqAt.compareNe_reads ra rb la lb hu hQ
theorem ib_cases {f : Int → Int → Bool} {P : Out Bool → Prop} (hb : P .bad) (h : ∀ a b, x = .int a → y = .int b → P (.ok (f a b))) : P (ib f x y) := by
  cases x <;> first | exact hb | skip
  cases y <;> first | exact hb | exact h _ _ rfl rfl
theorem ev_ib {f : Int → Int → Bool} {W : Tr Value} (sub : ∀ a o, Z a = some o → s.heap.get? a = some o) (ok : ∀ a o, Z a = some o → Tt o) (hx : RepB Z s.heap v x) (hy : RepB Z s.heap u y)
    (H : ∀ a b t t' Q E, v = .int a t → u = .int b t' → Q (.bool (f a b)) s → W Q E s) : EvT Γ A env Z s PBo (ib f x y) W :=
  ib_cases (P := fun r => EvT Γ A env Z s PBo r W) .bad fun a b ha hb => by
    subst ha hb
    obtain ⟨t, e⟩ := hx.int
    obtain ⟨t', e'⟩ := hy.int
    exact EvT.bo sub ok fun Q E hQ => H a b t t' Q E e e' hQ
theorem ev_inop {n : Nat} (AO : AOk n A) (o : Bool) (sub : ∀ a o, Z a = some o → s.heap.get? a = some o) (ok : ∀ a o, Z a = some o → Tt o)
    (hx : RepB Z s.heap v x) (hy : RepB Z s.heap u y) : EvT Γ A env Z s PBo (inD (fun r => cond o (!r) r) x y) (wpt Γ A (compareOp (cond o .NotIn .In) v u)) := by
  cases y <;> first | exact .bad | skip
  · -- in a text
    cases x <;> first | exact .bad | skip
    rename_i b a
    obtain ⟨y, t', rfl, rfl, oy, ly⟩ := hy.str
    obtain ⟨x, t, rfl, ha, ox, lx⟩ := hx.str
    cases a with
    | nil => exact .bad
    | cons c r =>
      cases r with
      | cons d r => exact .bad
      | nil =>
        rw [single x c ha]
        cases o
        · exact EvT.bo sub ok fun Q E hQ => P.in_str (by rw [StrLaws.found_one]; exact hQ)
        · exact EvT.bo sub ok fun Q E hQ => P.notIn_str (by rw [StrLaws.found_one]; exact hQ)
  · refine EvT.guard fun f => ?_
    obtain ⟨⟨as, ra⟩, la, da⟩ := hx.reads sub (inL_fine f).1
    obtain ⟨⟨bs, rb⟩, lb, _⟩ := hy.reads sub (inL_fine f).2.2
    rw [← any_of]
    cases o
    · exact EvT.bo sub ok fun Q E hQ => SeqAt.in_tuple_reads rb ra lb la (AO.deep (Nat.le_refl _) (.inr da)) hQ
    · exact EvT.bo sub ok fun Q E hQ => SeqAt.notIn_tuple_reads rb ra lb la (AO.deep (Nat.le_refl _) (.inr da)) hQ
  · refine EvT.guard fun f => ?_
    obtain ⟨⟨as, ra⟩, la, da⟩ := hx.reads sub (inL_fine f).1
    obtain ⟨⟨bs, rb⟩, lb, _⟩ := hy.reads sub (inL_fine f).2.1
    rw [← any_of]
    cases o
    · exact EvT.bo sub ok fun Q E hQ => SeqAt.in_list_reads rb ra lb la (AO.deep (Nat.le_refl _) (.inr da)) hQ
    · exact EvT.bo sub ok fun Q E hQ => SeqAt.notIn_list_reads rb ra lb la (AO.deep (Nat.le_refl _) (.inr da)) hQ
theorem ev_cmpop {n : Nat} (AO : AOk n A) {o : COp} (sub : ∀ a o, Z a = some o → s.heap.get? a = some o) (ok : ∀ a o, Z a = some o → Tt o)
    (hx : RepB Z s.heap v x) (hy : RepB Z s.heap u y) : EvT Γ A env Z s PBo (cmpD o x y) (wpt Γ A (compareOp (copOf o) v u)) := by
  cases o
  · exact ev_eqop AO false sub ok hx hy
  · exact ev_eqop AO true sub ok hx hy
  · exact ev_ib sub ok hx hy fun a b t t' Q E e e' hQ => by subst e e'; exact lt_int hQ
  · exact ev_ib sub ok hx hy fun a b t t' Q E e e' hQ => by subst e e'; exact le_int hQ
  · exact ev_ib sub ok hx hy fun a b t t' Q E e e' hQ => by subst e e'; exact gt_int hQ
  · exact ev_ib sub ok hx hy fun a b t t' Q E e e' hQ => by subst e e'; exact ge_int hQ
  · exact ev_inop AO false sub ok hx hy
  · exact ev_inop AO true sub ok hx hy
end
end Mine
namespace Mine
open PySem PySem.Calls PyProof.Rows
noncomputable def SndE (Γ : Cx) (n : Nat) (Φ : Nat → List Val → Out Val) (t : T) : Prop :=
  ∀ (nm : Nm) (ρ : List Val) (A : Around) (env : Env) (Z : Led) (s : Shared) (m : Str → Option Value) (e : Expr), chk Γ.gs t nm env.scope e = true → EnvOk env → AOx Γ nm n A env → Inv Γ nm ρ env Z s.heap m →
    EvT Γ A env Z s (PW Γ s.heap) (ev Φ t ρ) (wpt Γ A (eval e env))
noncomputable def SndT (Γ : Cx) (n : Nat) (Φ : Nat → List Val → Out Val) (t : T) : Prop :=
  ∀ (nm : Nm) (ρ : List Val) (A : Around) (env : Env) (Z : Led) (s : Shared) (m : Str → Option Value) (e : Expr), chk Γ.gs t nm env.scope e = true → EnvOk env → AOx Γ nm n A env → Inv Γ nm ρ env Z s.heap m →
    EvT Γ A env Z s PTr (ev Φ t ρ >>= boolD) (wpt Γ A (isTrue e env (eval e env)))
noncomputable def notNot (e : Expr) : Bool := dite (e.ctorIdx = 3) (fun h => @Expr.UnaryOp.elim (fun _ => Bool) e h fun o _ _ => !(o == .Not)) fun _ => true
noncomputable def plainTest (e : Expr) : Bool := !(e.ctorIdx.beq 0 || e.ctorIdx.beq 5 || e.ctorIdx.beq 15) && notNot e
theorem isTrue_eq {e : Expr} (h : plainTest e = true) (env : Env) (whole : Sem Value) : isTrue e env whole = (do let v ← whole; standAt e.pos; holding [v] (truthy v)) := by
  cases e <;> first | rfl | exact (Bool.false_ne_true h).elim | skip
  rename_i op x pos
  cases op <;> first | rfl | exact (Bool.false_ne_true h).elim
section
variable {Γ : Cx} {n : Nat} {Φ : Nat → List Val → Out Val} {A : Around} {env : Env} {Z : Led} {s : Shared} {nm : Nm} {ρ : List Val} {m : Str → Option Value}
theorem EvT.yes {α β : Type} {P : Led → Heap → β → α → Prop} {r : Out α} {W1 W2 : Tr β} (H : EvT Γ A env Z s P r W1) : EvT Γ A env Z s P r (fun Q E s => if true = true then W1 Q E s else W2 Q E s) := H.rule fun _ _ h => by rw [if_pos rfl]; exact h
theorem EvT.no {α β : Type} {P : Led → Heap → β → α → Prop} {r : Out α} {W1 W2 : Tr β} (H : EvT Γ A env Z s P r W2) : EvT Γ A env Z s P r (fun Q E s => if false = true then W1 Q E s else W2 Q E s) := H.rule fun _ _ h => by rw [if_neg (by decide)]; exact h
theorem EvT.pure {α β : Type} {P : Led → Heap → β → α → Prop} {x : α} {v : β} (sub : ∀ a o, Z a = some o → s.heap.get? a = some o) (ok : ∀ a o, Z a = some o → Tt o) (p : P Z s.heap v x) : EvT Γ A env Z s P (.ok x) (fun Q _ s => Q v s) :=
  fun _ _ _ hQ _ => hQ x v Z s.heap s.toks rfl (Grow.refl sub ok) p
theorem EvT.then {α β δ : Type} {P1 : Led → Heap → β → α → Prop} {P2 : Led → Heap → δ → α → Prop} {r1 : Out α} {W1 : Tr β} {W2 : β → Tr δ} (H1 : EvT Γ A env Z s P1 r1 W1)
    (H2 : ∀ x v Z' h' tk, r1 = .ok x → Grow Z s.heap Z' h' → P1 Z' h' v x → EvT Γ A env Z' { s with heap := h', toks := tk } P2 (.ok x) (W2 v)) : EvT Γ A env Z s P2 r1 (fun Q E s => W1 (fun v s' => W2 v Q E s') E s) :=
  (EvT.bind (f := fun x => .ok x) H1 H2).eq (by cases r1 <;> rfl)
theorem snd_plain {t : T} (H : SndE Γ n Φ t) (hp : ∀ nm sc e, chk Γ.gs t nm sc e = true → plainTest e = true) : SndT Γ n Φ t := fun nm ρ A env Z s m e hc O AO I =>
  EvT.rule (fun _ _ h => isTrue_plain h (isTrue_eq (hp _ _ _ hc) _ _)) (EvT.then (W2 := fun v => wpt Γ A (truthy v)) (H nm ρ A env Z s m e hc O AO I).toBo fun b v Z' h' tk _ g p => by
    cases p
    exact EvT.rule (fun _ _ h => wpAny_truthy_bool h) (EvT.pure (v := b) g.sub g.ok rfl))
theorem EvT.ofBool {r : Out Bool} {W : Tr Value} {h₀ : Heap} (H : EvT Γ A env Z s PBo r W) : EvT Γ A env Z s (PW Γ h₀) (r >>= fun b => .ok (.sh (.bool b))) W :=
  H.conv fun Z' h' v x g p => .inr ⟨_, Z', rfl, g, by cases p; exact Rep.bool x⟩
theorem snd_neg {a : T} (ha : SndE Γ n Φ a) : SndE Γ n Φ (.neg a) := fun nm ρ A env Z s m e hc O AO I => inv_neg hc fun x pos he hx => by
  subst he
  show EvT Γ A env Z s (PW Γ s.heap) (ev Φ a ρ >>= intD >>= fun i => .ok (.sh (.int (-i)))) _
  refine EvT.rule (fun Q E h => wpAny_UnaryOp h) (EvT.bind (ha nm ρ A env Z s m x hx O AO I).toI fun i v Z' h' tk _ g p => ?_)
  obtain ⟨t, rfl⟩ := p
  exact EvT.data g.sub g.ok fun _ _ hQ => neg_int (hQ _ _ _ (.refl _) (.int _ _))
theorem snd_bin {o : BOp} {a b : T} (ha : SndE Γ n Φ a) (hb : SndE Γ n Φ b) : SndE Γ n Φ (.bin o a b) := fun nm ρ A env Z s m e hc O AO I => inv_bin hc fun l r pos he hl hr => by
  subst he
  show EvT Γ A env Z s _ (bin2 o (ev Φ a ρ) (ev Φ b ρ)) _
  exact EvT.rule (fun Q E h => wpAny_BinOp h) (EvT.bind (ha nm ρ A env Z s m l hl O AO I).toB fun x v Z' h' tk _ g p =>
    EvT.bind (hb nm ρ A env Z' _ m r hr O AO (I.grow g)).toB fun y u Z'' h'' tk' _ g' p' => EvT.old (g.trans g') (ev_binop g'.sub g'.ok (p.grow g') p'))
theorem notSet_marks {op : CmpOp} {e : Expr} (h : notSet e = true) : behindInMarks op e = false := by
  cases e <;> first | rfl | exact (Bool.false_ne_true h).elim
theorem snd_cmpK {o : COp} {a b : T} (ha : SndE Γ n Φ a) (hb : SndE Γ n Φ b) {l r : Expr} (hl : chk Γ.gs a nm env.scope l = true) (hr : chk Γ.gs b nm env.scope r = true) (O : EnvOk env) (AO : AOx Γ nm n A env) (I : Inv Γ nm ρ env Z s.heap m) :
    EvT Γ A env Z s PBo (cmpB o (ev Φ a ρ) (ev Φ b ρ))
      (fun Q E s => wpAny (model Γ.prog Γ.w) A (eval l env) (fun v s₁ => wpAny (model Γ.prog Γ.w) A (eval r env) (fun u s₂ => wpAny (model Γ.prog Γ.w) A (compareOp (copOf o) v u) Q E s₂) E s₁) E s) :=
  EvT.bind (ha nm ρ A env Z s m l hl O AO I).toB fun _ _ _ _ _ _ g p => EvT.bind (hb nm ρ A env _ _ m r hr O AO (I.grow g)).toB fun _ _ _ _ _ _ g' p' => ev_cmpop AO.toAOk g'.sub g'.ok (p.grow g') p'
theorem boolD_ok (r : Out Bool) : (r >>= fun b => .ok (.sh (.bool b))) >>= boolD = r := by cases r <;> rfl
theorem EvT.test {r : Out Bool} {W : Tr Value} (H : EvT Γ A env Z s PBo r W) : EvT Γ A env Z s PTr ((r >>= fun b => .ok (.sh (.bool b))) >>= boolD) (fun Q E s => W (fun c s' => wpAny (model Γ.prog Γ.w) A (truthy c) Q E s') E s) :=
  (EvT.then (W2 := fun c => wpt Γ A (truthy c)) H fun b _ _ _ _ _ g p => by cases p; exact EvT.rule (fun _ _ h => wpAny_truthy_bool h) (EvT.pure (v := b) g.sub g.ok rfl)).eq (boolD_ok r)
theorem snd_cmp {o : COp} {a b : T} (ha : SndE Γ n Φ a) (hb : SndE Γ n Φ b) : SndE Γ n Φ (.cmp o a b) ∧ SndT Γ n Φ (.cmp o a b) :=
  ⟨fun nm ρ A env Z s m e hc O AO I => inv_cmp hc fun l r pos he h1 hl hr => by
    subst he
    exact EvT.rule (fun Q E h => wpAny_Compare1 h (notSet_marks h1)) (EvT.ofBool (snd_cmpK ha hb hl hr O AO I)),
  fun nm ρ A env Z s m e hc O AO I => inv_cmp hc fun l r pos he h1 hl hr => by
    subst he
    exact EvT.rule (fun Q E h => wpAny_isTrue_Compare1 h (notSet_marks h1)) (EvT.test (snd_cmpK ha hb hl hr O AO I))⟩
end
end Mine
namespace Mine
open PySem PySem.Calls PyProof.Rows
noncomputable def argOk : Val → Bool
  | .sh _ => true
  | .bor _ => true
  | .shop _ _ => true
  | .exc _ => true
  | _ => false
inductive RepVs (Γ : Cx) (Z : Led) (h : Heap) : List Value → List Val → Prop
  | nil : RepVs Γ Z h [] []
  | cons {v : Value} {x : Val} {vs : List Value} {xs : List Val} : RepV Γ Z (fun _ => True) h v x → argOk x = true → RepVs Γ Z h vs xs → RepVs Γ Z h (v :: vs) (x :: xs)
theorem RepVs.grow {Γ : Cx} {Z Z' : Led} {h h' : Heap} {vs : List Value} {xs : List Val} (r : RepVs Γ Z h vs xs) (g : Grow Z h Z' h') : RepVs Γ Z' h' vs xs := by
  induction r with
  | nil => exact .nil
  | cons a b _ ih => exact .cons (a.grow g) b ih
noncomputable def SndL (Γ : Cx) (n : Nat) (Φ : Nat → List Val → Out Val) (t : T) : Prop :=
  ∀ (nm : Nm) (ρ : List Val) (A : Around) (env : Env) (Z : Led) (s : Shared) (m : Str → Option Value) (es : List Expr) (pos : Pos), chkT Γ.gs t nm env.scope es = true → EnvOk env → AOx Γ nm n A env → Inv Γ nm ρ env Z s.heap m →
    EvT Γ A env Z s (fun Z h vs xs => RepVs Γ Z h vs xs ∧ vs.length = es.length) (evT Φ t ρ) (wpt Γ A (spliced (backTo pos (starEach es env))))
section
variable {Γ : Cx} {n : Nat} {Φ : Nat → List Val → Out Val} {A : Around} {env : Env} {Z : Led} {s : Shared} {nm : Nm} {ρ : List Val} {m : Str → Option Value}
theorem EvT.toA {r : Out Val} {W : Tr Value} (H : EvT Γ A env Z s (PW Γ s.heap) r W) : EvT Γ A env Z s (fun Z h v x => RepV Γ Z (fun _ => True) h v x ∧ argOk x = true) (r >>= argV) W := by
  refine H.conv fun Z' h' v x g p => ?_
  cases x with
  | un => exact .inl rfl
  | sh d => exact .inr ⟨_, Z', rfl, g, p, rfl⟩
  | own ds =>
    obtain ⟨a, rfl, f, o⟩ := p
    obtain ⟨Z'', g', _, r, _⟩ := freeze_own g f o
    exact .inr ⟨_, Z'', rfl, g', r, rfl⟩
  | bor ds => exact .inr ⟨_, Z', rfl, g, p, rfl⟩
  | shop a b => exact .inr ⟨_, Z', rfl, g, p, rfl⟩
  | exc c => exact .inr ⟨_, Z', rfl, g, p, rfl⟩
  | pr d ds =>
    obtain ⟨Z'', g', r⟩ := freeze_pr g p
    exact .inr ⟨_, Z'', rfl, g', r, rfl⟩
theorem star_cons {x : Expr} (h : notStar x = true) (r : List Expr) (env : Env) (pos : Pos) : backTo pos (starEach (x :: r) env) = (false, eval x env) :: backTo pos (starEach r env) := by
  cases x <;> first | rfl | exact (Bool.false_ne_true h).elim
theorem snd_nil : SndL Γ n Φ .nil := fun nm ρ A env Z s m es pos hc O AO I => by
  cases inv_nilT hc
  exact EvT.rule (fun Q E h => spliced_nil h) (EvT.pure (v := []) (x := []) I.sub I.ok ⟨.nil, rfl⟩)
theorem snd_cons {a b : T} (ha : SndE Γ n Φ a) (hb : SndL Γ n Φ b) : SndL Γ n Φ (.cons a b) := fun nm ρ A env Z s m es pos hc O AO I => inv_consT hc fun x r he h1 h2 h3 => by
  subst he
  show EvT Γ A env Z s _ (ev Φ a ρ >>= argV >>= fun x => evT Φ b ρ >>= fun y => Out.ok (x :: y)) _
  rw [star_cons h1]
  exact EvT.rule (fun Q E h => spliced_cons h) (EvT.bind (W2 := fun v Q E s => wpAny (model Γ.prog Γ.w) A (spliced (backTo pos (starEach r env))) (fun vs s₂ => Q (v :: vs) s₂) E s) (ha nm ρ A env Z s m x h2 O AO I).toA fun x v Z' h' tk _ g p =>
    EvT.bind (W2 := fun vs Q E s => Q (v :: vs) s) (hb nm ρ A env Z' _ m r pos h3 O AO (I.grow g)) fun xs vs Z'' h'' tk' _ g' p' =>
      EvT.pure g'.sub g'.ok ⟨.cons (p.1.grow g') p.2 p'.1, congrArg (· + 1) p'.2⟩)
theorem RepVs.data {h : Heap} {vs : List Value} {xs : List Val} (r : RepVs Γ Z h vs xs) : allD xs = .bad ∨ ∃ ds, allD xs = .ok ds ∧ RepL Z vs ds := by
  induction r with
  | nil => exact .inr ⟨[], rfl, .nil⟩
  | @cons v x vs xs a b _ ih =>
    cases x with
    | sh d =>
      rcases ih with ih | ⟨ds, e, r⟩
      · left; show (allD xs >>= fun ds => Out.ok (d :: ds)) = _; rw [ih]; rfl
      · right; exact ⟨d :: ds, by show (allD xs >>= fun ds => Out.ok (d :: ds)) = _; rw [e]; rfl, .cons a r⟩
    | bor ds => left; rfl
    | shop ns ps => left; rfl
    | exc c => left; rfl
    | _ => cases b
inductive RepBs (Z : Led) (h : Heap) : List Value → List Dat → Prop
  | nil : RepBs Z h [] []
  | cons {v : Value} {x : Dat} {vs : List Value} {xs : List Dat} : RepB Z h v x → RepBs Z h vs xs → RepBs Z h (v :: vs) (x :: xs)
theorem RepVs.borrow {h : Heap} {vs : List Value} {xs : List Val} (r : RepVs Γ Z h vs xs) : allB xs = .bad ∨ ∃ ds, allB xs = .ok ds ∧ RepBs Z h vs ds := by
  induction r with
  | nil => exact .inr ⟨[], rfl, .nil⟩
  | @cons v x vs xs a b _ ih =>
    cases x with
    | sh d =>
      rcases ih with ih | ⟨ds, e, r⟩
      · left; show (allB xs >>= fun ds => Out.ok (d :: ds)) = _; rw [ih]; rfl
      · right; exact ⟨d :: ds, by show (allB xs >>= fun ds => Out.ok (d :: ds)) = _; rw [e]; rfl, .cons (.inl a) r⟩
    | bor l =>
      rcases ih with ih | ⟨ds, e, r⟩
      · left; show (allB xs >>= fun ds => Out.ok (.lst l :: ds)) = _; rw [ih]; rfl
      · obtain ⟨q, us, e', p, z, rr⟩ := a
        right; exact ⟨.lst l :: ds, by show (allB xs >>= fun ds => Out.ok (.lst l :: ds)) = _; rw [e]; rfl, .cons (.inr ⟨q, us, l, e', rfl, p, z, rr⟩) r⟩
    | shop ns ps => left; rfl
    | exc c => left; rfl
    | _ => cases b
theorem newList_wp {vs : List Value} {Q : Value → Shared → Prop} {E : Value → Shared → Prop} (hz : vs.length ≤ line) (h : Q (.ref s.heap.objs.size) { s with heap := s.heap.push { cls := .type "list", data := .seq vs.toArray } }) :
    wpAny (model Γ.prog Γ.w) A (newList vs) Q E s := wpAny_newObj_type h hz
theorem newTuple_wp {vs : List Value} {Q : Value → Shared → Prop} {E : Value → Shared → Prop} (hz : vs.length ≤ line) (h : Q (.ref s.heap.objs.size) { s with heap := s.heap.push { cls := .type "tuple", data := .seq vs.toArray } }) :
    wpAny (model Γ.prog Γ.w) A (newTuple vs) Q E s := wpAny_newObj_type h hz
theorem EvT.allD {α : Type} {P : Led → Heap → Value → α → Prop} {h : Heap} {vs : List Value} {xs : List Val} {f : List Dat → Out α} {W : Tr Value} (r : RepVs Γ Z h vs xs) (H : ∀ ds, RepL Z vs ds → EvT Γ A env Z s P (f ds) W) : EvT Γ A env Z s P (Mine.allD xs >>= f) W := by
  rcases r.data with q | ⟨ds, q, r⟩
  · rw [q]; exact .bad
  · rw [q]; exact H ds r
theorem len_line {k : Nat} (h : k ≤ 100) : k ≤ line := Nat.le_trans h (by decide)
theorem snd_lst {ts : T} (H : SndL Γ n Φ ts) : SndE Γ n Φ (.lst ts) := fun nm ρ A env Z s m e hc O AO I => inv_lst hc fun es pos he h1 h2 => by
  subst he
  refine EvT.rule (fun Q E h => List_ h) (EvT.eq (EvT.bind (f := fun xs => allD xs >>= fun r => .ok (.own r)) (W2 := fun vs => wpt Γ A (newList vs)) (H nm ρ A env Z s m es pos h2 O AO I) fun xs vs Z' h' tk _ g p => EvT.allD p.1 fun ds r => ?_) (Out.bind_assoc _ _ _))
  have hl : vs.length ≤ line := len_line (p.2 ▸ h1)
  exact EvT.old g (EvT.own g.sub g.ok hl r fun _ _ hQ => newList_wp hl (hQ tk))
theorem snd_tup {ts : T} (H : SndL Γ n Φ ts) : SndE Γ n Φ (.tup ts) := fun nm ρ A env Z s m e hc O AO I => inv_tup hc fun es k pos he h1 h2 => by
  subst he
  refine EvT.rule (fun Q E h => Tuple_ h) (EvT.eq (EvT.bind (f := fun xs => allD xs >>= fun r => .ok (.sh (.tup r))) (W2 := fun vs => wpt Γ A (newTuple vs)) (H nm ρ A env Z s m es pos h2 O AO I) fun xs vs Z' h' tk _ g p => EvT.allD p.1 fun ds r => ?_) (Out.bind_assoc _ _ _))
  have hl : vs.length ≤ line := len_line (p.2 ▸ h1)
  exact EvT.tup g.sub g.ok hl r fun _ _ hQ => newTuple_wp hl (hQ tk)
end
end Mine
namespace Mine
open PySem PySem.Calls PyProof.Rows
section
variable {Γ : Cx} {n : Nat} {Φ : Nat → List Val → Out Val} {A : Around} {env : Env} {Z : Led} {s : Shared} {nm : Nm} {ρ : List Val} {m : Str → Option Value}
theorem EvT.truth {α β : Type} {P : Led → Heap → β → α → Prop} {r : Out α} {d : Bool} {W : Bool → Tr β} (H : EvT Γ A env Z s P r (W d)) :
    EvT Γ A env Z s P r (fun Q E s => wpAny (model Γ.prog Γ.w) A (truthy (.bool d)) (fun t s₃ => W t Q E s₃) E s) := H.rule fun _ _ h => wpAny_truthy_bool h
theorem lastMarks2 {op oq : CmpOp} {r z : Expr} (h : notSet z = true) : lastMarks [op, oq] [r, z] = false := by
  show behindInMarks oq z = false
  exact notSet_marks h
theorem snd_cmp2 {o p : COp} {a b c : T} (ha : SndE Γ n Φ a) (hb : SndE Γ n Φ b) (hc' : SndE Γ n Φ c) : SndE Γ n Φ (.cmp2 o p a b c) ∧ SndT Γ n Φ (.cmp2 o p a b c) :=
  ⟨fun nm ρ A env Z s m e hc O AO I => inv_cmp2 hc fun l r z pos he h4 h5 h6 h7 => by
    subst he
    refine EvT.rule (fun Q E h => Compare_chain h (lastMarks2 h4)) (EvT.ofBool ?_)
    show EvT Γ A env Z s _ (ev Φ a ρ >>= needB >>= fun x => ev Φ b ρ >>= needB >>= fun y => cmpD o x y >>= fun r => if r then ev Φ c ρ >>= needB >>= fun z => cmpD p y z else .ok false) _
    refine EvT.bind (W2 := fun v => wpt Γ A (compareChain pos v [copOf o, copOf p] [eval r env, eval z env])) (ha nm ρ A env Z s m l h5 O AO I).toB fun x v Z' h' tk _ g q =>
      EvT.rule (fun Q E h => chain_link h) (EvT.bind (hb nm ρ A env Z' _ m r h6 O AO (I.grow g)).toB fun y u Z'' h'' tk' _ g' q' =>
        EvT.bind (ev_cmpop AO.toAOk g'.sub g'.ok (q.grow g') q') fun d w Z3 h3' tk3 _ g3 q3 => ?_)
    cases q3
    refine EvT.truth ?_
    cases d with
    | false => exact EvT.no (EvT.pure (P := PBo) g3.sub g3.ok rfl)
    | true => exact EvT.yes (EvT.rule (fun Q E h => chain_last h) (EvT.bind (hc' nm ρ A env Z3 _ m z h7 O AO (((I.grow g).grow g').grow g3)).toB fun y2 u2 Z4 h4' tk4 _ g4 q4 => ev_cmpop AO.toAOk g4.sub g4.ok ((q'.grow g3).grow g4) q4)),
  fun nm ρ A env Z s m e hc O AO I => inv_cmp2 hc fun l r z pos he h4 h5 h6 h7 => by
    subst he
    refine EvT.eq ?_ (boolD_ok _)
    show EvT Γ A env Z s _ (ev Φ a ρ >>= needB >>= fun x => ev Φ b ρ >>= needB >>= fun y => cmpD o x y >>= fun r => if r then ev Φ c ρ >>= needB >>= fun z => cmpD p y z else .ok false) _
    refine EvT.rule (fun Q E h => isTrue_chain h (lastMarks2 h4)) (EvT.bind (W2 := fun v => wpt Γ A (testChain pos v [copOf o, copOf p] [eval r env, eval z env])) (ha nm ρ A env Z s m l h5 O AO I).toB fun x v Z' h' tk _ g q =>
      EvT.rule (fun Q E h => test_link h) (EvT.bind (hb nm ρ A env Z' _ m r h6 O AO (I.grow g)).toB fun y u Z'' h'' tk' _ g' q' =>
        EvT.bind (ev_cmpop AO.toAOk g'.sub g'.ok (q.grow g') q') fun d w Z3 h3' tk3 _ g3 q3 => ?_))
    cases q3
    refine EvT.truth ?_
    cases d with
    | false => exact EvT.no (EvT.pure (P := PTr) g3.sub g3.ok rfl)
    | true =>
      exact EvT.yes (EvT.rule (fun Q E h => test_last h) (EvT.bind (hc' nm ρ A env Z3 _ m z h7 O AO (((I.grow g).grow g').grow g3)).toB fun y2 u2 Z4 h4' tk4 _ g4 q4 => (EvT.test (ev_cmpop AO.toAOk g4.sub g4.ok ((q'.grow g3).grow g4) q4)).eq (boolD_ok _).symm))⟩
theorem snd_not {a : T} (ha : SndE Γ n Φ a) (ht : SndT Γ n Φ a) : SndE Γ n Φ (.not a) ∧ SndT Γ n Φ (.not a) :=
  ⟨fun nm ρ A env Z s m e hc O AO I => inv_not hc fun x pos he hx => by
    subst he
    refine EvT.rule (fun Q E h => wpAny_UnaryOp h) (EvT.ofBool (EvT.bind (W2 := fun v => wpt Γ A (unaryOp .Not v)) (ha nm ρ A env Z s m x hx O AO I).toBo fun b v Z' h' tk _ g p => ?_))
    cases p
    exact EvT.rule (fun Q E h => not_of (wpAny_truthy_bool h)) (EvT.pure (P := PBo) g.sub g.ok rfl),
  fun nm ρ A env Z s m e hc O AO I => inv_not hc fun x pos he hx => by
    subst he
    exact EvT.eq (EvT.rule (fun Q E h => isTrue_not h) (EvT.bind (f := fun b => Out.ok (!b)) (W2 := fun b Q _ s => Q (!b) s) (ht nm ρ A env Z s m x hx O AO I) fun b v Z' h' tk _ g p => by cases p; exact EvT.pure g.sub g.ok rfl)) (boolD_ok _)⟩
theorem snd_andE {a : T} {r2 : Out Bool} {W2 : Tr Value} (ha : SndE Γ n Φ a) {x : Expr} (hx : chk Γ.gs a nm env.scope x = true) (O : EnvOk env) (AO : AOx Γ nm n A env) (I : Inv Γ nm ρ env Z s.heap m)
    (H : ∀ Z' h' tk, Inv Γ nm ρ env Z' h' m → EvT Γ A env Z' { s with heap := h', toks := tk } PBo r2 W2) :
    EvT Γ A env Z s PBo (andB (ev Φ a ρ >>= boolD) r2) (fun Q E s => wpAny (model Γ.prog Γ.w) A (eval x env) (fun v s₁ => wpAny (model Γ.prog Γ.w) A (truthy v) (fun c s₂ => if c = true then W2 Q E s₂ else Q v s₂) E s₁) E s) :=
  EvT.bind (W2 := fun v Q E s => wpAny (model Γ.prog Γ.w) A (truthy v) (fun c s₂ => if c = true then W2 Q E s₂ else Q v s₂) E s) (ha nm ρ A env Z s m x hx O AO I).toBo fun d v Z' h' tk _ g p => by
    cases p
    refine EvT.truth (W := fun c Q E s => if c = true then W2 Q E s else Q _ s) ?_
    cases d with
    | false => exact EvT.no (EvT.pure (P := PBo) g.sub g.ok rfl)
    | true => exact EvT.yes (H Z' h' tk (I.grow g))
theorem snd_orE {a : T} {r2 : Out Bool} {W2 : Tr Value} (ha : SndE Γ n Φ a) {x : Expr} (hx : chk Γ.gs a nm env.scope x = true) (O : EnvOk env) (AO : AOx Γ nm n A env) (I : Inv Γ nm ρ env Z s.heap m)
    (H : ∀ Z' h' tk, Inv Γ nm ρ env Z' h' m → EvT Γ A env Z' { s with heap := h', toks := tk } PBo r2 W2) :
    EvT Γ A env Z s PBo (orB (ev Φ a ρ >>= boolD) r2) (fun Q E s => wpAny (model Γ.prog Γ.w) A (eval x env) (fun v s₁ => wpAny (model Γ.prog Γ.w) A (truthy v) (fun c s₂ => if c = true then Q v s₂ else W2 Q E s₂) E s₁) E s) :=
  EvT.bind (W2 := fun v Q E s => wpAny (model Γ.prog Γ.w) A (truthy v) (fun c s₂ => if c = true then Q v s₂ else W2 Q E s₂) E s) (ha nm ρ A env Z s m x hx O AO I).toBo fun d v Z' h' tk _ g p => by
    cases p
    refine EvT.truth (W := fun c Q E s => if c = true then Q _ s else W2 Q E s) ?_
    cases d with
    | true => exact EvT.yes (EvT.pure (P := PBo) g.sub g.ok rfl)
    | false => exact EvT.no (H Z' h' tk (I.grow g))
theorem snd_andT {a : T} {r2 : Out Bool} {W2 : Tr Bool} (ha : SndT Γ n Φ a) {x : Expr} (hx : chk Γ.gs a nm env.scope x = true) (O : EnvOk env) (AO : AOx Γ nm n A env) (I : Inv Γ nm ρ env Z s.heap m)
    (H : ∀ Z' h' tk, Inv Γ nm ρ env Z' h' m → EvT Γ A env Z' { s with heap := h', toks := tk } PTr r2 W2) :
    EvT Γ A env Z s PTr (andB (ev Φ a ρ >>= boolD) r2) (fun Q E s => wpAny (model Γ.prog Γ.w) A (isTrue x env (eval x env)) (fun c s' => if c = true then W2 Q E s' else Q false s') E s) :=
  EvT.bind (W2 := fun c Q E s' => if c = true then W2 Q E s' else Q false s') (ha nm ρ A env Z s m x hx O AO I) fun d v Z' h' tk _ g p => by
    cases p
    cases d with
    | false => exact EvT.no (EvT.pure (P := PTr) g.sub g.ok rfl)
    | true => exact EvT.yes (H Z' h' tk (I.grow g))
theorem snd_orT {a : T} {r2 : Out Bool} {W2 : Tr Bool} (ha : SndT Γ n Φ a) {x : Expr} (hx : chk Γ.gs a nm env.scope x = true) (O : EnvOk env) (AO : AOx Γ nm n A env) (I : Inv Γ nm ρ env Z s.heap m)
    (H : ∀ Z' h' tk, Inv Γ nm ρ env Z' h' m → EvT Γ A env Z' { s with heap := h', toks := tk } PTr r2 W2) :
    EvT Γ A env Z s PTr (orB (ev Φ a ρ >>= boolD) r2) (fun Q E s => wpAny (model Γ.prog Γ.w) A (isTrue x env (eval x env)) (fun c s' => if c = true then Q true s' else W2 Q E s') E s) :=
  EvT.bind (W2 := fun c Q E s' => if c = true then Q true s' else W2 Q E s') (ha nm ρ A env Z s m x hx O AO I) fun d v Z' h' tk _ g p => by
    cases p
    cases d with
    | true => exact EvT.yes (EvT.pure (P := PTr) g.sub g.ok rfl)
    | false => exact EvT.no (H Z' h' tk (I.grow g))
theorem andB_true (r : Out Bool) : andB r (.ok true) = r := by cases r with | ok b => cases b <;> rfl | _ => rfl
theorem orB_false (r : Out Bool) : orB r (.ok false) = r := by cases r with | ok b => cases b <;> rfl | _ => rfl
theorem snd_and {a b : T} (ha : SndE Γ n Φ a ∧ SndT Γ n Φ a) (hb : SndE Γ n Φ b ∧ SndT Γ n Φ b) : SndE Γ n Φ (.and a b) ∧ SndT Γ n Φ (.and a b) :=
  ⟨fun nm ρ A env Z s m e hc O AO I => inv_and hc fun x y r pos he h1 h2 => by
    subst he
    have k := EvT.ofBool (h₀ := s.heap) (snd_andE ha.1 h1 O AO I fun Z' h' tk I' => (hb.1 nm ρ A env Z' _ m _ h2 O AO I').toBo)
    cases r with
    | nil => exact EvT.rule (fun Q E h => wpAny_And2 h) k
    | cons z r => exact EvT.rule (fun Q E h => BoolOp_and h) k,
  fun nm ρ A env Z s m e hc O AO I => inv_and hc fun x y r pos he h1 h2 => by
    subst he
    refine EvT.eq (EvT.rule (fun Q E h => isTrue_and h) (snd_andT ha.2 h1 O AO I fun Z' h' tk I' => ?_)) (boolD_ok _)
    cases r with
    | nil => exact (EvT.rule (fun Q E h => isTrue_and h) (snd_andT (r2 := .ok true) hb.2 h2 O AO I' fun Z3 h3 tk3 I3 => EvT.rule (fun Q E h => isTrue_and_nil h) (EvT.pure (P := PTr) I3.sub I3.ok rfl))).eq (andB_true _).symm
    | cons z r => exact hb.2 nm ρ A env Z' _ m (.BoolOp .And (y :: z :: r) pos) h2 O AO I'⟩
theorem snd_or {a b : T} (ha : SndE Γ n Φ a ∧ SndT Γ n Φ a) (hb : SndE Γ n Φ b ∧ SndT Γ n Φ b) : SndE Γ n Φ (.or a b) ∧ SndT Γ n Φ (.or a b) :=
  ⟨fun nm ρ A env Z s m e hc O AO I => inv_or hc fun x y r pos he h1 h2 => by
    subst he
    have k := EvT.ofBool (h₀ := s.heap) (snd_orE ha.1 h1 O AO I fun Z' h' tk I' => (hb.1 nm ρ A env Z' _ m _ h2 O AO I').toBo)
    cases r with
    | nil => exact EvT.rule (fun Q E h => wpAny_Or2 h) k
    | cons z r => exact EvT.rule (fun Q E h => BoolOp_or h) k,
  fun nm ρ A env Z s m e hc O AO I => inv_or hc fun x y r pos he h1 h2 => by
    subst he
    refine EvT.eq (EvT.rule (fun Q E h => isTrue_or h) (snd_orT ha.2 h1 O AO I fun Z' h' tk I' => ?_)) (boolD_ok _)
    cases r with
    | nil => exact (EvT.rule (fun Q E h => isTrue_or h) (snd_orT (r2 := .ok false) hb.2 h2 O AO I' fun Z3 h3 tk3 I3 => EvT.rule (fun Q E h => isTrue_or_nil h) (EvT.pure (P := PTr) I3.sub I3.ok rfl))).eq (orB_false _).symm
    | cons z r => exact hb.2 nm ρ A env Z' _ m (.BoolOp .Or (y :: z :: r) pos) h2 O AO I'⟩
theorem snd_ite {c a b : T} (hc' : SndT Γ n Φ c) (ha : SndE Γ n Φ a ∧ SndT Γ n Φ a) (hb : SndE Γ n Φ b ∧ SndT Γ n Φ b) : SndE Γ n Φ (.ite c a b) ∧ SndT Γ n Φ (.ite c a b) :=
  ⟨fun nm ρ A env Z s m e hc O AO I => inv_ite hc fun t x y pos he h1 h2 h3 => by
    subst he
    show EvT Γ A env Z s _ (ev Φ c ρ >>= boolD >>= fun x => if x then ev Φ a ρ else ev Φ b ρ) _
    refine EvT.rule (fun Q E h => wpAny_IfExp h) (EvT.bind (W2 := fun d Q E s' => if d = true then wpAny (model Γ.prog Γ.w) A (eval x env) Q E s' else wpAny (model Γ.prog Γ.w) A (eval y env) Q E s') (hc' nm ρ A env Z s m t h1 O AO I) fun d v Z' h' tk _ g p => ?_)
    cases p
    cases d with
    | true => exact EvT.yes (EvT.old g (ha.1 nm ρ A env Z' _ m x h2 O AO (I.grow g)))
    | false => exact EvT.no (EvT.old g (hb.1 nm ρ A env Z' _ m y h3 O AO (I.grow g))),
  fun nm ρ A env Z s m e hc O AO I => inv_ite hc fun t x y pos he h1 h2 h3 => by
    subst he
    refine EvT.rule (fun Q E h => isTrue_IfExp h) (EvT.eq (EvT.bind (f := fun d => (if d then ev Φ a ρ else ev Φ b ρ) >>= boolD) (W2 := fun d Q E s' => if d = true then wpAny (model Γ.prog Γ.w) A (isTrue x env (eval x env)) Q E s' else wpAny (model Γ.prog Γ.w) A (isTrue y env (eval y env)) Q E s') (hc' nm ρ A env Z s m t h1 O AO I) fun d v Z' h' tk _ g p => ?_) (Out.bind_assoc _ _ _))
    cases p
    cases d with
    | true => exact EvT.yes (ha.2 nm ρ A env Z' _ m x h2 O AO (I.grow g))
    | false => exact EvT.no (hb.2 nm ρ A env Z' _ m y h3 O AO (I.grow g))⟩
end
end Mine
namespace Mine
open PySem PySem.Calls PyProof.Rows
set_option genSizeOf false in
set_option genInjectivity false in
structure FnIs (Γ : Cx) (f : Addr) (i : Nat) where
  fn : Fn
  o : Obj
  fd : FuncData
  body : List Stmt
  nm : Nm
  pn : List Str
  here : Γ.base.get? f = some o
  data : o.data = .func fd
  ofi : Γ.fns[i]? = some fn
  bod : fd.body = .stmts body
  glob : fd.globals = mainGlobals
  bui : fd.builtins = builtinsNs
  clos : fd.closure = []
  co : fd.scope.isCoroutine = false
  gen : fd.scope.isGenerator = false
  kind : fd.scope.kind = .function
  code : Γ.base.CodeRec fd.code fd.qualname
  binds : ∀ vals : List Value, vals.length = fn.pars → bindArgs fd ⟨vals, []⟩ = pure (pn.zip vals)
  pnl : pn.length = fn.pars
  pnn : pn.Nodup
  /-- the parameters are the first names -/
  par : ∀ k x, pn[k]? = some x → nm.lookup x = some k ∧ (fd.scope.names.lookup x = some .local ∨ fd.scope.names.lookup x = some .cell)
  inj : ∀ x y k, nm.lookup x = some k → nm.lookup y = some k → x = y
  low : ∀ x k, nm.lookup x = some k → k < fn.names
  le : fn.pars ≤ fn.names
  cells : ((cellsFrom 0 fd.scope.names []).map (·.1)).Nodup
  cellof : ∀ x, fd.scope.names.lookup x = some .cell → ∀ k, ((cellsFrom k fd.scope.names []).lookup x).isSome = true
  ini : fn.init = Option.none
  quiet : quietFn i = true → loud nm = false
  chk : chkB Γ.gs fn.body nm fd.scope body = true
noncomputable def bmV : List Value := [.type "ValueError", .type "Exception", .type "BaseException", .type "object"]
noncomputable def GOk (Γ : Cx) (x : Str) : G → Prop
  | .cI i => ∃ t, Γ.mg x = some (.int i t)
  | .cS s => (∃ t, Γ.mg x = some (.str ⟨s.toArray⟩ t)) ∧ PyData.strOk ⟨s.toArray⟩ = true ∧ s.length ≤ line
  | .bi v => Γ.mg x = none ∧ Γ.mb x = some v
  | .fn i => ∃ f, Γ.mg x = some (.ref f) ∧ Nonempty (FnIs Γ f i)
  | .dict k => ∃ (a : Addr) (f : Str → Option Value), Γ.mg x = some (.ref a) ∧ (a == sysModules) = false ∧ (∀ h, Kp Γ.base h → h.MapOf (strKind Γ.prog Γ.w) a f) ∧
      ∀ s : Str, (k.lookup s.cps.toList = none ∧ f s = none) ∨ ∃ i t, k.lookup s.cps.toList = some i ∧ f s = some (.int i t)
  | .cls _ => Γ.mg x = some (.ref Γ.shopC)
  | .meth i => ∃ f, PySem.W.findIn Γ.K (.ref Γ.shopC) "place" = some (some (.ref f)) ∧ PySem.W.typeIn Γ.K (.ref f) = some (.type "function") ∧ Nonempty (FnIs Γ f i)
  | .exc c => match c with
    | 0 => Γ.mg x = none ∧ Γ.mb x = some (.type "ValueError")
    | c + 1 => ∃ C, Γ.mg x = some (.ref C) ∧ Γ.exc (c + 1) = some C ∧ OwnCls x C bmV "ValueError.__new__" Γ.mg Γ.base
noncomputable def excGet (K : PySem.W.Frag) (C : Addr) : Bool :=
  PySem.W.findIn K (.ref C) "__getattribute__" == some (some (.builtin "BaseException.__getattribute__")) && PySem.W.findIn K (.ref C) "__getattr__" == some none && PySem.W.findIn K (.ref C) "__class__" == some (some (.builtin "object.__class__")) && PySem.W.mroIn K C (.type "object") == some true && PySem.W.subIn K (.ref C) (.type "BaseException") == some true && (PySem.W.clsIn K C).isSome
structure ExcOk (Γ : Cx) : Prop where
  one : ∃ T, Γ.exc 1 = some T
  get : ∀ c C, Γ.exc c = some C → excGet Γ.K C = true
  isi : ∀ c C d D, Γ.exc c = some C → Γ.exc d = some D → PySem.W.kitOne Γ.K (.ref C) (.ref D) = some (d.beq c || d.ble 1)
  isv : ∀ c C, Γ.exc c = some C → PySem.W.kitOne Γ.K (.ref C) (.type "ValueError") = some true
  cat : ∀ c C T, Γ.exc c = some C → Γ.exc 1 = some T → PySem.W.exmOne Γ.K (.ref C) (.ref T) = some true
structure CxOk (Γ : Cx) : Prop where
  exo : ExcOk Γ
  kin : ∀ h, Kp Γ.base h → Γ.K.In h
  g : Γ.base.Ns mainGlobals Γ.mg
  b : Γ.base.Ns builtinsNs Γ.mb
  nolimit : Γ.base.NoLimit
  gl : ∀ x g, Γ.gs.lookup x = some g → GOk Γ x g
section
variable {Γ : Cx} {n : Nat} {Φ : Nat → List Val → Out Val} {A : Around} {env : Env} {Z : Led} {s : Shared} {nm : Nm} {ρ : List Val} {m : Str → Option Value}
theorem snd_cN : SndE Γ n Φ .cN := fun nm ρ A env Z s m e hc O AO I => inv_cN hc fun _ _ he => he ▸ ev_none I _ _
theorem snd_cB {b : Bool} : SndE Γ n Φ (.cB b) := fun nm ρ A env Z s m e hc O AO I => inv_cB hc fun _ _ he => he ▸ ev_bool I _ _ _
theorem snd_cI {i : Int} : SndE Γ n Φ (.cI i) := fun nm ρ A env Z s m e hc O AO I => inv_cI hc fun _ _ he => he ▸ ev_int I _ _ _
theorem snd_cS {x : List Nat} : SndE Γ n Φ (.cS x) := fun nm ρ A env Z s m e hc O AO I => inv_cS hc fun _ _ _ he h1 h2 h3 => by subst he h1; exact ev_str I _ h2 h3 _ _
theorem snd_v {i : Nat} : SndE Γ n Φ (.v i) := fun nm ρ A env Z s m e hc O AO I => inv_v hc fun _ _ he h1 h2 => he ▸ ev_var O.kind I h2 h1 _
theorem snd_gI (C : CxOk Γ) {i : Int} : SndE Γ n Φ (.gI i) := fun nm ρ A env Z s m e hc O AO I => inv_gI hc fun x p he h1 h2 => by
  subst he
  obtain ⟨k, l⟩ := globOf_kind h2
  obtain ⟨t, e⟩ := C.gl _ _ l
  exact EvT.data I.sub I.ok fun _ _ hQ => load_glob O C.g I k e h1 (hQ _ s.heap s.toks (.refl _) (.int i t))
theorem snd_gS (C : CxOk Γ) {x : List Nat} : SndE Γ n Φ (.gS x) := fun nm ρ A env Z s m e hc O AO I => inv_gS hc fun y p he h1 h2 => by
  subst he
  obtain ⟨k, l⟩ := globOf_kind h2
  obtain ⟨⟨t, e⟩, ok, le⟩ := C.gl _ _ l
  exact EvT.data I.sub I.ok fun _ _ hQ => load_glob O C.g I k e h1 (hQ _ s.heap s.toks (.refl _) (.str ⟨x.toArray⟩ t ok le))
theorem is_none {v : Value} {x : Val} {Z : Led} {fr : Addr → Prop} {h : Heap} (r : RepV Γ Z fr h v x) (hn : x ≠ .sh .none) : v ≠ .none := by
  rintro rfl
  cases x with
  | un => exact r
  | sh d => cases r; exact hn rfl
  | own ds => obtain ⟨a, e, _⟩ := r; cases e
  | bor ds => obtain ⟨a, vs, e, _⟩ := r; cases e
  | shop a b => obtain ⟨y, _, _, _, _, _, _, e, _⟩ := r; cases e
  | exc c => obtain ⟨e, _, _, _, q, _⟩ := r; cases q
  | pr d ds => obtain ⟨t, a, u, k, e, _⟩ := r; cases e
end
end Mine
namespace Mine
open PySem PySem.Calls PyProof.Rows
section
variable {Γ : Cx} {n : Nat} {Φ : Nat → List Val → Out Val} {A : Around} {env : Env} {Z : Led} {s : Shared} {nm : Nm} {ρ : List Val} {m : Str → Option Value}
theorem RepV.notBuiltin {v : Value} {x : Val} {fr : Addr → Prop} {h : Heap} (r : RepV Γ Z fr h v x) : plainIs v .none = true := by
  cases x with
  | un => exact r.elim
  | sh d => cases r <;> rfl
  | own ds => obtain ⟨a, e, _⟩ := r; subst e; rfl
  | bor ds => obtain ⟨a, vs, e, _⟩ := r; subst e; rfl
  | shop a b => obtain ⟨y, _, _, _, _, _, _, e, _⟩ := r; subst e; rfl
  | exc c => obtain ⟨e, _, _, _, q, _⟩ := r; subst q; rfl
  | pr d ds => obtain ⟨t, a, u, k, e, _⟩ := r; subst e; rfl
theorem wp_isNone {v : Value} {x : Val} {fr : Addr → Prop} {h : Heap} (r : RepV Γ Z fr h v x) {nn : Bool} {Q : Value → Shared → Prop} {E : Value → Shared → Prop} {s : Shared}
    (hQ : ∀ b, isNV nn x = .ok b → Q (.bool b) s) : wpAny (model Γ.prog Γ.w) A (compareOp (cond nn .IsNot .Is) v .none) Q E s := by
  have hp := r.notBuiltin
  by_cases hx : x = .sh .none
  · subst hx
    cases r
    cases nn
    · exact wpAny_is_self hp (hQ true rfl)
    · exact wpAny_isNot_self hp (hQ false rfl)
  · have hv := is_none r hx
    have e : isNV nn x = .ok nn := by
      cases x with
      | un => exact r.elim
      | sh d => cases d <;> first | rfl | exact absurd rfl hx
      | _ => rfl
    cases nn
    · exact wpAny_is_other hp hv (hQ false e)
    · exact wpAny_isNot_other hp hv (hQ true e)
theorem snd_isNK {nn : Bool} {a : T} (ha : SndE Γ n Φ a) {l : Expr} {k : Nat} {p : Pos} (hl : chk Γ.gs a nm env.scope l = true) (O : EnvOk env) (AO : AOx Γ nm n A env) (I : Inv Γ nm ρ env Z s.heap m) :
    EvT Γ A env Z s PBo (ev Φ a ρ >>= isNV nn)
      (fun Q E s => wpAny (model Γ.prog Γ.w) A (eval l env) (fun v s₁ => wpAny (model Γ.prog Γ.w) A (eval (.Constant .none k p) env) (fun u s₂ => wpAny (model Γ.prog Γ.w) A (compareOp (cond nn .IsNot .Is) v u) Q E s₂) E s₁) E s) :=
  EvT.bind (W2 := fun v Q E s => wpAny (model Γ.prog Γ.w) A (eval (.Constant .none k p) env) (fun u s₂ => wpAny (model Γ.prog Γ.w) A (compareOp (cond nn .IsNot .Is) v u) Q E s₂) E s) (ha nm ρ A env Z s m l hl O AO I) fun x v Z' h' tk _ g q _ Q E hQ _ =>
    show wpAny _ _ (Pure.pure Value.none) _ _ _ from wpAny_pure (wp_isNone q fun b hb => hQ b _ Z' h' tk hb (Grow.refl g.sub g.ok) rfl)
theorem snd_isN {nn : Bool} {a : T} (ha : SndE Γ n Φ a) : SndE Γ n Φ (.isN nn a) ∧ SndT Γ n Φ (.isN nn a) :=
  have hm : ∀ k p, behindInMarks (cond nn .IsNot .Is) (.Constant .none k p) = false := fun _ _ => by cases nn <;> rfl
  ⟨fun nm ρ A env Z s m e hc O AO I => inv_isN hc fun l k p q he hl => by
    subst he
    exact EvT.rule (fun Q E h => wpAny_Compare1 h (hm _ _)) (EvT.ofBool (snd_isNK ha hl O AO I)),
  fun nm ρ A env Z s m e hc O AO I => inv_isN hc fun l k p q he hl => by
    subst he
    exact EvT.rule (fun Q E h => wpAny_isTrue_Compare1 h (hm _ _)) (EvT.test (snd_isNK ha hl O AO I))⟩
theorem posOf_seq (k : Int) (n : Nat) : posOf k n = seqIndex? k n := by
  unfold posOf seqIndex?
  by_cases h : k < 0
  · rw [if_neg (by omega)]
    simp only [h, if_true]
    by_cases h2 : 0 ≤ k + n
    · rw [if_pos h2, if_pos (by simp; omega)]
    · rw [if_neg h2, if_neg (by simp; omega)]
  · rw [if_pos (by omega)]
    simp only [h, if_false]
    by_cases h2 : k < n
    · rw [if_pos h2, if_pos (by simp; omega)]
    · rw [if_neg h2, if_neg (by simp; omega)]
theorem posOf_lt {k : Int} {n j : Nat} (h : posOf k n = some j) : j < n ∧ -(n : Int) ≤ k ∧ k < n := by
  unfold posOf at h
  split at h
  · split at h
    · cases h; omega
    · cases h
  · split at h
    · cases h; omega
    · cases h
end
end Mine
namespace Mine
open PySem PySem.Calls PyProof.Rows
section
variable {Γ : Cx} {n : Nat} {Φ : Nat → List Val → Out Val} {A : Around} {env : Env} {Z : Led} {s : Shared} {nm : Nm} {ρ : List Val} {m : Str → Option Value}
theorem subscripted_plain {slice : Expr} (h : notSlice slice = true) (o i : Value) : subscripted slice false o i = operate [o, i] (getItem o i) := by
  cases slice <;> first | rfl | exact (Bool.false_ne_true h).elim
theorem RepV.toB {v : Value} {x : Val} {d : Dat} {fr : Addr → Prop} {h : Heap} (r : RepV Γ Z fr h v x) (e : needB x = .ok d) (np : ∀ d ds, x ≠ .pr d ds) : RepB Z h v d := by
  cases x with
  | un => cases e
  | sh d => cases e; exact .inl r
  | own ds => cases e; obtain ⟨a, e, _, vs, _, p, l, r⟩ := r; exact .inr ⟨a, vs, ds, e, rfl, p, l, r⟩
  | bor ds => cases e; obtain ⟨a, vs, e, p, l, r⟩ := r; exact .inr ⟨a, vs, ds, e, rfl, p, l, r⟩
  | shop a b => cases e
  | exc c => cases e
  | pr d ds => exact absurd rfl (np d ds)
theorem signOk {x : Str} {c : Nat} {j : Nat} (o : PyData.strOk x = true) (e : x.cps[j]? = some c) : PyData.strOk ⟨#[c]⟩ = true := by
  unfold PyData.strOk at o ⊢
  rw [Array.all_eq_true'] at o
  have := o c (Array.mem_of_getElem? e)
  simpa using this
theorem idxL_cases {l : List Dat} {k : Int} {P : Out Val → Prop} (hb : P .bad) (h : ∀ j d, posOf k l.length = some j → l[j]? = some d → P (.ok (.sh d))) : P (idxL l k) := by
  unfold idxL
  cases hj : posOf k l.length with
  | none => exact hb
  | some j =>
    cases hd : l[j]? with
    | none => simp only [hd]; exact hb
    | some d => simp only [hd]; exact h j d hj hd
theorem idxS_cases {l : List Nat} {k : Int} {P : Out Val → Prop} (hb : P .bad) (h : ∀ j d, posOf k l.length = some j → l[j]? = some d → P (.ok (.sh (.str [d])))) : P (idxS l k) := by
  unfold idxS
  cases hj : posOf k l.length with
  | none => exact hb
  | some j =>
    cases hd : l[j]? with
    | none => simp only [hd]; exact hb
    | some d => simp only [hd]; exact h j d hj hd
section
variable {value slice : Expr} {k : Int} {v : Value} {t : Tok} {h₀ : Heap}
theorem item_lst {l : List Dat} (hs : notSlice slice = true) (sub : ∀ a o, Z a = some o → s.heap.get? a = some o) (ok : ∀ a o, Z a = some o → Tt o) (r : RepB Z s.heap v (.lst l)) :
    EvT Γ A env Z s (PW Γ h₀) (idxL l k) (wpt Γ A (subscriptTail value slice v (.int k t))) :=
  idxL_cases (P := fun r => EvT Γ A env Z s (PW Γ h₀) r _) .bad fun j d hj hd => by
    obtain ⟨hlt, hlo, hhi⟩ := posOf_lt hj
    obtain ⟨a, vs, rfl, p, lz, rl⟩ := r.list sub
    obtain ⟨u, hu, ru⟩ := rl.get hd
    have hlen := rl.length
    have hline : (line : Int) < 2 ^ 62 := by decide
    refine EvT.data sub ok (fun Q E hQ => tail_any p.isList.typeIs slot_list_getitem.lookup ?_ (subscripted_plain hs _ _))
    have fin := hQ u s.heap s.toks (.refl _) ru
    unfold posOf at hj
    by_cases h0 : 0 ≤ k
    · rw [if_pos h0, if_pos hhi] at hj
      cases hj
      exact wpAny_getItem_list p.isList h0 (by lia) (by simpa using hu) fin
    · rw [if_neg h0, if_pos (by lia)] at hj
      cases hj
      exact wpAny_getItem_list_neg p.isList (by lia) (by simp; lia) (by lia) (by simpa [hlen] using hu) fin
theorem item_tup {l : List Dat} (hs : notSlice slice = true) (sub : ∀ a o, Z a = some o → s.heap.get? a = some o) (ok : ∀ a o, Z a = some o → Tt o) (r : RepB Z s.heap v (.tup l)) :
    EvT Γ A env Z s (PW Γ h₀) (idxL l k) (wpt Γ A (subscriptTail value slice v (.int k t))) :=
  idxL_cases (P := fun r => EvT Γ A env Z s (PW Γ h₀) r _) .bad fun j d hj hd => by
    obtain ⟨hlt, hlo, hhi⟩ := posOf_lt hj
    obtain ⟨a, vs, q, rfl, p, lz, rl⟩ := Rep.tuple sub (r.rep nofun)
    obtain ⟨u, hu, ru⟩ := rl.get hd
    have hlen := rl.length
    have hline : (line : Int) < 2 ^ 62 := by decide
    exact EvT.data sub ok fun Q E hQ => item_tupleT (t := a) (l := vs) ⟨_, p, rfl, _, rfl⟩ (by lia) (by lia) (by rw [hlen, ← posOf_seq]; exact hj) hu (hQ u s.heap s.toks (.refl _) ru) (subscripted_plain hs _ _)
theorem item_str {l : List Nat} (hs : notSlice slice = true) (sub : ∀ a o, Z a = some o → s.heap.get? a = some o) (ok : ∀ a o, Z a = some o → Tt o) (r : RepB Z s.heap v (.str l)) :
    EvT Γ A env Z s (PW Γ h₀) (idxS l k) (wpt Γ A (subscriptTail value slice v (.int k t))) :=
  idxS_cases (P := fun r => EvT Γ A env Z s (PW Γ h₀) r _) .bad fun j c hj hd => by
    obtain ⟨hlt, hlo, hhi⟩ := posOf_lt hj
    obtain ⟨x, tk, rfl, rfl, ox, lx⟩ := r.str
    have hl : x.length = x.cps.toList.length := rfl
    have hc : x.cps[j]? = some c := by simpa using hd
    have hline : (line : Int) < 2 ^ 62 := by decide
    exact EvT.data sub ok fun Q E hQ => tail_any (typeIs_str s x tk) F.slot_str_getitem.lookup (P.getItem_str (c := c) (by simp; lia) (by rw [hl, ← posOf_seq, hj]; exact hc) (hQ _ _ _ (.refl _) (.str ⟨#[c]⟩ _ (signOk ox hc) (by show 1 ≤ line; decide)))) (subscripted_plain hs _ _)
theorem item_pr {d : Dat} {ds : List Dat} (hs : notSlice slice = true) (sub : ∀ a o, Z a = some o → s.heap.get? a = some o) (ok : ∀ a o, Z a = some o → Tt o) (r : RepV Γ Z (fun a => h₀.get? a = none) s.heap v (.pr d ds)) :
    EvT Γ A env Z s (PW Γ h₀) (if k = 0 then .ok (.sh d) else if k = 1 then .ok (.own ds) else .bad) (wpt Γ A (subscriptTail value slice v (.int k t))) := by
  obtain ⟨tt, a', u', kk, rfl, ne, f1, f2, zt, ho, rr, ow⟩ := r
  by_cases h0 : k = 0
  · rw [if_pos h0]
    subst h0
    exact EvT.data sub ok fun Q E hQ => item_tupleT (t := tt) (l := [u', .ref a']) ⟨_, ho, rfl, _, rfl⟩ (by decide) (by decide) (j := 0) rfl rfl (hQ _ s.heap s.toks (.refl _) rr) (subscripted_plain hs _ _)
  · rw [if_neg h0]
    refine EvT.guard fun h1 => ?_
    subst h1
    exact EvT.now sub ok fun Q E hQ => item_tupleT (t := tt) (l := [u', .ref a']) ⟨_, ho, rfl, _, rfl⟩ (by decide) (by decide) (j := 1) rfl rfl (hQ _ s.heap s.toks (.refl _) ⟨a', rfl, f2, ow⟩) (subscripted_plain hs _ _)
theorem ev_item {x : Val} (hs : notSlice slice = true) (sub : ∀ a o, Z a = some o → s.heap.get? a = some o) (ok : ∀ a o, Z a = some o → Tt o) (r : RepV Γ Z (fun a => h₀.get? a = none) s.heap v x) :
    EvT Γ A env Z s (PW Γ h₀) (idx2 x k) (wpt Γ A (subscriptTail value slice v (.int k t))) := by
  cases x with
  | pr d ds => exact item_pr hs sub ok r
  | own l => exact item_lst hs sub ok (r.toB rfl nofun)
  | bor l => exact item_lst hs sub ok (r.toB rfl nofun)
  | sh d =>
    cases d with
    | lst l => exact item_lst hs sub ok (.inl r)
    | tup l => exact item_tup hs sub ok (.inl r)
    | str l => exact item_str hs sub ok (.inl r)
    | _ => exact .bad
  | _ => exact .bad
end
theorem snd_idx {a i : T} (ha : SndE Γ n Φ a) (hi : SndE Γ n Φ i) : SndE Γ n Φ (.idx a i) := fun nm ρ A env Z s m e hc O AO I => inv_idx hc fun value slice pos he h1 h2 h3 => by
  subst he
  show EvT Γ A env Z s _ (ev Φ a ρ >>= fun x => ev Φ i ρ >>= intD >>= fun k => idx2 x k) _
  refine EvT.rule (fun Q E h => Subscript_ h) (EvT.bind (W2 := fun o Q E s => wpAny (model Γ.prog Γ.w) A (eval slice env) (fun i s₂ => wpAny (model Γ.prog Γ.w) A (subscriptTail value slice o i) Q E s₂) E s) (ha nm ρ A env Z s m value h2 O AO I) fun x v Z' h' tk _ g p =>
    EvT.bind (W2 := fun i => wpt Γ A (subscriptTail value slice v i)) (hi nm ρ A env Z' _ m slice h3 O AO (I.grow g)).toI fun k u Z'' h'' tk' _ g' p' => ?_)
  obtain ⟨t, rfl⟩ := p'
  exact ev_item h1 g'.sub g'.ok (RepV.grow p g')
end
end Mine
namespace Mine
open PySem PySem.Calls PyProof.Rows
section
variable {Γ : Cx} {n : Nat} {Φ : Nat → List Val → Out Val} {A : Around} {env : Env} {Z : Led} {s : Shared} {nm : Nm} {ρ : List Val} {m : Str → Option Value}
noncomputable def SndO (Γ : Cx) (n : Nat) (Φ : Nat → List Val → Out Val) (t : T) : Prop :=
  ∀ (nm : Nm) (ρ : List Val) (A : Around) (env : Env) (Z : Led) (s : Shared) (m : Str → Option Value) (e : Option Expr), chkO Γ.gs t nm env.scope e = true → EnvOk env → AOx Γ nm n A env → Inv Γ nm ρ env Z s.heap m →
    EvT Γ A env Z s (fun _ _ v k => IsPart v k) (evO Φ t ρ) (wpt Γ A (evalPart e env))
theorem evO_some {t : T} (h : t.isNil = false) : evO Φ t ρ = (ev Φ t ρ >>= intD >>= fun i => .ok (some i)) := by
  show cond t.isNil _ _ = _
  rw [h]; rfl
theorem snd_O {t : T} (H : SndE Γ n Φ t) : SndO Γ n Φ t := fun nm ρ A env Z s m e hc O AO I => by
  cases e with
  | none =>
    have hn : t.isNil = true := hc
    cases isNil_inv hn
    exact EvT.rule (fun Q E h => wpAny_pure h) (EvT.pure (v := Value.none) (x := Option.none) I.sub I.ok .none)
  | some x =>
    have hc : (!t.isNil && chk Γ.gs t nm env.scope x) = true := hc
    rw [evO_some (not_inv (and_inv hc).1)]
    exact (H nm ρ A env Z s m x (and_inv hc).2 O AO I).toI.conv fun Z' h' v i g p => .inr ⟨some i, Z', rfl, g, by obtain ⟨t, rfl⟩ := p; exact .int i t⟩
theorem cut_pick {vs : List Value} {ds : List Dat} (r : RepL Z vs ds) (lo hi : Option Int) : RepL Z (slicePick vs.toArray lo hi Option.none).toList (cut lo hi ds) := by
  rw [slicePick_plain]
  simp only [List.size_toArray, r.length]
  exact ((r.drop _).take _)
theorem cut_len {α : Type} (lo hi : Option Int) (l : List α) : (cut lo hi l).length ≤ l.length := by
  unfold cut
  simp only [List.length_take, List.length_drop]
  omega
theorem strIdx_plain (lo hi : Option Int) (n : Nat) : Builtin.Str.strSliceIndices lo hi 1 n = (List.range (hi.elim n (clampAt n) - lo.elim 0 (clampAt n))).map ((lo.elim 0 (clampAt n)) + ·) := by
  have h1 : ∀ k : Int, ((clampAt n k : Nat) : Int) = max 0 (min (if k < 0 then k + n else k) n) := fun k => Int.toNat_of_nonneg (Int.le_max_left _ _)
  have h2 : Builtin.Str.strSliceIndices lo hi 1 n = sliceRange ((lo.elim 0 (clampAt n) : Nat) : Int) ((hi.elim n (clampAt n) : Nat) : Int) 1 := by
    unfold Builtin.Str.strSliceIndices
    cases lo <;> cases hi <;> simp [h1]
  rw [h2]; exact sliceRange_one _ _
theorem str_pick (x : Str) (lo hi : Option Int) : (Builtin.Str.strSliceIndices lo hi 1 x.length).filterMap (x.cps[·]?) = cut lo hi x.cps.toList := by
  rw [strIdx_plain, pick_run]
  unfold cut
  simp [Str.length]
theorem strOk_cut {x : Str} (lo hi : Option Int) (o : PyData.strOk x = true) : PyData.strOk ⟨(cut lo hi x.cps.toList).toArray⟩ = true := by
  unfold PyData.strOk at o ⊢
  rw [Array.all_eq_true'] at o ⊢
  intro c hc
  refine o c ?_
  have hm : c ∈ cut lo hi x.cps.toList := by simpa using hc
  unfold cut at hm
  exact Array.mem_toList_iff.mp (List.mem_of_mem_drop (List.mem_of_mem_take hm))
section
variable {value : Expr} {lo hi : Option Expr} {p : Pos} {l h : Option Int} {v vl vu : Value}
noncomputable abbrev slW (Γ : Cx) (A : Around) (value : Expr) (lo hi : Option Expr) (p : Pos) (v vl vu : Value) : Tr Value := fun Q E s => wpAny (model Γ.prog Γ.w) A (subscriptTail value (.Slice lo hi none p) v (.ref s.heap.objs.size)) Q E { s with heap := s.heap.push { cls := .type "slice", data := .fields #[vl, vu, .none] } }
theorem part_val {v : Value} {l : Option Int} (h : IsPart v l) : ∃ q : Option (Int × Tok), v = partValue q ∧ q.map (·.1) = l := by
  cases h with
  | none => exact ⟨none, rfl, rfl⟩
  | int i t => exact ⟨some (i, t), rfl, rfl⟩
theorem slice_lst {xs : List Dat} (sub : ∀ a o, Z a = some o → s.heap.get? a = some o) (ok : ∀ a o, Z a = some o → Tt o) (r : RepB Z s.heap v (.lst xs)) (pl : IsPart vl l) (pu : IsPart vu h) :
    EvT Γ A env Z s (PW Γ s.heap) (.ok (.own (cut l h xs))) (slW Γ A value lo hi p v vl vu) := by
  have k1 := kp_push s.heap { cls := .type "slice", data := .fields #[vl, vu, .none] }
  have g1 : Grow Z s.heap Z (s.heap.push { cls := .type "slice", data := .fields #[vl, vu, .none] }) := Grow.keep sub ok k1
  obtain ⟨a, vs, rfl, pp, lz, rl⟩ := r.list sub
  intro _ Q E hQ _
  have pp' : Heap.PlainList (s.heap.push { cls := .type "slice", data := .fields #[vl, vu, .none] }) a vs.toArray := k1.plain pp
  refine tail_any (ops := [_, _]) (T := "list") (s := { s with heap := _ }) pp'.isList.typeIs slot_list_getitem.lookup (wpAny_getItem_list_slice pp'.isList (Heap.IsSliceOf.new ..) pl pu .none (by simp) ?_ lz) rfl
  have rl' := cut_pick rl l h
  have hl2 : (slicePick vs.toArray l h none).toList.length ≤ line := by
    rw [rl'.length]; exact Nat.le_trans (cut_len _ _ _) (by rw [← rl.length]; exact lz)
  exact hQ (.own (cut l h xs)) _ Z _ s.toks rfl (g1.trans (Grow.keep g1.sub g1.ok (kp_push _ _))) (RepV.weak (own_new (Γ := Γ) g1.sub hl2 rl') fun a q => k1.none q)
theorem adj_cut (l h : Option Int) (n : Nat) : Builtin.Slice.sliceAdjust l h 1 (n : Int) = (((l.elim 0 (clampAt n) : Nat) : Int), ((h.elim n (clampAt n) : Nat) : Int)) := by
  have h1 : ∀ k : Int, ((clampAt n k : Nat) : Int) = if k < 0 then max (k + n) 0 else min k n := fun k => by unfold clampAt; split <;> omega
  unfold Builtin.Slice.sliceAdjust
  simp only [show ¬ ((1 : Int) < 0) by decide, if_false]
  cases l <;> cases h <;> simp only [Option.elim_none, Option.elim_some, h1] <;> rfl
theorem places_cut (a b : Nat) : Builtin.Slice.slicePlaces (a : Int) (b : Int) 1 = b - a := by
  unfold Builtin.Slice.slicePlaces
  simp only [show (1 : Int) > 0 by decide, if_true, Int.ediv_one]
  split <;> omega
theorem part_index {v : Value} {l : Option Int} (p : IsPart v l) {Q : Option Int → Shared → Prop} {E : Value → Shared → Prop} (hq : Q l s) : wpAny (model Γ.prog Γ.w) A (Builtin.Slice.slicePartIndex v) Q E s := by
  cases p with
  | none => exact slicePart_none hq
  | int i t => exact slicePart_int hq
theorem getItem_tuple_cut {t sl : Addr} {items : Array Value} {Q : Value → Shared → Prop} {E : Value → Shared → Prop} (ht : IsTup s.heap t items) (hs : s.heap.IsSliceOf sl vl vu .none) (pl : IsPart vl l) (pu : IsPart vu h)
    (hw : l.elim 0 (clampAt items.size) = 0 → h.elim items.size (clampAt items.size) - l.elim 0 (clampAt items.size) = items.size → Q (.ref t) s)
    (hn : Q (.ref s.heap.objs.size) { s with heap := s.heap.push { cls := .type "tuple", data := .seq (cut l h items.toList).toArray } })
    (hsz : items.size ≤ sizeLine) : wpAny (model Γ.prog Γ.w) A (getItem (.ref t) (.ref sl)) Q E s := by
  have hcut : sizeOk (.seq (cut l h items.toList).toArray) := by
    show (cut l h items.toList).toArray.size ≤ sizeLine
    rw [List.size_toArray]
    exact Nat.le_trans (cut_len _ _ _) (by rw [Array.length_toList]; exact hsz)
  obtain ⟨os, hos, hcs, hds⟩ := id hs
  have hTs : s.TypeIs (.ref sl) "slice" := ⟨os, hos, hcs⟩
  unfold getItem
  try with_reducible refine wpAny_holding ?_
  first | refine wpAny_bind (wpAny_pure ?_) | skip
  refine wpAny_bind (wpAny_sequenceKey ht.typeIs (by decide) ?_)
  refine wpAny_bind (wpAny_callSpecial?_slot (name := Str.ofString "__getitem__") ht.typeIs slot_tuple_getitem
    (wpAny_call_entry slot_tuple_getitem ht.typeIs entry_tuple_getitem ?_ (args_tuple_getitem _ _)))
  show wpAny _ _ (Builtin.Tuple.tupleItemsOf (.ref t) >>= _) _ _ s
  refine wpAny_bind (tupleItemsOf_ ht ?_)
  refine wpAny_bind (wpAny_typeOf hTs ?_)
  rw [if_pos (by decide)]
  refine wpAny_bind ?_
  unfold Builtin.Slice.sliceApplied Builtin.Slice.sliceFields
  refine wpAny_bind (wpAny_bind (wpAny_field hos hds (x := vl) rfl (wpAny_bind (wpAny_field hos hds (x := vu) rfl (wpAny_bind (wpAny_field hos hds (x := .none) rfl (wpAny_pure ?_)))))))
  refine wpAny_bind (slicePart_none ?_)
  show wpAny _ _ (if ((1 : Int) == 0) = true then _ else _) _ _ s
  rw [if_neg (by decide)]
  refine wpAny_bind (part_index pl (wpAny_bind (part_index pu (wpAny_bind (wpAny_pure ?_)))))
  show wpAny _ _ (match Builtin.Slice.sliceAdjust l h 1 (items.size : Int) with | (lo, hi) => pure (lo, (1 : Int), Builtin.Slice.slicePlaces lo hi 1)) _ _ s
  rw [adj_cut l h items.size]
  show wpAny _ _ (pure (((l.elim 0 (clampAt items.size) : Nat) : Int), (1 : Int), Builtin.Slice.slicePlaces ((l.elim 0 (clampAt items.size) : Nat) : Int) ((h.elim items.size (clampAt items.size) : Nat) : Int) 1)) _ _ s
  rw [places_cut]
  refine wpAny_pure ?_
  have epick : ((List.range (h.elim items.size (clampAt items.size) - l.elim 0 (clampAt items.size))).filterMap fun (k : Nat) => items[(((l.elim 0 (clampAt items.size) : Nat) : Int) + (k : Int) * 1).toNat]?).toArray = (cut l h items.toList).toArray := by
    have e : (fun (k : Nat) => items[(((l.elim 0 (clampAt items.size) : Nat) : Int) + (k : Int) * 1).toNat]?) = fun k => items[l.elim 0 (clampAt items.size) + k]? := by
      funext k
      rw [show (((l.elim 0 (clampAt items.size) : Nat) : Int) + (k : Int) * 1).toNat = l.elim 0 (clampAt items.size) + k by omega]
    rw [e]
    have := pick_run items (l.elim 0 (clampAt items.size)) (h.elim items.size (clampAt items.size) - l.elim 0 (clampAt items.size))
    rw [List.filterMap_map] at this
    exact congrArg List.toArray (this.trans (by unfold cut; rw [Array.length_toList]))
  show wpAny _ _ (if (((l.elim 0 (clampAt items.size) : Nat) : Int) == 0 && (1 : Int) == 1 && (h.elim items.size (clampAt items.size) - l.elim 0 (clampAt items.size)) == items.size) = true then _ else _) _ _ s
  by_cases hc : (((l.elim 0 (clampAt items.size) : Nat) : Int) == 0 && (1 : Int) == 1 && (h.elim items.size (clampAt items.size) - l.elim 0 (clampAt items.size)) == items.size) = true
  · rw [if_pos hc]
    simp only [Bool.and_eq_true, beq_iff_eq] at hc
    have hq := hw (by omega) hc.2
    unfold Builtin.Tuple.tupleIsExact
    refine wpAny_bind (wpAny_bind (wpAny_typeOf ht.typeIs (wpAny_pure ?_)))
    rw [if_pos (by decide)]
    exact wpAny_bind (wpAny_rule (wpAny_pure ⟨_, rfl, wpAny_pure hq⟩))
  · rw [if_neg hc, epick]
    first
      | exact wpAny_bind (m := Builtin.Tuple.tupleExact _) (wpAny_newObj_type (wpAny_pure ⟨_, rfl, wpAny_pure hn⟩) hcut)
      | exact wpAny_bind (m := Builtin.Tuple.tupleExact _) (wpAny_newObj_type (wpAny_bind (wpAny_pure (wpAny_pure ⟨_, rfl, wpAny_pure hn⟩))) hcut)
      | exact wpAny_bind (wpAny_bind (m := Builtin.Tuple.tupleExact _) (wpAny_newObj_type (wpAny_pure (wpAny_pure ⟨_, rfl, wpAny_pure hn⟩)) hcut))
      | exact wpAny_bind (wpAny_bind (m := Builtin.Tuple.tupleExact _) (wpAny_newObj_type (wpAny_pure ⟨_, rfl, wpAny_pure hn⟩) hcut))
theorem slice_tup {xs : List Dat} (sub : ∀ a o, Z a = some o → s.heap.get? a = some o) (ok : ∀ a o, Z a = some o → Tt o) (r : RepB Z s.heap v (.tup xs)) (pl : IsPart vl l) (pu : IsPart vu h) :
    EvT Γ A env Z s (PW Γ s.heap) (.ok (.sh (.tup (cut l h xs)))) (slW Γ A value lo hi p v vl vu) := by
  have k1 := kp_push s.heap { cls := .type "slice", data := .fields #[vl, vu, .none] }
  have g1 : Grow Z s.heap Z (s.heap.push { cls := .type "slice", data := .fields #[vl, vu, .none] }) := Grow.keep sub ok k1
  obtain ⟨q, vs, k, rfl, pp, lz, rl⟩ := Rep.tuple sub (r.rep nofun)
  have rr0 := r.rep nofun
  intro _ Q E hQ _
  have hlen := rl.length
  have ht' : IsTup (s.heap.push { cls := .type "slice", data := .fields #[vl, vu, .none] }) q vs.toArray := ⟨_, k1 _ _ pp, rfl, _, rfl⟩
  refine tail_any (ops := [_, _]) (T := "tuple") (s := { s with heap := _ }) ht'.typeIs slot_tuple_getitem.lookup (getItem_tuple_cut ht' (Heap.IsSliceOf.new ..) pl pu (fun e1 e2 => ?_) ?_ lz) rfl
  · rw [List.size_toArray, hlen] at e1 e2
    have hw : cut l h xs = xs := by unfold cut; rw [e2, e1, List.drop_zero, List.take_length]
    rw [hw] at hQ
    exact hQ _ _ Z _ s.toks rfl g1 rr0
  · have rc : RepL Z (cut l h vs) (cut l h xs) := by unfold cut; rw [hlen]; exact (rl.drop _).take _
    obtain ⟨Z', g, rr⟩ := tup_new g1.sub g1.ok (Nat.le_trans (cut_len _ _ _) lz) rc
    exact hQ _ _ Z' _ s.toks rfl (g1.trans g) rr
theorem cut_whole {x : Str} (hw2 : h.elim x.length (clampAt x.length) - l.elim 0 (clampAt x.length) = x.length) : cut l h x.cps.toList = x.cps.toList := by
  have hle : h.elim x.length (clampAt x.length) ≤ x.length := by
    cases h with
    | none => exact Nat.le_refl _
    | some k => show clampAt x.length k ≤ x.length; unfold clampAt; omega
  have h0 : l.elim 0 (clampAt x.length) = 0 ∨ x.length = 0 := by omega
  have hs' : x.cps.toList.length = x.length := rfl
  unfold cut
  rw [hs']
  rcases h0 with h0 | h0
  · rw [h0, List.drop_zero]
    exact List.take_of_length_le (by rw [hs']; omega)
  · have : x.cps.toList = [] := List.eq_nil_of_length_eq_zero (by rw [hs']; exact h0)
    rw [this]; simp
theorem slice_str {x : Str} {tk : Tok} (sub : ∀ a o, Z a = some o → s.heap.get? a = some o) (ok : ∀ a o, Z a = some o → Tt o) (ox : PyData.strOk x = true) (lx : x.length ≤ line) (pl : IsPart vl l) (pu : IsPart vu h) :
    EvT Γ A env Z s (PW Γ s.heap) (.ok (.sh (.str (cut l h x.cps.toList)))) (slW Γ A value lo hi p (.str x tk) vl vu) := by
  intro _ Q E hQ _
  have g1 : Grow Z s.heap Z (s.heap.push { cls := .type "slice", data := .fields #[vl, vu, .none] }) := Grow.keep sub ok (kp_push _ _)
  obtain ⟨pl', rfl, rfl⟩ := part_val pl
  obtain ⟨pu', rfl, rfl⟩ := part_val pu
  refine tail_any (ops := [_, _]) (T := "str") (s := { s with heap := _ }) (typeIs_str _ x tk) F.slot_str_getitem.lookup (wpAny_getItem_str_slice (l := pl') (u := pu') (st := none) ⟨_, Heap.get?_push_size _ rfl, rfl, rfl⟩ rfl ?_) rfl
  have hp : (slicePicked x pl' pu' none).filterMap (x.cps[·]?) = cut (pl'.map (·.1)) (pu'.map (·.1)) x.cps.toList := str_pick x _ _
  have hpl3 : (slicePicked x pl' pu' none).length = ((pu'.map (·.1)).elim x.length (clampAt x.length) - (pl'.map (·.1)).elim 0 (clampAt x.length)) := by
    show (Builtin.Str.strSliceIndices _ _ 1 x.length).length = _
    rw [strIdx_plain]; simp
  have hcl : (cut (pl'.map (·.1)) (pu'.map (·.1)) x.cps.toList).length ≤ line := Nat.le_trans (cut_len _ _ _) lx
  unfold sliceMade
  split
  · rename_i hw
    have hw2 : (slicePicked x pl' pu' none).length = x.length := by simpa using hw
    refine hQ _ _ Z _ s.toks rfl g1 ?_
    show Rep Z (.str x tk) (.str (cut _ _ x.cps.toList))
    rw [cut_whole (hpl3 ▸ hw2)]; exact .str x tk ox lx
  · rw [hp]
    exact ⟨hcl, hQ _ _ Z _ _ rfl g1 (Rep.str (Z := Z) ⟨(cut _ _ x.cps.toList).toArray⟩ s.toks (strOk_cut _ _ ox) hcl)⟩
theorem ev_slice {d : Dat} (sub : ∀ a o, Z a = some o → s.heap.get? a = some o) (ok : ∀ a o, Z a = some o → Tt o) (r : RepB Z s.heap v d) (pl : IsPart vl l) (pu : IsPart vu h) :
    EvT Γ A env Z s (PW Γ s.heap) (sl2 d l h) (slW Γ A value lo hi p v vl vu) := by
  cases d with
  | lst xs => exact slice_lst sub ok r pl pu
  | tup xs =>
    exact slice_tup sub ok r pl pu
  | str xs =>
    obtain ⟨x, tk, rfl, rfl, ox, lx⟩ := r.str
    exact slice_str sub ok ox lx pl pu
  | _ => exact .bad
end
theorem snd_sl {a lo hi : T} (ha : SndE Γ n Φ a) (hl : SndO Γ n Φ lo) (hh : SndO Γ n Φ hi) : SndE Γ n Φ (.sl a lo hi) := fun nm ρ A env Z s m e hc O AO I => inv_sl hc fun value l u p pos he h1 h2 h3 => by
  subst he
  show EvT Γ A env Z s _ (ev Φ a ρ >>= needB >>= fun x => evO Φ lo ρ >>= fun l => evO Φ hi ρ >>= fun h => sl2 x l h) _
  refine EvT.rule (fun Q E h => Subscript_ h) (EvT.bind (W2 := fun o Q E s => wpAny (model Γ.prog Γ.w) A (eval (.Slice l u none p) env) (fun i s₂ => wpAny (model Γ.prog Γ.w) A (subscriptTail value (.Slice l u none p) o i) Q E s₂) E s) (ha nm ρ A env Z s m value h1 O AO I).toB fun x v Z' h' tk _ g q => ?_)
  refine EvT.rule (fun Q E h => wpAny_Slice h) (EvT.bind (W2 := fun vl Q E s => wpAny (model Γ.prog Γ.w) A (evalPart u env) (fun vu s₂ => wpAny (model Γ.prog Γ.w) A (evalPart none env) (fun st s₃ => wpAny (model Γ.prog Γ.w) A (subscriptTail value (.Slice l u none p) v (.ref s₃.heap.objs.size)) Q E { s₃ with heap := s₃.heap.push { cls := .type "slice", data := .fields #[vl, vu, st] } }) E s₂) E s) (hl nm ρ A env Z' _ m l h2 O AO (I.grow g)) fun lo' vl Z2 h2 tk2 _ g2 q2 => ?_)
  exact EvT.bind (W2 := fun vu Q E s => wpAny (model Γ.prog Γ.w) A (evalPart none env) (fun st s₃ => wpAny (model Γ.prog Γ.w) A (subscriptTail value (.Slice l u none p) v (.ref s₃.heap.objs.size)) Q E { s₃ with heap := s₃.heap.push { cls := .type "slice", data := .fields #[vl, vu, st] } }) E s) (hh nm ρ A env Z2 _ m u h3 O AO ((I.grow g).grow g2)) fun hi' vu Z3 h3 tk3 _ g3 q3 =>
    EvT.old ((g.trans g2).trans g3) (EvT.rule (fun Q E h => wpAny_pure h) (ev_slice g3.sub g3.ok ((q.grow g2).grow g3) q2 q3))
end
end Mine
namespace Mine
open PySem PySem.Calls PyProof.Rows
section
variable {Γ : Cx} {n : Nat} {Φ : Nat → List Val → Out Val} {A : Around} {env : Env} {Z : Led} {s : Shared} {nm : Nm} {ρ : List Val} {m : Str → Option Value}
noncomputable def noStars : List Expr → Bool
  | [] => true
  | x :: r => notStar x && noStars r
theorem chkT_stars {gs : Gs} {sc : Scope} : ∀ {t : T} {es : List Expr}, chkT gs t nm sc es = true → noStars es = true := by
  intro t
  induction t with
  | nil => intro es h; cases inv_nilT h; rfl
  | cons a b _ ih => exact fun h => inv_consT h fun x r he h1 _ h3 => by subst he; show (notStar x && noStars r) = true; rw [h1, ih h3]; rfl
  | _ => exact fun h => (Bool.false_ne_true h).elim
theorem stars_plain {pos : Pos} : ∀ {es : List Expr}, noStars es = true → (backTo pos (starEach es env)).any (·.1) = false
  | [], _ => rfl
  | x :: r, h => by
    rw [star_cons (and_inv h).1]
    exact stars_plain (and_inv h).2
theorem chkT_plain {gs : Gs} {sc : Scope} {pos : Pos} {es : List Expr} {t : T} (h : chkT gs t nm sc es = true) : (backTo pos (starEach es env)).any (·.1) = false := stars_plain (chkT_stars h)
theorem evalArgs_all {f : Value} {gs : Gs} {sc : Scope} {pos : Pos} {es : List Expr} {t : T} (hc : chkT gs t nm sc es = true) {Q : Args → Shared → Prop} {E : Value → Shared → Prop}
    (h : wpAny (model Γ.prog Γ.w) A (spliced (backTo pos (starEach es env))) (fun vs s' => Q ⟨vs, []⟩ s') E s) : wpAny (model Γ.prog Γ.w) A (evalArgs f true (backTo pos (starEach es env)) []) Q E s := by
  have hc := chkT_stars hc
  cases es with
  | nil =>
    have h : wpAny (model Γ.prog Γ.w) A (spliced []) (fun vs s' => Q ⟨vs, []⟩ s') E s := h
    show wpAny _ _ (evalArgs f true [] []) _ _ _
    unfold evalArgs
    show wpAny _ _ (spliced [] >>= _) Q E s
    refine wpAny_bind (wpAny_mono h (fun vs s' h' => wpAny_bind (wpAny_pure ?_)) fun _ _ x => x)
    exact wpAny_holding (wpAny_bind (wpAny_pure (wpAny_bind (wpAny_pure (wpAny_pure h')))))
  | cons x r =>
    rw [star_cons (and_inv hc).1] at h ⊢
    exact evalArgs_plain h
noncomputable def isBT (v : Value) : Bool := v.ctorIdx == (Value.builtin "").ctorIdx || v.ctorIdx == (Value.type "").ctorIdx
theorem callWith_bt {fv : Value} (hb : isBT fv = true) {first : List Value} {gs : Gs} {sc : Scope} {pos : Pos} {es : List Expr} {t : T} (hc : chkT gs t nm sc es = true) {Q : Value → Shared → Prop} {E : Value → Shared → Prop}
    (h : wpAny (model Γ.prog Γ.w) A (spliced (backTo pos (starEach es env))) (fun vs s' => wpAny (model Γ.prog Γ.w) A (call fv (first ++ vs)) Q E s') E s) :
    wpAny (model Γ.prog Γ.w) A (callWith pos fv first (backTo pos (starEach es env)) []) Q E s := by
  cases fv <;> first | cases hb | skip
  · exact PyProof.Rows.callWith_type (chkT_plain hc) (evalArgs_all hc h)
  · exact callWith_builtin (chkT_plain hc) (evalArgs_all hc h)
theorem ev_call_bt {α : Type} {P : Led → Heap → Value → α → Prop} (C : CxOk Γ) {x : Str} {fv : Value} (hb : isBT fv = true) (hd : notDebug x = true) (hg : globOf Γ.gs env.scope x = some (.bi fv)) {ts : T} (H : SndL Γ n Φ ts) {es : List Expr} (hc : chkT Γ.gs ts nm env.scope es = true)
    (O : EnvOk env) (AO : AOx Γ nm n A env) (I : Inv Γ nm ρ env Z s.heap m) (f : List Val → Out α)
    (K : ∀ xs vs Z' h' tk, Grow Z s.heap Z' h' → RepVs Γ Z' h' vs xs → vs.length = es.length → EvT Γ A env Z' { s with heap := h', toks := tk } P (f xs) (wpt Γ A (call fv vs))) {p pos : Pos} :
    EvT Γ A env Z s P (evT Φ ts ρ >>= f) (wpt Γ A (eval (.Call (.Name x p) es [] pos) env)) := by
  obtain ⟨k, l⟩ := globOf_kind hg
  obtain ⟨e1, e2⟩ := C.gl _ _ l
  refine EvT.rule (fun Q E h => Call_ (load_bui O C.g C.b I k e1 e2 hd (callWith_bt hb hc h))) (EvT.bind (W2 := fun vs => wpt Γ A (call fv vs)) (H nm ρ A env Z s m es pos hc O AO I) fun xs vs Z' h' tk _ g q => ?_)
  exact K xs vs Z' h' tk g q.1 q.2
theorem RepL.ints {vs : List Value} {ds : List Dat} {r : List Int} (R : RepL Z vs ds) (h : intsOf ds = some r) : ∃ xs : List (Int × Tok), vs = xs.map (fun p => Value.int p.1 p.2) ∧ xs.map (·.1) = r := by
  induction vs generalizing ds r with
  | nil => cases R; cases h; exact ⟨[], rfl, rfl⟩
  | cons v vs ih =>
    cases R with
    | @cons _ d _ ds a b =>
      cases d <;> first | (cases h; done) | skip
      rename_i i
      have h : (intsOf ds).map (i :: ·) = some r := h
      obtain ⟨r', h', rfl⟩ := Option.map_eq_some_iff.mp h
      obtain ⟨xs, e1, e2⟩ := ih b h'
      obtain ⟨t, rfl⟩ := a.int_inv
      exact ⟨(i, t) :: xs, congrArg (_ :: ·) e1, congrArg (i :: ·) e2⟩
theorem minL_le : ∀ (r : List Int) (a : Int), minL a r ≤ a ∧ (∀ b ∈ r, minL a r ≤ b) ∧ (minL a r = a ∨ minL a r ∈ r)
  | [], a => ⟨Int.le_refl _, (fun _ h => absurd h List.not_mem_nil), .inl rfl⟩
  | b :: r, a => by
    obtain ⟨h1, h2, h3⟩ := minL_le r (if b < a then b else a)
    simp only [minL]
    by_cases h : b < a
    · rw [if_pos h] at h1 h2 h3 ⊢
      refine ⟨by lia, fun c hc => ?_, ?_⟩
      · rcases List.mem_cons.mp hc with rfl | hc
        · exact h1
        · exact h2 c hc
      · rcases h3 with h3 | h3
        · exact .inr (by rw [h3]; exact List.mem_cons_self)
        · exact .inr (List.mem_cons_of_mem _ h3)
    · rw [if_neg h] at h1 h2 h3 ⊢
      refine ⟨h1, fun c hc => ?_, ?_⟩
      · rcases List.mem_cons.mp hc with rfl | hc
        · lia
        · exact h2 c hc
      · rcases h3 with h3 | h3
        · exact .inl h3
        · exact .inr (List.mem_cons_of_mem _ h3)
theorem min_pick {xs : List (Int × Tok)} {a : Int} {r : List Int} (hx : xs.map (·.1) = a :: r) {v : Value} (h : (intItems xs.toArray)[argBest (fun i j => decide (numAt xs.toArray i < numAt xs.toArray j)) (xs.toArray.size - 1)]? = some v) : ∃ t, v = .int (minL a r) t := by
  obtain ⟨t, rfl⟩ := intItems_at h
  obtain ⟨h1, h2⟩ := argBest_lt (numAt xs.toArray) (xs.toArray.size - 1)
  generalize argBest (fun i j => decide (numAt xs.toArray i < numAt xs.toArray j)) (xs.toArray.size - 1) = k at *
  have hn : ∀ j, numAt xs.toArray j = ((a :: r)[j]?).getD 0 := fun j => by rw [← hx]; simp [numAt]
  have hl : xs.length = r.length + 1 := by rw [← List.length_map (f := (·.1)) (as := xs), hx]; rfl
  have hs : xs.toArray.size - 1 = r.length := by simp [hl]
  rw [hs] at h1 h2
  obtain ⟨m1, m2, m3⟩ := minL_le r a
  have e : numAt xs.toArray k = minL a r := by
    refine Int.le_antisymm ?_ ?_
    · rcases m3 with m3 | m3
      · have := h2 0 (by lia); rw [hn 0] at this; simp at this; rw [m3]; exact this
      · obtain ⟨j, hj, ej⟩ := List.getElem_of_mem m3
        have := h2 (j + 1) (by lia)
        rw [hn (j + 1)] at this
        simp [List.getElem?_eq_getElem hj, ej] at this
        exact this
    · rw [hn k]
      cases k with
      | zero => simpa using m1
      | succ k => 
        have hk : k < r.length := by lia
        simp [List.getElem?_eq_getElem hk]
        exact m2 _ (List.getElem_mem hk)
  exact ⟨t, by rw [e]⟩
theorem intItems_of (xs : List (Int × Tok)) : (xs.map (fun p => Value.int p.1 p.2)).toArray = intItems xs.toArray := by simp [intItems]
theorem strOk_int (i : Int) : PyData.strOk (Str.ofString (toString i)) = true := by
  rw [Str.ofString_eq_toList]
  unfold PyData.strOk
  simp only [List.all_toArray, List.all_map, List.all_eq_true]
  intro c _
  simp only [Function.comp, decide_eq_true_eq]
  have := c.valid
  rcases this with h | h
  · have : c.toNat < 55296 := h
    lia
  · exact h.2
section
variable {h₀ : Heap} {vs : List Value} {ds : List Dat} {v u : Value}
theorem RepBs.one {f : Dat → Out Dat} {W : List Value → Tr Value} (r : RepBs Z s.heap vs ds) (H : ∀ v d, RepB Z s.heap v d → EvT Γ A env Z s (PW Γ h₀) (f d >>= fun d => .ok (.sh d)) (W [v])) : EvT Γ A env Z s (PW Γ h₀) (on1 f ds >>= fun d => .ok (.sh d)) (W vs) := by
  cases r with
  | nil => exact .bad
  | cons a r =>
    cases r with
    | nil => exact H _ _ a
    | cons => exact .bad
theorem RepBs.m12 {f : Dat → Out Dat} {g : Dat → Dat → Out Dat} {W : List Value → Tr Value} (r : RepBs Z s.heap vs ds) (H : ∀ v d, RepB Z s.heap v d → EvT Γ A env Z s (PW Γ h₀) (f d >>= fun d => .ok (.sh d)) (W [v]))
    (H2 : ∀ v d u e, RepB Z s.heap v d → RepB Z s.heap u e → EvT Γ A env Z s (PW Γ h₀) (g d e >>= fun d => .ok (.sh d)) (W [v, u])) : EvT Γ A env Z s (PW Γ h₀) (Mine.m12 f g ds >>= fun d => .ok (.sh d)) (W vs) := by
  cases r with
  | nil => exact .bad
  | cons a r =>
    cases r with
    | nil => exact H _ _ a
    | cons b r =>
      cases r with
      | nil => exact H2 _ _ _ _ a b
      | cons => exact .bad
theorem ev_on2 {f : Int → Int → Int} {d e : Dat} {W : Tr Value} (a : RepB Z s.heap v d) (b : RepB Z s.heap u e) (H : ∀ i t j t', v = .int i t → u = .int j t' → EvT Γ A env Z s (PW Γ h₀) (.ok (.sh (.int (f i j)))) W) : EvT Γ A env Z s (PW Γ h₀) (on2 f d e >>= fun d => .ok (.sh d)) W := by
  cases d <;> first | exact .bad | skip
  cases e <;> first | exact .bad | skip
  obtain ⟨t, e1⟩ := a.int
  obtain ⟨t', e2⟩ := b.int
  exact H _ _ _ _ e1 e2
theorem line_lt {k : Nat} (h : k ≤ line) : ¬ ((k : Int) ≥ 2 ^ 63) := by
  have : line = 16777216 := rfl
  lia
theorem line_lt' {k : Nat} (h : k ≤ line) : (k : Int) < 2 ^ 63 := by
  have : line = 16777216 := rfl
  lia
theorem bi_len {d : Dat} (sub : ∀ a o, Z a = some o → s.heap.get? a = some o) (ok : ∀ a o, Z a = some o → Tt o) (a : RepB Z s.heap v d) : EvT Γ A env Z s (PW Γ h₀) (lenD d >>= fun d => .ok (.sh d)) (wpt Γ A (call (.builtin "len") [v])) := by
  cases d with
  | str x =>
    obtain ⟨x, t, rfl, rfl, o, l⟩ := a.str
    exact EvT.data sub ok fun _ _ hQ => P.len_str (line_lt l) (hQ _ _ _ (.refl _) (.int _ _))
  | lst x =>
    obtain ⟨l, vs, rfl, p, z, rl⟩ := a.list sub
    exact EvT.data sub ok fun _ _ hQ => len_list p.isList (line_lt' z) (hQ _ _ _ (.refl _) (by rw [← rl.length]; exact .int _ _))
  | tup x =>
    obtain ⟨l, vs, k, rfl, p, z, rl⟩ := Rep.tuple sub (a.rep nofun)
    exact EvT.data sub ok fun _ _ hQ => len_tuple ⟨_, p, rfl, _, rfl⟩ (line_lt' z) (hQ _ _ _ (.refl _) (by rw [← rl.length]; exact .int _ _))
  | _ => exact .bad
theorem bi_str {d : Dat} (sub : ∀ a o, Z a = some o → s.heap.get? a = some o) (ok : ∀ a o, Z a = some o → Tt o) (a : RepB Z s.heap v d) : EvT Γ A env Z s (PW Γ h₀) (strD d >>= fun d => .ok (.sh d)) (wpt Γ A (call (.type "str") [v])) := by
  cases d with
  | str x =>
    obtain ⟨x, t, rfl, rfl, o, l⟩ := a.str
    exact EvT.data sub ok fun _ _ hQ => P.str_of_str (hQ _ s.heap s.toks (.refl _) (.str x t o l))
  | int i =>
    obtain ⟨t, rfl⟩ := a.int
    show EvT Γ A env Z s (PW Γ h₀) ((if _ then Out.ok (Dat.str (strOfInt i)) else .bad) >>= _) _
    by_cases hi : i.natAbs < 2 ^ 64 ∧ (strOfInt i).length ≤ line
    · rw [if_pos hi]
      have hs := Rep.str (Z := Z) (Str.ofString (toString i)) s.toks (strOk_int i) (by rw [Str.ofString_eq_toList]; simpa [Str.length, strOfInt] using hi.2)
      refine EvT.data sub ok fun _ _ hQ => P.str_of_int ?_ (hQ _ _ _ (.refl _) (by rw [Str.ofString_eq_toList] at hs ⊢; exact hs))
      by_cases h0 : i.natAbs = 0
      · rw [h0]; decide
      · exact Nat.lt_of_lt_of_le ((Nat.log2_lt h0).mpr hi.1) (by decide)
    · rw [if_neg hi]; exact .bad
  | _ => exact .bad
theorem bi_min {d : Dat} (sub : ∀ a o, Z a = some o → s.heap.get? a = some o) (ok : ∀ a o, Z a = some o → Tt o) (hh : A.handled = none) (a : RepB Z s.heap v d) : EvT Γ A env Z s (PW Γ h₀) (minD d >>= fun d => .ok (.sh d)) (wpt Γ A (call (.builtin "min") [v])) := by
  cases d <;> first | exact .bad | skip
  rename_i l0
  obtain ⟨l, vs, rfl, p, z, rl⟩ := a.list sub
  show EvT Γ A env Z s (PW Γ h₀) (minI (intsOf l0) >>= _) _
  cases hi : intsOf l0 with
  | none => exact .bad
  | some r =>
    cases r with
    | nil => exact .bad
    | cons b r =>
      obtain ⟨xs, e1, e2⟩ := rl.ints hi
      subst e1
      rw [intItems_of] at p
      refine EvT.data sub ok fun _ _ hQ => min_intList hh p.isList ?_ fun v h' tk hv k => hQ _ h' tk (Kp.of k) ?_
      · cases xs with
        | nil => cases e2
        | cons => simp
      · obtain ⟨t, rfl⟩ := min_pick e2 hv
        exact .int _ _
theorem bi_sum {d : Dat} (sub : ∀ a o, Z a = some o → s.heap.get? a = some o) (ok : ∀ a o, Z a = some o → Tt o) (hh : A.handled = none) (a : RepB Z s.heap v d) : EvT Γ A env Z s (PW Γ h₀) (sumD d >>= fun d => .ok (.sh d)) (wpt Γ A (call (.builtin "sum") [v])) := by
  cases d <;> first | exact .bad | skip
  rename_i l0
  obtain ⟨l, vs, rfl, p, z, rl⟩ := a.list sub
  show EvT Γ A env Z s (PW Γ h₀) (sumI (intsOf l0) >>= _) _
  cases hi : intsOf l0 with
  | none => exact .bad
  | some r =>
    obtain ⟨xs, e1, e2⟩ := rl.ints hi
    subst e1
    rw [intItems_of] at p
    refine EvT.data sub ok fun _ _ hQ => sum_intListG hh p.isList fun h' tk t' k => hQ _ h' tk (Kp.of k) ?_
    rw [preSum_eq, List.take_of_length_le (by simp), show xs.toArray.toList.map (·.1) = _ from e2]
    exact .int _ _
theorem ev_bi {b : BI} (sub : ∀ a o, Z a = some o → s.heap.get? a = some o) (ok : ∀ a o, Z a = some o → Tt o) (hq : quietBi b = false → A.handled = none) (r : RepBs Z s.heap vs ds) :
    EvT Γ A env Z s (PW Γ h₀) (biD b ds >>= fun d => .ok (.sh d)) (wpt Γ A (call (biV b) vs)) := by
  cases b
  · exact r.one (W := fun vs => wpt Γ A (call (.builtin "len") vs)) fun v d a => bi_len sub ok a
  · refine r.one (W := fun vs => wpt Γ A (call (.type "int") vs)) fun v d a => ?_
    cases d with
    | bool b =>
      cases a.rep nofun
      exact EvT.data sub ok fun _ _ hQ => call_int_bool (hQ _ _ _ (.refl _) (.int _ _))
    | str y =>
      obtain ⟨x, t, rfl, rfl, ox, lx⟩ := a.str
      refine EvT.eq (EvT.guard (c := figs x.cps.toList = true) (r := .ok (.sh (.int (valOf x.cps.toList : Nat)))) fun hf => EvT.data sub ok fun _ _ hQ => ?_) ?_
      · have hf3 := and3 hf
        have hd : NumText.AllDigits x.cps.toList := fun c hc => by
          have := and_inv (List.all_eq_true.mp hf3.1 c hc)
          exact ⟨Nat.le_of_ble_eq_true this.1, Nat.le_of_ble_eq_true this.2⟩
        have hl : x.length ≤ 600 := by
          have := Nat.le_of_ble_eq_true hf3.2.2
          rw [Array.length_toList] at this
          exact this
        have hne : x.cps.toList ≠ [] := fun q => by
          have := hf3.2.1
          rw [q] at this; cases this
        exact PySem.W.KIN.call_text (PySem.intText_digits hd hne (Nat.le_trans hl (by decide))) (Nat.le_trans hl (by decide)) (hQ _ _ _ (.refl _) (.int _ _))
      · show ((if figs x.cps.toList = true then Out.ok (Dat.int (valOf x.cps.toList : Nat)) else .bad) >>= fun d => Out.ok (Val.sh d)) = _
        split <;> rfl
    | _ => exact .bad
  · exact r.one (W := fun vs => wpt Γ A (call (.type "str") vs)) fun v d a => bi_str sub ok a
  · refine r.m12 (W := fun vs => wpt Γ A (call (.builtin "min") vs)) (fun v d a => bi_min sub ok (hq rfl) a) fun v d u e a b => ev_on2 a b fun i t j t' e1 e2 => ?_
    subst e1 e2
    exact EvT.data sub ok fun _ _ hQ => min_two_ints (hq rfl) fun h' tk k => hQ _ h' tk (Kp.of k) (by split <;> exact .int _ _)
  · refine r.m12 (W := fun vs => wpt Γ A (call (.builtin "max") vs)) (fun v d a => .bad) fun v d u e a b => ev_on2 a b fun i t j t' e1 e2 => ?_
    subst e1 e2
    exact EvT.data sub ok fun _ _ hQ => max_two_ints (hq rfl) fun h' tk k => hQ _ h' tk (Kp.of k) (by split <;> exact .int _ _)
  · exact r.one (W := fun vs => wpt Γ A (call (.builtin "sum") vs)) fun v d a => bi_sum sub ok (hq rfl) a
  · refine r.one (W := fun vs => wpt Γ A (call (.builtin "abs") vs)) fun v d a => ?_
    cases d <;> first | exact .bad | skip
    obtain ⟨t, rfl⟩ := a.int
    exact EvT.data sub ok fun _ _ hQ => call_abs_int fun u tk => hQ _ _ _ (.refl _) (.int _ _)
end
theorem biV_bt (b : BI) : isBT (biV b) = true := by cases b <;> rfl
theorem EvT.allB {α : Type} {P : Led → Heap → Value → α → Prop} {h : Heap} {vs : List Value} {xs : List Val} {f : List Dat → Out α} {W : Tr Value} (r : RepVs Γ Z h vs xs) (H : ∀ ds, RepBs Z h vs ds → EvT Γ A env Z s P (f ds) W) : EvT Γ A env Z s P (Mine.allB xs >>= f) W := by
  rcases r.borrow with q | ⟨ds, q, r⟩
  · rw [q]; exact .bad
  · rw [q]; exact H ds r
theorem snd_bi (C : CxOk Γ) {b : BI} {ts : T} (H : SndL Γ n Φ ts) : SndE Γ n Φ (.bi b ts) := fun nm ρ A env Z s m e hc O AO I => inv_bi hc fun x p es pos he h1 h2 h3 => by
  subst he
  refine EvT.eq (ev_call_bt C (biV_bt b) h1 h2 H h3 O AO I (fun xs => allB xs >>= fun ds => biD b ds >>= fun d => .ok (.sh d)) fun xs vs Z' h' tk g q _ => EvT.allB q fun ds r => ev_bi g.sub g.ok (fun q => (loud_bi hc).elim AO.hd fun w => by rw [w] at q; cases q) r) ?_
  show (evT Φ ts ρ >>= allB >>= biD b >>= fun d => Out.ok (Val.sh d)) = _
  rw [Out.bind_assoc, Out.bind_assoc]
end
end Mine
namespace Mine
open PySem PySem.Calls PyProof.Rows PySem.Builtin PySem.Builtin.ObjectAttr PySem.Builtin.Getset_descriptor
section
variable {prog : Program} {w : World} {A : Around} {E : Value → Shared → Prop} {s : Shared} {K : PySem.W.Frag} {x D : Addr} {o : Obj}
theorem excGet_inv (h : excGet K D = true) : PySem.W.findIn K (.ref D) "__getattribute__" = some (some (.builtin "BaseException.__getattribute__")) ∧ PySem.W.findIn K (.ref D) "__getattr__" = some none ∧ PySem.W.findIn K (.ref D) "__class__" = some (some (.builtin "object.__class__")) ∧
    PySem.W.mroIn K D (.type "object") = some true ∧ PySem.W.subIn K (.ref D) (.type "BaseException") = some true ∧ (PySem.W.clsIn K D).isSome = true := by
  unfold excGet at h
  have h := and6 h
  exact ⟨beq_iff_eq.mp h.1, beq_iff_eq.mp h.2.1, beq_iff_eq.mp h.2.2.1, beq_iff_eq.mp h.2.2.2.1, beq_iff_eq.mp h.2.2.2.2.1, h.2.2.2.2.2⟩
theorem exc_class {Q : Option Value → Shared → Prop} (X : K.In s.heap) (hg : excGet K D = true) (hx : s.heap.get? x = some o) (hc : o.cls = .ref D) (h : Q (some (.ref D)) { s with toks := s.toks + 1 }) : wpAny (model prog w) A (getAttr? (.ref x) "__class__") Q E s := by
  obtain ⟨g1, g2, g3, g4, g5, g6⟩ := excGet_inv hg
  obtain ⟨hh, g, d, tt, os⟩ := s
  have L0 : PySem.W.Looks (model prog w) hh (typeOf (.ref x)) (.ref D) := hc ▸ (PySem.W.Looks.ld hx).andThen .now
  have L1 := PySem.W.looks_findIn (M := model prog w) X g1
  have L2 := PySem.W.looks_findIn (M := model prog w) X g2
  have L3 := PySem.W.looks_findIn (M := model prog w) X g3
  have L4 := PySem.W.looks_mroIn (M := model prog w) X g4
  have L5 := PySem.W.looks_subIn (M := model prog w) X g5
  unfold getAttr? getAttrBy? getAttrBy
  refine wpAny_bind (wpAny_mkText (wpAny_bind (wpAny_attempt (wpAny_holding (wpAny_bind (L0.at (wpAny_bind (L1.at ?_))))))))
  show wpAny _ _ (getAttrByItsOwn _ _ _ _ _ _) _ _ _
  unfold getAttrByItsOwn hookBefore callGetattribute boundAndCalled
  refine wpAny_bind (L2.at (wpAny_bind (wpAny_attempt (wpAny_holding ?_))))
  rw [if_neg (by decide)]
  have hk : builtinKind "BaseException.__getattribute__" = some .slot := by decide +kernel
  have hsplit : splitId "BaseException.__getattribute__" = some ("BaseException", "__getattribute__") := by decide +kernel
  refine wpAny_bind (wpAny_of_eq (PySem.F.attr_ValueError.ga.bind (.ref x)) ?_)
  refine wpAny_call (codeAny_call_builtin PySem.F.attr_ValueError.ga.plain PySem.F.entry_bexc_ga ?_)
  have ha := PySem.F.args_bexc_ga (.ref x) (.str "__class__" tt)
  simp only [checkBuiltinCall, hk, hsplit]
  refine wpAny_bind ?_
  unfold isInstance
  refine wpAny_bind (L0.at (L5.at ?_))
  rw [if_neg (by decide)]
  refine wpAny_of_eq ha ?_
  have hT5 : (⟨hh, g, d, tt, os⟩ : Shared).TypeIs (.builtin "object.__class__") "getset_descriptor" := PySem.F.typeOf_object_class
  have f5 := PySem.F.typeOf_object_class
  have f6 := PySem.F.slot_gs_get.lookup
  have f7 := PySem.F.slot_gs_set.lookup
  repeat (any_goals (first | assumption | with_reducible refine PySem.W.Looks.at L0 ?_ | with_reducible refine PySem.W.Looks.at L3 ?_ | wp_step))
  refine codeAny_call_builtin PySem.W.KF.slot_gs.plain PySem.W.KF.entry_gs (PySem.W.KF.slot_gs.check _ _ _ _ _ _ _ _ PySem.W.KF.type_class (PySem.W.KF.args_gs _ _ _) ?_)
  unfold Builtin.«getset_descriptor.__get__» descrGet
  rw [PySem.W.dga_obj]
  refine wpAny_bind (wpAny_pure ?_)
  unfold descrGetter descrCheckInstance descrNameAndClass isInstance
  simp only [PySem.W.KF.owner_class]
  repeat lk
  refine ⟨Code.quiet_builtin _ (by decide +kernel), codeAny_builtin PySem.W.KF.entry_class ?_⟩
  unfold Builtin.«object.__class__» shownTypeOf
  repeat lk
  exact h
theorem cls_at (h : (PySem.W.clsIn K D).isSome = true) : ∃ c d cd sl, K.lookup D = some ⟨c, d, .cls cd, sl⟩ := by
  unfold PySem.W.clsIn at h
  split at h
  · rename_i c' d' cd' sl' ho
    exact ⟨_, _, _, _, ho⟩
  · cases h
theorem kitx_exc (hg : excGet K D = true) : PySem.W.KitX K (.ref x) (.ref D) (fun h => ∃ o, h.get? x = some o ∧ o.cls = .ref D) where
  ty := fun M h _ ⟨o, h1, h2⟩ => h2 ▸ (PySem.W.Looks.ld h1).andThen .now
  it := fun M h X _ A Q E s k q => by
    obtain ⟨_, _, _, _, ho⟩ := cls_at (excGet_inv hg).2.2.2.2.2
    unfold isType loadHead
    exact wpAny_bind (wpAny_loadPart (k _ _ (X _ _ ho)) (wpAny_pure q))
  ne := fun h tp dd its n sl X htp => Bool.eq_false_iff.mpr fun q => by
    obtain ⟨_, _, _, _, ho⟩ := cls_at (excGet_inv hg).2.2.2.2.2
    have e : D = tp := Value.ref.inj (beq_iff_eq.mp q)
    subst e
    cases (X _ _ ho).symm.trans htp
  ca := fun X ⟨o, h1, h2⟩ k => exc_class X hg h1 h2 k
end
end Mine
namespace Mine
open PySem PySem.Calls PyProof.Rows
section
variable {Γ : Cx} {n : Nat} {Φ : Nat → List Val → Out Val} {A : Around} {env : Env} {Z : Led} {s : Shared} {nm : Nm} {ρ : List Val} {m : Str → Option Value}
theorem callWith_bt' {fv : Value} (hb : isBT fv = true) {pos : Pos} {args : List (Bool × Sem Value)} (ha : args.any (·.1) = false) {Q : Value → Shared → Prop} {E : Value → Shared → Prop}
    (h : wpAny (model Γ.prog Γ.w) A (evalArgs fv true args []) (fun a s' => wpAny (model Γ.prog Γ.w) A (call fv ([] ++ a.pos) a.kw) Q E s') E s) :
    wpAny (model Γ.prog Γ.w) A (callWith pos fv [] args []) Q E s := by
  cases fv <;> first | cases hb | skip
  · exact PyProof.Rows.callWith_type ha h
  · exact callWith_builtin ha h
theorem ev_call_1 {α γ : Type} {P1 : Led → Heap → Value → γ → Prop} {P : Led → Heap → Value → α → Prop} (C : CxOk Γ) {x : Str} {fv : Value} (hb : isBT fv = true) (hd : notDebug x = true) (hg : globOf Γ.gs env.scope x = some (.bi fv)) {v : Expr} (hv : notStar v = true)
    (O : EnvOk env) (I : Inv Γ nm ρ env Z s.heap m) {r : Out γ} (f : γ → Out α) (H : EvT Γ A env Z s P1 r (wpt Γ A (eval v env)))
    (K : ∀ y u Z' h' tk, r = .ok y → Grow Z s.heap Z' h' → P1 Z' h' u y → EvT Γ A env Z' { s with heap := h', toks := tk } P (f y) (wpt Γ A (call fv [u]))) {p pos : Pos} :
    EvT Γ A env Z s P (r >>= f) (wpt Γ A (eval (.Call (.Name x p) [v] [] pos) env)) := by
  obtain ⟨k, l⟩ := globOf_kind hg
  obtain ⟨e1, e2⟩ := C.gl _ _ l
  have hs : backTo pos (starEach [v] env) = [(false, eval v env)] := by rw [star_cons hv]; rfl
  refine EvT.rule (fun Q E h => Call_ (load_bui O C.g C.b I k e1 e2 hd (by rw [hs]; exact callWith_bt' hb rfl (evalArgs_plain (spliced_cons h))))) (EvT.bind (W2 := fun u Q E s => wpAny (model Γ.prog Γ.w) A (spliced []) (fun vs s₂ => wpAny (model Γ.prog Γ.w) A (call fv ([] ++ (u :: vs))) Q E s₂) E s) H fun y u Z' h' tk e g q => ?_)
  exact EvT.rule (fun Q E h => spliced_nil h) (K y u Z' h' tk e g q)
noncomputable def tyV : Ty → Value
  | .int => .type "int"
  | .bool => .type "bool"
  | .str => .type "str"
  | .list => .type "list"
  | .tuple => .type "tuple"
  | _ => .none
theorem isi_tab {t : Ty} {v : Value} {d : Dat} (sub : ∀ a o, Z a = some o → s.heap.get? a = some o) (r : RepB Z s.heap v d) (hb : isiD t d ≠ .bad) {Q E : Value → Shared → Prop} (h : ∀ tk b, isiD t d = .ok b → Q (.bool b) { s with toks := tk }) :
    wpAny (model Γ.prog Γ.w) A (call (.builtin "isinstance") [v, tyV t]) Q E s := by
  have idk : ∀ b o, s.heap.get? b = some o → s.heap.get? b = some o := fun _ _ e => e
  cases d with
  | none =>
    cases r.rep nofun
    cases t <;> first | exact IsiPair.NoneType_int (h _ _ rfl) | exact IsiPair.NoneType_bool (h _ _ rfl) | exact IsiPair.NoneType_str (h _ _ rfl) | exact IsiPair.NoneType_list (h _ _ rfl) | exact IsiPair.NoneType_tuple (h _ _ rfl) | exact absurd rfl hb
  | dic => cases t <;> exact absurd rfl hb
  | bool _ =>
    cases r.rep nofun
    cases t <;> first | exact IsiPair.bool_int (h _ _ rfl) | exact IsiPair.bool_bool (h _ _ rfl) | exact IsiPair.bool_str (h _ _ rfl) | exact IsiPair.bool_list (h _ _ rfl) | exact IsiPair.bool_tuple (h _ _ rfl) | exact absurd rfl hb
  | int i =>
    obtain ⟨_, rfl⟩ := r.int
    cases t <;> first | exact IsiPair.int_int (h _ _ rfl) | exact IsiPair.int_bool (h _ _ rfl) | exact IsiPair.int_str (h _ _ rfl) | exact IsiPair.int_list (h _ _ rfl) | exact IsiPair.int_tuple (h _ _ rfl) | exact absurd rfl hb
  | str x =>
    obtain ⟨_, _, rfl, _⟩ := r.str
    cases t <;> first | exact IsiPair.str_int (h _ _ rfl) | exact IsiPair.str_bool (h _ _ rfl) | exact IsiPair.str_str (h _ _ rfl) | exact IsiPair.str_list (h _ _ rfl) | exact IsiPair.str_tuple (h _ _ rfl) | exact absurd rfl hb
  | lst ds =>
    obtain ⟨a, vs, rfl, p, _, _⟩ := r.list sub
    cases t <;> first | exact IsiPair.isList_int p.isList idk (h _ _ rfl) | exact IsiPair.isList_bool p.isList idk (h _ _ rfl) | exact IsiPair.isList_str p.isList idk (h _ _ rfl) | exact IsiPair.isList_list p.isList idk (h _ _ rfl) | exact IsiPair.isList_tuple p.isList idk (h _ _ rfl) | exact absurd rfl hb
  | tup ds =>
    obtain ⟨a, vs, k, rfl, p, _, _⟩ := Rep.tuple sub (r.rep nofun)
    have p' : s.heap.IsTuple a vs.toArray := ⟨_, p, rfl, _, rfl⟩
    cases t <;> first | exact IsiPair.isTuple_int p' idk (h _ _ rfl) | exact IsiPair.isTuple_bool p' idk (h _ _ rfl) | exact IsiPair.isTuple_str p' idk (h _ _ rfl) | exact IsiPair.isTuple_list p' idk (h _ _ rfl) | exact IsiPair.isTuple_tuple p' idk (h _ _ rfl) | exact absurd rfl hb
theorem tyOk_bi {t : Ty} {g : Option G} {d : Dat} {b : Bool} (h : tyOk t g = true) (hd : isiD t d = .ok b) : g = some (.bi (tyV t)) := by
  cases t <;> first | exact beq_iff_eq.mp h | cases hd
theorem isiD_exn {t : Ty} {d : Dat} {c : Nat} : isiD t d ≠ .exn c := by
  cases t <;> cases d <;> exact nofun
theorem isCls_inv {g : Option G} (h : isCls g = true) : ∃ i, g = some (.cls i) := by
  cases g with
  | none => cases h
  | some g => cases g <;> first | exact ⟨_, rfl⟩ | cases h
noncomputable def RepX (Γ : Cx) (Z : Led) (h : Heap) (v : Value) (y : Dat ⊕ Option Nat) : Prop := match y with
  | .inl d => RepB Z h v d
  | .inr (some k) => ExcIs Γ h v k
  | .inr Option.none => ∃ ns ps, ShopIs Γ.shopC Z v ns ps
theorem EvT.toX {r : Out Val} {W : Tr Value} (H : EvT Γ A env Z s (PW Γ s.heap) r W) : EvT Γ A env Z s (RepX Γ) (r >>= needX) W := by
  refine H.conv fun Z' h' v x g p => ?_
  cases x with
  | sh d => exact .inr ⟨.inl d, Z', rfl, g, .inl p⟩
  | own ds =>
    obtain ⟨a, rfl, f, o⟩ := p
    obtain ⟨Z'', g', _, r, _⟩ := freeze_own g f o
    exact .inr ⟨.inl _, Z'', rfl, g', .inl r⟩
  | bor ds =>
    obtain ⟨a, vs, rfl, l, z, r⟩ := p
    exact .inr ⟨.inl _, Z', rfl, g, .inr ⟨a, vs, ds, rfl, rfl, l, z, r⟩⟩
  | pr d ds =>
    obtain ⟨Z'', g', r⟩ := freeze_pr g p
    exact .inr ⟨.inl _, Z'', rfl, g', .inl r⟩
  | exc k => exact .inr ⟨.inr (some k), Z', rfl, g, p⟩
  | shop ns ps => exact .inr ⟨.inr Option.none, Z', rfl, g, ns, ps, p⟩
  | _ => exact .inl rfl
theorem snd_isi (C : CxOk Γ) {t : Ty} {a : T} (H : SndE Γ n Φ a) : SndE Γ n Φ (.isi t a) := fun nm ρ A env Z s m e hc O AO I => inv_isi hc fun x p v y py pos he h1 h2 h3 h4 h5 h6 => by
  subst he
  obtain ⟨k, l⟩ := globOf_kind h3
  obtain ⟨e1, e2⟩ := C.gl _ _ l
  have hs : backTo pos (starEach [v, .Name y py] env) = [(false, eval v env), (false, eval (.Name y py) env)] := by rw [star_cons h5]; rfl
  have hr : ev Φ (.isi t a) ρ = ((ev Φ a ρ >>= needX >>= isiY t) >>= fun d => .ok (.sh (.bool d))) := by
    show (ev Φ a ρ >>= isiV t >>= _) = _
    cases ev Φ a ρ <;> rfl
  rw [hr]
  refine EvT.rule (fun Q E h => Call_ (load_bui O C.g C.b I k e1 e2 h1 (by rw [hs]; exact callWith_bt' rfl rfl (evalArgs_plain (spliced_cons h))))) (EvT.ofBool (EvT.bind (W2 := fun u Q E s => wpAny (model Γ.prog Γ.w) A (spliced [(false, eval (.Name y py) env)]) (fun vs s₂ => wpAny (model Γ.prog Γ.w) A (call (.builtin "isinstance") ([] ++ (u :: vs))) Q E s₂) E s) (H nm ρ A env Z s m v h6 O AO I).toX fun d u Z' h' tk _ g q => ?_))
  cases d with
  | inl d =>
    have q : RepB Z' h' u d := q
    cases hd : isiD t d with
    | bad => exact .badE hd
    | exn c => exact (isiD_exn hd).elim
    | ok b =>
      obtain ⟨k', l'⟩ := globOf_kind (tyOk_bi h4 hd)
      obtain ⟨f1, f2⟩ := C.gl _ _ l'
      exact EvT.eq (EvT.rule (fun Q E h => spliced_cons (load_bui O C.g C.b (I.grow g) k' f1 f2 h2 (spliced_nil h))) (EvT.now (P := PBo) g.sub g.ok fun Q E hQ => isi_tab g.sub q (by rw [hd]; exact nofun) fun tk b' e => hQ _ h' tk (.refl _) (congrArg Value.bool (Out.ok.inj (e.symm.trans hd))))) hd
  | inr d =>
    have kb := (I.grow g).kb
    have X := C.kin h' kb
    cases d with
    | some c =>
      have q : ExcIs Γ h' u c := q
      obtain ⟨e, oe, vs, Cc, rfl, q2, q3, q4, q5⟩ := q
      show EvT _ _ _ _ _ _ (isiX t c) _
      cases t with
      | exc d =>
        obtain ⟨k', l'⟩ := globOf_kind (show globOf Γ.gs env.scope y = some (.exc d) from beq_iff_eq.mp h4)
        have Zx := kitx_exc (x := e) (C.exo.get c Cc q2)
        cases d with
        | zero =>
          obtain ⟨f1, f2⟩ := C.gl _ _ l'
          exact EvT.rule (fun Q E h => spliced_cons (load_bui O C.g C.b (I.grow g) k' f1 f2 h2 (spliced_nil h))) (EvT.now (P := PBo) g.sub g.ok fun Q E hQ => PySem.W.kia_one Zx X ⟨oe, q3, q4⟩ (C.exo.isv c Cc q2) (by intro q; cases q) fun tk => hQ _ h' tk (.refl _) (congrArg Value.bool (Bool.or_true _).symm))
        | succ d =>
          obtain ⟨D, f1, f2, _⟩ := C.gl _ _ l'
          exact EvT.rule (fun Q E h => spliced_cons (load_glob O C.g (I.grow g) k' f1 h2 (spliced_nil h))) (EvT.now (P := PBo) g.sub g.ok fun Q E hQ => PySem.W.kia_one Zx X ⟨oe, q3, q4⟩ (C.exo.isi c Cc (d + 1) D q2 f2) (by intro q; cases q) fun tk => hQ _ h' tk (.refl _) rfl)
      | _ => exact .bad
    | none =>
      obtain ⟨ns, ps, sh⟩ : ∃ ns ps, ShopIs Γ.shopC Z' u ns ps := q
      show EvT _ _ _ _ _ _ (isiH t) _
      cases t with
      | shop =>
        obtain ⟨i, hi⟩ : ∃ i, globOf Γ.gs env.scope y = some (.cls i) := isCls_inv h4
        obtain ⟨k', l'⟩ := globOf_kind hi
        have f1 : Γ.mg y = some (.ref Γ.shopC) := C.gl _ _ l'
        obtain ⟨a', dx, od, es, nn, e₁, e₂, rfl, s1, _⟩ := sh
        have ht : ∀ M, PySem.W.Looks M h' (typeOf (.ref a')) (.ref Γ.shopC) := fun M => (PySem.W.Looks.ld (g.sub _ _ s1)).andThen .now
        exact EvT.rule (fun Q E h => spliced_cons (load_glob O C.g (I.grow g) k' f1 h2 (spliced_nil h))) (EvT.now (P := PBo) g.sub g.ok fun Q E hQ => PySem.W.isi_call X ht (by unfold PySem.W.isIn; simp) (by intro q; cases q) (hQ _ h' tk (.refl _) rfl))
      | _ => exact .bad
inductive SeqIs (Z : Led) (h : Heap) (v : Value) (l : List Dat) : Prop
  | mk (a : _) (T : _) (k : _) (vs : _) : v = .ref a → (T = "list" ∨ T = "tuple") → h.get? a = some { cls := .type T, data := .seq vs.toArray k } → vs.length ≤ line → RepL Z vs l → SeqIs Z h v l
theorem RepB.seq {h : Heap} {v : Value} {l : List Dat} (sub : ∀ a o, Z a = some o → h.get? a = some o) (r : RepB Z h v (.lst l) ∨ RepB Z h v (.tup l)) :
    SeqIs Z h v l := by
  rcases r with r | r
  · obtain ⟨a, vs, rfl, ⟨k, p⟩, z, rl⟩ := r.list sub
    exact ⟨a, "list", k, vs, rfl, .inl rfl, p, z, rl⟩
  · obtain ⟨a, vs, k, rfl, p, z, rl⟩ := Rep.tuple sub (r.rep nofun)
    exact ⟨a, "tuple", k, vs, rfl, .inr rfl, p, z, rl⟩
theorem EvT.toL {r : Out Val} {W : Tr Value} (H : EvT Γ A env Z s (PW Γ s.heap) r W) : EvT Γ A env Z s (fun Z h v l => RepB Z h v (.lst l)) (r >>= itemsL) W := by
  refine H.conv fun Z' h' v x g p => ?_
  cases x with
  | sh d =>
    cases d with
    | lst l => exact .inr ⟨l, Z', rfl, g, .inl p⟩
    | _ => exact .inl rfl
  | own l => exact .inr ⟨l, Z', rfl, g, p.toB rfl nofun⟩
  | bor l => exact .inr ⟨l, Z', rfl, g, p.toB rfl nofun⟩
  | _ => exact .inl rfl
theorem EvT.toS {r : Out Val} {W : Tr Value} (H : EvT Γ A env Z s (PW Γ s.heap) r W) : EvT Γ A env Z s (fun Z h v l => RepB Z h v (.lst l) ∨ RepB Z h v (.tup l)) (r >>= itemsS) W := by
  refine H.conv fun Z' h' v x g p => ?_
  cases x with
  | sh d =>
    cases d with
    | lst l => exact .inr ⟨l, Z', rfl, g, .inl (.inl p)⟩
    | tup l => exact .inr ⟨l, Z', rfl, g, .inr (.inl p)⟩
    | _ => exact .inl rfl
  | own l => exact .inr ⟨l, Z', rfl, g, .inl (p.toB rfl nofun)⟩
  | bor l => exact .inr ⟨l, Z', rfl, g, .inl (p.toB rfl nofun)⟩
  | _ => exact .inl rfl
theorem own_at {h h' : Heap} (sub : ∀ a o, Z a = some o → h.get? a = some o) {vs : List Value} {ds : List Dat} {a : Addr} {k : Nat} (f : h.get? a = none) (e : h'.get? a = some { cls := .type "list", data := .seq vs.toArray k }) (l : vs.length ≤ line) (r : RepL Z vs ds) :
    RepV Γ Z (fun a => h.get? a = none) h' (.ref a) (.own ds) :=
  ⟨a, rfl, f, vs, led_none sub f, ⟨k, e⟩, l, r⟩
theorem snd_mkL0 (C : CxOk Γ) {a : T} (H : SndE Γ n Φ a) (hi : ∀ nm sc e, chkI Γ.gs a nm sc e = true → chk Γ.gs a nm sc e = true) (hk : ∀ ρ, itsK Φ a ρ = (ev Φ a ρ >>= itemsS)) : SndE Γ n Φ (.mkL a) := fun nm ρ A env Z s m e hc O AO I => inv_mkL hc fun x p v pos he h1 h2 h3 h4 => by
  subst he
  show EvT Γ A env Z s (PW Γ s.heap) (itsK Φ a ρ >>= fun ds => .ok (.own ds)) _
  rw [hk]
  refine ev_call_1 C (fv := .type "list") rfl h1 h2 h3 O I _ (H nm ρ A env Z s m v (hi _ _ _ h4) O AO I).toS fun l u Z' h' tk _ g q => ?_
  obtain ⟨a, T, k, vs, rfl, hT, ho, z, rl⟩ := RepB.seq g.sub q
  exact EvT.old g (EvT.now g.sub g.ok fun Q E hQ => call_list_seq a hT ho rfl rfl (fun h'' c' kk e' => hQ _ h'' tk (Kp.of kk) (own_at g.sub (get_size _) e' z rl)) z)
theorem snd_mkT (C : CxOk Γ) {a : T} (H : SndE Γ n Φ a) : SndE Γ n Φ (.mkT a) := fun nm ρ A env Z s m e hc O AO I => inv_mkT hc fun x p v pos he h1 h2 h3 h4 => by
  subst he
  show EvT Γ A env Z s (PW Γ s.heap) (ev Φ a ρ >>= itemsL >>= fun ds => .ok (.sh (.tup ds))) _
  refine ev_call_1 C (fv := .type "tuple") rfl h1 h2 h3 O I _ (H nm ρ A env Z s m v h4 O AO I).toL fun l u Z' h' tk _ g q => ?_
  obtain ⟨a, vs, rfl, p, z, rl⟩ := q.list g.sub
  intro _ Q E hQ _
  refine call_tuple_list p.isList (fun h'' kk => ?_) z
  have g2 : Grow Z' h' Z' h'' := Grow.keep g.sub g.ok (Kp.of kk)
  obtain ⟨Z3, g3, rr⟩ := tup_new g2.sub g2.ok z rl
  exact hQ _ _ Z3 _ tk rfl (g2.trans g3) rr
end
end Mine
namespace Mine
open PySem PySem.Calls PyProof.Rows
section
variable {prog : Program} {w : World} {A : Around} {E : Value → Shared → Prop} {s : Shared} {z TI TO i1 i2 : Addr} {fp1 fp2 : List Addr} {n1 n2 k : Nat} {P1 P2 : Nat → Value → Prop} {St1 St2 : Nat → Heap → Prop}
end
section
variable {prog : Program} {w : World} {A : Around} {E : Value → Shared → Prop} {s : Shared}
end
end Mine
namespace Mine
open PySem PySem.Calls PyProof.Rows
inductive TupAt (Z : Led) (h : Heap) (v : Value) (d : Dat) : Prop
  | mk (T : _) (vs : _) (ds : _) (k : _) : v = .ref T → d = .tup ds → h.get? T = some { cls := .type "tuple", data := .seq vs.toArray k } → RepL Z vs ds → vs.length ≤ line → TupAt Z h v d
noncomputable def RepT (target : Expr) (Z : Led) (h : Heap) (v : Value) (d : Dat) : Prop := Rep Z v d ∨ (∃ elts q pos, target = Expr.Tuple elts q pos) ∧ TupAt Z h v d
noncomputable def Pl (o : Obj) : Prop := NoDict o ∧ ∃ T, o.cls = .type T
structure Wk (Γ : Cx) (target : Expr) (I : Addr) (fp wr : List Addr) (n : Nat) (P Md : Nat → Value → Heap → Prop) (St : Nat → Heap → Prop) : Prop where
  k : ∀ A : Around, A.handled = none → PySem.W.KTurns Γ.prog Γ.w A target I fp wr n P Md St
  live : ∀ i h, St i h → ∀ b ∈ fp, ∃ o, h.get? b = some o ∧ Pl o
  self : ∀ (A : Around) (s : Shared) (Q E : Value → Shared → Prop), St 0 s.heap → Q (.ref I) s → wpAny (model Γ.prog Γ.w) A (pyIter (.ref I)) Q E s
inductive ItAt (Γ : Cx) (target : Expr) (src : Led → Addr → Prop) (h₀ : Heap) (Z : Led) (h : Heap) (it : Value) (ds : List Dat) : Prop
  | mk (I : _) (fp : _) (wr : _) (P : _) (Md : _) (St : _) : (it = .ref I) → (ds.length ≤ line) → Wk Γ target I fp wr ds.length P Md St → St 0 h → ((∀ b ∈ wr, h₀.get? b = none ∧ Z b = none)) → ((∀ b ∈ fp, (h₀.get? b = none ∧ Z b = none) ∨ src Z b)) → (∀ i v h' d, P i v h' → ds[i]? = some d → RepT target Z h' v d) → ItAt Γ target src h₀ Z h it ds
noncomputable def plainIt (n : String) : Bool := n != "frame" && !(["enumerate", "zip", "dict_itemiterator", "dict_reverseitemiterator", "odict_iterator", "itertools.zip_longest", "itertools.pairwise"].contains n)
section
variable {prog : Program} {w : World} {A : Around} {E : Value → Shared → Prop} {s : Shared}
theorem lotg {target : Expr} {I : Addr} {v : Value} {o : Obj} {n : String} {Q : Unit → Shared → Prop} (ho : s.heap.get? I = some o) (hc : o.cls = .type n) (hn : plainIt n = true) (hQ : Q () s) : wpAny (model prog w) A (letOwnedTupleGo target (.ref I) v) Q E s := by
  have key : wpAny (model prog w) A (match (Value.ref I, v) with
      | (.ref r, .ref a) => do
        let o ← load r
        match o.cls, o.data with
        | .type n, .fields vs =>
          if ["enumerate", "zip", "dict_itemiterator", "dict_reverseitemiterator", "odict_iterator", "itertools.zip_longest", "itertools.pairwise"].contains n && vs[0]? == some (rawInt a) then do
            rule "for.unpacks-the-owned-tuple"
            updateField r 0 .none
          else pure ()
        | _, _ => pure ()
      | _ => pure ()) Q E s := by
    cases v <;> first | exact wpAny_pure hQ | skip
    refine wpAny_bind (wpAny_load ho ?_)
    rw [hc]
    have hn' : (["enumerate", "zip", "dict_itemiterator", "dict_reverseitemiterator", "odict_iterator", "itertools.zip_longest", "itertools.pairwise"].contains n) = false := by
      unfold plainIt at hn
      simp only [Bool.and_eq_true] at hn
      simpa using hn.2
    cases hd : o.data <;> first | exact wpAny_pure hQ | skip
    simp only [hn', Bool.false_and, Bool.false_eq_true, if_false]
    exact wpAny_pure hQ
  cases target <;> first | exact wpAny_pure hQ | skip
  · exact key
  · exact key
end
theorem turns_of {prog : Program} {w : World} {A : Around} {target : Expr} {I : Addr} {fp wr : List Addr} {n : Nat} {P : Nat → Value → Prop} {St : Nat → Heap → Prop} (W : Walks prog w A I fp wr n P St) {T : String} (hT : plainIt T = true) (hI : ∀ i h, St i h → ∃ o, h.get? I = some o ∧ o.cls = .type T) :
    PySem.W.KTurns prog w A target I fp wr n (fun i v _ => P i v) (fun i v h => P i v ∧ St (i + 1) h) St :=
  PySem.W.KTurns.ofWalks W fun i v s Q E st hQ => let ⟨_, ho, hc⟩ := hI i _ st; lotg ho hc hT hQ
section
variable {Γ : Cx} {n : Nat} {Φ : Nat → List Val → Out Val} {A : Around} {env : Env} {Z : Led} {s : Shared} {nm : Nm} {ρ : List Val} {m : Str → Option Value} {target : Expr} {src : Led → Addr → Prop}
theorem ItAt.old {Zx : Led} {h₀ h₁ h : Heap} {it : Value} {ds : List Dat} (g : Kw Zx h₀ h₁) (x : ItAt Γ target src h₁ Z h it ds) : ItAt Γ target src h₀ Z h it ds := by
  obtain ⟨I, fp, wr, P, Md, St, a, ln, b, c, d, e, i⟩ := x
  refine ⟨I, fp, wr, P, Md, St, a, ln, b, c, fun b hb => ⟨g.none (d b hb).1, (d b hb).2⟩, fun b hb => ?_, i⟩
  rcases e b hb with e | e
  · exact .inl ⟨g.none e.1, e.2⟩
  · exact .inr e
theorem signOk' {x : Str} {c : Nat} {i : Nat} (o : PyData.strOk x = true) (h : x.cps[i]? = some c) : PyData.strOk ⟨#[c]⟩ = true := by
  unfold PyData.strOk at o ⊢
  rw [Array.all_eq_true'] at o ⊢
  intro y hy
  have : y = c := by simpa using hy
  subst this
  exact o y (Array.mem_of_getElem? h)
theorem it_lst {v : Value} {l : List Dat} (sub : ∀ a o, Z a = some o → s.heap.get? a = some o) (ok : ∀ a o, Z a = some o → Tt o) (r : RepB Z s.heap v (.lst l)) (hs : ∀ b, v = .ref b → src Z b) : EvT Γ A env Z s (ItAt Γ target src s.heap) (.ok l) (wpt Γ A (pyIter v)) := by
  have fresh : s.heap.get? s.heap.objs.size = none ∧ Z s.heap.objs.size = none := ⟨get_size _, led_none sub (get_size _)⟩
  obtain ⟨a, vs, rfl, p, z, rl⟩ := r.list sub
  refine EvT.now sub ok fun Q E hQ => wpAny_pyIter_list p.isList (hQ _ _ _ (kp_push _ _) ?_)
  have hne : a ≠ s.heap.objs.size := fun e => by obtain ⟨k, q⟩ := p; rw [e, get_size] at q; cases q
  refine ⟨s.heap.objs.size, [s.heap.objs.size, a], [s.heap.objs.size], fun i v _ => vs.toArray[i]? = some v, fun i v h => vs.toArray[i]? = some v ∧ (h.IsListIter s.heap.objs.size a (i + 1) ∧ h.IsList a vs.toArray), fun i h => h.IsListIter s.heap.objs.size a i ∧ h.IsList a vs.toArray, rfl, (by rw [← rl.length]; exact z), ⟨fun A' hA => ?_, fun i h st b hb => ?_, fun A' s' Q' E' st hq => wpAny_pyIter_listiter st.1 hq⟩, ⟨⟨_, Heap.get?_push_size _ rfl, rfl, rfl⟩, Heap.IsList.push p.isList _⟩, fun b hb => ?_, fun b hb => ?_, fun i v h' d' hP hd => ?_⟩
  · have := turns_of (target := target) (Walks.list (prog := Γ.prog) (w := Γ.w) (A := A') hA s.heap.objs.size a hne vs.toArray) (T := "list_iterator") (by decide) fun i h st => let ⟨o, ho, hc, _⟩ := st.1; ⟨o, ho, hc⟩
    rw [show vs.toArray.size = l.length by simp [rl.length]] at this
    exact this
  · rcases List.mem_cons.mp hb with rfl | hb
    · obtain ⟨o, ho, hc, hd⟩ := st.1; exact ⟨o, ho, nd_fields hd, _, hc⟩
    · obtain rfl := List.mem_singleton.mp hb; obtain ⟨o, ho, hc, hd⟩ := st.2; exact ⟨o, ho, nd_seq hd, _, hc⟩
  · obtain rfl := List.mem_singleton.mp hb; exact fresh
  · rcases List.mem_cons.mp hb with rfl | hb
    · exact .inl fresh
    · obtain rfl := List.mem_singleton.mp hb; exact .inr (hs _ rfl)
  · have hP : vs.toArray[i]? = some v := hP
    obtain ⟨d2, e2, r2⟩ := rl.get' (k := i) (v := v) (by simpa using hP)
    rw [hd] at e2; cases e2; exact .inl r2
theorem it_tup {v : Value} {l : List Dat} (sub : ∀ a o, Z a = some o → s.heap.get? a = some o) (ok : ∀ a o, Z a = some o → Tt o) (r : RepB Z s.heap v (.tup l)) (hs : ∀ b, v = .ref b → src Z b) : EvT Γ A env Z s (ItAt Γ target src s.heap) (.ok l) (wpt Γ A (pyIter v)) := by
  have fresh : s.heap.get? s.heap.objs.size = none ∧ Z s.heap.objs.size = none := ⟨get_size _, led_none sub (get_size _)⟩
  obtain ⟨a, vs, k, rfl, p, z, rl⟩ := Rep.tuple sub (r.rep nofun)
  have p' : s.heap.IsTuple a vs.toArray := ⟨_, p, rfl, _, rfl⟩
  refine EvT.now sub ok fun Q E hQ => wpAny_pyIter_tuple p' (hQ _ _ _ (kp_push _ _) ?_)
  have hne : a ≠ s.heap.objs.size := fun e => by rw [e, get_size] at p; cases p
  refine ⟨s.heap.objs.size, [s.heap.objs.size, a], [s.heap.objs.size], fun i v _ => vs.toArray[i]? = some v, fun i v h => vs.toArray[i]? = some v ∧ (h.IsTupleIter s.heap.objs.size a (i + 1) ∧ h.IsTuple a vs.toArray), fun i h => h.IsTupleIter s.heap.objs.size a i ∧ h.IsTuple a vs.toArray, rfl, (by rw [← rl.length]; exact z), ⟨fun A' hA => ?_, fun i h st b hb => ?_, fun A' s' Q' E' st hq => wpAny_pyIter_tupleiter st.1 hq⟩, ⟨⟨_, Heap.get?_push_size _ rfl, rfl, rfl⟩, p'.at fun o e => Heap.get?_push_of_some _ e⟩, fun b hb => ?_, fun b hb => ?_, fun i v h' d' hP hd => ?_⟩
  · have := turns_of (target := target) (Walks.tuple (prog := Γ.prog) (w := Γ.w) (A := A') hA s.heap.objs.size a hne vs.toArray) (T := "tuple_iterator") (by decide) fun i h st => let ⟨o, ho, hc, _⟩ := st.1; ⟨o, ho, hc⟩
    rw [show vs.toArray.size = l.length by simp [rl.length]] at this
    exact this
  · rcases List.mem_cons.mp hb with rfl | hb
    · obtain ⟨o, ho, hc, hd⟩ := st.1; exact ⟨o, ho, nd_fields hd, _, hc⟩
    · obtain rfl := List.mem_singleton.mp hb; obtain ⟨o, ho, hc, hd⟩ := st.2; exact ⟨o, ho, nd_seq hd, _, hc⟩
  · obtain rfl := List.mem_singleton.mp hb; exact fresh
  · rcases List.mem_cons.mp hb with rfl | hb
    · exact .inl fresh
    · obtain rfl := List.mem_singleton.mp hb; exact .inr (hs _ rfl)
  · have hP : vs.toArray[i]? = some v := hP
    obtain ⟨d2, e2, r2⟩ := rl.get' (k := i) (v := v) (by simpa using hP)
    rw [hd] at e2; cases e2; exact .inl r2
theorem it_str {x : Str} {t : Tok} (sub : ∀ a o, Z a = some o → s.heap.get? a = some o) (ok : ∀ a o, Z a = some o → Tt o) (ox : PyData.strOk x = true) (lx : x.length ≤ line) : EvT Γ A env Z s (ItAt Γ target src s.heap) (.ok (signs x.cps.toList)) (wpt Γ A (pyIter (.str x t))) := by
  have fresh : s.heap.get? s.heap.objs.size = none ∧ Z s.heap.objs.size = none := ⟨get_size _, led_none sub (get_size _)⟩
  have hlen : x.cps.size = (signs x.cps.toList).length := by simp [signs]
  have key : ∀ (o : Obj) (St : Nat → Heap → Prop) (T : String), plainIt T = true → (∀ A' : Around, A'.handled = none → Walks Γ.prog Γ.w A' s.heap.objs.size [s.heap.objs.size] [s.heap.objs.size] x.cps.size (SignAt x) St) → (∀ i h, St i h → ∃ o, h.get? s.heap.objs.size = some o ∧ o.cls = .type T ∧ NoDict o) → (∀ (A' : Around) (s' : Shared) (Q' E' : Value → Shared → Prop), St 0 s'.heap → Q' (.ref s.heap.objs.size) s' → wpAny (model Γ.prog Γ.w) A' (pyIter (.ref s.heap.objs.size)) Q' E' s') → St 0 (s.heap.push o) →
      ItAt Γ target src s.heap Z (s.heap.push o) (.ref s.heap.objs.size) (signs x.cps.toList) := by
    intro o St T hT W hI hself hst
    refine ⟨s.heap.objs.size, [s.heap.objs.size], [s.heap.objs.size], fun i v _ => SignAt x i v, fun i v h => SignAt x i v ∧ St (i + 1) h, St, rfl, (by rw [← hlen]; exact lx), ⟨fun A' hA => ?_, fun i h st b hb => ?_, fun A' s' Q' E' st hq => hself A' s' Q' E' st hq⟩, hst, fun b hb => ?_, fun b hb => ?_, fun i v h' d' hP hd => ?_⟩
    · rw [← hlen]; exact turns_of (W A' hA) hT fun i h st => let ⟨o, a, b, _⟩ := hI i h st; ⟨o, a, b⟩
    · obtain rfl := List.mem_singleton.mp hb
      obtain ⟨o', ho, hc, hd⟩ := hI _ _ st
      exact ⟨o', ho, hd, _, hc⟩
    · obtain rfl := List.mem_singleton.mp hb; exact fresh
    · obtain rfl := List.mem_singleton.mp hb; exact .inl fresh
    · obtain ⟨c, u, hc, rfl⟩ := hP
      have : d' = .str [c] := by
        simp only [signs, List.getElem?_map, Array.getElem?_toList, hc, Option.map_some, Option.some.injEq] at hd
        exact hd.symm
      subst this
      exact .inl (.str ⟨#[c]⟩ u (signOk' ox hc) (by show 1 ≤ line; decide))
  refine EvT.now sub ok fun Q E hQ => ?_
  cases ha : x.cps.all (· < 128)
  · exact wpAny_pyIter_wide ha (hQ _ _ _ (kp_push _ _) (key _ _ "str_iterator" (by decide) (fun A' hA => Walks.strWide hA _ x t) (fun i h st => let ⟨o, ho, hc, hd⟩ := st; ⟨o, ho, hc, nd_fields hd⟩) (fun A' s' Q' E' st hq => wpAny_pyIter_striter_wide st hq) ⟨_, Heap.get?_push_size _ rfl, rfl, rfl⟩))
  · exact wpAny_pyIter_ascii ha (hQ _ _ _ (kp_push _ _) (key _ _ "str_ascii_iterator" (by decide) (fun A' hA => Walks.strAscii hA _ x t) (fun i h st => let ⟨o, ho, hc, hd⟩ := st; ⟨o, ho, hc, nd_fields hd⟩) (fun A' s' Q' E' st hq => wpAny_pyIter_striter_ascii st hq) ⟨_, Heap.get?_push_size _ rfl, rfl, rfl⟩))
noncomputable def RIt (Z : Led) (h : Heap) (v : Value) (l : List Dat) : Prop := RepB Z h v (.lst l) ∨ RepB Z h v (.tup l) ∨ ∃ x t, v = .str x t ∧ PyData.strOk x = true ∧ x.length ≤ line ∧ l = signs x.cps.toList
theorem it_val {v : Value} {l : List Dat} (sub : ∀ a o, Z a = some o → s.heap.get? a = some o) (ok : ∀ a o, Z a = some o → Tt o) (r : RIt Z s.heap v l) (hs : ∀ b, v = .ref b → src Z b) : EvT Γ A env Z s (ItAt Γ target src s.heap) (.ok l) (wpt Γ A (pyIter v)) := by
  rcases r with r | r | ⟨x, t, rfl, ox, lx, rfl⟩
  · exact it_lst sub ok r hs
  · exact it_tup sub ok r hs
  · exact it_str sub ok ox lx
end
end Mine
namespace Mine
open PySem PySem.Calls PyProof.Rows
section
variable {Γ : Cx} {n : Nat} {Φ : Nat → List Val → Out Val} {A : Around} {env : Env} {Z : Led} {s : Shared} {nm : Nm} {ρ : List Val} {m : Str → Option Value} {target : Expr} {src : Led → Addr → Prop}
noncomputable abbrev itT (Γ : Cx) (A : Around) (iter : Expr) (env : Env) : Tr Value := fun Q E s => wpAny (model Γ.prog Γ.w) A (eval iter env) (fun xv s₁ => wpAny (model Γ.prog Γ.w) A (pyIter xv) Q E s₁) E s
theorem ItAt.intro {h₀ h : Heap} {ds : List Dat} {I : Addr} {fp wr : List Addr} {P Md : Nat → Value → Heap → Prop} {St : Nat → Heap → Prop}
    (K : ∀ A : Around, A.handled = none → PySem.W.KTurns Γ.prog Γ.w A target I fp wr ds.length P Md St) (h0 : St 0 h) (h1 : ∀ b ∈ wr, h₀.get? b = none ∧ Z b = none) (h2 : ∀ b ∈ fp, (h₀.get? b = none ∧ Z b = none) ∨ src Z b) (h3 : ∀ i h, St i h → ∀ b ∈ fp, ∃ o, h.get? b = some o ∧ Pl o) (hl : ds.length ≤ line)
    (h5 : ∀ (A : Around) (s : Shared) (Q E : Value → Shared → Prop), St 0 s.heap → Q (.ref I) s → wpAny (model Γ.prog Γ.w) A (pyIter (.ref I)) Q E s)
    (h4 : ∀ i v h' d, P i v h' → ds[i]? = some d → RepT target Z h' v d) : ItAt Γ target src h₀ Z h (.ref I) ds := ⟨I, fp, wr, P, Md, St, rfl, hl, ⟨K, h3, h5⟩, h0, h1, h2, h4⟩
theorem rangeL_get (a : Int) : ∀ (k i : Nat) (d : Dat), (rangeL a 1 k)[i]? = some d → d = .int (a + i * 1)
  | 0, _, _, h => by simp [rangeL] at h
  | k + 1, 0, d, h => by simp [rangeL] at h; simp [← h]
  | k + 1, i + 1, d, h => by
    simp only [rangeL, List.getElem?_cons_succ] at h
    have aux : ∀ (a : Int) (k i : Nat) (d : Dat), (rangeL a 1 k)[i]? = some d → d = .int (a + i) := by
      intro a k
      induction k generalizing a with
      | zero => intro i d h; simp [rangeL] at h
      | succ k ih =>
        intro i d h
        cases i with
        | zero => simp [rangeL] at h; simp [← h]
        | succ i => simp only [rangeL, List.getElem?_cons_succ] at h; rw [ih _ _ _ h]; congr 1; push_cast; lia
    rw [aux _ _ _ _ h]; congr 1; push_cast; lia
theorem rangeL_len (a c : Int) : ∀ k, (rangeL a c k).length = k := by
  intro k
  induction k generalizing a with
  | zero => rfl
  | succ k ih => simp [rangeL, ih]
theorem it_range {r : Addr} {a b : Int} {t u v : Tok} (sub : ∀ a o, Z a = some o → s.heap.get? a = some o) (ok : ∀ a o, Z a = some o → Tt o) (hr : IsRange s.heap r a b 1 t u v) (h1 : 0 ≤ a) (h2 : a < 2 ^ 20) (h3 : -(2 ^ 20) ≤ b) (h4 : b < 2 ^ 20) :
    EvT Γ A env Z s (ItAt Γ target src s.heap) (.ok (rangeL a 1 (b - a).toNat)) (wpt Γ A (pyIter (.ref r))) := by
  have fresh : s.heap.get? s.heap.objs.size = none ∧ Z s.heap.objs.size = none := ⟨get_size _, led_none sub (get_size _)⟩
  refine EvT.now sub ok fun Q E hQ => wpAny_pyIter_range hr (small_one (by lia) (by lia) (by lia) (by lia)) (hQ _ _ _ (kp_push _ _) ?_)
  have hsz : Builtin.Range.rangeSize a b 1 = ((b - a).toNat : Int) := by rw [rangeSize_one]; split <;> lia
  have K := fun (A' : Around) (hA : A'.handled = none) => turns_of (target := target) (Walks.range (prog := Γ.prog) (w := Γ.w) (A := A') hA s.heap.objs.size a 1 (b - a).toNat) (T := "range_iterator") (by decide) fun i h st => ⟨_, st, rfl⟩
  rw [← rangeL_len a 1 (b - a).toNat] at K
  refine ItAt.intro K ?_ (fun b hb => ?_) (fun b hb => ?_) (fun i h st b hb => ?_) (by rw [rangeL_len]; unfold line; lia) (fun A' s' Q' E' st hq => wpAny_pyIter_rangeiter st hq) ?_
  · show IsRangeIter _ _ _ _ _
    rw [hsz, rangeL_len]
    have := Heap.get?_push_size (h := s.heap) (o := { cls := .type "range_iterator", data := .fields #[rawInt a, rawInt ((b - a).toNat : Int), rawInt 1] }) rfl
    simpa using this
  · obtain rfl := List.mem_singleton.mp hb; exact fresh
  · obtain rfl := List.mem_singleton.mp hb; exact .inl fresh
  · obtain rfl := List.mem_singleton.mp hb; exact ⟨_, st, nd_fields rfl, _, rfl⟩
  · intro i v h' d hP hd
    obtain ⟨t, rfl⟩ := hP
    rw [rangeL_get _ _ _ _ hd]
    exact .inl (.int _ _)
theorem rangeL_get2 : ∀ (a : Int) (k i : Nat) (d : Dat), (rangeL a 2 k)[i]? = some d → d = .int (a + i * 2) := by
  intro a k
  induction k generalizing a with
  | zero => intro i d h; simp [rangeL] at h
  | succ k ih =>
    intro i d h
    cases i with
    | zero => simp [rangeL] at h; simp [← h]
    | succ i => simp only [rangeL, List.getElem?_cons_succ] at h; rw [ih _ _ _ h]; congr 1; push_cast; lia
theorem it_range2 {r : Addr} {a b : Int} {t u v : Tok} (sub : ∀ a o, Z a = some o → s.heap.get? a = some o) (ok : ∀ a o, Z a = some o → Tt o) (hr : IsRange s.heap r a b 2 t u v) (h1 : 0 ≤ a) (h2 : a < 2 ^ 20) (h3 : -(2 ^ 20) ≤ b) (h4 : b < 2 ^ 20) :
    EvT Γ A env Z s (ItAt Γ target src s.heap) (.ok (rangeL a 2 ((b - a + 1) / 2).toNat)) (wpt Γ A (pyIter (.ref r))) := by
  have fresh : s.heap.get? s.heap.objs.size = none ∧ Z s.heap.objs.size = none := ⟨get_size _, led_none sub (get_size _)⟩
  have hsz : Builtin.Range.rangeSize a b 2 = (((b - a + 1) / 2).toNat : Int) := by
    unfold Builtin.Range.rangeSize
    rw [if_pos (by decide)]
    split <;> lia
  have hsm : Builtin.Range.small a b 2 = true := by
    unfold Builtin.Range.small
    rw [hsz]
    simp only [Builtin.Range.rangeFitsLong, Bool.and_eq_true, Bool.or_eq_true, decide_eq_true_eq, beq_iff_eq, show (2 : Int) > 0 by decide, if_true]
    lia
  refine EvT.now sub ok fun Q E hQ => wpAny_pyIter_range hr hsm (hQ _ _ _ (kp_push _ _) ?_)
  have K := fun (A' : Around) (hA : A'.handled = none) => turns_of (target := target) (Walks.range (prog := Γ.prog) (w := Γ.w) (A := A') hA s.heap.objs.size a 2 ((b - a + 1) / 2).toNat) (T := "range_iterator") (by decide) fun i h st => ⟨_, st, rfl⟩
  rw [← rangeL_len a 2 ((b - a + 1) / 2).toNat] at K
  refine ItAt.intro K ?_ (fun b hb => ?_) (fun b hb => ?_) (fun i h st b hb => ?_) (by rw [rangeL_len]; unfold line; lia) (fun A' s' Q' E' st hq => wpAny_pyIter_rangeiter st hq) ?_
  · show IsRangeIter _ _ _ _ _
    rw [hsz, rangeL_len]
    have := Heap.get?_push_size (h := s.heap) (o := { cls := .type "range_iterator", data := .fields #[rawInt a, rawInt (((b - a + 1) / 2).toNat : Int), rawInt 2] }) rfl
    simpa using this
  · obtain rfl := List.mem_singleton.mp hb; exact fresh
  · obtain rfl := List.mem_singleton.mp hb; exact .inl fresh
  · obtain rfl := List.mem_singleton.mp hb; exact ⟨_, st, nd_fields rfl, _, rfl⟩
  · intro i v h' d hP hd
    obtain ⟨t, rfl⟩ := hP
    rw [rangeL_get2 _ _ _ _ hd]
    exact .inl (.int _ _)
noncomputable def seqC : Bool → String
  | false => "list"
  | true => "tuple"
noncomputable def SeqAt (h : Heap) (b : Bool) (l : Addr) (xs : Array Value) : Prop := ∃ k, h.get? l = some { cls := .type (seqC b), data := .seq xs k }
theorem SeqAt.push {h : Heap} {b : Bool} {l : Addr} {xs : Array Value} (x : SeqAt h b l xs) (o : Obj) : SeqAt (h.push o) b l xs := let ⟨k, e⟩ := x; ⟨k, Heap.get?_push_of_some _ e⟩
theorem it_rev {v : Value} {l : List Dat} (sub : ∀ a o, Z a = some o → s.heap.get? a = some o) (ok : ∀ a o, Z a = some o → Tt o) (r : RepB Z s.heap v (.lst l)) (hs : ∀ b, v = .ref b → src Z b) :
    EvT Γ A env Z s (ItAt Γ target src s.heap) (.ok l.reverse) (fun Q E s => wpAny (model Γ.prog Γ.w) A (call (.type "reversed") [v]) (fun xv s₁ => wpAny (model Γ.prog Γ.w) A (pyIter xv) Q E s₁) E s) := by
  have fresh : s.heap.get? s.heap.objs.size = none ∧ Z s.heap.objs.size = none := ⟨get_size _, led_none sub (get_size _)⟩
  obtain ⟨a, vs, rfl, p, z, rl⟩ := r.list sub
  have hne : a ≠ s.heap.objs.size := fun e => by obtain ⟨k, q⟩ := p; rw [e, get_size] at q; cases q
  have hit : Heap.IsRevIter (s.heap.push (revObj a ((vs.toArray.size : Int) - 1))) s.heap.objs.size a ((vs.toArray.size : Int) - 1 - ((0 : Nat) : Int)) := ⟨_, Heap.get?_push_size _ rfl, rfl, by simp [revObj]⟩
  refine EvT.now sub ok fun Q E hQ => call_reversed_list p.isList (wpAny_pyIter_revIter hit (hQ _ _ s.toks (kp_push _ _) ?_))
  have K := fun (A' : Around) (hA : A'.handled = none) => turns_of (target := target) (Walks.listRev (prog := Γ.prog) (w := Γ.w) (A := A') hA s.heap.objs.size a hne vs.toArray) (T := "list_reverseiterator") (by decide) fun i h st => let ⟨o, ho, hc, _⟩ := st.2.1; ⟨o, ho, hc⟩
  have hl' : vs.toArray.size = l.reverse.length := by simp [rl.length]
  have K' := K
  rw [hl'] at K'
  refine ItAt.intro (ds := l.reverse) K' ?_ (fun b hb => ?_) (fun b hb => ?_) (fun i h st b hb => ?_) (by rw [← hl']; simpa using z) (fun A' s' Q' E' st hq => wpAny_pyIter_revIter st.2.1 hq) ?_
  · exact ⟨Nat.zero_le _, hl' ▸ hit, Heap.IsList.push p.isList _⟩
  · obtain rfl := List.mem_singleton.mp hb; exact fresh
  · rcases List.mem_cons.mp hb with rfl | hb
    · exact .inl fresh
    · obtain rfl := List.mem_singleton.mp hb; exact .inr (hs _ rfl)
  · rcases List.mem_cons.mp hb with rfl | hb
    · obtain ⟨o, ho, hc, hd⟩ := st.2.1; exact ⟨o, ho, nd_fields hd, _, hc⟩
    · obtain rfl := List.mem_singleton.mp hb
      obtain ⟨o, ho, hc, hd⟩ := st.2.2; exact ⟨o, ho, nd_seq hd, _, hc⟩
  · intro i v h' d' hP hd
    have hP : vs.toArray[l.reverse.length - 1 - i]? = some v := hP
    rw [← hl'] at hP
    have hi : i < l.length := by
      have := (List.getElem?_eq_some_iff.mp hd).1
      simpa using this
    obtain ⟨d2, e2, r2⟩ := rl.get' (k := vs.length - 1 - i) (v := v) (by simpa using hP)
    rw [List.getElem?_reverse hi] at hd
    rw [rl.length, hd] at e2
    cases e2; exact .inl r2
end
end Mine
namespace Mine
open PySem PySem.Calls PyProof.Rows
inductive BorAt (nm : Nm) (ρ : List Val) (m : Str → Option Value) (a : Addr) : Prop
  | mk (x : _) (i : _) (ds : _) : (nm.lookup x = some i) → (ρ.getD i .un = .bor ds) → (m x = some (.ref a)) → BorAt nm ρ m a
noncomputable def srcF (nm : Nm) (ρ : List Val) (m : Str → Option Value) (Z : Led) (b : Addr) : Prop := (∃ o, Z b = some o) ∨ BorAt nm ρ m b
noncomputable def srcT (_ : Led) (_ : Addr) : Prop := True
noncomputable def PS {α : Type} (src : Led → Addr → Prop) (R : Led → Heap → Value → α → Prop) : Led → Heap → Value → α → Prop := fun Z h v d => R Z h v d ∧ ∀ b, v = .ref b → src Z b
noncomputable abbrev RLs (Z : Led) (h : Heap) (v : Value) (l : List Dat) : Prop := RepB Z h v (.lst l)
noncomputable def RAr (Γ : Cx) (Z : Led) (h : Heap) (v : Value) (x : Val) : Prop := RepV Γ Z (fun _ => True) h v x ∧ argOk x = true
noncomputable def zipTg (t : T) (target : Expr) : Prop := t.isZip = true → ∃ elts q pos, target = .Tuple elts q pos
noncomputable def SndI (Γ : Cx) (n : Nat) (Φ : Nat → List Val → Out Val) (t : T) : Prop :=
  ∀ (nm : Nm) (ρ : List Val) (A : Around) (env : Env) (Z : Led) (s : Shared) (m : Str → Option Value) (target e : Expr), chkI Γ.gs t nm env.scope e = true → zipTg t target → EnvOk env → AOx Γ nm n A env → Inv Γ nm ρ env Z s.heap m →
    EvT Γ A env Z s (ItAt Γ target srcT s.heap) (its Φ t ρ) (itT Γ A e env)
noncomputable def SndF (Γ : Cx) (n : Nat) (Φ : Nat → List Val → Out Val) (t : T) : Prop :=
  ∀ (nm : Nm) (ρ : List Val) (A : Around) (env : Env) (Z : Led) (s : Shared) (m : Str → Option Value) (target e : Expr), chkI Γ.gs t nm env.scope e = true → zipTg t target → EnvOk env → AOx Γ nm n A env → Inv Γ nm ρ env Z s.heap m →
    EvT Γ A env Z s (ItAt Γ target (srcF nm ρ m) s.heap) (itsF Φ t ρ) (itT Γ A e env)
section
variable {Γ : Cx} {n : Nat} {Φ : Nat → List Val → Out Val} {A : Around} {env : Env} {Z : Led} {s : Shared} {nm : Nm} {ρ : List Val} {m : Str → Option Value} {target : Expr} {src : Led → Addr → Prop}
theorem Rep.atZ {b : Addr} {d : Dat} (r : Rep Z (.ref b) d) : ∃ o, Z b = some o := by
  cases r with
  | tup z _ _ => exact ⟨_, z⟩
  | lst z _ _ => exact ⟨_, z⟩
  | dic z => exact ⟨_, z⟩
theorem snd_srcV {i : Nat} {e : Expr} (hc : chk Γ.gs (.v i) nm env.scope e = true) (O : EnvOk env) (I : Inv Γ nm ρ env Z s.heap m) :
    EvT Γ A env Z s (PS (srcF nm ρ m) (RAr Γ)) (srcF1 (ρ.getD i .un)) (wpt Γ A (eval e env)) := inv_v hc fun x p he h1 h2 => by
  subst he
  obtain ⟨kd, nl⟩ := varOf_kind h2
  intro hne Q E hQ hE
  obtain ⟨v, e, r⟩ := I.var x i nl fun q => hne (by rw [q]; rfl)
  cases hy : ρ.getD i .un with
  | sh d =>
    rw [hy] at hQ r
    exact load_var O.kind I.fr kd e h1 (hQ (.sh d) v Z s.heap s.toks rfl I.refl ⟨⟨r, rfl⟩, fun b hb => by subst hb; exact .inl (Rep.atZ r)⟩)
  | bor ds =>
    rw [hy] at hQ r
    have r' := r
    obtain ⟨a, vs, rfl, p, z, rl⟩ := r
    exact load_var O.kind I.fr kd e h1 (hQ (.bor ds) _ Z s.heap s.toks rfl I.refl ⟨⟨r', rfl⟩, fun b hb => by cases hb; exact .inr ⟨x, i, ds, nl, hy, e⟩⟩)
  | _ => rw [hy] at hne; exact absurd rfl hne
theorem snd_srcE {r : Out Val} {W : Tr Value} (H : EvT Γ A env Z s (PW Γ s.heap) r W) : EvT Γ A env Z s (PS (srcF nm ρ m) (RAr Γ)) (r >>= srcE1) W := by
  refine H.conv fun Z' h' v x g p => ?_
  cases x with
  | sh d => exact .inr ⟨_, Z', rfl, g, ⟨p, rfl⟩, fun b hb => by subst hb; exact .inl (Rep.atZ p)⟩
  | own ds =>
    obtain ⟨a, rfl, f, o⟩ := p
    obtain ⟨Z'', g', _, r, _⟩ := freeze_own g f o
    exact .inr ⟨_, Z'', rfl, g', ⟨r, rfl⟩, fun b hb => by cases hb; exact .inl (Rep.atZ r)⟩
  | _ => exact .inl rfl
noncomputable def SndV (Γ : Cx) (n : Nat) (Φ : Nat → List Val → Out Val) (t : T) : Prop :=
  ∀ (nm : Nm) (ρ : List Val) (A : Around) (env : Env) (Z : Led) (s : Shared) (m : Str → Option Value) (e : Expr), chk Γ.gs t nm env.scope e = true → EnvOk env → AOx Γ nm n A env → Inv Γ nm ρ env Z s.heap m →
    EvT Γ A env Z s (PS (srcF nm ρ m) (RAr Γ)) (srcV Φ t ρ) (wpt Γ A (eval e env))
theorem snd_srcT {r : Out Val} {W : Tr Value} (H : EvT Γ A env Z s (PW Γ s.heap) r W) : EvT Γ A env Z s (PS srcT (RAr Γ)) (r >>= argV) W :=
  H.toA.mono fun _ _ _ _ _ _ p => ⟨p, fun _ _ => trivial⟩
theorem bor_list {x : Val} {l : List Dat} {h : Heap} {v : Value} (e : x = .sh (.lst l) ∨ x = .bor l) (r : RAr Γ Z h v x) : RepB Z h v (.lst l) := by
  rcases e with rfl | rfl
  · exact .inl r.1
  · exact r.1.toB rfl nofun
theorem EvT.itV {r : Out Val} {W : Tr Value} (H : EvT Γ A env Z s (PS src (RAr Γ)) r W) : EvT Γ A env Z s (PS src RIt) (r >>= itemsV) W := by
  refine H.conv fun Z' h' v x g p => ?_
  cases x with
  | sh d =>
    cases d with
    | lst l => exact .inr ⟨l, Z', rfl, g, .inl (.inl p.1.1), p.2⟩
    | tup l => exact .inr ⟨l, Z', rfl, g, .inr (.inl (.inl p.1.1)), p.2⟩
    | str l =>
      obtain ⟨x, t, e, rfl, o, le⟩ := Rep.str_inv p.1.1
      exact .inr ⟨_, Z', rfl, g, .inr (.inr ⟨x, t, e, o, le, rfl⟩), p.2⟩
    | _ => exact .inl rfl
  | bor l => exact .inr ⟨l, Z', rfl, g, .inl (bor_list (.inr rfl) p.1), p.2⟩
  | own l => cases p.1.2
  | _ => exact .inl rfl
theorem EvT.itL {r : Out Val} {W : Tr Value} (H : EvT Γ A env Z s (PS src (RAr Γ)) r W) : EvT Γ A env Z s (PS src RLs) (r >>= itemsL) W := by
  refine H.conv fun Z' h' v x g p => ?_
  cases x with
  | sh d =>
    cases d with
    | lst l => exact .inr ⟨l, Z', rfl, g, .inl p.1.1, p.2⟩
    | _ => exact .inl rfl
  | bor l => exact .inr ⟨l, Z', rfl, g, bor_list (.inr rfl) p.1, p.2⟩
  | own l => cases p.1.2
  | _ => exact .inl rfl
theorem iter_val {e : Expr} {r : Out (List Dat)} (H : EvT Γ A env Z s (PS src RIt) r (wpt Γ A (eval e env))) : EvT Γ A env Z s (ItAt Γ target src s.heap) r (itT Γ A e env) :=
  EvT.then (W2 := fun xv => wpt Γ A (pyIter xv)) H fun d v Z' h' tk _ g p => (it_val g.sub g.ok p.1 p.2).mono fun _ _ _ _ _ _ q => q.old g.kp
theorem iter_rev (C : CxOk Γ) {x : Str} {px pos : Pos} {y : Expr} (hd : notDebug x = true) (hg : globOf Γ.gs env.scope x = some (.bi (.type "reversed"))) (hy : notStar y = true) (O : EnvOk env) (I : Inv Γ nm ρ env Z s.heap m)
    {r : Out (List Dat)} (H : EvT Γ A env Z s (PS src RLs) r (wpt Γ A (eval y env))) : EvT Γ A env Z s (ItAt Γ target src s.heap) (r >>= fun l => .ok l.reverse) (itT Γ A (.Call (.Name x px) [y] [] pos) env) := by
  obtain ⟨k, l⟩ := globOf_kind hg
  obtain ⟨e1, e2⟩ := C.gl _ _ l
  have hs : backTo pos (starEach [y] env) = [(false, eval y env)] := by rw [star_cons hy]; rfl
  refine EvT.rule (fun Q E h => Call_ (load_bui O C.g C.b I k e1 e2 hd (by rw [hs]; exact callWith_bt' rfl rfl (evalArgs_plain (spliced_cons h)))))
    (EvT.bind (W2 := fun v Q E s => wpAny (model Γ.prog Γ.w) A (spliced []) (fun vs s₂ => wpAny (model Γ.prog Γ.w) A (call (.type "reversed") ([] ++ (v :: vs))) (fun xv s₁ => wpAny (model Γ.prog Γ.w) A (pyIter xv) Q E s₁) E s₂) E s) H fun d v Z' h' tk _ g p => ?_)
  exact EvT.rule (fun Q E h => spliced_nil h) ((it_rev g.sub g.ok p.1 p.2).mono fun _ _ _ _ _ _ q => q.old g.kp)
theorem iter_rng1 (C : CxOk Γ) {x : Str} {px pos : Pos} {y : Expr} (hd : notDebug x = true) (hg : globOf Γ.gs env.scope x = some (.bi (.type "range"))) (hy : notStar y = true) (O : EnvOk env) (I : Inv Γ nm ρ env Z s.heap m)
    {r : Out Int} (H : EvT Γ A env Z s PI r (wpt Γ A (eval y env))) : EvT Γ A env Z s (ItAt Γ target src s.heap) (r >>= rngD) (itT Γ A (.Call (.Name x px) [y] [] pos) env) := by
  obtain ⟨k, l⟩ := globOf_kind hg
  obtain ⟨e1, e2⟩ := C.gl _ _ l
  have hs : backTo pos (starEach [y] env) = [(false, eval y env)] := by rw [star_cons hy]; rfl
  refine EvT.rule (fun Q E h => Call_ (load_bui O C.g C.b I k e1 e2 hd (by rw [hs]; exact callWith_bt' rfl rfl (evalArgs_plain (spliced_cons h)))))
    (EvT.bind (W2 := fun v Q E s => wpAny (model Γ.prog Γ.w) A (spliced []) (fun vs s₂ => wpAny (model Γ.prog Γ.w) A (call (.type "range") ([] ++ (v :: vs))) (fun xv s₁ => wpAny (model Γ.prog Γ.w) A (pyIter xv) Q E s₁) E s₂) E s) H fun i v Z' h' tk _ g p => ?_)
  obtain ⟨t, rfl⟩ := p
  rw [rngD_eq]
  refine EvT.guard fun hi => ?_
  · skip
    have g2 : Grow Z' h' Z' (h'.push { cls := .type "range", data := .fields #[.int 0 tk, .int i t, .int 1 (tk + 1)] }) := Grow.keep g.sub g.ok (kp_push _ _)
    have K := it_range (Γ := Γ) (A := A) (env := env) (target := target) (src := src) (s := { s with heap := h'.push { cls := .type "range", data := .fields #[.int 0 tk, .int i t, .int 1 (tk + 1)] }, toks := tk + 1 + 1 }) g2.sub g2.ok (IsRange.new h' 0 i 1 _ _ _) (by lia) (by lia) hi.1 hi.2
    rw [Int.sub_zero] at K
    intro hne Q E hQ hE
    refine spliced_nil (call_range_1 (K hne Q E (fun x v Z3 h3 tk3 e g3 q => hQ x v Z3 h3 tk3 e (g2.trans g3) ((q.old g2.kp).old g.kp)) fun c e Z3 h3 tk3 q g3 xp => hE c e Z3 h3 tk3 q (g2.trans g3) (xp.old fun a q => g2.kp.none q)))
theorem iter_rng2 (C : CxOk Γ) {x : Str} {px pos : Pos} {y z : Expr} (hd : notDebug x = true) (hg : globOf Γ.gs env.scope x = some (.bi (.type "range"))) (hy : notStar y = true) (hz : notStar z = true) (O : EnvOk env) (I : Inv Γ nm ρ env Z s.heap m)
    {r1 r2 : Out Int} (H1 : EvT Γ A env Z s PI r1 (wpt Γ A (eval y env))) (H2 : ∀ Z' h' tk, Grow Z s.heap Z' h' → EvT Γ A env Z' { s with heap := h', toks := tk } PI r2 (wpt Γ A (eval z env))) :
    EvT Γ A env Z s (ItAt Γ target src s.heap) (r1 >>= fun x => r2 >>= fun y => rngD2 x y) (itT Γ A (.Call (.Name x px) [y, z] [] pos) env) := by
  obtain ⟨k, l⟩ := globOf_kind hg
  obtain ⟨e1, e2⟩ := C.gl _ _ l
  have hs : backTo pos (starEach [y, z] env) = [(false, eval y env), (false, eval z env)] := by rw [star_cons hy, star_cons hz]; rfl
  refine EvT.rule (fun Q E h => Call_ (load_bui O C.g C.b I k e1 e2 hd (by rw [hs]; exact callWith_bt' rfl rfl (evalArgs_plain (spliced_cons h)))))
    (EvT.bind (W2 := fun v Q E s => wpAny (model Γ.prog Γ.w) A (spliced [(false, eval z env)]) (fun vs s₂ => wpAny (model Γ.prog Γ.w) A (call (.type "range") ([] ++ (v :: vs))) (fun xv s₁ => wpAny (model Γ.prog Γ.w) A (pyIter xv) Q E s₁) E s₂) E s) H1 fun i v Z' h' tk _ g p => ?_)
  refine EvT.rule (fun Q E h => spliced_cons h) (EvT.bind (W2 := fun u Q E s => wpAny (model Γ.prog Γ.w) A (spliced []) (fun vs s₂ => wpAny (model Γ.prog Γ.w) A (call (.type "range") ([] ++ (v :: u :: vs))) (fun xv s₁ => wpAny (model Γ.prog Γ.w) A (pyIter xv) Q E s₁) E s₂) E s) (H2 Z' h' tk g) fun j u Z2 h2 tk2 _ g2 p2 => ?_)
  obtain ⟨t, rfl⟩ := p
  obtain ⟨t2, rfl⟩ := p2
  rw [rngD2_eq]
  refine EvT.guard fun hi => ?_
  · skip
    have g3 : Grow Z2 h2 Z2 (h2.push { cls := .type "range", data := .fields #[.int i t, .int j t2, .int 1 tk2] }) := Grow.keep g2.sub g2.ok (kp_push _ _)
    have K := it_range (Γ := Γ) (A := A) (env := env) (target := target) (src := src) (s := { s with heap := h2.push { cls := .type "range", data := .fields #[.int i t, .int j t2, .int 1 tk2] }, toks := tk2 + 1 }) g3.sub g3.ok (IsRange.new h2 i j 1 _ _ _) hi.1 hi.2.1 hi.2.2.1 hi.2.2.2
    intro hne Q E hQ hE
    refine spliced_nil (call_range_2 (K hne Q E (fun x v Z3 h3 tk3 e g4 q => hQ x v Z3 h3 tk3 e (g3.trans g4) (((q.old g3.kp).old g2.kp).old g.kp)) fun c e Z3 h3 tk3 q g4 xp => hE c e Z3 h3 tk3 q (g3.trans g4) (xp.old fun a q => g3.kp.none q)))
theorem iter_rng3 (C : CxOk Γ) {x : Str} {px pos : Pos} {y z y3 : Expr} (hd : notDebug x = true) (hg : globOf Γ.gs env.scope x = some (.bi (.type "range"))) (hy : notStar y = true) (hz : notStar z = true) (hy3 : notStar y3 = true) (O : EnvOk env) (I : Inv Γ nm ρ env Z s.heap m)
    {r1 r2 r3 : Out Int} (H1 : EvT Γ A env Z s PI r1 (wpt Γ A (eval y env))) (H2 : ∀ Z' h' tk, Grow Z s.heap Z' h' → EvT Γ A env Z' { s with heap := h', toks := tk } PI r2 (wpt Γ A (eval z env))) (H3 : ∀ Z' h' tk, Grow Z s.heap Z' h' → EvT Γ A env Z' { s with heap := h', toks := tk } PI r3 (wpt Γ A (eval y3 env))) :
    EvT Γ A env Z s (ItAt Γ target src s.heap) (r1 >>= fun x => r2 >>= fun y => r3 >>= fun z => rngD3 x y z) (itT Γ A (.Call (.Name x px) [y, z, y3] [] pos) env) := by
  obtain ⟨k, l⟩ := globOf_kind hg
  obtain ⟨e1, e2⟩ := C.gl _ _ l
  have hs : backTo pos (starEach [y, z, y3] env) = [(false, eval y env), (false, eval z env), (false, eval y3 env)] := by rw [star_cons hy, star_cons hz, star_cons hy3]; rfl
  refine EvT.rule (fun Q E h => Call_ (load_bui O C.g C.b I k e1 e2 hd (by rw [hs]; exact callWith_bt' rfl rfl (evalArgs_plain (spliced_cons h)))))
    (EvT.bind (W2 := fun v Q E s => wpAny (model Γ.prog Γ.w) A (spliced [(false, eval z env), (false, eval y3 env)]) (fun vs s₂ => wpAny (model Γ.prog Γ.w) A (call (.type "range") ([] ++ (v :: vs))) (fun xv s₁ => wpAny (model Γ.prog Γ.w) A (pyIter xv) Q E s₁) E s₂) E s) H1 fun i v Z' h' tk _ g p => ?_)
  refine EvT.rule (fun Q E h => spliced_cons h) (EvT.bind (W2 := fun u Q E s => wpAny (model Γ.prog Γ.w) A (spliced [(false, eval y3 env)]) (fun vs s₂ => wpAny (model Γ.prog Γ.w) A (call (.type "range") ([] ++ (v :: u :: vs))) (fun xv s₁ => wpAny (model Γ.prog Γ.w) A (pyIter xv) Q E s₁) E s₂) E s) (H2 Z' h' tk g) fun j u Z2 h2 tk2 _ g2 p2 => ?_)
  refine EvT.rule (fun Q E h => spliced_cons h) (EvT.bind (W2 := fun w Q E s => wpAny (model Γ.prog Γ.w) A (spliced []) (fun vs s₂ => wpAny (model Γ.prog Γ.w) A (call (.type "range") ([] ++ (v :: u :: w :: vs))) (fun xv s₁ => wpAny (model Γ.prog Γ.w) A (pyIter xv) Q E s₁) E s₂) E s) (H3 Z2 h2 tk2 (g.trans g2)) fun c w Z3 h3 tk3 _ g3 p3 => ?_)
  obtain ⟨t, rfl⟩ := p
  obtain ⟨t2, rfl⟩ := p2
  obtain ⟨t3, rfl⟩ := p3
  rw [rngD3_eq]
  refine EvT.guard fun hi => ?_
  obtain ⟨rfl, hi⟩ := hi
  have g4 : Grow Z3 h3 Z3 (h3.push { cls := .type "range", data := .fields #[.int i t, .int j t2, .int 2 t3] }) := Grow.keep g3.sub g3.ok (kp_push _ _)
  have K := it_range2 (Γ := Γ) (A := A) (env := env) (target := target) (src := src) (s := { s with heap := h3.push { cls := .type "range", data := .fields #[.int i t, .int j t2, .int 2 t3] }, toks := tk3 }) g4.sub g4.ok (IsRange.new h3 i j 2 _ _ _) hi.1 hi.2.1 hi.2.2.1 hi.2.2.2
  intro hne Q E hQ hE
  refine spliced_nil (call_range_3 (by decide) (K hne Q E (fun x v Z5 h5 tk5 e g5 q => hQ x v Z5 h5 tk5 e (g4.trans g5) ((((q.old g4.kp).old g3.kp).old g2.kp).old g.kp)) fun c e Z5 h5 tk5 q g5 xp => hE c e Z5 h5 tk5 q (g4.trans g5) (xp.old fun a q => g4.kp.none q)) (.inl (PyProof.noPylong_small (by lia))))
end
end Mine
namespace Mine
open PySem PySem.Calls PyProof.Rows
section
variable {Γ : Cx} {n : Nat} {Φ : Nat → List Val → Out Val} {A : Around} {env : Env} {Z : Led} {s : Shared} {nm : Nm} {ρ : List Val} {m : Str → Option Value} {target : Expr} {src : Led → Addr → Prop}
theorem snd_rng_any (C : CxOk Γ) {a b c : T} (ha : SndE Γ n Φ a) (hb : SndE Γ n Φ b) (hc3 : SndE Γ n Φ c) {e : Expr} (hc : chkI Γ.gs (.rng a b c) nm env.scope e = true) (O : EnvOk env) (AO : AOx Γ nm n A env) (I : Inv Γ nm ρ env Z s.heap m) :
    EvT Γ A env Z s (ItAt Γ target src s.heap) (rngS a c (evA Φ a) (evA Φ b) (evA Φ c) ρ) (itT Γ A e env) := inv_rng hc fun x p q h1 h2 => by
  refine ⟨?_, ?_, ?_⟩
  · intro y he hn ha' h3 h4
    subst he ha' hn
    exact iter_rng1 C h1 h2 h3 O I (hb nm ρ A env Z s m y h4 O AO I).toI
  · intro y z he hn ha' h3 h4 h5 h6
    subst he hn
    show EvT Γ A env Z s _ (cond a.isNil (ev Φ b ρ >>= intD >>= rngD) (ev Φ a ρ >>= intD >>= fun x => ev Φ b ρ >>= intD >>= fun y => rngD2 x y)) _
    rw [ha']
    exact iter_rng2 C h1 h2 h3 h4 O I (ha nm ρ A env Z s m y h5 O AO I).toI fun Z' h' tk g => (hb nm ρ A env Z' _ m z h6 O AO (I.grow g)).toI
  · intro y z w he hn h3 h4 h5 h6 h7 h8
    subst he
    unfold rngS
    rw [hn]
    exact iter_rng3 C h1 h2 h3 h4 h5 O I (ha nm ρ A env Z s m y h6 O AO I).toI (fun Z' h' tk g => (hb nm ρ A env Z' _ m z h7 O AO (I.grow g)).toI) fun Z' h' tk g => (hc3 nm ρ A env Z' _ m w h8 O AO (I.grow g)).toI
structure ValT (Γ : Cx) (Φ : Nat → List Val → Out Val) (t : T) : Prop where
  c : ∀ nm sc e, chkI Γ.gs t nm sc e = true → chk Γ.gs t nm sc e = true
  i : ∀ ρ, its Φ t ρ = (ev Φ t ρ >>= argV >>= itemsV)
  f : ∀ ρ, itsF Φ t ρ = (srcV Φ t ρ >>= itemsV)
  k : ∀ ρ, itsK Φ t ρ = (ev Φ t ρ >>= itemsS)
theorem snd_I_val {t : T} (V : ValT Γ Φ t) (H : SndE Γ n Φ t) : SndI Γ n Φ t := fun nm ρ A env Z s m target e hc _ O AO I => by
  rw [V.i]
  exact iter_val (EvT.itV (snd_srcT (H nm ρ A env Z s m e (V.c _ _ _ hc) O AO I)))
theorem snd_F_val {t : T} (V : ValT Γ Φ t) (H : SndV Γ n Φ t) : SndF Γ n Φ t := fun nm ρ A env Z s m target e hc _ O AO I => by
  rw [V.f]
  exact iter_val (EvT.itV (H nm ρ A env Z s m e (V.c _ _ _ hc) O AO I))
theorem snd_I_rng (C : CxOk Γ) {a b c : T} (ha : SndE Γ n Φ a) (hb : SndE Γ n Φ b) (h3 : SndE Γ n Φ c) : SndI Γ n Φ (.rng a b c) :=
  fun nm ρ A env Z s m target e hc _ O AO I => snd_rng_any C ha hb h3 hc O AO I
theorem snd_F_rng (C : CxOk Γ) {a b c : T} (ha : SndE Γ n Φ a) (hb : SndE Γ n Φ b) (h3 : SndE Γ n Φ c) : SndF Γ n Φ (.rng a b c) :=
  fun nm ρ A env Z s m target e hc _ O AO I => snd_rng_any C ha hb h3 hc O AO I
theorem snd_I_rev {a : T} : SndI Γ n Φ (.rev a) := fun nm ρ A env Z s m target e hc _ O AO I => .bad
theorem snd_F_rev (C : CxOk Γ) {a : T} (ha : SndV Γ n Φ a) : SndF Γ n Φ (.rev a) := fun nm ρ A env Z s m target e hc _ O AO I => inv_rev hc fun x p y q he h1 h2 h3 h4 => by
  subst he
  exact iter_rev C h1 h2 h3 O I (EvT.itL (ha nm ρ A env Z s m y h4 O AO I))
end
end Mine
namespace Mine
open PySem PySem.Calls PyProof.Rows
section
variable {Γ : Cx} {n : Nat} {Φ : Nat → List Val → Out Val} {A : Around} {env : Env} {Z : Led} {s : Shared} {nm : Nm} {ρ : List Val} {m : Str → Option Value}
theorem base_plain {o : Expr} (h : notCall o = true) (name : Str) (env : Env) (whole : Sem Value) : attributeBase o name env whole = whole := by
  cases o <;> first | rfl | exact (Bool.false_ne_true h).elim
theorem Call_meth {o : Expr} {name : Str} {apos pos : Pos} {args : List Expr} {Q E : Value → Shared → Prop} (hb : notCall o = true) (hl : (apos.endLine == pos.line) = true) (hp : (backTo pos (starEach args env)).any (·.1) = false) (hn : args.length < 30)
    (h : wpAny (model Γ.prog Γ.w) A (eval o env) (fun ov s₁ => ∀ pl, wpAny (model Γ.prog Γ.w) A (getMethod ov name pl) (fun fx s₂ => wpAny (model Γ.prog Γ.w) A (callWith pos fx.1 fx.2 (backTo pos (starEach args env)) []) Q E s₂) E s₁) E s) :
    wpAny (model Γ.prog Γ.w) A (eval (.Call (.Attribute o name apos) args [] pos) env) Q E s := by
  rw [arm_eval_Call, base_plain hb]
  refine wpAny_bind (wpAny_mono h (fun ov s₁ h₁ => ?_) fun _ _ e => e)
  refine wpAny_bind (wpAny_standAt ?_)
  have hform : methodCallForm (args.length + ([] : List Keyword).length) (backTo pos (starEach args env)) (backToKw pos (keywordEach [] env)) = true := by
    unfold methodCallForm
    have : (backTo pos (starEach args env)).all (!·.1) = true := by
      rw [List.all_eq_not_any_not]; simpa using hp
    rw [this]
    show (true && true && decide (args.length + 0 + 0 < 30)) = true
    simpa using hn
  have hpos : methodCallPos true o env apos pos = pure pos := by unfold methodCallPos; simp [hl]
  unfold methodCall
  rw [hform]
  exact wpAny_bind (wpAny_holding (wpAny_mono (h₁ _) (fun fx s₂ h₂ => wpAny_bind (wpAny_of_eq hpos h₂)) fun _ _ e => e))
theorem findIdx_spec {ds : List Dat} {a : Dat} {i : Nat} (h : ds.findIdx? (fun x => Dat.eq x a) = some i) : ∃ d, ds[i]? = some d ∧ Dat.eq d a = true ∧ ∀ j, j < i → ∀ d, ds[j]? = some d → Dat.eq d a = false := by
  obtain ⟨hi, h1, h2⟩ := List.findIdx?_eq_some_iff_getElem.mp h
  refine ⟨ds[i], List.getElem?_eq_getElem hi, h1, fun j hj d hd => ?_⟩
  obtain ⟨hj', e⟩ := List.getElem?_eq_some_iff.mp hd
  have := h2 j hj
  rw [e] at this
  simpa using this
theorem ev_index {v u : Value} {l : List Dat} {a : Dat} (AO : AOk n A) (sub : ∀ a o, Z a = some o → s.heap.get? a = some o) (ok : ∀ a o, Z a = some o → Tt o) (hx : RepB Z s.heap v (.lst l)) (hy : RepB Z s.heap u a) {h₀ : Heap} :
    EvT Γ A env Z s (PW Γ h₀) (indexD l a) (wpt Γ A (call (.builtin "list.index") [v, u])) :=
  EvT.guard fun f => by
    cases hi : l.findIdx? (fun x => Dat.eq x a) with
    | none => exact .bad
    | some i =>
      have fl : ∀ d ∈ l, d.fine 20 = true := List.all_eq_true.mp (and_inv f).2
      obtain ⟨b, vs, rfl, ⟨k, p⟩, z, rl⟩ := hx.list sub
      obtain ⟨⟨as, ra⟩, la, da⟩ := hy.reads sub (and_inv f).1
      obtain ⟨⟨bs, rb⟩, lb, db⟩ := (rl_both sub).2 rl 20 fl
      obtain ⟨d, hd, e1, e2⟩ := findIdx_spec hi
      have hlen := rl.length
      have hil : i < l.length := (List.getElem?_eq_some_iff.mp hd).1
      have key : ∀ j (hj : j < vs.toArray.size) d, l[j]? = some d → PyData.eqv (SeqAt.readOf s.heap vs.toArray[j]) (pyOf a) = Dat.eq d a := fun j hj d hd => by
        obtain ⟨w', hw, rw'⟩ := rl.get hd
        have hw' : vs.toArray[j] = w' := by
          have : vs[j]? = some vs.toArray[j] := by simp
          rw [this] at hw; exact Option.some.inj hw
        have fd := fl d (List.mem_of_getElem? hd)
        obtain ⟨cs, rd⟩ := reads_of sub 20 rw' fd
        rw [hw', SeqAt.readOf_eq ((rl_both sub).1 rw' 20 fd).2.1 rd]; rfl
      refine EvT.data sub ok (fun Q E hQ => call_meets PySem.F.slot_list_index ⟨_, p, rfl⟩ PySem.F.entry_list_index (PySem.F.args_list_index_2 _ _)
        (PySem.SeqAt.list_indexAt b vs.toArray k none #[] u (fun y => PyData.eqv (SeqAt.readOf s.heap y) (pyOf a)) i (by simp; lia) ?_ ?_ ?_) ⟨p, SeqAt.items_eqAt rb ra lb la (AO.deep (Nat.le_refl _) (.inr da)), hQ _ _ _ (.refl _) (.int _ _)⟩)
      · unfold line at z; lia
      · exact (key i _ d hd).trans e1
      · intro j hj hlt
        have hj' : j < l.length := by simp at hj; lia
        exact (key j hj _ (List.getElem?_eq_getElem hj')).trans (e2 j hlt _ (List.getElem?_eq_getElem hj'))
theorem count_eq (sub : ∀ a o, Z a = some o → s.heap.get? a = some o) {a : Dat} : ∀ {vs : List Value} {l : List Dat}, RepL Z vs l → (∀ d ∈ l, d.fine 20 = true) → vs.countP (fun y => PyData.eqv (SeqAt.readOf s.heap y) (pyOf a)) = l.countP fun x => Dat.eq x a := by
  intro vs
  induction vs with
  | nil => intro l r _; cases r; rfl
  | cons v vs ih =>
    intro l r fl
    cases r with
    | @cons _ d _ ds r1 r2 =>
      have fd := fl d (List.mem_cons_self ..)
      obtain ⟨cs, rd⟩ := reads_of sub 20 r1 fd
      rw [List.countP_cons, List.countP_cons, ih r2 fun d hd => fl d (List.mem_cons_of_mem _ hd), SeqAt.readOf_eq ((rl_both sub).1 r1 20 fd).2.1 rd]
      rfl
theorem ev_count {v u : Value} {l : List Dat} {a : Dat} (AO : AOk n A) (sub : ∀ a o, Z a = some o → s.heap.get? a = some o) (ok : ∀ a o, Z a = some o → Tt o) (hx : RepB Z s.heap v (.lst l)) (hy : RepB Z s.heap u a) {h₀ : Heap} :
    EvT Γ A env Z s (PW Γ h₀) (countD l a) (wpt Γ A (call (.builtin "list.count") [v, u])) :=
  EvT.guard fun f => by
    have fl : ∀ d ∈ l, d.fine 20 = true := List.all_eq_true.mp (and_inv f).2
    obtain ⟨b, vs, rfl, ⟨k, p⟩, z, rl⟩ := hx.list sub
    obtain ⟨⟨as, ra⟩, la, da⟩ := hy.reads sub (and_inv f).1
    obtain ⟨⟨bs, rb⟩, lb, db⟩ := (rl_both sub).2 rl 20 fl
    refine EvT.data sub ok (fun Q E hQ => call_meets PySem.F.slot_list_count ⟨_, p, rfl⟩ PySem.F.entry_list_count (PySem.F.args_list_count_2 _ _)
      (PySem.SeqAt.list_countAt b vs.toArray k none #[] u (fun y => PyData.eqv (SeqAt.readOf s.heap y) (pyOf a))) ⟨p, SeqAt.items_eqAt rb ra lb la (AO.deep (Nat.le_refl _) (.inr da)), hQ _ _ _ (.refl _) ?_⟩)
    have := count_eq (a := a) sub rl fl
    rw [show vs.toArray.toList = vs from rfl, this]
    exact .int _ _
theorem up128 : ∀ c, c < 128 → Unicode.upperOf c = [upperC c] := by decide +kernel
theorem ev_upper {x : Str} {t : Tok} {y : List Nat} (sub : ∀ a o, Z a = some o → s.heap.get? a = some o) (ok : ∀ a o, Z a = some o → Tt o) (hx : x.cps.toList = y) (ox : PyData.strOk x = true) (lx : x.length ≤ line) {h₀ : Heap} :
    EvT Γ A env Z s (PW Γ h₀) (upper1 y []) (wpt Γ A (call (.builtin "str.upper") [.str x t])) :=
  EvT.guard fun f => by
    have hc : ∀ c ∈ x.cps.toList, c < 128 := fun c h => Nat.le_of_ble_eq_true (List.all_eq_true.mp (and_inv f).1 c (hx ▸ h))
    have hu : Txt.upper x = ⟨x.cps.map upperC⟩ := by
      show (⟨_⟩ : Str) = _
      rw [placed_single x _ upperC fun i c h => up128 c (hc c (List.mem_of_getElem? h))]
    have hl : (Txt.upper x).length ≤ line := by rw [hu]; show (x.cps.map upperC).size ≤ line; rw [Array.size_map]; exact lx
    have hr : y.map upperC = (Txt.upper x).cps.toList := by rw [hu, ← hx]; exact (Array.toList_map ..).symm
    have ho : PyData.strOk (Txt.upper x) = true := by
      rw [hu]
      show (x.cps.map upperC).all (· < 0x110000) = true
      rw [← Array.all_toList, Array.toList_map, List.all_map]
      refine List.all_eq_true.mpr fun c h => decide_eq_true ?_
      have := hc c h
      show upperC c < _
      unfold upperC
      split <;> lia
    have hlen : x.length ≤ 1000 := by
      have : y.length ≤ 1000 := Nat.le_of_ble_eq_true (and_inv f).2
      rw [← hx, Array.length_toList] at this
      exact this
    rw [hr]
    exact EvT.data sub ok fun Q E hQ => SC.upper (fit_upper (Nat.le_trans hlen (by decide))) (hQ _ _ _ (.refl _) (.str _ _ ho hl))
section
variable {Γ : Cx} {A : Around} {env : Env} {Z : Led} {s : Shared} {h₀ : Heap}
theorem strs_of {vs : List Value} {l : List Dat} {ws : List (List Nat)} (r : RepL Z vs l) (e : strsOf l = some ws) : ∃ ys : List Str, StrsAre vs ys ∧ ys.map (fun y => y.cps.toList) = ws ∧ ∀ y ∈ ys, PyData.strOk y = true := by
  induction vs generalizing l ws with
  | nil => cases r; cases e; exact ⟨[], .nil, rfl, fun _ h => (nomatch h)⟩
  | cons v vs ih =>
    cases r with
    | @cons _ d _ ds a r =>
      cases d with
      | str x =>
        obtain ⟨w, e1, rfl⟩ := Option.map_eq_some_iff.mp (show (strsOf ds).map (x :: ·) = some ws from e)
        obtain ⟨ys, h1, h2, h3⟩ := ih r e1
        obtain ⟨y, t, rfl, hx, ok, le⟩ := Rep.str_inv a
        refine ⟨y :: ys, .cons y t h1, by rw [List.map_cons, hx, h2], fun z hz => ?_⟩
        rcases List.mem_cons.1 hz with rfl | hz
        · exact ok
        · exact h3 z hz
      | _ => cases e
theorem join_list_of (x : Str) (ok : PyData.strOk x = true) : ∀ (ys : List Str), (∀ y ∈ ys, PyData.strOk y = true) → (Str.join x ys).cps.toList = joinW x.cps.toList (ys.map (fun y => y.cps.toList)) ∧ PyData.strOk (Str.join x ys) = true ∧ (Str.join x ys).length ≤ (ys.map (·.length)).sum + ys.length * x.length
  | [], _ => ⟨rfl, by simp [Str.join, Str.empty, PyData.strOk], Nat.zero_le _⟩
  | [y], h => ⟨rfl, h y (.head _), by show y.length ≤ _; simp⟩
  | y :: z :: r, h => by
    obtain ⟨h1, h2, h3⟩ := join_list_of x ok (z :: r) fun q hq => h q (.tail _ hq)
    have e : Str.join x (y :: z :: r) = y ++ x ++ Str.join x (z :: r) := rfl
    rw [e]
    refine ⟨?_, strOk_append (strOk_append (h y (.head _)) ok) h2, ?_⟩
    · show ((y.cps ++ x.cps) ++ (Str.join x (z :: r)).cps).toList = _
      rw [Array.toList_append, Array.toList_append, h1]; rfl
    · rw [Str.length_append, Str.length_append, List.map_cons, List.sum_cons, List.length_cons, Nat.succ_mul]; omega
theorem ev_join {v u : Value} {sep : List Nat} {l : List Dat} (sub : ∀ a o, Z a = some o → s.heap.get? a = some o) (ok : ∀ a o, Z a = some o → Tt o) (hx : RepB Z s.heap v (.str sep)) (hy : RepB Z s.heap u (.lst l)) :
    EvT Γ A env Z s (PW Γ h₀) (joinD sep l) (wpt Γ A (call (.builtin "str.join") [v, u])) := by
  unfold joinD
  cases hs : strsOf l with
  | none => exact .bad
  | some ws =>
    show EvT Γ A env Z s (PW Γ h₀) (if _ then _ else _) _
    by_cases hc : (ws.map List.length).sum + ws.length * sep.length ≤ line
    · rw [if_pos hc]
      obtain ⟨x, t, rfl, rfl, ox, lx⟩ := hx.str
      obtain ⟨b, vs, rfl, p, z, rl⟩ := hy.list sub
      obtain ⟨ys, h1, rfl, h3⟩ := strs_of rl hs
      obtain ⟨j1, j2, j3⟩ := join_list_of x ox ys h3
      have hl : (ys.map (·.length)).sum + ys.length * x.length ≤ line := by
        have e : (List.map List.length (ys.map fun y => y.cps.toList)) = ys.map (·.length) := by
          rw [List.map_map]; exact List.map_congr_left fun y _ => Array.length_toList
        rw [e, List.length_map] at hc
        have e2 : x.cps.toList.length = x.length := Array.length_toList
        rw [e2] at hc; exact hc
      refine EvT.data sub ok fun Q E hQ => join_list p.isList (by simpa using h1) hl fun t' k => hQ _ _ _ (Kp.refl _) ?_
      rw [← j1]
      exact (congrArg (fun q => Rep Z (.str q t') (.str (Str.join x ys).cps.toList)) (StrLaws.glued_eq_join x ys)).mpr (Rep.str (Str.join x ys) t' j2 (Nat.le_trans j3 hl))
    · rw [if_neg hc]; exact .bad
end
theorem split_free {w : List Nat} (h : 32 ∉ w) : splitOn 32 w = [w] := by
  induction w with
  | nil => rfl
  | cons c w ih =>
    have h1 : ¬ c = 32 := fun e => h (e ▸ List.mem_cons_self ..)
    refine (if_neg h1).trans ?_
    rw [ih fun q => h (List.mem_cons_of_mem _ q)]
theorem split_app {w t : List Nat} (h : 32 ∉ w) : splitOn 32 (w ++ 32 :: t) = w :: splitOn 32 t := by
  induction w with
  | nil => exact if_pos rfl
  | cons c w ih =>
    have h1 : ¬ c = 32 := fun e => h (e ▸ List.mem_cons_self ..)
    refine (if_neg h1).trans ?_
    show (match splitOn 32 (w ++ 32 :: t) with | [] => [[c]] | w :: ws => (c :: w) :: ws) = _
    rw [ih fun q => h (List.mem_cons_of_mem _ q)]
theorem split_join : ∀ {ws : List (List Nat)}, ws ≠ [] → (∀ w ∈ ws, 32 ∉ w) → splitOn 32 (joinW [32] ws) = ws
  | [], h, _ => absurd rfl h
  | [w], _, h => split_free (h w (List.mem_cons_self ..))
  | w :: v :: ws, _, h => by
    show splitOn 32 (w ++ [32] ++ joinW [32] (v :: ws)) = _
    rw [List.append_assoc]
    refine (split_app (h w (List.mem_cons_self ..))).trans ?_
    show w :: splitOn 32 (joinW [32] (v :: ws)) = _
    rw [split_join (ws := v :: ws) nofun fun x hx => h x (List.mem_cons_of_mem _ hx)]
theorem part_ok {x p : Str} (ok : PyData.strOk x = true) (h : p ∈ Txt.split x ⟨#[32]⟩) : PyData.strOk p = true := by
  have e := StrLaws.join_split x ⟨#[32]⟩
  have sub : ∀ (ys : List Str), p ∈ ys → ∀ c ∈ p.cps.toList, c ∈ (Str.join ⟨#[32]⟩ ys).cps.toList := by
    intro ys
    induction ys with
    | nil => intro h; cases h
    | cons y ys ih =>
      intro h c hc
      cases ys with
      | nil =>
        cases List.mem_singleton.1 h
        exact hc
      | cons z r =>
        show c ∈ ((y.cps ++ (⟨#[32]⟩ : Str).cps) ++ (Str.join ⟨#[32]⟩ (z :: r)).cps).toList
        rw [Array.toList_append, Array.toList_append]
        rcases List.mem_cons.1 h with rfl | h
        · exact List.mem_append_left _ (List.mem_append_left _ hc)
        · exact List.mem_append_right _ (ih h c hc)
  have hx : ∀ c ∈ x.cps.toList, c < 0x110000 := fun c hc => by
    have : x.cps.all (· < 0x110000) = true := ok
    rw [← Array.all_toList] at this
    exact of_decide_eq_true (List.all_eq_true.mp this c hc)
  show p.cps.all (· < 0x110000) = true
  rw [← Array.all_toList]
  exact List.all_eq_true.mpr fun c hc => decide_eq_true (hx c (by have := sub _ h c hc; rw [e] at this; exact this))
theorem split_words (x : Str) : (Txt.split x ⟨#[32]⟩).map (fun y => y.cps.toList) = splitOn 32 x.cps.toList := by
  have e := StrLaws.join_split x ⟨#[32]⟩
  have hj : ∀ ys : List Str, (Str.join ⟨#[32]⟩ ys).cps.toList = joinW [32] (ys.map fun y => y.cps.toList) := by
    intro ys
    induction ys with
    | nil => rfl
    | cons y ys ih =>
      cases ys with
      | nil => rfl
      | cons z r =>
        show ((y.cps ++ (⟨#[32]⟩ : Str).cps) ++ (Str.join ⟨#[32]⟩ (z :: r)).cps).toList = _
        rw [Array.toList_append, Array.toList_append, ih]; rfl
  have h := hj (Txt.split x ⟨#[32]⟩)
  rw [e] at h
  rw [h]
  refine (split_join (fun q => ?_) fun w hw => ?_).symm
  · have := split_pos x ⟨#[32]⟩
    rw [List.map_eq_nil_iff.mp q] at this
    exact absurd this (by decide)
  · obtain ⟨p, hp, rfl⟩ := List.mem_map.1 hw
    exact StrLaws.split_free x 32 p hp
theorem rep_strs : ∀ (l : List (Str × Tok)), (∀ p ∈ l, PyData.strOk p.1 = true ∧ p.1.length ≤ line) → RepL Z (strValues l) (l.map fun p => Dat.str p.1.cps.toList)
  | [], _ => .nil
  | p :: l, h => .cons (.str p.1 p.2 (h p (List.mem_cons_self ..)).1 (h p (List.mem_cons_self ..)).2) (rep_strs l fun q hq => h q (List.mem_cons_of_mem _ hq))
theorem split_call {prog : Program} {w : World} {A : Around} {E Q : Value → Shared → Prop} {s : Shared} {x y : Str} {t u : Tok} (hy : (y.length == 0) = false) (hsz : x.length + 2 ≤ sizeLine)
    (h : ∀ l k, l.map (·.1) = Txt.split x y → Q (.ref s.heap.objs.size) { s with heap := s.heap.push { cls := .type "list", data := .seq (strValues l).toArray }, toks := k }) : wpAny (model prog w) A (call (.builtin "str.split") [.str x t, .str y u]) Q E s := by
  have hn : (Builtin.Str.partsBetween x (Builtin.Str.occurrences x y 0 x.length (x.length + 1)) y.length).length ≤ sizeLine := by
    have := StrLaws.occ_length_le x y 0 x.length (x.length + 1)
    rw [length_partsBetween]; lia
  by_cases h1 : (decide (x.length < y.length) || decide (Builtin.Str.strKind x < Builtin.Str.strKind y)) = true
  · exact call_meets F.slot_str_split (typeIs_str _ _ _) F.entry_str_split (F.args_str_split_2 _ _) (meets_str_split_cannot_occur x y t u h1) (h [(x, t)] s.toks (if_pos h1).symm)
  · by_cases hf : (Builtin.Str.occurrences x y 0 x.length (x.length + 1)).isEmpty = true
    · exact call_meets F.slot_str_split (typeIs_str _ _ _) F.entry_str_split (F.args_str_split_2 _ _) (meets_str_split_not_found x y t u (Bool.eq_false_iff.mpr h1) hy hf) (h [(x, t)] s.toks ((if_neg h1).trans (if_pos hf)).symm)
    · refine call_meets F.slot_str_split (typeIs_str _ _ _) F.entry_str_split (F.args_str_split_2 _ _) (meets_str_split_sep x y t u (Bool.eq_false_iff.mpr h1) hy (Bool.eq_false_iff.mpr hf) (by lia) hn) ?_
      show wants Q E _ { s with toks := _, heap := s.heap.push { cls := .type "list", data := .seq (strsFrom s.toks (Builtin.Str.partsBetween x (Builtin.Str.occurrences x y 0 x.length (x.length + 1)) y.length)).toArray } }
      rw [strsFrom_eq]
      exact h _ _ ((numbered_texts _ _).trans ((if_neg h1).trans (if_neg hf)).symm)
theorem ev_split {x : Str} {t : Tok} {y : List Nat} {u : Value} {a : Dat} (sub : ∀ a o, Z a = some o → s.heap.get? a = some o) (ok : ∀ a o, Z a = some o → Tt o) (hx : x.cps.toList = y) (ox : PyData.strOk x = true) (hy : RepB Z s.heap u a) :
    EvT Γ A env Z s (PW Γ s.heap) (split2 y a) (wpt Γ A (call (.builtin "str.split") [.str x t, u])) := by
  cases a with
  | str sep =>
    refine EvT.guard fun hc => ?_
    obtain ⟨z, t', rfl, hz, oz, lz⟩ := hy.str
    obtain ⟨rfl, hl⟩ := hc
    have ez : z = ⟨#[32]⟩ := single z 32 hz
    subst ez hx
    have hlen : x.length ≤ 100000 := by rw [Array.length_toList] at hl; exact hl
    refine EvT.now sub ok fun Q E hQ => split_call rfl (Nat.le_trans (Nat.add_le_add_right hlen 2) (by decide)) fun l k e => hQ _ _ k (kp_push _ _) ?_
    have he : (splitOn 32 x.cps.toList).map Dat.str = l.map fun p => Dat.str p.1.cps.toList := by rw [← split_words, ← e, List.map_map, List.map_map]; rfl
    rw [he]
    refine own_at sub (get_size _) (Heap.get?_push_size _ rfl) ?_ (rep_strs l fun p hp => ?_)
    · have h1 := len_le_of_split e
      have h2 : (strValues l).length = l.length := by unfold strValues; rw [List.length_map]
      rw [h2]; unfold line; lia
    · have hm : p.1 ∈ Txt.split x ⟨#[32]⟩ := e ▸ List.mem_map.2 ⟨p, hp, rfl⟩
      have := part_short hm
      exact ⟨part_ok ox hm, by unfold line; lia⟩
  | _ => exact .bad
theorem snd_meth {me : Me} {a ts : T} (ha : SndE Γ n Φ a) (hl : SndL Γ n Φ ts) : SndE Γ n Φ (.meth me a ts) := fun nm ρ A env Z s m e hc O AO I => inv_meth hc fun o ap es cp he h3 h2 h4 h5 h6 => by
  subst he
  show EvT Γ A env Z s (PW Γ s.heap) (ev Φ a ρ >>= needB >>= fun x => if meOk me x then evT Φ ts ρ >>= allB >>= meD me x else .bad) _
  refine EvT.rule (fun Q E h => Call_meth h2 h3 (chkT_plain h6) h4 h) (EvT.bind (W2 := fun ov Q E s₁ => ∀ pl, wpAny (model Γ.prog Γ.w) A (getMethod ov (meN me) pl) (fun fx s₂ => wpAny (model Γ.prog Γ.w) A (callWith cp fx.1 fx.2 (backTo cp (starEach es env)) []) Q E s₂) E s₁) (ha nm ρ A env Z s m o h5 O AO I).toB fun d v Z' h' tk _ g p => ?_)
  refine EvT.guard fun hm => ?_
  cases me <;> cases d <;> first | exact (Bool.false_ne_true hm).elim | skip
  · rename_i l
    obtain ⟨b, vs0, rfl, pl0, z0, _⟩ := p.list g.sub
    refine EvT.rule (fun Q E h pl => getMethod_list_of PySem.F.slot_list_index PySem.F.type_list_index pl0.isList (by obtain ⟨k, q⟩ := pl0; exact ⟨_, q, rfl⟩) (callWith_bt rfl h6 h)) (EvT.eq (EvT.bind (W2 := fun vs => wpt Γ A (call (.builtin "list.index") ([.ref b] ++ vs))) (hl nm ρ A env Z' _ m es cp h6 O AO (I.grow g)) fun xs vs Z2 h2' tk2 _ g2 q => EvT.allB q.1 fun ds r => ?_) (Out.bind_assoc _ _ _))
    cases r with
    | nil => exact .bad
    | cons r1 r2 =>
      cases r2 with
      | nil => exact ev_index AO.toAOk g2.sub g2.ok (p.grow g2) r1
      | cons => exact .bad
  · rename_i y
    obtain ⟨x, t, rfl, hxy, ox, lx⟩ := RepB.str p
    refine EvT.rule (fun Q E h pl => GM.join (callWith_bt rfl h6 h)) (EvT.eq (EvT.bind (W2 := fun vs => wpt Γ A (call (.builtin "str.join") ([.str x t] ++ vs))) (hl nm ρ A env Z' _ m es cp h6 O AO (I.grow g)) fun xs vs Z2 h2' tk2 _ g2 q => EvT.allB q.1 fun ds r => ?_) (Out.bind_assoc _ _ _))
    cases r with
    | nil => exact .bad
    | @cons _ d _ _ r1 r2 =>
      cases r2 with
      | nil =>
        cases d with
        | lst l => exact ev_join g2.sub g2.ok (p.grow g2) r1
        | _ => exact .bad
      | cons => exact .bad
  · rename_i y
    obtain ⟨x, t, rfl, hxy, ox, lx⟩ := RepB.str p
    refine EvT.rule (fun Q E h pl => GM.split (callWith_bt rfl h6 h)) (EvT.eq (EvT.bind (W2 := fun vs => wpt Γ A (call (.builtin "str.split") ([.str x t] ++ vs))) (hl nm ρ A env Z' _ m es cp h6 O AO (I.grow g)) fun xs vs Z2 h2' tk2 _ g2 q => EvT.allB q.1 fun ds r => ?_) (Out.bind_assoc _ _ _))
    cases r with
    | nil => exact .bad
    | cons r1 r2 =>
      cases r2 with
      | nil => exact EvT.old (g.trans g2) (ev_split g2.sub g2.ok hxy ox r1)
      | cons => exact .bad
  · rename_i y
    obtain ⟨x, t, rfl, hxy, ox, lx⟩ := RepB.str p
    refine EvT.rule (fun Q E h pl => GM.upper (callWith_bt rfl h6 h)) (EvT.eq (EvT.bind (W2 := fun vs => wpt Γ A (call (.builtin "str.upper") ([.str x t] ++ vs))) (hl nm ρ A env Z' _ m es cp h6 O AO (I.grow g)) fun xs vs Z2 h2' tk2 _ g2 q => EvT.allB q.1 fun ds r => ?_) (Out.bind_assoc _ _ _))
    cases r with
    | nil => exact ev_upper g2.sub g2.ok hxy ox lx
    | cons => exact .bad
  · rename_i l
    obtain ⟨b, vs0, rfl, pl0, z0, _⟩ := p.list g.sub
    refine EvT.rule (fun Q E h pl => getMethod_list_of PySem.F.slot_list_count PySem.F.type_list_count pl0.isList (by obtain ⟨k, q⟩ := pl0; exact ⟨_, q, rfl⟩) (callWith_bt rfl h6 h)) (EvT.eq (EvT.bind (W2 := fun vs => wpt Γ A (call (.builtin "list.count") ([.ref b] ++ vs))) (hl nm ρ A env Z' _ m es cp h6 O AO (I.grow g)) fun xs vs Z2 h2' tk2 _ g2 q => EvT.allB q.1 fun ds r => ?_) (Out.bind_assoc _ _ _))
    cases r with
    | nil => exact .bad
    | cons r1 r2 =>
      cases r2 with
      | nil => exact ev_count AO.toAOk g2.sub g2.ok (p.grow g2) r1
      | cons => exact .bad
end
end Mine
namespace Mine
open PySem PySem.Calls PyProof.Rows
noncomputable def upd (m : Str → Option Value) (x : Str) (v : Value) : Str → Option Value := fun y => if y = x then some v else m y
theorem upd_self (m : Str → Option Value) (x : Str) (v : Value) : upd m x v x = some v := by simp [upd]
theorem upd_ne {m : Str → Option Value} {x y : Str} {v : Value} (h : y ≠ x) : upd m x v y = m y := by simp [upd, h]
section
variable {Γ : Cx} {n : Nat} {Φ : Nat → List Val → Out Val} {A : Around} {env : Env} {Z : Led} {s : Shared} {nm : Nm} {ρ : List Val} {m : Str → Option Value} {h h' : Heap}
theorem FrS.noSeq (F : FrS env h m) {a : Addr} (p : FP env a) {o : Obj} (e : h.get? a = some o) : ∀ vs k, o.data ≠ .seq vs k := by
  rcases p with rfl | ⟨x, k, l⟩
  · obtain ⟨⟨ml, ⟨o', es, ep, e', hd, _⟩, _⟩, _, _⟩ := F
    rw [e] at e'; cases e'; rw [hd]; simp
  · obtain ⟨c, l', o', e', hd⟩ := F.cel x k
    rw [l] at l'; cases l'; rw [e] at e'; cases e'; rw [hd]; simp
theorem FrS.noFld (F : FrS env h m) {a : Addr} (p : FP env a) {o : Obj} (e : h.get? a = some o) : ∀ vs, o.data ≠ .fields vs := by
  rcases p with rfl | ⟨x, k, l⟩
  · obtain ⟨⟨ml, ⟨o', es, ep, e', hd, _⟩, _⟩, _, _⟩ := F
    rw [e] at e'; cases e'; rw [hd]; simp
  · obtain ⟨c, l', o', e', hd⟩ := F.cel x k
    rw [l] at l'; cases l'; rw [e] at e'; cases e'; rw [hd]; simp
theorem FrS.dict {m' : Str → Option Value} (F : FrS env h m) (F' : FrS env h' m') {a L : Addr} (p : FP env a) (hs : Heap.SameBut a h h') (q : ∃ o es k, h.get? L = some o ∧ o.data = .dict es k) : ∃ o es k, h'.get? L = some o ∧ o.data = .dict es k := by
  obtain ⟨o, es, k, e, d⟩ := q
  by_cases ha : L = a
  · subst ha
    rcases p with rfl | ⟨x, kx, l⟩
    · obtain ⟨⟨ml, ⟨o', es, ep, e', hd, _⟩, _⟩, _, _⟩ := F'
      exact ⟨o', es, ep, e', hd⟩
    · obtain ⟨c, l', o', e', hd⟩ := F.cel x kx
      rw [l] at l'; cases l'; rw [e] at e'; cases e'; rw [hd] at d; cases d
  · exact ⟨o, es, k, hs.extBut L o ha e, d⟩
theorem FrS.cellNe (F : FrS env h m) {x : Str} {c : Addr} (k : env.kindOf x = some .cell) (l : env.cells.lookup x = some c) : c ≠ env.locals := by
  rintro rfl
  obtain ⟨c', l', o, e, hd⟩ := F.cel x k
  rw [l] at l'; cases l'
  obtain ⟨ml, ⟨o', es, ep, e', hd', _⟩, _⟩ := F.loc
  rw [e] at e'; cases e'; rw [hd] at hd'; cases hd'
noncomputable def StW (W : Addr → Prop) (env : Env) (x : Str) : Prop := (env.kindOf x = some .local → W env.locals) ∧ ∀ c, env.kindOf x = some .cell → env.cells.lookup x = some c → W c
theorem StW.fp (env : Env) (x : Str) : StW (FP env) env x := ⟨fun _ => .inl rfl, fun c k l => .inr ⟨x, k, l⟩⟩
theorem store_var (hk : env.scope.kind = .function) (F : FrS env s.heap m) {x : Str} (hx : env.kindOf x = some .local ∨ env.kindOf x = some .cell) {v : Value} {Q : Unit → Shared → Prop} {E : Value → Shared → Prop}
    (h : ∀ h' tk a, FP env a → (∀ W, StW W env x → W a) → Heap.SameBut a s.heap h' → (∃ o, h'.get? a = some o) → FrS env h' (upd m x v) → Q () { s with heap := h', toks := tk }) : wpAny (model Γ.prog Γ.w) A (storeName env x v) Q E s := by
  rcases hx with hx | hx
  · obtain ⟨ml, a, b⟩ := F.loc
    refine wpAny_storeName_local hx a (fun h' hn hs => h h' _ env.locals (.inl rfl) (fun W w => w.1 hx) hs (by obtain ⟨o, _, _, e, _⟩ := hn; exact ⟨o, e⟩) ⟨⟨_, hn, fun y hy => ?_⟩, fun y hy => ?_, F.inj⟩) (by rw [hk]; rfl)
    · unfold upd
      split
      · rfl
      · exact b y hy
    · obtain ⟨c, l, i⟩ := F.cel y hy
      refine ⟨c, l, ?_⟩
      have : upd m x v y = m y := upd_ne fun e => by subst e; rw [hx] at hy; cases hy
      rw [this]
      exact i.sameBut hs (F.cellNe hy l)
  · obtain ⟨c, l, i⟩ := F.cel x hx
    refine wpAny_storeName_cell hk hx l i fun h' hn hs => h h' _ c (.inr ⟨x, hx, l⟩) (fun W w => w.2 c hx l) hs (by obtain ⟨o, e, _⟩ := hn; exact ⟨o, e⟩) ⟨?_, fun y hy => ?_, F.inj⟩
    · obtain ⟨ml, a, b⟩ := F.loc
      refine ⟨ml, a.sameBut hs (F.cellNe hx l).symm, fun y hy => ?_⟩
      rw [upd_ne fun e => by subst e; rw [hx] at hy; cases hy]
      exact b y hy
    · by_cases e : y = x
      · subst e; exact ⟨c, l, (upd_self m y v).symm ▸ hn⟩
      · obtain ⟨c', l', i'⟩ := F.cel y hy
        rw [upd_ne e]
        exact ⟨c', l', i'.sameBut hs fun q => e (F.inj y x c' hy hx l' (q ▸ l))⟩
theorem RepV.store {fr : Addr → Prop} {v : Value} {y : Val} (F : FrS env h m) {a : Addr} (p : FP env a) (hs : Heap.SameBut a h h') (r : RepV Γ Z fr h v y) : RepV Γ Z fr h' v y := by
  have key : ∀ b o, h.get? b = some o → (∃ vs k, o.data = .seq vs k) → h'.get? b = some o := fun b o e ⟨vs, k, hd⟩ => hs.extBut b o (fun q => by subst q; exact F.noSeq p e vs k hd) e
  have pl : ∀ b vs, h.PlainList b vs → h'.PlainList b vs := fun b vs ⟨k, e⟩ => ⟨k, key b _ e ⟨_, _, rfl⟩⟩
  cases y with
  | own ds => obtain ⟨b, e, f, vs, z, q, l, rr⟩ := r; exact ⟨b, e, f, vs, z, pl _ _ q, l, rr⟩
  | bor ds => obtain ⟨b, vs, e, q, l, rr⟩ := r; exact ⟨b, vs, e, pl _ _ q, l, rr⟩
  | pr d ds => obtain ⟨t, b, u, k, e, ne, f1, f2, z, o, rr, vs, z', q, l, r'⟩ := r; exact ⟨t, b, u, k, e, ne, f1, f2, z, key _ _ o ⟨_, _, rfl⟩, rr, vs, z', pl _ _ q, l, r'⟩
  | un => exact r
  | sh d => exact r
  | shop a b => exact r
  | exc c => obtain ⟨e, oe, vs, C, h1, h2, h3, h4, h5⟩ := r; exact ⟨e, oe, vs, C, h1, h2, hs.extBut e oe (fun q => by subst q; exact F.noFld p h3 vs h5) h3, h4, h5⟩
noncomputable def stoOk : Val → Bool
  | .own _ => false
  | .bor _ => false
  | .pr _ _ => false
  | _ => true
theorem Inv.store (I : Inv Γ nm ρ env Z h m) {x : Str} {i : Nat} (hx : nm.lookup x = some i) {v : Value} {y : Val} (r : RepV Γ Z (fun _ => True) h v y)
    (hy : stoOk y = true ∨ ∃ ds a, y = .own ds ∧ v = .ref a ∧ Γ.base.get? a = none ∧ ∀ x' j es, x' ≠ x → nm.lookup x' = some j → (ρ.getD j .un = .own es ∨ ρ.getD j .un = .bor es) → m x' ≠ some (.ref a))
    {a : Addr} (p : FP env a) (hs : Heap.SameBut a h h') (F' : FrS env h' (upd m x v)) : Inv Γ nm (ρ.set i y) env Z h' (upd m x v) := by
  have get_ne : ∀ j, j ≠ i → (ρ.set i y).getD j .un = ρ.getD j .un := fun j hj => by simp [List.getD, List.getElem?_set, Ne.symm hj]
  have get_i : (ρ.set i y).getD i .un = y ∨ (ρ.set i y).getD i .un = .un := by
    by_cases hi : i < ρ.length
    · left; simp [List.getD, hi]
    · right; simp [List.getD, Nat.not_lt.mp hi]
  have idx : ∀ x' j, nm.lookup x' = some j → x' ≠ x → j ≠ i := fun x' j l ne q => ne (I.inj x' x i (q ▸ l) hx)
  refine ⟨F', fun b o e => hs.extBut b o (fun q => by subst q; rw [I.zfp b p] at e; cases e) (I.sub b o e), I.ok, I.zfp, I.kz, fun L hL => ⟨(I.ups L hL).1, I.fr.dict F' p hs (I.ups L hL).2⟩, ?_, ?_, I.inj, I.fpb, ?_, ?_⟩
  · intro x' j l hn
    by_cases e : x' = x
    · subst e
      rw [hx] at l; cases l
      rcases get_i with q | q
      · rw [q]; exact ⟨v, upd_self m x' v, r.store I.fr p hs⟩
      · exact absurd q hn
    · have hj := idx x' j l e
      rw [get_ne j hj] at hn ⊢
      obtain ⟨u, hu, ru⟩ := I.var x' j l hn
      exact ⟨u, (upd_ne e).trans hu, ru.store I.fr p hs⟩
  · intro j d ds q
    by_cases ej : j = i
    · subst ej
      rcases get_i with g | g
      · rw [g] at q; subst q
        rcases hy with hy | ⟨_, _, e1, _⟩
        · cases hy
        · cases e1
      · rw [g] at q; cases q
    · rw [get_ne j ej] at q; exact I.nopr j d ds q
  · rintro b ⟨x', j, ds, l, ho, hm⟩
    by_cases e : x' = x
    · subst e
      rw [hx] at l; cases l
      rcases get_i with q | q
      · rw [q] at ho
        rcases hy with hy | ⟨_, b', e1, e2, e3, _⟩
        · rw [ho] at hy; cases hy
        · rw [upd_self, e2] at hm; cases hm; exact e3
      · rw [q] at ho; cases ho
    · rw [get_ne j (idx x' j l e)] at ho
      rw [upd_ne e] at hm
      exact I.ownb b ⟨x', j, ds, l, ho, hm⟩
  · intro x1 x2 i1 i2 b ds es l1 l2 h1 h2 m1 m2
    by_cases e1 : x1 = x
    · subst e1
      rw [hx] at l1; cases l1
      rcases get_i with q | q
      · rw [q] at h1
        rcases hy with hy | ⟨_, b', c1, c2, c3, c4⟩
        · rw [h1] at hy; cases hy
        · rw [upd_self, c2] at m1; cases m1
          by_cases e2 : x2 = x1
          · exact e2.symm
          · rw [get_ne i2 (idx x2 i2 l2 e2)] at h2
            rw [upd_ne e2] at m2
            exact absurd m2 (c4 x2 i2 es e2 l2 h2)
      · rw [q] at h1; cases h1
    · rw [get_ne i1 (idx x1 i1 l1 e1)] at h1
      rw [upd_ne e1] at m1
      by_cases e2 : x2 = x
      · subst e2
        rw [hx] at l2; cases l2
        rcases get_i with q | q
        · rw [q] at h2
          rcases hy with hy | ⟨_, b', c1, c2, c3, c4⟩
          · rcases h2 with h2 | h2 <;> (rw [h2] at hy; cases hy)
          · rw [upd_self, c2] at m2; cases m2
            exact absurd m1 (c4 x1 i1 ds e1 l1 (.inl h1))
        · rw [q] at h2; rcases h2 with h2 | h2 <;> cases h2
      · rw [get_ne i2 (idx x2 i2 l2 e2)] at h2
        rw [upd_ne e2] at m2
        exact I.apart x1 x2 i1 i2 b ds es l1 l2 h1 h2 m1 m2
end
end Mine
namespace Mine
open PySem PySem.Calls PyProof.Rows
structure Post (Γ : Cx) (nm : Nm) (env : Env) (Z : Led) (h : Heap) (ρ : List Val) (m : Str → Option Value) (Z' : Led) (h' : Heap) (ρ' : List Val) (m' : Str → Option Value) : Prop where
  inv : Inv Γ nm ρ' env Z' h' m'
  le : Led.le Z Z'
  new : ∀ a o, Z' a = some o → Z a = some o ∨ h.get? a = none ∨ OwnAt nm ρ m a
  kp : KpB Z (fun a => FP env a ∨ OwnAt nm ρ m a) h h'
  own : ∀ a, OwnAt nm ρ' m' a → OwnAt nm ρ m a ∨ h.get? a = none
  ex : ∀ a, h'.get? a = none → h.get? a = none
  bor : ∀ a, BorAt nm ρ' m' a → BorAt nm ρ m a
  oth : ∀ x, nm.lookup x = none → m' x = m x
theorem BorAt.set {nm : Nm} {ρ : List Val} {m m' : Str → Option Value} {i : Nat} {y : Val} {a : Addr} (hy : ∀ ds, y ≠ .bor ds) (hm : ∀ x j, nm.lookup x = some j → j ≠ i → m' x = m x) (o : BorAt nm (ρ.set i y) m' a) : BorAt nm ρ m a := by
  obtain ⟨x', j, ds, l, ho, hmx⟩ := o
  by_cases hj : j = i
  · subst hj
    by_cases hi : j < ρ.length
    · have : (ρ.set j y).getD j .un = y := by simp [List.getD, hi]
      rw [this] at ho; exact absurd ho (hy ds)
    · have : (ρ.set j y).getD j .un = .un := by simp [List.getD, Nat.not_lt.mp hi]
      rw [this] at ho; cases ho
  · have : (ρ.set i y).getD j .un = ρ.getD j .un := by simp [List.getD, List.getElem?_set, Ne.symm hj]
    rw [this] at ho; rw [hm x' j l hj] at hmx
    exact ⟨x', j, ds, l, ho, hmx⟩
theorem upd_off {Γ : Cx} {env : Env} {Z : Led} {h : Heap} {nm : Nm} {ρ : List Val} {m : Str → Option Value} (I : Inv Γ nm ρ env Z h m) {x : Str} {i : Nat} (hx : nm.lookup x = some i) (v : Value) : ∀ y j, nm.lookup y = some j → j ≠ i → upd m x v y = m y := fun y j l ne => upd_ne fun e => ne (by subst e; rw [hx] at l; exact (Option.some.inj l).symm)
section
variable {Γ : Cx} {n : Nat} {Φ : Nat → List Val → Out Val} {A : Around} {env : Env} {Z Z' Z'' : Led} {s : Shared} {nm : Nm} {ρ ρ' ρ'' : List Val} {m m' m'' : Str → Option Value} {h h' h'' : Heap}
theorem Post.trans (p : Post Γ nm env Z h ρ m Z' h' ρ' m') (q : Post Γ nm env Z' h' ρ' m' Z'' h'' ρ'' m'') : Post Γ nm env Z h ρ m Z'' h'' ρ'' m'' where
  inv := q.inv
  le := fun a o e => q.le a o (p.le a o e)
  new := fun a o e => by
    rcases q.new a o e with e | e | e
    · exact p.new a o e
    · exact .inr (.inl (p.ex a e))
    · rcases p.own a e with e | e
      · exact .inr (.inr e)
      · exact .inr (.inl e)
  kp := fun b o nb e => by
    obtain ⟨k1, o1, e1, d1, c1⟩ := p.kp b o nb e
    have nb' : ¬ (FP env b ∨ OwnAt nm ρ' m' b) := fun q => by
      rcases q with q | q
      · exact nb (.inl q)
      · rcases p.own b q with q | q
        · exact nb (.inr q)
        · rw [q] at e; cases e
    obtain ⟨k2, o2, e2, d2, c2⟩ := q.kp b o1 nb' e1
    refine ⟨fun nf => ?_, o2, e2, d2.trans d1, c2.trans c1⟩
    have := k1 nf
    rw [e1] at this
    cases this
    exact k2 (nf.imp (p.le _ _) id)
  own := fun a e => by
    rcases q.own a e with e | e
    · exact p.own a e
    · exact .inr (p.ex a e)
  ex := fun a e => p.ex a (q.ex a e)
  bor := fun a e => p.bor a (q.bor a e)
  oth := fun x l => (q.oth x l).trans (p.oth x l)
theorem Post.grow (I : Inv Γ nm ρ env Z h m) (g : Grow Z h Z' h') : Post Γ nm env Z h ρ m Z' h' ρ m where
  inv := I.grow g
  le := g.le
  new := fun a o e => (g.new a o e).elim .inl fun e => .inr (.inl e)
  kp := g.kp.but
  own := fun a e => .inl e
  ex := fun a e => g.kp.none e
  bor := fun a e => e
  oth := fun _ _ => rfl
theorem sameBut_ex {a : Addr} (hs : Heap.SameBut a h h') (e : ∃ o, h'.get? a = some o) : ∀ b, h'.get? b = none → h.get? b = none := fun b q => by
  by_cases hb : b = a
  · subst hb; obtain ⟨o, e⟩ := e; rw [q] at e; cases e
  · rw [← hs.2 b hb]; exact q
theorem OwnAt.set_sub {x : Str} {i : Nat} {y : Val} {v : Value} (I : Inv Γ nm ρ env Z h m) (hx : nm.lookup x = some i) (hy : stoOk y = true) {a : Addr} (o : OwnAt nm (ρ.set i y) (upd m x v) a) : OwnAt nm ρ m a := by
  obtain ⟨x', j, ds, l, ho, hm⟩ := o
  by_cases e : x' = x
  · subst e
    rw [hx] at l; cases l
    by_cases hi : i < ρ.length
    · have : (ρ.set i y).getD i .un = y := by simp [List.getD, hi]
      rw [this] at ho; rw [ho] at hy; cases hy
    · have : (ρ.set i y).getD i .un = .un := by simp [List.getD, Nat.not_lt.mp hi]
      rw [this] at ho; cases ho
  · have hj : j ≠ i := fun q => e (I.inj x' x i (q ▸ l) hx)
    have : (ρ.set i y).getD j .un = ρ.getD j .un := by simp [List.getD, List.getElem?_set, Ne.symm hj]
    rw [this] at ho; rw [upd_ne e] at hm
    exact ⟨x', j, ds, l, ho, hm⟩
theorem Post.store (I : Inv Γ nm ρ env Z h m) {x : Str} {i : Nat} (hx : nm.lookup x = some i) {v : Value} {y : Val} (r : RepV Γ Z (fun _ => True) h v y) (hy : stoOk y = true)
    {a : Addr} (p : FP env a) (hs : Heap.SameBut a h h') (he : ∃ o, h'.get? a = some o) (F' : FrS env h' (upd m x v)) : Post Γ nm env Z h ρ m Z h' (ρ.set i y) (upd m x v) where
  inv := I.store hx r (.inl hy) p hs F'
  le := fun _ _ e => e
  new := fun _ _ e => .inl e
  kp := fun b o nb e => by
    have hb : b ≠ a := fun q => nb (.inl (q ▸ p))
    exact ⟨fun _ => hs.extBut b o hb e, o, hs.extBut b o hb e, rfl, rfl⟩
  own := fun a o => .inl (o.set_sub I hx hy)
  ex := sameBut_ex hs he
  bor := fun a o => o.set (fun ds e => by subst e; cases hy) (upd_off I hx v)
  oth := fun y l => upd_ne fun e => by subst e; rw [hx] at l; cases l
noncomputable def TgOk (nm : Nm) (env : Env) (xs : List Str) (is : List Nat) : Prop := xs.length = is.length ∧ ∀ (k : Nat) (x : Str) (i : Nat), xs[k]? = some x → is[k]? = some i → nm.lookup x = some i ∧ (env.kindOf x = some .local ∨ env.kindOf x = some .cell)
theorem tgNames_inv {P : Prop} {e : Expr} {es : List Expr} {xs : List Str} (h : tgNames (e :: es) xs = true) (f : ∀ x p ys, e = .Name x p → xs = x :: ys → tgNames es ys = true → P) : P :=
  onName_inv (k := fun x _ => onCons xs fun y ys => x == y && tgNames es ys) h fun x p he g => onCons_inv g fun _ ys hx g => f x p ys he (beq_inv (and_inv g).1 ▸ hx) (and_inv g).2
theorem assign_each (hk : env.scope.kind = .function) {W : Addr → Prop} : ∀ (es : List Expr) (xs : List Str) (is : List Nat) (vs : List Value) (ds : List Dat) (ρ ρ' : List Val) (m : Str → Option Value) (s : Shared) (Q : Unit → Shared → Prop) (E : Value → Shared → Prop),
    tgNames es xs = true → TgOk nm env xs is → (∀ x ∈ xs, StW W env x) → RepL Z vs ds → setAll ρ is ds = some ρ' → Inv Γ nm ρ env Z s.heap m →
    (∀ h' tk m', Post Γ nm env Z s.heap ρ m Z h' ρ' m' → (∀ b, ¬ W b → h'.get? b = s.heap.get? b) → Q () { s with heap := h', toks := tk }) →
    wpAny (model Γ.prog Γ.w) A (assignInOrder ((assignEach es env).map (·.2)) vs) Q E s
  | [], xs, is, vs, ds, ρ, ρ', m, s, Q, E, hn, ht, hw, hr, ha, I, h => by
    cases nil_inv hn
    cases is with
    | cons i is => exact absurd ht.1 (by simp)
    | nil =>
      cases ds with
      | cons d ds => cases ha
      | nil =>
        cases hr; cases ha
        exact wpAny_pure (h s.heap s.toks m (Post.grow I I.refl) fun b _ => rfl)
  | e :: es, xs, is, vs, ds, ρ, ρ', m, s, Q, E, hn, ht, hw, hr, ha, I, h => tgNames_inv hn fun x px xs' he hx hn' => by
    subst he hx
    cases is with
    | nil => exact absurd ht.1 (by simp)
    | cons i is =>
      cases ds with
      | nil => cases ha
      | cons d ds =>
        cases hr with
        | cons r1 r2 =>
          have ha : setAll (ρ.set i (.sh d)) is ds = some ρ' := ha
          obtain ⟨l, kd⟩ := ht.2 0 x i rfl rfl
          refine wpAny_assignInOrder_more (wpAny_assign_Name (store_var hk I.fr kd fun h1 tk1 a p pw hs he F1 => ?_))
          have P1 := Post.store I l (v := _) (y := .sh d) r1 rfl p hs he F1
          refine assign_each hk es xs' is _ ds _ ρ' _ _ Q E hn' ⟨by have := ht.1; simpa using this, fun k x i h1 h2 => ht.2 (k + 1) x i h1 h2⟩ (fun y hy => hw y (List.mem_cons_of_mem _ hy)) r2 ha P1.inv fun h2 tk2 m2 P2 k2 => ?_
          exact h h2 tk2 m2 (P1.trans P2) fun b nb => (k2 b nb).trans (hs.2 b fun q => nb (q ▸ pw W (hw _ List.mem_cons_self)))
theorem assignEach_len : ∀ (es : List Expr) (xs : List Str), tgNames es xs = true → (assignEach es env).length = xs.length ∧ (assignEach es env).findIdx? (·.1) = none
  | [], xs, hn => by cases nil_inv hn; exact ⟨rfl, rfl⟩
  | e :: es, xs, hn => tgNames_inv hn fun x px xs' he hx hn' => by
    subst he hx
    obtain ⟨h1, h2⟩ := assignEach_len es xs' hn'
    refine ⟨congrArg (· + 1) h1, ?_⟩
    show List.findIdx? (·.1) ((false, _) :: assignEach es env) = none
    simp [List.findIdx?_cons, h2]
theorem setAll_len : ∀ (is : List Nat) (ds : List Dat) (ρ ρ' : List Val), setAll ρ is ds = some ρ' → is.length = ds.length
  | [], [], _, _, _ => rfl
  | [], _ :: _, _, _, h => by cases h
  | _ :: _, [], _, _, h => by cases h
  | i :: is, d :: ds, ρ, ρ', h => by
    have h : setAll (ρ.set i (.sh d)) is ds = some ρ' := h
    simp [setAll_len is ds _ _ h]
theorem assign_tuple (hk : env.scope.kind = .function) (hh : A.handled = none) {W : Addr → Prop} {es : List Expr} {q : Nat} {pt : Pos} {xs : List Str} {is : List Nat} {t : Addr} {vs : List Value} {ds : List Dat} (hn : tgNames es xs = true) (ht : TgOk nm env xs is) (hw : ∀ x ∈ xs, StW W env x) (htu : s.heap.IsTuple t vs.toArray) (hr : RepL Z vs ds)
    (ha : setAll ρ is ds = some ρ') (I : Inv Γ nm ρ env Z s.heap m) {Q : Unit → Shared → Prop} {E : Value → Shared → Prop}
    (h : ∀ h' tk m', Post Γ nm env Z s.heap ρ m Z h' ρ' m' → (∀ b o, ¬ W b → s.heap.get? b = some o → h'.get? b = some o) → Q () { s with heap := h', toks := tk }) :
    wpAny (model Γ.prog Γ.w) A (assign (.Tuple es q pt) env (.ref t)) Q E s := by
  obtain ⟨l1, l2⟩ := assignEach_len (env := env) es xs hn
  refine wpAny_assign_Tuple hh htu (by rw [l1, ht.1, setAll_len _ _ _ _ ha, ← hr.length]; simp) l2 fun h1 e1 => ?_
  have k1 : ∀ b o, s.heap.get? b = some o → h1.get? b = some o := fun b o e => e1 b o (Nat.ne_of_lt (Heap.lt_size e)) e
  have g1 : Grow Z s.heap Z h1 := Grow.keep I.sub I.ok (Kp.of k1)
  exact assign_each hk es xs is vs ds ρ ρ' m { s with heap := h1 } Q E hn ht hw hr ha (I.grow g1) fun h2 tk2 m2 P2 k2 => h h2 tk2 m2 ((Post.grow I g1).trans P2) fun b o nb e => (k2 b nb).trans (k1 b o e)
theorem bindM_inv {x y : Str} {xs : List Str} {tg : List Nat} {d : Dat} (hl : (x :: y :: xs).length = tg.length) (hb : bindT tg d ρ = .ok ρ') : ∃ ds, d = .tup ds ∧ setAll ρ tg ds = some ρ' := by
  cases tg with
  | nil => cases hl
  | cons i r =>
    cases r with
    | nil => simp at hl
    | cons j r =>
      replace hb : bindM (i :: j :: r) d ρ = .ok ρ' := hb
      cases d with
      | tup ds =>
        unfold bindM at hb
        cases hs : setAll ρ (i :: j :: r) ds with
        | none => simp only [hs] at hb; cases hb
        | some ρ2 => simp only [hs] at hb; cases hb; exact ⟨ds, rfl, hs⟩
      | _ => cases hb
theorem assign_tgt (hk : env.scope.kind = .function) (hh : A.handled = none) {W : Addr → Prop} {target : Expr} {xs : List Str} {tg : List Nat} (ht : tgtOk target xs = true) (hx : TgOk nm env xs tg) (hw : ∀ x ∈ xs, StW W env x) {v : Value} {d : Dat} (r : RepT target Z s.heap v d) (hb : bindT tg d ρ = .ok ρ')
    (I : Inv Γ nm ρ env Z s.heap m) {Q : Unit → Shared → Prop} {E : Value → Shared → Prop}
    (h : ∀ h' tk m', Post Γ nm env Z s.heap ρ m Z h' ρ' m' → (∀ b o, ¬ W b → s.heap.get? b = some o → h'.get? b = some o) → Q () { s with heap := h', toks := tk }) :
    wpAny (model Γ.prog Γ.w) A (assign target env v) Q E s := by
  cases xs with
  | nil => cases ht
  | cons x xs =>
    cases xs with
    | nil =>
      refine onName_inv ht fun y px he g => ?_
      replace g := beq_inv g
      subst g he
      obtain ⟨i, rfl⟩ := List.length_eq_one_iff.mp hx.1.symm
      cases hb
      have r' : Rep Z v d := by
        rcases r with r | ⟨⟨_, _, _, e⟩, _⟩
        · exact r
        · cases e
      obtain ⟨l, kd⟩ := hx.2 0 y i rfl rfl
      refine wpAny_assign_Name (store_var hk I.fr kd fun h1 tk1 a p pw hs he F1 => ?_)
      exact h h1 tk1 _ (Post.store I l (y := .sh d) r' rfl p hs he F1) fun b o nb e => hs.extBut b o (fun q => nb (q ▸ pw W (hw _ List.mem_cons_self))) e
    | cons x2 xs =>
      refine onTuple_inv ht fun es q pt he hn => ?_
      subst he
      obtain ⟨ds, rfl, ha⟩ := bindM_inv hx.1 hb
      have : ∃ t vs, v = .ref t ∧ s.heap.IsTuple t vs.toArray ∧ RepL Z vs ds := by
        rcases r with r | ⟨_, T, vs, ds', k, e1, e2, e3, e4, _⟩
        · obtain ⟨a, vs, k, e, p, z, rl⟩ := Rep.tuple I.sub r
          exact ⟨a, vs, e, ⟨_, p, rfl, _, rfl⟩, rl⟩
        · cases e2; exact ⟨T, vs, e1, ⟨_, e3, rfl, _, rfl⟩, e4⟩
      obtain ⟨t, vs, rfl, htu, hr⟩ := this
      exact assign_tuple hk hh hn hx hw htu hr ha I h
end
end Mine
namespace Mine
open PySem PySem.Calls PyProof.Rows
section
variable {prog : Program} {w : World} {A : Around} {E : Value → Shared → Prop} {s : Shared}
theorem look_lri_len : typeLookup (.type "list_reverseiterator") "__len__" = pure none := by rw [typeLookup_type, builtinLookup_eq_fast]; kernel_rfl
theorem look_lri_hint : typeLookup (.type "list_reverseiterator") "__length_hint__" = pure (some (.builtin "list_reverseiterator.__length_hint__")) := by rw [typeLookup_type, builtinLookup_eq_fast]; kernel_rfl
theorem hint_rev {it l : Addr} {i : Int} {Q : Bool → Shared → Prop} (hit : s.heap.IsRevIter it l i) (h : Q false s) : wpAny (model prog w) A (Builtin.List.listLengthHint (.ref it)) Q E s := by
  unfold Builtin.List.listLengthHint
  refine wpAny_bind (wpAny_specialOf hit.typeIs look_lri_len ?_)
  try dsimp only
  try wp_delta
  refine wpAny_ite_split (fun hab => absurd hab (by decide +kernel)) (fun _ => ?_)
  try wp_delta
  refine wpAny_ite_split (fun hab => absurd hab (by decide +kernel)) (fun _ => ?_)
  refine wpAny_bind (wpAny_specialOf hit.typeIs look_lri_hint ?_)
  generalize hid : ("list_reverseiterator.__length_hint__" : String) = id0
  try dsimp only
  try wp_delta
  rw [show splitId id0 = some ("list_reverseiterator", "__length_hint__") from by subst hid; decide +kernel]
  subst hid
  refine wpAny_bind (wpAny_isInstance (T := "list_reverseiterator") (b := true) hit.typeIs (by rw [isSubtype_type]; kernel_rfl) ?_)
  refine wpAny_ite_split (fun hab => absurd hab (by decide)) (fun _ => ?_)
  refine wpAny_ite_split (fun _ => ?_) (fun hab => absurd rfl hab)
  refine wpAny_ite_split (fun hab => absurd hab (by decide +kernel)) (fun _ => ?_)
  exact wpAny_pure h
theorem extend_rev {R : Result → Shared → Prop} {it l : Addr} {items : Array Value} (hh : A.handled = none) (hit : s.heap.IsRevIter it l ((items.size : Int) - 1)) (hl : s.heap.IsList l items) (hlen : items.size ≤ sizeLine) (S : Addr) (res : Value) (c₀ : Nat)
    (hne : l ≠ it) (hSi : S ≠ it) (hSl : S ≠ l) (hS : s.heap.get? S = some { cls := .type "list", data := .seq #[] c₀ })
    (hR : ∀ h' tk acc' c', (∀ b o, b ≠ S → b ≠ it → s.heap.get? b = some o → h'.get? b = some o) → h'.get? S = some { cls := .type "list", dict := none, data := .seq acc' c', slots := #[] } →
      ItemsOf (fun i v => items[items.size - 1 - i]? = some v) acc' items.size → R (.ok (.ret res)) { s with heap := h', toks := tk }) :
    wpAny (model prog w) A.in1 (Builtin.List.listExtendWith (.ref S) (.ref it) res)
      (fun fin s' => match fin with | .done f => R (.ok f) s' | .again c' => c'.quiet = true ∧ codeAny (model prog w) A c' R s') (fun e s' => R (.error e) s') s := by
  have W := (Walks.listRev (prog := prog) (w := w) (A := A.in1) hh it l hne items).toS
  have hSf : S ∉ [it, l] := fun hm => by
    rcases List.mem_cons.mp hm with e | hm
    · exact hSi e
    · exact hSl (List.mem_singleton.mp hm)
  have key : codeAny (model prog w) A (.builtin "list.extend.loop" ⟨[.ref S, .ref it, res], []⟩) R s := by
    refine codeAny_extend_loopS W hlen S hSf res items.size 0 _ #[] c₀ rfl (Nat.zero_le _) ⟨Nat.zero_le _, by simpa using hit, hl⟩ hS (ItemsOf.nil _) fun s' acc' c' hm hS' hacc => ?_
    rw [Moved.eq_with hm]
    refine hR s'.heap s'.toks acc' c' (fun b o hb hb2 e => hm.heap b o (fun hmem => ?_) e) hS' hacc
    rcases List.mem_cons.mp hmem with e' | hmem
    · exact hb e'
    · exact hb2 (List.mem_singleton.mp hmem)
  unfold Builtin.List.listExtendWith
  refine wpAny_bind (wpAny_typeOf (T := "list_reverseiterator") hit.typeIs ?_)
  have h1 : Builtin.List.listSameRef (.ref S) (.ref it) = false := by simp [Builtin.List.listSameRef, hSi]
  have h2 : (Value.type "list_reverseiterator" == Value.type "list") = false := by decide
  have h3 : (Value.type "list_reverseiterator" == Value.type "tuple") = false := by decide
  simp only [h1, h2, h3, Bool.or_false, Bool.false_eq_true, if_false]
  refine wpAny_bind (wpAny_pyIter_revIter hit ?_)
  refine wpAny_bind (wpAny_holding (hint_rev hit ?_))
  exact wpAny_ite_split (fun hab => absurd hab (by decide)) (fun _ => wpAny_pure ⟨plainId_quiet F.plain_extend_loop _, key⟩)
theorem list_init_rev {R : Result → Shared → Prop} {it l : Addr} {items : Array Value} (hh : A.handled = none) (hit : s.heap.IsRevIter it l ((items.size : Int) - 1)) (hl : s.heap.IsList l items) (hlen : items.size ≤ sizeLine) (S : Addr)
    (hne : l ≠ it) (hSi : S ≠ it) (hSl : S ≠ l) (hS : s.heap.get? S = some { cls := .type "list", data := .seq #[] })
    (hR : ∀ h' tk acc' c', (∀ b o, b ≠ S → b ≠ it → s.heap.get? b = some o → h'.get? b = some o) → h'.get? S = some { cls := .type "list", dict := none, data := .seq acc' c', slots := #[] } →
      ItemsOf (fun i v => items[items.size - 1 - i]? = some v) acc' items.size → R (.ok (.ret .none)) { s with heap := h', toks := tk }) :
    wpAny (model prog w) A.in1 (Builtin.«list.__init__» ⟨[.ref S, .ref it], []⟩)
      (fun fin s' => match fin with | .done f => R (.ok f) s' | .again c' => c'.quiet = true ∧ codeAny (model prog w) A c' R s') (fun e s' => R (.error e) s') s := by
  show wpAny _ _ (do let old ← Builtin.List.listItems (.ref S); Builtin.List.listUpdate (.ref S) (fun _ => #[]); letGo old.toList.reverse; Builtin.List.listExtendWith (.ref S) (.ref it) .none) _ _ s
  refine wpAny_bind ?_
  unfold Builtin.List.listItems
  refine wpAny_bind (wpAny_seqItems hS rfl (wpAny_pure ?_))
  show wpAny _ _ (updateSeq S (fun _ => #[]) >>= fun _ => letGo (#[] : Array Value).toList.reverse >>= fun _ => Builtin.List.listExtendWith (.ref S) (.ref it) .none) _ _ s
  refine wpAny_bind (wpAny_updateSeq hS rfl ?_)
  have hS₂ := Heap.get?_update_self (Obj.mapSeq (fun _ => (#[] : Array Value))) hS rfl
  have oth : ∀ b o, b ≠ S → s.heap.get? b = some o → (s.heap.update S (Obj.mapSeq (fun _ => (#[] : Array Value)))).get? b = some o :=
    fun b o hb e => (Heap.get?_update_other _ _ (Ne.symm hb)).trans e
  refine wpAny_bind (wpAny_letGo ?_)
  refine extend_rev hh (hit.at fun o e => oth it o (Ne.symm hSi) e) (hl.at fun o e => oth l o (Ne.symm hSl) e) hlen S .none _ hne hSi hSl hS₂ fun h' tk acc' c' hk hS' hacc => ?_
  exact hR h' tk acc' c' (fun b o hb hb2 e => hk b o hb hb2 (oth b o hb e)) hS' hacc
theorem call_list_rev {Q : Value → Shared → Prop} {it l : Addr} {items : Array Value} (hh : A.handled = none) (hit : s.heap.IsRevIter it l ((items.size : Int) - 1)) (hl : s.heap.IsList l items) (hlen : items.size ≤ sizeLine) (hne : l ≠ it)
    (hQ : ∀ h' tk acc' c', (∀ b o, b ≠ it → s.heap.get? b = some o → h'.get? b = some o) →
      h'.get? s.heap.objs.size = some { cls := .type "list", dict := none, data := .seq acc' c', slots := #[] } → ItemsOf (fun i v => items[items.size - 1 - i]? = some v) acc' items.size → Q (.ref s.heap.objs.size) { s with heap := h', toks := tk }) :
    wpAny (model prog w) A (call (.type "list") [.ref it]) Q E s := by
  refine callType_codes (Q₁ := fun obj s₁ => obj = .ref s.heap.objs.size ∧ s₁ = { s with heap := s.heap.push { cls := .type "list", data := .seq #[] } }) F.called_list (F.typeCall_list_1 _) F.entry_list_init
    (code_list_new _ ⟨rfl, rfl⟩) fun obj s₁ h₁ => ?_
  obtain ⟨rfl, rfl⟩ := h₁
  have hS : (s.heap.push { cls := .type "list", data := .seq #[] }).get? s.heap.objs.size = some { cls := .type "list", data := .seq #[] } := Heap.get?_push_size _ rfl
  have n1 : s.heap.objs.size ≠ it := fun e => by obtain ⟨o, ho, _⟩ := hit; rw [← e] at ho; exact absurd (Heap.lt_size ho) (Nat.lt_irrefl _)
  have n2 : s.heap.objs.size ≠ l := fun e => by obtain ⟨o, ho, _⟩ := hl; rw [← e] at ho; exact absurd (Heap.lt_size ho) (Nat.lt_irrefl _)
  refine ⟨⟨_, hS, rfl⟩, F.args_list_init_2 _ _, list_init_rev (A := A.in1) hh (hit.at fun o e => Heap.get?_push_of_some _ e) (Heap.IsList.push hl _) hlen _ hne n1 n2 hS fun h' tk acc' c' hk hS' hacc => ?_⟩
  exact ⟨rfl, hQ h' tk acc' c' (fun b o hb e => hk b o (Nat.ne_of_lt (Heap.lt_size e)) hb (Heap.get?_push_of_some _ e)) hS' hacc⟩
end
section
variable {Γ : Cx} {n : Nat} {Φ : Nat → List Val → Out Val} {A : Around} {env : Env} {Z : Led} {s : Shared} {nm : Nm} {ρ : List Val} {m : Str → Option Value}
theorem items_rev {vs : List Value} {acc : Array Value} (h : ItemsOf (fun i v => vs.toArray[vs.toArray.size - 1 - i]? = some v) acc vs.toArray.size) : acc = vs.reverse.toArray := by
  obtain ⟨h1, h2⟩ := h
  apply Array.ext_getElem?
  intro i
  by_cases hi : i < vs.length
  · have hs : i < acc.size := by rw [h1]; simpa using hi
    have e := h2 i _ (Array.getElem?_eq_getElem hs)
    rw [Array.getElem?_eq_getElem hs]
    have hr : vs.reverse[i]? = vs[vs.length - 1 - i]? := List.getElem?_reverse hi
    simp only [List.size_toArray, List.getElem?_toArray] at e
    rw [List.getElem?_toArray, hr, e]
  · have hs : ¬ i < acc.size := by rw [h1]; simpa using hi
    rw [Array.getElem?_eq_none (by omega), List.getElem?_toArray, List.getElem?_eq_none (by simpa using hi)]
theorem ev_listRev {v : Value} {l : List Dat} (hh : A.handled = none) (sub : ∀ a o, Z a = some o → s.heap.get? a = some o) (ok : ∀ a o, Z a = some o → Tt o) (r : RepB Z s.heap v (.lst l)) :
    EvT Γ A env Z s (PW Γ s.heap) (.ok (.own l.reverse)) (fun Q E s => wpAny (model Γ.prog Γ.w) A (call (.type "reversed") [v]) (fun u s₃ => wpAny (model Γ.prog Γ.w) A (spliced []) (fun ws s₄ => wpAny (model Γ.prog Γ.w) A (call (.type "list") ([] ++ (u :: ws))) Q E s₄) E s₃) E s) := by
  obtain ⟨a, vs, rfl, p, z, rl⟩ := r.list sub
  have hne : a ≠ s.heap.objs.size := fun e => by obtain ⟨k, q⟩ := p; rw [e, get_size] at q; cases q
  have hit : Heap.IsRevIter (s.heap.push (revObj a ((vs.toArray.size : Int) - 1))) s.heap.objs.size a ((vs.toArray.size : Int) - 1) := ⟨_, Heap.get?_push_size _ rfl, rfl, rfl⟩
  refine EvT.now sub ok fun Q E hQ => call_reversed_list p.isList (spliced_nil (call_list_rev hh hit (Heap.IsList.push p.isList _) (by simpa [sizeLine_eq, line] using z) hne fun h' tk acc c' hk he hi => ?_))
  obtain rfl := items_rev hi
  have kp : ∀ b o, s.heap.get? b = some o → h'.get? b = some o := fun b o e => hk b o (Nat.ne_of_lt (Heap.lt_size e)) (Heap.get?_push_of_some _ e)
  refine hQ _ h' tk (Kp.of kp) (own_at sub ?_ he (by simpa using z) rl.reverse)
  cases q : s.heap.get? (s.heap.push (revObj a ((vs.toArray.size : Int) - 1))).objs.size with
  | none => rfl
  | some o => have := Heap.get?_push_of_some (revObj a ((vs.toArray.size : Int) - 1)) q; rw [get_size] at this; cases this
theorem snd_K_rev (C : CxOk Γ) {a : T} (ha : SndE Γ n Φ a) : SndE Γ n Φ (.mkL (.rev a)) := fun nm ρ A env Z s m e hc O AO I => inv_mkL hc fun x p v pos he h1 h2 h3 h4 => inv_rev h4 fun x' p' y q he' i1 i2 i3 i4 => by
  subst he he'
  show EvT Γ A env Z s (PW Γ s.heap) ((ev Φ a ρ >>= itemsL >>= fun l => .ok l.reverse) >>= fun ds => .ok (.own ds)) _
  obtain ⟨k, l⟩ := globOf_kind h2
  obtain ⟨e1, e2⟩ := C.gl _ _ l
  obtain ⟨k', l'⟩ := globOf_kind i2
  obtain ⟨f1, f2⟩ := C.gl _ _ l'
  have hs : backTo pos (starEach [.Call (.Name x' p') [y] [] q] env) = [(false, eval (.Call (.Name x' p') [y] [] q) env)] := by rw [star_cons h3]; rfl
  have hs2 : backTo q (starEach [y] env) = [(false, eval y env)] := by rw [star_cons i3]; rfl
  have hr : ((ev Φ a ρ >>= itemsL >>= fun l => .ok l.reverse) >>= fun ds => .ok (.own ds)) = (ev Φ a ρ >>= itemsL >>= fun l => Out.ok (Val.own l.reverse)) := by
    cases (ev Φ a ρ >>= itemsL) <;> rfl
  rw [hr]
  refine EvT.rule (fun Q E h => Call_ (load_bui O C.g C.b I k e1 e2 h1 (by rw [hs]; exact callWith_bt' rfl rfl (evalArgs_plain (spliced_cons (Call_ (load_bui O C.g C.b I k' f1 f2 i1 (by rw [hs2]; exact callWith_bt' rfl rfl (evalArgs_plain (spliced_cons h))))))))))
    (EvT.bind (W2 := fun v Q E s => wpAny (model Γ.prog Γ.w) A (spliced []) (fun vs s₂ => wpAny (model Γ.prog Γ.w) A (call (.type "reversed") ([] ++ (v :: vs))) (fun u s₃ => wpAny (model Γ.prog Γ.w) A (spliced []) (fun ws s₄ => wpAny (model Γ.prog Γ.w) A (call (.type "list") ([] ++ (u :: ws))) Q E s₄) E s₃) E s₂) E s) (ha nm ρ A env Z s m y i4 O AO I).toL fun d v Z' h' tk _ g q => ?_)
  exact EvT.old g (EvT.rule (fun Q E h => spliced_nil h) (ev_listRev (AO.hd (loud_rev h4)) g.sub g.ok q))
end
end Mine
namespace Mine
open PySem PySem.Calls PyProof.Rows
section
variable {Γ : Cx} {n : Nat} {Φ : Nat → List Val → Out Val} {A : Around} {env : Env} {Z : Led} {s : Shared} {nm : Nm} {ρ : List Val} {m : Str → Option Value}
theorem rep_rng : ∀ {vs : List Value} (a : Int), (∀ (i : Nat) (v : Value), vs[i]? = some v → ∃ t : Tok, v = Value.int (a + i * 1) t) → RepL Z vs (rangeL a 1 vs.length)
  | [], a, _ => .nil
  | v :: vs, a, h => by
    obtain ⟨t, rfl⟩ := h 0 v rfl
    refine .cons (by rw [show a + ((0 : Nat) : Int) * 1 = a by lia]; exact Rep.int a t) (rep_rng (a + 1) fun i v hv => ?_)
    obtain ⟨t, e⟩ := h (i + 1) v (by rw [List.getElem?_cons_succ]; exact hv)
    exact ⟨t, by rw [e]; congr 1; lia⟩
theorem ev_listRng {i : Int} {t : Tok} (hh : A.handled = none) (sub : ∀ a o, Z a = some o → s.heap.get? a = some o) (ok : ∀ a o, Z a = some o → Tt o) :
    EvT Γ A env Z s (PW Γ s.heap) (rngD i >>= fun ds => .ok (.own ds)) (fun Q E s => wpAny (model Γ.prog Γ.w) A (call (.type "range") [.int i t]) (fun u s₃ => wpAny (model Γ.prog Γ.w) A (spliced []) (fun ws s₄ => wpAny (model Γ.prog Γ.w) A (call (.type "list") ([] ++ (u :: ws))) Q E s₄) E s₃) E s) := by
  rw [rngD_eq]
  by_cases hi : -(2 ^ 20) ≤ i ∧ i < 2 ^ 20
  · rw [if_pos hi]
    have hsz : Builtin.Range.rangeSize 0 i 1 = (i.toNat : Int) := by rw [rangeSize_one]; split <;> lia
    refine EvT.now sub ok fun Q E hQ => call_range_1 (spliced_nil (call_list_range hh (IsRange.new s.heap 0 i 1 _ _ _) (small_one (by lia) (by lia) (by lia) (by lia)) hsz (by lia) fun h' tk acc c' hk he hi' => ?_))
    obtain ⟨vs⟩ := acc
    obtain ⟨h1, h2⟩ := hi'
    have h1 : vs.length = i.toNat := h1
    have kp : ∀ b o, s.heap.get? b = some o → h'.get? b = some o := fun b o e => hk b o (Heap.get?_push_of_some _ e)
    have r := rep_rng (Z := Z) (vs := vs) 0 fun j v hj => h2 j v (by simpa using hj)
    rw [h1] at r
    refine hQ _ h' tk (Kp.of kp) (own_at sub ?_ he (by rw [h1]; unfold line; lia) r)
    cases q : s.heap.get? (s.heap.push { cls := .type "range", data := .fields #[.int 0 s.toks, .int i t, .int 1 (s.toks + 1)] }).objs.size with
    | none => rfl
    | some o => have := Heap.get?_push_of_some { cls := .type "range", data := .fields #[.int 0 s.toks, .int i t, .int 1 (s.toks + 1)] } q; rw [get_size] at this; cases this
  · rw [if_neg hi]; exact .bad
theorem snd_K_rng (C : CxOk Γ) {a b c : T} (hb : SndE Γ n Φ b) : SndE Γ n Φ (.mkL (.rng a b c)) := fun nm ρ A env Z s m e hc O AO I => inv_mkL hc fun x p v pos he h1 h2 h3 h4 => inv_rng h4 fun x' p' q i1 i2 => by
  subst he
  refine ⟨?_, ?_, ?_⟩
  · intro y he' hn ha' i3 i4
    subst he' ha' hn
    show EvT Γ A env Z s (PW Γ s.heap) ((ev Φ b ρ >>= intD >>= rngD) >>= fun ds => .ok (.own ds)) _
    obtain ⟨k, l⟩ := globOf_kind h2
    obtain ⟨e1, e2⟩ := C.gl _ _ l
    obtain ⟨k', l'⟩ := globOf_kind i2
    obtain ⟨f1, f2⟩ := C.gl _ _ l'
    have hs : backTo pos (starEach [.Call (.Name x' p') [y] [] q] env) = [(false, eval (.Call (.Name x' p') [y] [] q) env)] := by rw [star_cons h3]; rfl
    have hs2 : backTo q (starEach [y] env) = [(false, eval y env)] := by rw [star_cons i3]; rfl
    rw [Out.bind_assoc (ev Φ b ρ >>= intD)]
    refine EvT.rule (fun Q E h => Call_ (load_bui O C.g C.b I k e1 e2 h1 (by rw [hs]; exact callWith_bt' rfl rfl (evalArgs_plain (spliced_cons (Call_ (load_bui O C.g C.b I k' f1 f2 i1 (by rw [hs2]; exact callWith_bt' rfl rfl (evalArgs_plain (spliced_cons h))))))))))
      (EvT.bind (W2 := fun v Q E s => wpAny (model Γ.prog Γ.w) A (spliced []) (fun vs s₂ => wpAny (model Γ.prog Γ.w) A (call (.type "range") ([] ++ (v :: vs))) (fun u s₃ => wpAny (model Γ.prog Γ.w) A (spliced []) (fun ws s₄ => wpAny (model Γ.prog Γ.w) A (call (.type "list") ([] ++ (u :: ws))) Q E s₄) E s₃) E s₂) E s) (hb nm ρ A env Z s m y i4 O AO I).toI fun d v Z' h' tk _ g q => ?_)
    obtain ⟨t, rfl⟩ := q
    exact EvT.old g (EvT.rule (fun Q E h => spliced_nil h) (ev_listRng (s := { s with heap := h', toks := tk }) (AO.hd (loud_rng h4)) g.sub g.ok))
  · intro y z _ hn ha' _ _ _ _
    subst hn
    refine EvT.badE ?_
    show (cond (a.isNil && true) _ Out.bad >>= _) = _
    rw [ha']; rfl
  · intro y z w _ hn _ _ _ _ _ _
    refine EvT.badE ?_
    show (cond (a.isNil && c.isNil) _ Out.bad >>= _) = _
    rw [hn, Bool.and_false]; rfl
end
end Mine
namespace Mine
open PySem PySem.Calls PyProof.Rows
noncomputable def clOf (env : Env) : List (Str × NameKind) → List (Str × Addr) → List (Str × Addr)
  | [], acc => acc
  | (n, k) :: r, acc => clOf env r (if k == .free then (n, (env.cells.lookup n).getD 0) :: acc else acc)
theorem clOf_loop (env : Env) (names : List (Str × NameKind)) (hf : ∀ p ∈ names, p.2 = .free → ∃ c, env.cells.lookup p.1 = some c) (acc : List (Str × Addr)) :
    (forIn names acc fun (x : Str × NameKind) (cs : List (Str × Addr)) => (if (x.2 == .free) = true then do let c ← cellOf env x.1; pure (ForInStep.yield ((x.1, c) :: cs)) else pure (ForInStep.yield cs) : Sem (ForInStep (List (Str × Addr))))) = pure (clOf env names acc) := by
  induction names generalizing acc with
  | nil => rfl
  | cons p r ih =>
    obtain ⟨n, k⟩ := p
    rw [List.forIn_cons]
    by_cases hk : (k == .free) = true
    · obtain ⟨c, hc⟩ := hf (n, k) List.mem_cons_self (beq_iff_eq.mp hk)
      have e : cellOf env n = pure c := by unfold cellOf; rw [hc]
      simp only [hk, if_true, e, pure_bind]
      rw [ih (fun p hp => hf p (List.mem_cons_of_mem _ hp))]
      show _ = pure (clOf env r (if k == .free then _ else _))
      rw [if_pos hk, hc]; rfl
    · simp only [hk, Bool.false_eq_true, if_false, pure_bind]
      rw [ih (fun p hp => hf p (List.mem_cons_of_mem _ hp))]
      show _ = pure (clOf env r (if k == .free then _ else _))
      rw [if_neg hk]
theorem closure_is (env : Env) (scope : Scope) (hf : ∀ p ∈ scope.names, p.2 = .free → ∃ c, env.cells.lookup p.1 = some c) : closureFor scope env = pure (clOf env scope.names []) := by
  have := clOf_loop env scope.names hf []
  exact (congrArg (· >>= fun s => pure s) this).trans (pure_bind _ _)
theorem clOf_lookup (env : Env) : ∀ (names : List (Str × NameKind)) (acc : List (Str × Addr)), (∀ p ∈ names, p.2 = .free → ∃ c, env.cells.lookup p.1 = some c) → (∀ x c, acc.lookup x = some c → env.cells.lookup x = some c) →
    (∀ x c, (clOf env names acc).lookup x = some c → env.cells.lookup x = some c) ∧ ∀ x, ((∃ c, acc.lookup x = some c) ∨ (x, NameKind.free) ∈ names) → ∃ c, (clOf env names acc).lookup x = some c
  | [], acc, hf, ha => ⟨ha, fun x hx => by rcases hx with hx | hx; exact hx; cases hx⟩
  | (n, k) :: r, acc, hf, ha => by
    have hf' : ∀ p ∈ r, p.2 = .free → ∃ c, env.cells.lookup p.1 = some c := fun p hp => hf p (List.mem_cons_of_mem _ hp)
    by_cases hk : (k == .free) = true
    · obtain ⟨c, hc⟩ := hf (n, k) List.mem_cons_self (beq_iff_eq.mp hk)
      have e : clOf env ((n, k) :: r) acc = clOf env r ((n, c) :: acc) := by show clOf env r (if k == .free then _ else _) = _; rw [if_pos hk, hc]; rfl
      rw [e]
      obtain ⟨h1, h2⟩ := clOf_lookup env r ((n, c) :: acc) hf' fun x c' hx => by
        rw [List.lookup_cons] at hx
        cases hb : x == n with
        | true => rw [hb] at hx; cases hx; rw [beq_iff_eq.mp hb]; exact hc
        | false => rw [hb] at hx; exact ha x c' hx
      refine ⟨h1, fun x hx => h2 x ?_⟩
      cases hb : x == n with
      | true => left; exact ⟨c, by rw [List.lookup_cons, hb]⟩
      | false =>
        rcases hx with ⟨c', hx⟩ | hx
        · left; exact ⟨c', by rw [List.lookup_cons, hb]; exact hx⟩
        · rcases List.mem_cons.mp hx with q | q
          · cases q; simp at hb
          · exact .inr q
    · have e : clOf env ((n, k) :: r) acc = clOf env r acc := by show clOf env r (if k == .free then _ else _) = _; rw [if_neg hk]
      rw [e]
      obtain ⟨h1, h2⟩ := clOf_lookup env r acc hf' ha
      refine ⟨h1, fun x hx => h2 x ?_⟩
      rcases hx with hx | hx
      · exact .inl hx
      · rcases List.mem_cons.mp hx with q | q
        · cases q; simp at hk
        · exact .inr q
theorem relab_cell (sc : Scope) : ∀ (names : List (Str × NameKind)) (x : Str), (∀ p ∈ names, p.2 ≠ .cell) →
    (names.map fun (n, k) => if (k == NameKind.free && sc.kind == .function && sc.names.lookup n == some .cell) then (n, NameKind.cell) else (n, k)).lookup x = some .cell → names.lookup x = some .free ∧ sc.names.lookup x = some .cell
  | [], x, _, h => by cases h
  | (n, k) :: r, x, hc, h => by
    rw [List.map_cons] at h
    dsimp only at h
    by_cases hk : (k == NameKind.free && sc.kind == .function && sc.names.lookup n == some .cell) = true
    · simp only [hk, if_true] at h
      rw [List.lookup_cons] at h ⊢
      cases hb : x == n with
      | true =>
        simp only [Bool.and_eq_true] at hk
        rw [beq_iff_eq.mp hb]
        exact ⟨by rw [beq_iff_eq.mp hk.1.1], beq_iff_eq.mp hk.2⟩
      | false => rw [hb] at h; exact relab_cell sc r x (fun p hp => hc p (List.mem_cons_of_mem _ hp)) h
    · rw [if_neg hk] at h
      rw [List.lookup_cons] at h ⊢
      cases hb : x == n with
      | true => rw [hb] at h; simp only at h; cases h; exact absurd rfl (hc _ List.mem_cons_self)
      | false => rw [hb] at h; exact relab_cell sc r x (fun p hp => hc p (List.mem_cons_of_mem _ hp)) h
theorem keep_lookup (sc : Scope) : ∀ (nm : Nm) (x : Str) (i : Nat), (keepNm sc nm).lookup x = some i → nm.lookup x = some i ∧ sc.names.lookup x = some .cell
  | [], x, i, h => by cases h
  | (y, j) :: r, x, i, h => by
    unfold keepNm at h
    rw [List.filter_cons] at h
    by_cases hk : (sc.names.lookup y == some .cell) = true
    · rw [if_pos hk] at h
      rw [List.lookup_cons] at h ⊢
      cases hb : x == y with
      | true => rw [hb] at h; rw [beq_iff_eq.mp hb]; exact ⟨h, beq_iff_eq.mp hk⟩
      | false => rw [hb] at h; exact keep_lookup sc r x i h
    · rw [if_neg hk] at h
      have := keep_lookup sc r x i h
      refine ⟨?_, this.2⟩
      rw [List.lookup_cons]
      cases hb : x == y with
      | true => rw [← beq_iff_eq.mp hb, this.2] at hk; simp at hk
      | false => exact this.1
theorem zip_lookup : ∀ (xs : List Str) (tg : List Nat) (r : Nm) (x : Str) (i : Nat), (xs.zip tg ++ r).lookup x = some i → (∃ k : Nat, xs[k]? = some x ∧ tg[k]? = some i) ∨ (r.lookup x = some i ∧ (xs.length = tg.length → x ∉ xs))
  | [], tg, r, x, i, h => .inr ⟨h, fun _ h => by cases h⟩
  | y :: ys, [], r, x, i, h => .inr ⟨h, fun h => by simp at h⟩
  | y :: ys, j :: js, r, x, i, h => by
    rw [List.zip_cons_cons, List.cons_append, List.lookup_cons] at h
    cases hb : x == y with
    | true => rw [hb] at h; cases h; exact .inl ⟨0, by rw [beq_iff_eq.mp hb]; rfl, rfl⟩
    | false =>
      rw [hb] at h
      rcases zip_lookup ys js r x i h with ⟨k, h1, h2⟩ | ⟨h1, h2⟩
      · exact .inl ⟨k + 1, h1, h2⟩
      · refine .inr ⟨h1, fun hl hm => ?_⟩
        rcases List.mem_cons.mp hm with rfl | hm
        · simp at hb
        · exact h2 (by simpa using hl) hm
theorem zip_lookup_self : ∀ (xs : List Str) (tg : List Nat) (r : Nm) (k : Nat) (x : Str) (i : Nat), xs.Nodup → xs[k]? = some x → tg[k]? = some i → (xs.zip tg ++ r).lookup x = some i
  | [], _, _, _, _, _, _, h, _ => by simp at h
  | _ :: _, [], _, _, _, _, _, _, h => by simp at h
  | y :: ys, j :: js, r, 0, x, i, nd, h1, h2 => by
    simp at h1 h2; subst h1 h2
    rw [List.zip_cons_cons, List.cons_append, List.lookup_cons]; simp
  | y :: ys, j :: js, r, k + 1, x, i, nd, h1, h2 => by
    obtain ⟨n1, n2⟩ := List.nodup_cons.mp nd
    rw [List.zip_cons_cons, List.cons_append, List.lookup_cons]
    have : (x == y) = false := by
      cases hb : x == y with
      | false => rfl
      | true => rw [beq_iff_eq.mp hb, List.getElem?_cons_succ] at h1; exact absurd (List.mem_of_getElem? h1) n1
    rw [this]
    exact zip_lookup_self ys js r k x i n2 h1 h2
noncomputable def unAll : List Nat → List Val → List Val
  | [], ρ => ρ
  | i :: is, ρ => unAll is (ρ.set i .un)
theorem unAll_in : ∀ (is : List Nat) (ρ : List Val) (i : Nat), i ∈ is → (unAll is ρ).getD i .un = .un
  | [], _, _, h => by cases h
  | j :: js, ρ, i, h => by
    show (unAll js (ρ.set j .un)).getD i .un = .un
    by_cases hj : i ∈ js
    · exact unAll_in js _ i hj
    · have : i = j := by rcases List.mem_cons.mp h with h | h; exact h; exact absurd h hj
      subst this
      have aux : ∀ (js : List Nat) (ρ : List Val), i ∉ js → (unAll js ρ).getD i .un = ρ.getD i .un := by
        intro js
        induction js with
        | nil => intro ρ _; rfl
        | cons k ks ih =>
          intro ρ hn
          show (unAll ks (ρ.set k .un)).getD i .un = _
          rw [ih _ fun h => hn (List.mem_cons_of_mem _ h)]
          have : k ≠ i := fun e => hn (e ▸ List.mem_cons_self)
          simp [List.getD, List.getElem?_set, this]
      rw [aux js _ hj]
      by_cases hl : i < ρ.length <;> simp [List.getD, hl]
theorem unAll_out : ∀ (is : List Nat) (ρ : List Val) (i : Nat), i ∉ is → (unAll is ρ).getD i .un = ρ.getD i .un
  | [], _, _, _ => rfl
  | j :: js, ρ, i, h => by
    show (unAll js (ρ.set j .un)).getD i .un = _
    rw [unAll_out js _ i fun q => h (List.mem_cons_of_mem _ q)]
    have : j ≠ i := fun e => h (e ▸ List.mem_cons_self)
    simp [List.getD, List.getElem?_set, this]
theorem unAll_set (is : List Nat) : ∀ (ρ : List Val) (i : Nat) (y : Val), i ∉ is → unAll is (ρ.set i y) = (unAll is ρ).set i y := by
  induction is with
  | nil => intro ρ i y _; rfl
  | cons j js ih =>
    intro ρ i y h
    show unAll js ((ρ.set i y).set j .un) = (unAll js (ρ.set j .un)).set i y
    have hij : i ≠ j := fun e => h (e ▸ List.mem_cons_self)
    rw [List.set_comm _ _ hij, ih _ _ _ fun q => h (List.mem_cons_of_mem _ q)]
theorem setAll_un : ∀ (is : List Nat) (ds : List Dat) (ρ : List Val), is.Nodup → setAll (unAll is ρ) is ds = setAll ρ is ds
  | [], _, _, _ => rfl
  | _ :: _, [], _, _ => rfl
  | i :: is, d :: ds, ρ, nd => by
    obtain ⟨n1, n2⟩ := List.nodup_cons.mp nd
    show setAll ((unAll is (ρ.set i .un)).set i (.sh d)) is ds = setAll (ρ.set i (.sh d)) is ds
    rw [← unAll_set is _ _ _ n1, setAll_un is ds _ n2]
    simp
theorem bindT_un {tg : List Nat} (nd : tg.Nodup) (d : Dat) (ρ : List Val) : bindT tg d (unAll tg ρ) = bindT tg d ρ := by
  have hM : ∀ tg : List Nat, tg.Nodup → bindM tg d (unAll tg ρ) = bindM tg d ρ := fun tg nd => by
    cases d with
    | tup ds => unfold bindM; simp only; rw [setAll_un _ _ _ nd]
    | _ => rfl
  cases tg with
  | nil => rfl
  | cons i r =>
    cases r with
    | nil => show Out.ok ((ρ.set i .un).set i (.sh d)) = Out.ok (ρ.set i (.sh d)); rw [List.set_set]
    | cons j r => exact hM _ nd
end Mine
namespace Mine
open PySem PySem.Calls PyProof.Rows
structure CompOk (nm : Nm) (env : Env) (cs : Scope) (xs : List Str) (tg : List Nat) : Prop where
  kind : cs.kind = .function
  nocell : ∀ p ∈ cs.names, p.2 ≠ .cell
  locs : ∀ p ∈ cs.names, p.2 = .local → cs.names.lookup p.1 = some .local
  free : ∀ p ∈ cs.names, p.2 = .free → env.scope.names.lookup p.1 = some .cell
  loc : ∀ x ∈ xs, (relabS cs env.scope).names.lookup x = some .local
  nd : xs.Nodup
  ndt : tg.Nodup
  len : xs.length = tg.length
  off : ∀ i ∈ tg, ∀ p ∈ nm, p.2 ≠ i
section
variable {Γ : Cx} {n : Nat} {Φ : Nat → List Val → Out Val} {A : Around} {env : Env} {Z Z' : Led} {s : Shared} {nm : Nm} {ρ : List Val} {m : Str → Option Value} {h h' h₀ : Heap} {cs : Scope} {xs : List Str} {tg : List Nat}
noncomputable abbrev cNm (nm : Nm) (env : Env) (cs : Scope) (xs : List Str) (tg : List Nat) : Nm := xs.zip tg ++ keepNm (relabS cs env.scope) nm
noncomputable abbrev cEnv (env : Env) (cs : Scope) (C : Addr) : Env := compEnvC cs (clOf env cs.names []) C env
noncomputable def cMap (env : Env) (cs : Scope) (m ml : Str → Option Value) : Str → Option Value := fun x => if (relabS cs env.scope).names.lookup x = some .cell then m x else ml x
theorem mem_of_lookup' {α : Type} {l : List (Str × α)} {x : Str} {c : α} (h : l.lookup x = some c) : (x, c) ∈ l := mem_of_lookup h
theorem CompOk.cl (K : CompOk nm env cs xs tg) (F : FrS env h m) : ∀ p ∈ cs.names, p.2 = .free → ∃ c, env.cells.lookup p.1 = some c := fun p hp e => by
  obtain ⟨c, l, _⟩ := F.cel p.1 (K.free p hp e)
  exact ⟨c, l⟩
theorem CompOk.cell (K : CompOk nm env cs xs tg) (F : FrS env h m) {x : Str} (hx : (relabS cs env.scope).names.lookup x = some .cell) :
    env.kindOf x = some .cell ∧ ∃ c, env.cells.lookup x = some c ∧ (clOf env cs.names []).lookup x = some c := by
  obtain ⟨h1, h2⟩ := relab_cell env.scope cs.names x K.nocell hx
  obtain ⟨q1, q2⟩ := clOf_lookup env cs.names [] (K.cl F) (fun _ _ e => by cases e)
  obtain ⟨c, hc⟩ := q2 x (.inr (mem_of_lookup' h1))
  exact ⟨h2, c, q1 x c hc, hc⟩
theorem Inv.comp (I : Inv Γ nm ρ env Z h m) (K : CompOk nm env cs xs tg) {C : Addr} {ml : Str → Option Value} (hn : h.Ns C ml) (zC : Z C = none) (bC : Γ.base.get? C = none) :
    Inv Γ (cNm nm env cs xs tg) (unAll tg ρ) (cEnv env cs C) Z h (cMap env cs m ml) := by
  have kd : ∀ x, (cEnv env cs C).kindOf x = (relabS cs env.scope).names.lookup x := fun x => rfl
  have look : ∀ x i, (cNm nm env cs xs tg).lookup x = some i → (unAll tg ρ).getD i .un ≠ .un → nm.lookup x = some i ∧ (relabS cs env.scope).names.lookup x = some .cell ∧ (unAll tg ρ).getD i .un = ρ.getD i .un := fun x i l nu => by
    rcases zip_lookup xs tg _ x i l with ⟨k, h1, h2⟩ | ⟨h1, _⟩
    · exact absurd (unAll_in tg ρ i (List.mem_of_getElem? h2)) nu
    · obtain ⟨l1, l2⟩ := keep_lookup _ nm x i h1
      exact ⟨l1, l2, unAll_out tg ρ i fun hm => K.off i hm (x, i) (mem_of_lookup' l1) rfl⟩
  have own : ∀ a, OwnAt (cNm nm env cs xs tg) (unAll tg ρ) (cMap env cs m ml) a → OwnAt nm ρ m a := fun a ⟨x, i, ds, l, ho, hm⟩ => by
    obtain ⟨l1, l2, l3⟩ := look x i l (by rw [ho]; simp)
    rw [l3] at ho
    unfold cMap at hm
    rw [if_pos l2] at hm
    exact ⟨x, i, ds, l1, ho, hm⟩
  refine ⟨⟨⟨ml, hn, fun x hx => ?_⟩, fun x hx => ?_, fun x y c hx hy lx ly => ?_⟩, I.sub, I.ok, ?_, I.kz, I.ups, fun x i l nu => ?_, fun i d ds q => ?_, fun x y k lx ly => ?_, ?_, fun a o => I.ownb a (own a o), ?_⟩
  · rw [kd] at hx
    unfold cMap
    rw [hx, if_neg (by simp)]
  · rw [kd] at hx
    obtain ⟨k, c, l1, l2⟩ := K.cell I.fr hx
    obtain ⟨c', l', ic⟩ := I.fr.cel x k
    rw [l1] at l'; cases l'
    refine ⟨c, l2, ?_⟩
    unfold cMap
    rw [if_pos hx]; exact ic
  · rw [kd] at hx hy
    obtain ⟨k, c1, l1, l2⟩ := K.cell I.fr hx
    obtain ⟨k', c2, l1', l2'⟩ := K.cell I.fr hy
    have e1 : c1 = c := by have : (clOf env cs.names []).lookup x = some c := lx; rw [l2] at this; cases this; rfl
    have e2 : c2 = c := by have : (clOf env cs.names []).lookup y = some c := ly; rw [l2'] at this; cases this; rfl
    subst e1; subst e2
    exact I.fr.inj x y _ k k' l1 l1'
  · intro a p
    rcases p with rfl | ⟨x, k, l⟩
    · exact zC
    · rw [kd] at k
      obtain ⟨k', c, l1, l2⟩ := K.cell I.fr k
      have : (clOf env cs.names []).lookup x = some a := l
      have e : c = a := by rw [l2] at this; exact Option.some.inj this
      exact I.zfp a (.inr ⟨x, k', e ▸ l1⟩)
  · obtain ⟨l1, l2, l3⟩ := look x i l nu
    rw [l3] at nu ⊢
    obtain ⟨v, e, r⟩ := I.var x i l1 nu
    exact ⟨v, by unfold cMap; rw [if_pos l2]; exact e, r⟩
  · by_cases hi : i ∈ tg
    · rw [unAll_in tg ρ i hi] at q; cases q
    · rw [unAll_out tg ρ i hi] at q; exact I.nopr i d ds q
  · rcases zip_lookup xs tg _ x k lx with ⟨j, h1, h2⟩ | ⟨h1, _⟩
    · rcases zip_lookup xs tg _ y k ly with ⟨j', h1', h2'⟩ | ⟨h1', _⟩
      · have : j = j' := (List.getElem?_inj (List.getElem?_eq_some_iff.mp h2).1 K.ndt).mp (h2.trans h2'.symm)
        subst this
        rw [h1] at h1'; exact Option.some.inj h1'
      · obtain ⟨l1, _⟩ := keep_lookup _ nm y k h1'
        exact absurd rfl (K.off k (List.mem_of_getElem? h2) (y, k) (mem_of_lookup' l1))
    · rcases zip_lookup xs tg _ y k ly with ⟨j', h1', h2'⟩ | ⟨h1', _⟩
      · obtain ⟨l1, _⟩ := keep_lookup _ nm x k h1
        exact absurd rfl (K.off k (List.mem_of_getElem? h2') (x, k) (mem_of_lookup' l1))
      · exact I.inj x y k (keep_lookup _ nm x k h1).1 (keep_lookup _ nm y k h1').1
  · intro a p
    rcases p with rfl | ⟨x, k, l⟩
    · exact bC
    · rw [kd] at k
      obtain ⟨k', c, l1, l2⟩ := K.cell I.fr k
      have : (clOf env cs.names []).lookup x = some a := l
      have e : c = a := by rw [l2] at this; exact Option.some.inj this
      exact I.fpb a (.inr ⟨x, k', e ▸ l1⟩)
  · intro x y i j a ds es lx ly hx hy mx my
    obtain ⟨l1, l2, l3⟩ := look x i lx (by rw [hx]; simp)
    obtain ⟨l1', l2', l3'⟩ := look y j ly (by rcases hy with hy | hy <;> (rw [hy]; simp))
    rw [l3] at hx; rw [l3'] at hy
    unfold cMap at mx my
    rw [if_pos l2] at mx; rw [if_pos l2'] at my
    exact I.apart x y i j a ds es l1 l1' hx hy mx my
theorem Grow.write (g : Grow Z h₀ Z' h) {W : Addr → Prop} (hk : ∀ b o, ¬ W b → h.get? b = some o → h'.get? b = some o) (hw : ∀ b, W b → h₀.get? b = none ∧ Z' b = none) : Grow Z h₀ Z' h' := by
  refine ⟨fun b o e => ?_, g.le, g.new, fun a o e => ?_, g.ok⟩
  · have nb : ¬ W b := fun q => by rw [(hw b q).1] at e; cases e
    obtain ⟨k1, o', e', d', c'⟩ := g.kp b o e
    exact ⟨fun nf => hk b o nb (k1 nf), o', hk b o' nb e', d', c'⟩
  · have nb : ¬ W a := fun q => by rw [(hw a q).2] at e; cases e
    exact hk a o nb (g.sub a o e)
theorem Grow.none (g : Grow Z h Z' h') {b : Addr} (z : Z b = none) {o : Obj} (e : h.get? b = some o) : Z' b = none := by
  cases q : Z' b with
  | none => rfl
  | some o' =>
    rcases g.new b o' q with w | w
    · rw [z] at w; cases w
    · rw [e] at w; cases w
end
section
variable {prog : Program} {w : World} {A : Around} {R : Result → Shared → Prop} {s : Shared}
theorem compLoop_any {elt target iter : Expr} {ifs : List Expr} {scope : Scope} {pos : Pos} {it acc : Value} {env : Env} (I : Nat → Shared → Prop)
    (turn : ∀ n s, I n s → wpAny (model prog w) A (pyNext it) (fun r s₁ => match r with
      | none => R (.ok .next) s₁
      | some v => wpAny (model prog w) A (letOwnedTupleGo target it v) (fun _ s₁' => wpAny (model prog w) A (assign target env v) (fun _ s₂ =>
          wpAny (model prog w) A (forIn ifs true fun c r => if r = true then do let ok ← isTrue c env (eval c env); pure (ForInStep.yield ok) else pure (ForInStep.yield r)) (fun ok s₃ =>
            if ok = true then wpAny (model prog w) A (eval elt env) (fun x s₄ =>
              wpAny (model prog w) A (call (.builtin "list.append") [acc, x]) (fun _ s₅ => ∃ m, m < n ∧ I m s₅) (notedBy (model prog w) A env fun e s' => R (.error e) s') s₄) (notedBy (model prog w) A env fun e s' => R (.error e) s') s₃
            else ∃ m, m < n ∧ I m s₃) (notedBy (model prog w) A env fun e s' => R (.error e) s') s₂) (notedBy (model prog w) A env fun e s' => R (.error e) s') s₁') (notedBy (model prog w) A env fun e s' => R (.error e) s') s₁) (notedBy (model prog w) A env fun e s' => R (.error e) s') s)
    (n : Nat) (h : I n s) : codeAny (model prog w) A (.compLoop (.ListComp elt [⟨target, iter, ifs, 0⟩] scope pos) 0 it acc env) R s := by
  refine codeAny_loop rfl I (fun n s hI => ?_) n h
  show wpAny _ A ((compTurn (.ListComp elt [⟨target, iter, ifs, 0⟩] scope pos) 0 it acc env).onRaise (fun x => do noteFrame x env; theTreesLotGoes x)) _ _ s
  refine wpAny_noted ?_
  rw [compTurn_list]
  refine wpAny_bind (wpAny_standAt (wpAny_bind (wpAny_mono (turn n s hI) (fun r s₁ h₁ => ?_) fun _ _ h' => h')))
  cases r with
  | none => exact wpAny_pure h₁
  | some v =>
    refine wpAny_bind (wpAny_mono h₁ (fun _ s₁' h₁' => ?_) fun _ _ h' => h')
    refine wpAny_bind (wpAny_mono h₁' (fun _ s₂ h₂ => wpAny_bind (wpAny_mono h₂ (fun ok s₃ h₃ => ?_) fun _ _ h' => h')) fun _ _ h' => h')
    cases ok with
    | false => exact wpAny_pure ⟨rfl, h₃⟩
    | true =>
      exact wpAny_bind (wpAny_bind (wpAny_mono h₃ (fun x s₄ h₄ => wpAny_bind (wpAny_mono h₄ (fun _ s₅ h₅ => wpAny_pure (wpAny_pure ⟨rfl, h₅⟩)) fun _ _ h' => h')) fun _ _ h' => h'))
end
end Mine
namespace Mine
open PySem PySem.Calls PyProof.Rows
noncomputable def testR (Φ : Nat → List Val → Out Val) (c : T) (ρ : List Val) : Out Bool := ifS c (evA Φ c) ρ
noncomputable def compF (Φ : Nat → List Val → Out Val) (elt : T) (tg : List Nat) (c : T) (ρ : List Val) (d : Dat) : Out (Option Dat) :=
  noX (bindT tg d ρ >>= fun ρ' => testR Φ c ρ' >>= fun b => if b then (ev Φ elt ρ' >>= needD) >>= fun x => .ok (some x) else .ok Option.none)
theorem ev_comp_eq {Φ : Nat → List Val → Out Val} (elt : T) (tg : List Nat) (it c : T) (ρ : List Val) : ev Φ (.comp elt tg it c) ρ = (its Φ it ρ >>= fun ds => compL (compF Φ elt tg c ρ) ds >>= fun r => .ok (.own r)) :=
  Out.bind_assoc (its Φ it ρ) (compL (compF Φ elt tg c ρ)) _
theorem testR_some {Φ : Nat → List Val → Out Val} {c : T} {ρ : List Val} (h : c.isNil = false) : testR Φ c ρ = (ev Φ c ρ >>= boolD) := by
  show cond c.isNil _ _ = _
  rw [h]; rfl
theorem bindM_cases (tg : List Nat) (d : Dat) (ρ : List Val) : bindM tg d ρ = .bad ∨ ∃ ρ', bindM tg d ρ = .ok ρ' := by
  unfold bindM
  cases d with
  | tup ds =>
    cases hs : setAll ρ tg ds with
    | none => simp [hs]
    | some ρ' => simp [hs]
  | _ => exact .inl rfl
theorem bindT_cases (tg : List Nat) (d : Dat) (ρ : List Val) : bindT tg d ρ = .bad ∨ ∃ ρ', bindT tg d ρ = .ok ρ' := by
  cases tg with
  | nil => exact bindM_cases _ _ _
  | cons i r =>
    cases r with
    | nil => exact .inr ⟨_, rfl⟩
    | cons j r => exact bindM_cases _ _ _
theorem RepT.mono {target : Expr} {Z Z' : Led} {h : Heap} {v : Value} {d : Dat} (le : Led.le Z Z') (r : RepT target Z h v d) : RepT target Z' h v d := by
  rcases r with r | ⟨e, T, vs, ds, k, a, b, c, d, f⟩
  · exact .inl (r.mono le)
  · exact .inr ⟨e, T, vs, ds, k, a, b, c, d.mono le, f⟩
theorem Kw.exact {Z : Led} {h h' : Heap} (k : Kw Z h h') {b : Addr} {o o' : Obj} (e : h.get? b = some o') (nf : NoDict o') (e2 : h.get? b = some o) : h'.get? b = some o := by
  rw [e] at e2; cases e2; exact (k b _ e).1 (.inr nf)
section
variable {Γ : Cx} {n : Nat} {Φ : Nat → List Val → Out Val} {A : Around} {env : Env} {Z Z₂ : Led} {s : Shared} {nm : Nm} {ρ : List Val} {m : Str → Option Value} {cs : Scope} {xs : List Str} {tg : List Nat} {target : Expr} {elt c : T}
inductive CAt (s : Shared) (Z Z₂ : Led) (St : Nat → Heap → Prop) (wr : List Addr) (D C : Addr) (F : Dat → Out (Option Dat)) (ds : List Dat) (k : Nat) (s' : Shared) : Prop
  | mk (i : _) (h' : _) (tk : _) (Z' : _) (ys : _) (r : _) (ml : _) : (s' = { s with heap := h', toks := tk }) → (i ≤ ds.length) → (k = ds.length + 1 - i) → St i h' → Grow Z s.heap Z' h' → Led.le Z₂ Z' → ((∀ b ∈ wr, Z' b = none)) → h'.Ns C ml → (Z' C = none) → h'.PlainList D ys.toArray → (Z' D = none) → RepL Z' ys r → (ys.length ≤ i) → ((∀ t, compL F (ds.drop i) = .ok t → compL F ds = .ok (r ++ t))) → (compL F (ds.drop i) ≠ .bad) → CAt s Z Z₂ St wr D C F ds k s'
set_option maxHeartbeats 1000000 in
theorem comp_core (hh : A.handled = none) (K : CompOk nm env cs xs tg) (htg : tgtOk target xs = true) (O : EnvOk env) (AO : AOx Γ nm n A env) (I : Inv Γ nm ρ env Z s.heap m) (helt : SndE Γ n Φ elt) (htst : SndT Γ n Φ c)
    {x : Expr} {ifs : List Expr} (hce : chk Γ.gs elt (cNm nm env cs xs tg) (relabS cs env.scope) x = true) (hct : (ifs = [] ∧ c = .nil) ∨ ∃ t, ifs = [t] ∧ c.isNil = false ∧ chk Γ.gs c (cNm nm env cs xs tg) (relabS cs env.scope) t = true)
    {h₂ : Heap} {tk₂ : Nat} (g₂ : Grow Z s.heap Z₂ h₂) {itv : Value} {ds : List Dat} (hit : ItAt Γ target srcT s.heap Z₂ h₂ itv ds) (hne : compL (compF Φ elt tg c ρ) ds ≠ .bad) {iter : Expr} {pos : Pos} {RR : Value → Addr → Result → Shared → Prop} {E : Value → Shared → Prop}
    (hRR : ∀ D C h' Z' tk ml ys r, compL (compF Φ elt tg c ρ) ds = .ok r → Grow Z s.heap Z' h' → s.heap.get? D = none → s.heap.get? C = none → D ≠ C → Z' D = none → Z' C = none → h'.Ns C ml → h'.PlainList D ys.toArray → ys.length ≤ line → RepL Z' ys r →
      RR (.ref D) C (.ok .next) { s with heap := h', toks := tk }) :
    wpAny (model Γ.prog Γ.w) A (newList []) (fun acc s₃ => wpAny (model Γ.prog Γ.w) A (newFunctionEnv cs env.globals (clOf env cs.names []) [] env.qual none .none (some env)) (fun cenv s₄ =>
      codeAny (model Γ.prog Γ.w) A (.compStart (.ListComp x [⟨target, iter, ifs, 0⟩] cs pos) 0 itv acc { cenv with scope := relabel cs env }) (RR acc cenv.locals) s₄) E s₃) E { s with heap := h₂, toks := tk₂ } := by
  obtain ⟨J, fp, wr, P, Md, St, rfl, hlen, W, hst, hwr, hfp, hP⟩ := hit
  have KT := W.k A hh
  refine wpAny_newObj_type (wpAny_newFunctionEnv K.nocell (by intro y hy; simp at hy) (fun h₁ hns₁ hsb₁ => ?_) K.kind)
  dsimp only at hns₁ hsb₁ ⊢
  generalize hH2 : h₂.push { cls := .type "list", dict := none, data := .seq ([] : List Value).toArray } = H2 at hns₁ hsb₁ ⊢
  have hC : H2.objs.size = h₂.objs.size + 1 := by rw [← hH2, Heap.size_push]
  have hDC : h₂.objs.size ≠ H2.objs.size := by rw [hC]; exact Nat.ne_of_lt (Nat.lt_succ_self _)
  have below : ∀ b, b < h₂.objs.size → b ≠ H2.objs.size ∧ b ≠ h₂.objs.size := fun b hb => ⟨by rw [hC]; exact Nat.ne_of_lt (Nat.lt_succ_of_lt hb), Nat.ne_of_lt hb⟩
  have old : ∀ b o, h₂.get? b = some o → h₁.get? b = some o := fun b o e => hsb₁.extBut b o (below b (Heap.lt_size e)).1 (Heap.get?_push_of_some _ (hH2 ▸ Heap.get?_push_of_some _ e))
  have fpl : ∀ b ∈ fp, b < h₂.objs.size := fun b hb => let ⟨o, e, _⟩ := W.live 0 h₂ hst b hb; Heap.lt_size e
  have hDf : h₂.objs.size ∉ fp := fun hm => Nat.lt_irrefl _ (fpl _ hm)
  have hCf : H2.objs.size ∉ fp := fun hm => by have := fpl _ hm; rw [hC] at this; exact Nat.lt_irrefl _ (Nat.lt_of_succ_lt this)
  have freshD : h₂.get? h₂.objs.size = none := get_size _
  have freshC : h₂.get? H2.objs.size = none := Heap.get?_none_of_le (by rw [hC]; exact Nat.le_succ _)
  generalize hCn : H2.objs.size = C at *
  generalize hDn : h₂.objs.size = D at *
  have sD : s.heap.get? D = none := g₂.kp.none freshD
  have sC : s.heap.get? C = none := g₂.kp.none freshC
  have bC : Γ.base.get? C = none := I.kb.none sC
  have hacc : h₁.PlainList D #[] := ⟨_, hsb₁.extBut _ _ hDC (Heap.get?_push_of_some _ (hH2 ▸ hDn ▸ Heap.get?_push_size _ rfl))⟩
  have hst₁ : St 0 h₁ := KT.frame _ _ _ hst fun b _ o e => old b o e
  have g₁ : Grow Z s.heap Z₂ h₁ := g₂.trans (Grow.keep g₂.sub g₂.ok (Kp.of old))
  have hDw : D ∉ wr := fun h => hDf (KT.sub _ h)
  have hCw : C ∉ wr := fun h => hCf (KT.sub _ h)
  have O' : EnvOk (cEnv env cs C) := ⟨K.kind, O.glob, O.bui⟩
  have AO' : AOx Γ (cNm nm env cs xs tg) n A (cEnv env cs C) := ⟨AO.toAOk, fun _ => hh, AO.fr⟩
  have TG : TgOk (cNm nm env cs xs tg) (cEnv env cs C) xs tg := ⟨K.len, fun k y i h1 h2 => ⟨zip_lookup_self xs tg _ k y i K.nd h1 h2, .inl (K.loc y (List.mem_of_getElem? h1))⟩⟩
  have HW : ∀ y ∈ xs, StW (fun b => b = C) (cEnv env cs C) y := fun y hy => ⟨fun _ => rfl, fun c k _ => by
    have : (relabS cs env.scope).names.lookup y = some .cell := k
    rw [K.loc y hy] at this; cases this⟩
  have loop : ∀ s₃ : Shared, s₃ = { s with heap := h₁, toks := tk₂ + ([] : List (Str × Value)).length } →
      codeAny (model Γ.prog Γ.w) A (.compLoop (.ListComp x [⟨target, iter, ifs, 0⟩] cs pos) 0 (.ref J) (.ref D) (cEnv env cs C)) (RR (.ref D) C) s₃ := by
    rintro s₃ rfl
    refine compLoop_any (CAt s Z Z₂ St wr D C (compF Φ elt tg c ρ) ds) ?_ (ds.length + 1)
      ⟨0, h₁, _, Z₂, [], [], _, rfl, Nat.zero_le _, rfl, hst₁, g₁, fun _ _ e => e, fun b hb => (hwr b hb).2, hns₁, led_none g₂.sub freshC, hacc, led_none g₂.sub freshD, .nil, Nat.le_refl _, fun t e => e, hne⟩
    rintro k s' ⟨i, H, tk, Z', ys, r, ml, rfl, hi, rfl, st, G, le, zw, hns, zC, pl, zD, rl, hys, htail, hnb⟩
    by_cases hlt : i < ds.length
    · refine KT.item i _ _ _ hlt st fun v H1 tk1 hMd keep1 => KT.go i v _ _ _ hMd fun H2 hPv st2 keep2 => ?_
      have kp2 : ∀ b o, ¬ b ∈ wr → H.get? b = some o → H2.get? b = some o := fun b o hb e => keep2 b o hb (keep1 b o hb e)
      have G2 : Grow Z s.heap Z' H2 := G.write kp2 fun b hb => ⟨(hwr b hb).1, zw b hb⟩
      have hns2 : H2.Ns C ml := hns.at' fun o e => kp2 _ o hCw e
      have pl2 : H2.PlainList D ys.toArray := pl.at fun o e => kp2 _ o hDw e
      have hd : ds[i]? = some ds[i] := List.getElem?_eq_getElem hlt
      have hdrop : ds.drop i = ds[i] :: ds.drop (i + 1) := List.drop_eq_getElem_cons hlt
      generalize hdi : ds[i] = d at hd hdrop
      have hfd : compF Φ elt tg c ρ d ≠ .bad := fun q => hnb (by rw [hdrop, compL, q]; rfl)
      have IN := (I.grow G2).comp K hns2 zC bC
      rcases bindT_cases tg d ρ with q | ⟨ρ', hb⟩
      · exact absurd (by unfold compF; rw [q]; rfl) hfd
      have hfd' : (testR Φ c ρ' >>= fun b => if b then (ev Φ elt ρ' >>= needD) >>= fun x => .ok (some x) else .ok Option.none) ≠ .bad := fun q => hfd (by unfold compF; rw [hb]; show noX _ = _; rw [Out.bind_ok, q]; rfl)
      have hnx : ∀ k, (testR Φ c ρ' >>= fun b => if b then (ev Φ elt ρ' >>= needD) >>= fun x => .ok (some x) else .ok Option.none) ≠ .exn k := fun k q => hfd (by unfold compF; rw [hb]; show noX _ = _; rw [Out.bind_ok, q]; rfl)
      refine assign_tgt (s := { s with heap := H2, toks := tk1 }) O'.kind hh htg TG HW ((hP i v H2 d hPv hd).mono le) (by rw [bindT_un K.ndt]; exact hb) IN fun H3 tk3 m3 P3 keep3 => ?_
      have G3 : Grow Z s.heap Z' H3 := G2.write keep3 fun b hb => by subst hb; exact ⟨sC, zC⟩
      have pl3 : H3.PlainList D ys.toArray := pl2.at fun o e => keep3 _ o hDC e
      have st3 : St (i + 1) H3 := KT.frame _ _ _ st2 fun b hb o e => keep3 b o (fun q => hCf (q ▸ hb)) e
      obtain ⟨ml3, hns3, _⟩ := P3.inv.fr.loc
      have hns3 : H3.Ns C ml3 := hns3
      have exC : ∃ o, H3.get? C = some o := let ⟨o, _, _, e, _⟩ := hns3; ⟨o, e⟩
      have exD : ∃ o, H3.get? D = some o := let ⟨_, e⟩ := pl3; ⟨_, e⟩
      have next : ∀ Z4 h4 tk4 ys' r', Grow Z' H3 Z4 h4 → (∀ (h5 : Heap), (∀ b o, ¬ b = D → h4.get? b = some o → h5.get? b = some o) → h5.PlainList D ys'.toArray → RepL Z4 ys' r' → ys'.length ≤ i + 1 →
          (∀ t, compL (compF Φ elt tg c ρ) (ds.drop (i + 1)) = .ok t → compL (compF Φ elt tg c ρ) ds = .ok (r' ++ t)) → compL (compF Φ elt tg c ρ) (ds.drop (i + 1)) ≠ .bad →
          ∃ k, k < ds.length + 1 - i ∧ CAt s Z Z₂ St wr D C (compF Φ elt tg c ρ) ds k { s with heap := h5, toks := tk4 }) := by
        intro Z4 h4 tk4 ys' r' g4 h5 k5 pl5 rl5 hl5 ht5 hn5
        obtain ⟨oC, eC⟩ := exC
        obtain ⟨oD, eD⟩ := exD
        have zD4 : Z4 D = none := g4.none zD eD
        have zC4 : Z4 C = none := g4.none zC eC
        have zw4 : ∀ b ∈ wr, Z4 b = none := fun b hb => let ⟨o, e, _⟩ := W.live _ _ st3 b (KT.sub b hb); g4.none (zw b hb) e
        have G5 : Grow Z s.heap Z4 h5 := (G3.trans g4).write k5 fun b hb => by subst hb; exact ⟨sD, zD4⟩
        refine ⟨ds.length + 1 - (i + 1), by lia, i + 1, h5, tk4, Z4, ys', r', ml3, rfl, hlt, rfl, ?_, G5, fun a o e => g4.le a o (le a o e), zw4, ?_, zC4, pl5, zD4, rl5, hl5, ht5, hn5⟩
        · refine KT.frame _ _ _ st3 fun b hb o e => ?_
          obtain ⟨o', e', nf⟩ := W.live _ _ st3 b hb
          exact k5 b o (fun q => hDf (q ▸ hb)) (g4.kp.exact e' nf.1 e)
        · exact (g4.kp.ns hns3).at' fun o e => k5 C o hDC.symm e
      have takes : ∀ Z4 h4 tk4, Grow Z' H3 Z4 h4 → testR Φ c ρ' = .ok true → wpAny (model Γ.prog Γ.w) A (eval x (cEnv env cs C)) (fun u s₄ => wpAny (model Γ.prog Γ.w) A (call (.builtin "list.append") [.ref D, u]) (fun _ s₅ => ∃ k, k < ds.length + 1 - i ∧ CAt s Z Z₂ St wr D C (compF Φ elt tg c ρ) ds k s₅)
          (notedBy (model Γ.prog Γ.w) A (cEnv env cs C) fun e s' => RR (.ref D) C (.error e) s') s₄) (notedBy (model Γ.prog Γ.w) A (cEnv env cs C) fun e s' => RR (.ref D) C (.error e) s') { s with heap := h4, toks := tk4 } := by
        intro Z4 h4 tk4 g4 ht
        rw [ht] at hfd' hnx
        simp only [Out.bind_ok, if_true] at hfd' hnx
        refine (helt _ ρ' A (cEnv env cs C) Z4 { s with heap := h4, toks := tk4 } m3 x hce O' AO' (P3.inv.grow g4)).toD (fun q => hfd' (by rw [q]; rfl)) _ _ (fun y u Z5 h5 tk5 e5 g5 r5 => ?_) fun k _ _ _ _ q _ _ => absurd (by rw [q]; rfl) (hnx k)
        have g45 := g4.trans g5
        have e6 : compF Φ elt tg c ρ d = .ok (some y) := by unfold compF; rw [hb, Out.bind_ok, ht, Out.bind_ok, if_pos rfl, e5]; rfl
        have pl5 : h5.PlainList D ys.toArray := g45.kp.plain pl3
        refine wpAny_list_append_plain (s := { s with heap := h5, toks := tk5 }) (hsz := by simp [sizeLine]; unfold line at hlen; lia) pl5 fun h6 pl6 hs6 => ?_
        have e7 : ∀ t, compL (compF Φ elt tg c ρ) (ds.drop (i + 1)) = .ok t → compL (compF Φ elt tg c ρ) ds = .ok ((r ++ [y]) ++ t) := fun t et => by
          have := htail (y :: t) (by rw [hdrop, compL, e6]; show (compL _ _ >>= _) = _; rw [et]; rfl)
          rw [this, List.append_assoc]; rfl
        refine next Z5 h5 tk5 (ys ++ [u]) (r ++ [y]) g45 h6 (fun b o hb e => hs6.extBut b o hb e) (by simpa using pl6) ((rl.mono g45.le).append (.one r5)) (by simp; lia) e7 (fun q => hnb ?_)
        rw [hdrop, compL, e6]; show (compL _ _ >>= _) = _; rw [q]; rfl
      rcases hct with ⟨rfl, rfl⟩ | ⟨t, rfl, hcn, hct⟩
      · refine wpAny_tests_nil ?_
        rw [if_pos rfl]
        exact takes Z' H3 tk3 (Grow.refl G3.sub G3.ok) rfl
      · refine wpAny_tests_one ?_
        have et : testR Φ c ρ' = (ev Φ c ρ' >>= boolD) := testR_some hcn
        refine htst _ ρ' A (cEnv env cs C) Z' { s with heap := H3, toks := tk3 } m3 t hct O' AO' P3.inv (fun q => hfd' (by rw [et, q]; rfl)) _ _ (fun b b' Z4 h4 tk4 e4 g4 hbb => ?_) fun k _ _ _ _ q _ _ => absurd (by rw [et, q]; rfl) (hnx k)
        have hbb : b' = b := hbb
        subst hbb
        cases b' with
        | true => rw [if_pos rfl]; exact takes Z4 h4 tk4 g4 (et.trans e4)
        | false =>
          rw [if_neg (by decide)]
          have e6 : compF Φ elt tg c ρ d = .ok Option.none := by unfold compF; rw [hb, Out.bind_ok, et, e4]; rfl
          exact next Z4 h4 tk4 ys r g4 h4 (fun _ _ _ e => e) (g4.kp.plain pl3) (rl.mono g4.le) (by lia) (fun t' e' => htail t' (by rw [hdrop, compL, e6]; exact e')) (fun q => hnb (by rw [hdrop, compL, e6]; exact q))
    · have hin : i = ds.length := by lia
      subst hin
      refine KT.done _ _ _ st fun H1 tk1 keep1 => ?_
      have e0 := htail [] (by rw [List.drop_length]; rfl)
      rw [List.append_nil] at e0
      exact hRR D C H1 Z' tk1 ml ys r e0 (G.write keep1 fun b hb => ⟨(hwr b hb).1, zw b hb⟩) sD sC hDC zD zC (hns.at' fun o e => keep1 _ o hCw e) (pl.at fun o e => keep1 _ o hDw e) (Nat.le_trans hys hlen) rl
  exact codeAny_compStart_list (loop _ rfl) (W.self A _ _ _ hst₁ (loop _ rfl))
end
end Mine
namespace Mine
open PySem PySem.Calls PyProof.Rows
theorem notSet_folded {iter : Expr} (h : notSet iter = true) (env : Env) : ∀ x, foldedSetIterable iter env x = pure x := by
  intro x
  cases iter <;> first | rfl | exact (Bool.false_ne_true h).elim
section
variable {Γ : Cx} {n : Nat} {Φ : Nat → List Val → Out Val} {A : Around} {env : Env} {Z Z₂ : Led} {s : Shared} {nm : Nm} {ρ : List Val} {m : Str → Option Value} {cs : Scope} {xs : List Str} {tg : List Nat} {target : Expr} {elt it c : T}
theorem zipTo_tg {it : T} (hz : (!it.isZip || tg.length == 2) = true) (ht : tgtOk target xs = true) (hl : xs.length = tg.length) : zipTg it target := fun h => by
  rw [h] at hz
  have hz : tg.length = 2 := beq_inv hz
  match xs, hl.trans hz with
  | [x, y], _ => exact onTuple_inv ht fun es q p he _ => ⟨es, q, p, he⟩
theorem notb {a b : Bool} (h : (!a || b) = true) (ha : a = true) : b = true := by subst ha; exact h
theorem comp_ok {x iter : Expr} {ifs : List Expr} (K : CompChk Γ.gs elt it c tg nm env.scope x target iter ifs cs xs) : CompOk nm env cs xs tg ∧ zipTg it target := by
  have k := and4 K.sco
  have t := and4 (and_inv K.tgs).1
  have hl : xs.length = tg.length := beq_inv t.2.2.2
  refine ⟨⟨beq_inv k.1, fun p hp e => ?_, fun p hp e => ?_, fun p hp e => ?_, fun y hy => ?_, of_decide_eq_true t.2.1, of_decide_eq_true t.2.2.1, hl, fun i hi p hp e => ?_⟩, zipTo_tg K.zip K.tgt hl⟩
  · have := List.all_eq_true.mp k.2.1 p hp; rw [e] at this; cases this
  · exact beq_inv (notb (List.all_eq_true.mp k.2.2.1 p hp) (by rw [e]; rfl))
  · exact beq_inv (and_inv (notb (List.all_eq_true.mp k.2.2.2 p hp) (by rw [e]; rfl))).2
  · exact beq_inv (and_inv (List.all_eq_true.mp t.1 y hy)).1
  · have := List.all_eq_true.mp (List.all_eq_true.mp (and_inv K.tgs).2 i hi) p hp
    rw [e] at this
    simp at this
theorem snd_comp (helt : SndE Γ n Φ elt) (hit : SndI Γ n Φ it) (hc' : SndT Γ n Φ c) : SndE Γ n Φ (.comp elt tg it c) := fun nm ρ A env Z s m e hc O AO I => inv_comp hc fun x target iter ifs cs pos xs he CK => by
  subst he
  obtain ⟨K, hz⟩ := comp_ok CK
  rw [ev_comp_eq]
  intro hne Q E hQ hE
  show wpAny _ _ (eval (.ListComp x [⟨target, iter, ifs, 0⟩] cs pos) env) Q E s
  rw [eval_ListComp]
  refine wpAny_comprehension_free (use := none) rfl (notSet_folded CK.set env) (closure_is env cs (K.cl I.fr)) K.kind K.locs ?_
  refine hit nm ρ A env Z s m target iter CK.iter hz O AO I (fun b => hne (by rw [b]; rfl)) _ E (fun ds itv Z₂ h₂ tk₂ e₂ g₂ q => ?_) fun k e Z₂ h₂ tk₂ q g xp => hE k e Z₂ h₂ tk₂ (by rw [q]; rfl) g xp
  rw [e₂] at hne hQ
  refine comp_core (RR := fun acc C => compPost (model Γ.prog Γ.w) A E none Q acc C) (AO.hd (loud_comp hc)) K CK.tgt O AO I helt hc' CK.elt CK.ifs g₂ q (fun b => hne (by rw [Out.bind_ok, b]; rfl)) fun D C h' Z' tk ml ys r er G sD sC hDC zD zC hns pl hl rl => ⟨ml, hns, fun h'' hs => ?_⟩
  have G' : Grow Z s.heap Z' h'' := G.write (W := fun b => b = C) (fun b o hb e => hs.extBut b o hb e) fun b hb => by subst hb; exact ⟨sC, zC⟩
  exact hQ (.own r) (.ref D) Z' h'' tk (by rw [Out.bind_ok, er]; rfl) G' ⟨D, rfl, sD, ys, zD, pl.at fun o e => hs.extBut D o hDC e, hl, rl⟩
structure AOc (Γ : Cx) (i n : Nat) (A : Around) : Prop extends AOk n A where
  hd : quietFn i = false → A.handled = none
  fr : ∃ l, A.frames = some l ∧ ∀ e ∈ l, e.scope.kind ≠ .module ∧ ∃ L, e.frame = some L ∧ L ∈ Γ.up
structure Gnd (Γ : Cx) (Z : Led) (h : Heap) : Prop where
  sub : ∀ a o, Z a = some o → h.get? a = some o
  ok : ∀ a o, Z a = some o → Tt o
  kz : ∀ a o, Γ.base.get? a = some o → Z a = some o
  ups : ∀ L ∈ Γ.up, Z L = none ∧ ∃ o es k, h.get? L = some o ∧ o.data = .dict es k
theorem Inv.gnd {h : Heap} (I : Inv Γ nm ρ env Z h m) : Gnd Γ Z h := ⟨I.sub, I.ok, I.kz, I.ups⟩
theorem Gnd.kb {h : Heap} (G : Gnd Γ Z h) : Kp Γ.base h := fun a o e => G.sub a o (G.kz a o e)
theorem AOx.call (AO : AOx Γ nm n A env) {f : Nat} (h : loud nm = true ∨ quietFn f = true) : AOc Γ f n A := by
  obtain ⟨e₀, l, h1, _, h3⟩ := AO.fr
  exact ⟨AO.toAOk, fun q => h.elim AO.hd (fun w => by rw [w] at q; cases q), e₀ :: l, h1, h3⟩
noncomputable def SndC (Γ : Cx) (n : Nat) (Φ : Nat → List Val → Out Val) : Prop :=
  ∀ (i : Nat) (f : Addr), FnIs Γ f i → ∀ (A : Around) (env : Env) (Z : Led) (s : Shared) (vs : List Value) (xs : List Val), AOc Γ i n A → Gnd Γ Z s.heap → RepVs Γ Z s.heap vs xs →
    EvT Γ A env Z s (PW Γ s.heap) (Φ i xs) (wpt Γ A (call (.ref f) vs))
theorem FnIs.at_ {f : Addr} {i : Nat} (F : FnIs Γ f i) {h : Heap} (k : Kp Γ.base h) : h.get? f = some F.o := k f F.o F.here
theorem callWith_fn {f : Addr} {i : Nat} (F : FnIs Γ f i) {first : List Value} {pos : Pos} {es : List Expr} {ts : T} (hc : chkT Γ.gs ts nm env.scope es = true) {Q E : Value → Shared → Prop}
    (h : wpAny (model Γ.prog Γ.w) A (spliced (backTo pos (starEach es env))) (fun vs s' => Kp Γ.base s'.heap ∧ wpAny (model Γ.prog Γ.w) A (call (.ref f) (first ++ vs)) Q E s') E s) :
    wpAny (model Γ.prog Γ.w) A (callWith pos (.ref f) first (backTo pos (starEach es env)) []) Q E s :=
  callWith_function (o := F.o) (fd := F.fd) (evalArgs_all hc (wpAny_mono h (fun vs s' h' => ⟨⟨F.at_ h'.1, F.data⟩, h'.2⟩) fun _ _ e => e))
theorem snd_call (C : CxOk Γ) (HC : SndC Γ n Φ) {f : Nat} {ts : T} (H : SndL Γ n Φ ts) : SndE Γ n Φ (.call f ts) := fun nm ρ A env Z s m e hc O AO I => inv_call hc fun x p es pos he h1 h2 h3 => by
  subst he
  obtain ⟨k, l⟩ := globOf_kind h2
  obtain ⟨a, ha, ⟨F⟩⟩ := C.gl _ _ l
  show EvT Γ A env Z s _ (evT Φ ts ρ >>= Φ f) _
  refine EvT.rule (fun Q E h => Call_ (load_glob O C.g I k ha h1 (callWith_fn F h3 h))) (EvT.bind (W2 := fun vs Q E s' => Kp Γ.base s'.heap ∧ wpAny (model Γ.prog Γ.w) A (call (.ref a) ([] ++ vs)) Q E s') (H nm ρ A env Z s m es pos h3 O AO I) fun xs vs Z' h' tk _ g q => ?_)
  have kb := (I.grow g).kb
  have := EvT.old g (HC f a F A env Z' { s with heap := h', toks := tk } vs xs (AO.call (loud_call hc)) (I.grow g).gnd q.1)
  exact fun hne Q E hQ hE => ⟨kb, this hne Q E hQ hE⟩
end
end Mine
namespace Mine
open PySem PySem.Calls PyProof.Rows
section
variable {Γ : Cx} {n : Nat} {Φ : Nat → List Val → Out Val} {A : Around} {env : Env} {Z Z₂ : Led} {s : Shared} {nm : Nm} {ρ : List Val} {m : Str → Option Value}
end
end Mine
namespace Mine
open PySem PySem.Calls PyProof.Rows
noncomputable def FlIs (Γ : Cx) (nm : Nm) (ρ : List Val) (m : Str → Option Value) (h₀ : Heap) (Z : Led) (h : Heap) : Fl → Flow → Prop
  | .next, f => f = .next
  | .ret v, f => ∃ u, f = .ret u ∧ RepV Γ Z (fun a => h₀.get? a = none ∨ OwnAt nm ρ m a) h u v
noncomputable def Lv (Γ : Cx) (nm : Nm) (env : Env) (Z : Led) (h : Heap) (ρ : List Val) (m : Str → Option Value) (c : Nat) (e : Value) (Z' : Led) (h' : Heap) : Prop := (∃ m', Post Γ nm env Z h ρ m Z' h' [] m') ∧ XP Γ env.frame c e Z' h h'
noncomputable abbrev OnQ (Γ : Cx) (nm : Nm) (env : Env) (Z : Led) (s : Shared) (ρ : List Val) (m : Str → Option Value) (r : Out (Fl × List Val)) (Q : Flow → Shared → Prop) : Prop := ∀ fl ρ' f Z' h' tk m', r = .ok (fl, ρ') → Post Γ nm env Z s.heap ρ m Z' h' ρ' m' → FlIs Γ nm ρ m s.heap Z' h' fl f → Q f { s with heap := h', toks := tk }
noncomputable abbrev OnE (Γ : Cx) (nm : Nm) (env : Env) (Z : Led) (s : Shared) (ρ : List Val) (m : Str → Option Value) (r : Out (Fl × List Val)) (E : Value → Shared → Prop) : Prop := ∀ c e Z' h' tk, r = .exn c → Lv Γ nm env Z s.heap ρ m c e Z' h' → E e { s with heap := h', toks := tk }
noncomputable def StT (Γ : Cx) (nm : Nm) (env : Env) (Z : Led) (s : Shared) (ρ : List Val) (m : Str → Option Value) (r : Out (Fl × List Val)) (W : Tr Flow) : Prop :=
  r ≠ .bad → ∀ Q E, OnQ Γ nm env Z s ρ m r Q → OnE Γ nm env Z s ρ m r E → W Q E s
noncomputable def SndS (Γ : Cx) (n : Nat) (Φ : Nat → List Val → Out Val) (t : T) : Prop :=
  ∀ (nm : Nm) (ρ : List Val) (A : Around) (env : Env) (Z : Led) (s : Shared) (m : Str → Option Value) (st : Stmt), chkS Γ.gs t nm env.scope st = true → EnvOk env → AOx Γ nm n A env → Inv Γ nm ρ env Z s.heap m →
    StT Γ nm env Z s ρ m (ex Φ t ρ) (wpt Γ A (exec st env))
noncomputable def SndB (Γ : Cx) (n : Nat) (Φ : Nat → List Val → Out Val) (t : T) : Prop :=
  ∀ (nm : Nm) (ρ : List Val) (A : Around) (env : Env) (Z : Led) (s : Shared) (m : Str → Option Value) (ss : List Stmt), chkB Γ.gs t nm env.scope ss = true → EnvOk env → AOx Γ nm n A env → Inv Γ nm ρ env Z s.heap m →
    StT Γ nm env Z s ρ m (ex Φ t ρ) (wpt Γ A (execs ss env))
section
variable {Γ : Cx} {n : Nat} {Φ : Nat → List Val → Out Val} {A : Around} {env : Env} {Z Z' : Led} {s : Shared} {nm : Nm} {ρ ρ' : List Val} {m m' : Str → Option Value} {h h' : Heap}
theorem FlIs.back (p : Post Γ nm env Z h ρ m Z' h' ρ' m') {Z2 : Led} {h2 : Heap} {fl : Fl} {f : Flow} (x : FlIs Γ nm ρ' m' h' Z2 h2 fl f) : FlIs Γ nm ρ m h Z2 h2 fl f := by
  cases fl with
  | next => exact x
  | ret v =>
    obtain ⟨u, e, r⟩ := x
    refine ⟨u, e, RepV.weak r fun a q => ?_⟩
    rcases q with q | q
    · exact .inl (p.ex a q)
    · rcases p.own a q with q | q
      · exact .inr q
      · exact .inl q
theorem StT.rule {r : Out (Fl × List Val)} {W W' : Tr Flow} (hr : ∀ Q E, W Q E s → W' Q E s) (H : StT Γ nm env Z s ρ m r W) : StT Γ nm env Z s ρ m r W' := fun hne Q E hQ hE => hr Q E (H hne Q E hQ hE)
theorem StT.badE {W : Tr Flow} {r : Out (Fl × List Val)} (e : r = .bad) : StT Γ nm env Z s ρ m r W := fun h => absurd e h
theorem Inv.forget (I : Inv Γ nm ρ env Z h m) : Inv Γ nm [] env Z h m where
  fr := I.fr
  sub := I.sub
  ok := I.ok
  zfp := I.zfp
  kz := I.kz
  ups := I.ups
  var := fun _ _ _ hn => absurd rfl hn
  nopr := fun _ _ _ q => nomatch q
  inj := I.inj
  fpb := I.fpb
  ownb := fun _ ⟨_, _, _, _, q, _⟩ => nomatch q
  apart := fun _ _ _ _ _ _ _ _ _ q => nomatch q
theorem Post.forget (p : Post Γ nm env Z h ρ m Z' h' ρ' m') : Post Γ nm env Z h ρ m Z' h' [] m' :=
  ⟨p.inv.forget, p.le, p.new, p.kp, fun _ q => (by obtain ⟨_, _, _, _, q, _⟩ := q; cases q), p.ex, fun _ q => (by obtain ⟨_, _, _, _, q, _⟩ := q; cases q), p.oth⟩
theorem Lv.back (p : Post Γ nm env Z h ρ m Z' h' ρ' m') {c : Nat} {e : Value} {Z2 : Led} {h2 : Heap} (x : Lv Γ nm env Z' h' ρ' m' c e Z2 h2) : Lv Γ nm env Z h ρ m c e Z2 h2 := by
  obtain ⟨⟨m2, p2⟩, xp⟩ := x
  exact ⟨⟨m2, p.trans p2⟩, xp.old p.ex⟩
theorem Lv.of (I : Inv Γ nm ρ env Z h m) (g : Grow Z h Z' h') {c : Nat} {e : Value} (x : XP Γ env.frame c e Z' h h') : Lv Γ nm env Z h ρ m c e Z' h' := ⟨⟨m, (Post.grow I g).forget⟩, x⟩
theorem StT.later (p : Post Γ nm env Z s.heap ρ m Z' h' ρ' m') {tk : Nat} {r : Out (Fl × List Val)} {W : Tr Flow} (H : StT Γ nm env Z' { s with heap := h', toks := tk } ρ' m' r W) (hne : r ≠ .bad) {Q : Flow → Shared → Prop} {E : Value → Shared → Prop}
    (hQ : OnQ Γ nm env Z s ρ m r Q) (hE : OnE Γ nm env Z s ρ m r E) : W Q E { s with heap := h', toks := tk } :=
  H hne Q E (fun fl ρ2 f Z2 h2 tk2 m2 e p2 x => hQ fl ρ2 f Z2 h2 tk2 m2 e (p.trans p2) (x.back p)) fun c e Z2 h2 tk2 q l => hE c e Z2 h2 tk2 q (l.back p)
theorem StT.bad {W : Tr Flow} : StT Γ nm env Z s ρ m .bad W := fun h => absurd rfl h
theorem StT.own {W : Tr Flow} {f : List Dat → Out (Fl × List Val)} {i : Nat} (H : ∀ l, ρ.getD i .un = .own l → StT Γ nm env Z s ρ m (f l) W) : StT Γ nm env Z s ρ m (ownX f (ρ.getD i .un)) W := by
  cases ho : ρ.getD i .un with
  | own l => exact H l ho
  | _ => exact .bad
theorem StT.guard {W : Tr Flow} {r : Out (Fl × List Val)} {c : Prop} [Decidable c] (H : c → StT Γ nm env Z s ρ m r W) : StT Γ nm env Z s ρ m (if c then r else .bad) W := by
  by_cases h : c
  · rw [if_pos h]; exact H h
  · rw [if_neg h]; exact .bad
theorem sndB_nil : SndB Γ n Φ .nil := fun nm ρ A env Z s m ss hc O AO I => by
  cases inv_nilB hc
  exact fun _ Q E hQ _ => wpAny_execs_nil (hQ .next ρ .next Z s.heap s.toks m rfl (Post.grow I I.refl) rfl)
theorem sndB_cons {a b : T} (ha : SndS Γ n Φ a) (hb : SndB Γ n Φ b) : SndB Γ n Φ (.cons a b) := fun nm ρ A env Z s m ss hc O AO I => inv_consB hc fun st r he h1 h2 => by
  subst he
  show StT Γ nm env Z s ρ m (seq (ex Φ a ρ) (ex Φ b)) _
  intro hne Q E hQ hE
  refine wpAny_execs_cons ((ha nm ρ A env Z s m st h1 O AO I) (fun q => hne (by rw [q]; rfl)) _ _ (fun fl ρ' f Z' h' tk m' e p x => ?_) fun c e Z' h' tk q l => hE c e Z' h' tk (by rw [q]; rfl) l)
  rw [e] at hne hQ hE
  cases fl with
  | next =>
    have : f = .next := x
    subst this
    exact (hb nm ρ' A env Z' { s with heap := h', toks := tk } m' r h2 O AO p.inv).later p hne hQ hE
  | ret v =>
    obtain ⟨u, rfl, rr⟩ := x
    exact hQ (.ret v) ρ' (.ret u) Z' h' tk m' rfl p ⟨u, rfl, rr⟩
end
end Mine
namespace Mine
open PySem PySem.Calls PyProof.Rows
section
variable {Γ : Cx} {n : Nat} {Φ : Nat → List Val → Out Val} {A : Around} {env : Env} {Z Z' : Led} {s : Shared} {nm : Nm} {ρ ρ' : List Val} {m m' : Str → Option Value} {h h' h'' : Heap}
theorem StT.bind {α β : Type} {P : Led → Heap → β → α → Prop} {r1 : Out α} {f : α → Out (Fl × List Val)} {W1 : Tr β} {W2 : β → Tr Flow} (I : Inv Γ nm ρ env Z s.heap m) (H1 : EvT Γ A env Z s P r1 W1)
    (H2 : ∀ x v Z' h' tk, r1 = .ok x → Grow Z s.heap Z' h' → P Z' h' v x → StT Γ nm env Z' { s with heap := h', toks := tk } ρ m (f x) (W2 v)) : StT Γ nm env Z s ρ m (r1 >>= f) (fun Q E s => W1 (fun v s' => W2 v Q E s') E s) := by
  intro hne Q E hQ hE
  refine H1 (fun q => hne (by rw [q]; rfl)) _ E (fun x v Z' h' tk e g p => ?_) fun c e Z' h' tk q g xp => hE c e Z' h' tk (by rw [q]; rfl) (.of I g xp)
  rw [e] at hne hQ hE
  exact (H2 x v Z' h' tk e g p).later (Post.grow I g) hne hQ hE
theorem notComp_swaps {e : Expr} (hc : notComp e = true) (tg : Option Expr) (line : Nat) (env : Env) : swapsWith e tg line env = pure false := by
  cases e <;> first | rfl | exact (Bool.false_ne_true hc).elim
theorem EnvOk.inter (O : EnvOk env) : interactive env = false := by unfold interactive; rw [O.kind]; rfl
theorem sndS_iff {c a b : T} (hc' : SndT Γ n Φ c) (ha : SndB Γ n Φ a) (hb : SndB Γ n Φ b) : SndS Γ n Φ (.iff c a b) := fun nm ρ A env Z s m st hc O AO I => inv_iff hc fun t x y pos hs h1 h2 h3 => by
  subst hs
  show StT Γ nm env Z s ρ m (ev Φ c ρ >>= boolD >>= fun x => if x then ex Φ a ρ else ex Φ b ρ) _
  refine StT.rule (fun Q E h => wpAny_If h) (StT.bind (W2 := fun d Q E s' => if d = true then wpAny (model Γ.prog Γ.w) A (execs x env) Q E s' else wpAny (model Γ.prog Γ.w) A (execs y env) Q E s') I (hc' nm ρ A env Z s m t h1 O AO I) fun d v Z' h' tk _ g p => ?_)
  have p : v = d := p
  subst p
  cases v with
  | true => exact StT.rule (fun Q E h => by rw [if_pos rfl]; exact h) (ha nm ρ A env Z' _ m x h2 O AO (I.grow g))
  | false => exact StT.rule (fun Q E h => by rw [if_neg (by decide)]; exact h) (hb nm ρ A env Z' _ m y h3 O AO (I.grow g))
theorem EvT.toR {r : Out Val} {W : Tr Value} (H : EvT Γ A env Z s (PW Γ s.heap) r W) : EvT Γ A env Z s (PW Γ s.heap) (r >>= retV) W :=
  H.conv fun Z' h' v x g p => by cases x <;> first | exact .inl rfl | exact .inr ⟨_, Z', rfl, g, p⟩
theorem sndS_ret {e : T} (he : SndE Γ n Φ e) : SndS Γ n Φ (.ret e) := fun nm ρ A env Z s m st hc O AO I => inv_ret hc fun v pos hs h1 => by
  subst hs
  show StT Γ nm env Z s ρ m (ev Φ e ρ >>= retV >>= fun x => .ok (.ret x, ρ)) _
  intro hne Q E hQ hE
  refine wpAny_Return_some ((he nm ρ A env Z s m v h1 O AO I).toR (fun q => hne (by rw [q]; rfl)) _ E (fun x u Z' h' tk ex g p => ?_) fun c e Z' h' tk q g xp => hE c e Z' h' tk (by rw [q]; rfl) (.of I g xp))
  rw [ex] at hQ
  exact hQ _ ρ _ Z' h' tk m rfl (Post.grow I g) ⟨u, rfl, RepV.weak p fun a q => .inl q⟩
theorem load_own (O : EnvOk env) (I : Inv Γ nm ρ env Z s.heap m) {x : Str} {i : Nat} (hv : varOf nm env.scope x = some i) (hd : notDebug x = true) {l : List Dat} (ho : ρ.getD i .un = .own l) {pos : Pos} {Q E : Value → Shared → Prop}
    (h : ∀ a, OwnAt nm ρ m a → m x = some (.ref a) → OwnIs Z s.heap a l → Q (.ref a) s) : wpAny (model Γ.prog Γ.w) A (eval (.Name x pos) env) Q E s := by
  obtain ⟨kd, nl⟩ := varOf_kind hv
  obtain ⟨v, e, r⟩ := I.var x i nl (by rw [ho]; exact nofun)
  rw [ho] at r
  obtain ⟨a, rfl, _, o⟩ := r
  exact load_var O.kind I.fr kd e hd (h a ⟨x, i, l, nl, ho, e⟩ e o)
theorem sndS_retO {i : Nat} : SndS Γ n Φ (.retO i) := fun nm ρ A env Z s m st hc O AO I => inv_retO hc fun x q pos hs h1 h2 => by
  subst hs
  exact StT.own fun l ho _ Q E hQ _ => wpAny_Return_some (load_own O I h2 h1 ho fun a oa _ oi => hQ _ ρ _ Z s.heap s.toks m rfl (Post.grow I I.refl) ⟨.ref a, rfl, a, rfl, .inr oa, oi⟩)
theorem sto_conv {v : Value} {x : Val} (g : Grow Z h Z' h') (p : RepV Γ Z' (fun a => h.get? a = none) h' v x) {y : Val} (hy : stoV x = .ok y) : ∃ Z'', Grow Z h Z'' h' ∧ RepV Γ Z'' (fun _ => True) h' v y ∧ stoOk y = true := by
  cases x with
  | sh d => cases hy; exact ⟨Z', g, p, rfl⟩
  | own ds =>
    cases hy
    obtain ⟨a, rfl, f, o⟩ := p
    obtain ⟨Z'', g', _, r, _⟩ := freeze_own g f o
    exact ⟨Z'', g', r, rfl⟩
  | pr d ds =>
    cases hy
    obtain ⟨Z'', g', r⟩ := freeze_pr g p
    exact ⟨Z'', g', r, rfl⟩
  | shop a b => cases hy; exact ⟨Z', g, p, rfl⟩
  | _ => cases hy
theorem Post.storeOwn (I : Inv Γ nm ρ env Z h m) (g : Grow Z h Z' h') {x : Str} {i : Nat} (hx : nm.lookup x = some i) {b : Addr} {ds : List Dat} (f : h.get? b = none) (o : OwnIs Z' h' b ds)
    {a : Addr} (p : FP env a) (hs : Heap.SameBut a h' h'') (he : ∃ o, h''.get? a = some o) (F' : FrS env h'' (upd m x (.ref b))) : Post Γ nm env Z h ρ m Z' h'' (ρ.set i (.own ds)) (upd m x (.ref b)) := by
  have I' := I.grow g
  have there : ∀ x' j es c, nm.lookup x' = some j → (ρ.getD j .un = .own es ∨ ρ.getD j .un = .bor es) → m x' = some (.ref c) → c ≠ b := fun x' j es c l hj hm q => by
    subst q
    obtain ⟨v, hv, r⟩ := I.var x' j l (by rcases hj with hj | hj <;> (rw [hj]; simp))
    rw [hm] at hv; cases hv
    rcases hj with hj | hj
    · rw [hj] at r
      obtain ⟨c', e, _, vs, _, ⟨k, pp⟩, _⟩ := r
      cases e; rw [f] at pp; cases pp
    · rw [hj] at r
      obtain ⟨c', vs, e, ⟨k, pp⟩, _⟩ := r
      cases e; rw [f] at pp; cases pp
  refine ⟨I'.store hx (v := .ref b) (y := .own ds) ⟨b, rfl, trivial, o⟩ (.inr ⟨ds, b, rfl, rfl, I.kb.none f, fun x' j es ne l hj hm => there x' j es b l hj hm rfl⟩) p hs F', g.le, fun c o e => (g.new c o e).elim .inl fun e => .inr (.inl e), ?_, ?_, ?_, fun c ob => ob.set (fun _ e => by cases e) (upd_off I hx _), fun y l => upd_ne fun e => by subst e; rw [hx] at l; cases l⟩
  · intro c oc nc e
    obtain ⟨k1, o', e', d', c'⟩ := g.kp c oc e
    have hc : c ≠ a := fun q => nc (.inl (q ▸ p))
    exact ⟨fun nf => hs.extBut c oc hc (k1 nf), o', hs.extBut c o' hc e', d', c'⟩
  · rintro c ⟨x', j, es, l, hj, hm⟩
    by_cases e : x' = x
    · subst e
      rw [upd_self] at hm; cases hm; exact .inr f
    · have ne : j ≠ i := fun q => e (I.inj x' x i (q ▸ l) hx)
      have : (ρ.set i (Val.own ds)).getD j .un = ρ.getD j .un := by simp [List.getD, List.getElem?_set, Ne.symm ne]
      rw [this] at hj; rw [upd_ne e] at hm
      exact .inl ⟨x', j, es, l, hj, hm⟩
  · intro c q
    exact g.kp.none (sameBut_ex hs he c q)
theorem Inv.notUp (I : Inv Γ nm ρ env Z h m) {C : Addr} (e : h.get? C = none) : C ∉ Γ.up := fun q => by
  obtain ⟨_, o, _, _, e', _⟩ := I.ups C q
  rw [e] at e'; cases e'
theorem Post.junk {Z₀ : Led} {h₀ : Heap} {ρ₀ : List Val} {m₀ : Str → Option Value} (P : Post Γ nm env Z₀ h₀ ρ₀ m₀ Z h ρ m) {C : Addr} {ml : Str → Option Value} (hn : h.Ns C ml) (zC : Z C = none) (fC : h₀.get? C = none) (bC : Γ.base.get? C = none) (nC : ¬ FP env C) (hs : Heap.SameBut C h h') (uC : C ∉ Γ.up) :
    Post Γ nm env Z₀ h₀ ρ₀ m₀ Z h' ρ m := by
  have noseq : ∀ b o vs k, h.get? b = some o → o.data = .seq vs k → b ≠ C := fun b o vs k e hd q => by
    subst q
    obtain ⟨o', es, ep, e', hd', _⟩ := hn
    rw [e] at e'; cases e'; rw [hd] at hd'; cases hd'
  have pl : ∀ b vs, h.PlainList b vs → h'.PlainList b vs := fun b vs ⟨k, e⟩ => ⟨k, hs.extBut b _ (noseq b _ _ _ e rfl) e⟩
  have I := P.inv
  refine ⟨⟨⟨?_, ?_, I.fr.inj⟩, fun b o e => hs.extBut b o (fun q => by subst q; rw [zC] at e; cases e) (I.sub b o e), I.ok, I.zfp, I.kz, ?_, ?_, I.nopr, I.inj, I.fpb, I.ownb, I.apart⟩, P.le, P.new, ?_, P.own, fun c q => ?_, P.bor, P.oth⟩
  · obtain ⟨ml', a, b⟩ := I.fr.loc
    exact ⟨ml', a.sameBut hs fun q => nC (.inl q.symm), b⟩
  · intro x k
    obtain ⟨c, l, i⟩ := I.fr.cel x k
    exact ⟨c, l, i.sameBut hs fun q => nC (.inr ⟨x, k, q ▸ l⟩)⟩
  · intro L hL
    obtain ⟨z, o, es, k, e, d⟩ := I.ups L hL
    exact ⟨z, o, es, k, hs.extBut L o (fun q => uC (q ▸ hL)) e, d⟩
  · intro x j l nu
    obtain ⟨v, hv, r⟩ := I.var x j l nu
    refine ⟨v, hv, ?_⟩
    generalize hy : ρ.getD j .un = y at *
    cases y with
    | own ds => obtain ⟨b, e, f, vs, z, q, ll, rr⟩ := r; exact ⟨b, e, f, vs, z, pl _ _ q, ll, rr⟩
    | bor ds => obtain ⟨b, vs, e, q, ll, rr⟩ := r; exact ⟨b, vs, e, pl _ _ q, ll, rr⟩
    | pr d ds => exact absurd hy (I.nopr j d ds)
    | un => exact r
    | sh d => exact r
    | shop a b => exact r
    | exc c =>
      obtain ⟨e, oe, vs, D, h1, h2, h3, h4, h5⟩ := r
      refine ⟨e, oe, vs, D, h1, h2, hs.extBut e oe (fun q => ?_) h3, h4, h5⟩
      subst q
      obtain ⟨o', es, ep, e', hd', _⟩ := hn
      rw [h3] at e'; cases e'; rw [h5] at hd'; cases hd'
  · intro b o nb e
    have hb : b ≠ C := fun q => by subst q; rw [fC] at e; cases e
    obtain ⟨k1, o', e', d', c'⟩ := P.kp b o nb e
    exact ⟨fun nf => hs.extBut b o hb (k1 nf), o', hs.extBut b o' hb e', d', c'⟩
  · by_cases hc : c = C
    · subst hc; exact fC
    · exact P.ex c (by rw [← hs.2 c hc]; exact q)
end
end Mine
namespace Mine
open PySem PySem.Calls PyProof.Rows
section
variable {Γ : Cx} {n : Nat} {Φ : Nat → List Val → Out Val} {A : Around} {env : Env} {Z Z' : Led} {s : Shared} {nm : Nm} {ρ ρ' : List Val} {m m' : Str → Option Value} {h h' h'' : Heap}
theorem swaps_cases (v : Expr) (x : Str) (px : Pos) (line : Nat) (env : Env) : swapsWith v (some (.Name x px)) line env = pure false ∨ (swapsWith v (some (.Name x px)) line env = pure true ∧ notComp v = false ∧ env.kindOf x = some .local) := by
  have key : notComp v = false → ∀ b : Bool, swapsWith v (some (.Name x px)) line env = pure b → (b = true → env.kindOf x = some .local) → swapsWith v (some (.Name x px)) line env = pure false ∨ (swapsWith v (some (.Name x px)) line env = pure true ∧ notComp v = false ∧ env.kindOf x = some .local) := fun hn b e hb => by
    cases b with
    | false => exact .inl e
    | true => exact .inr ⟨e, hn, hb rfl⟩
  cases v <;> first | exact .inl (notComp_swaps rfl _ _ _) | exact key rfl _ rfl fun hb => beq_iff_eq.mp (and_inv (and_inv (and_inv hb).1).1).2
theorem chk_isComp {e : T} {v : Expr} (h : (notComp v || e.isComp) = true) (hn : notComp v = false) : ∃ elt tg it c, e = .comp elt tg it c := by
  rw [hn] at h; exact isComp_inv h
theorem comp_used {elt it c : T} {tg : List Nat} (helt : SndE Γ n Φ elt) (hit : SndI Γ n Φ it) (hc' : SndT Γ n Φ c) {e : Expr} (hc : chk Γ.gs (.comp elt tg it c) nm env.scope e = true) (O : EnvOk env) (AO : AOx Γ nm n A env) (I : Inv Γ nm ρ env Z s.heap m)
    {x : Str} {px pos : Pos} (hsw : swapsWith e (some (.Name x px)) pos.line env = pure true) (kd : env.kindOf x = some .local ∨ env.kindOf x = some .cell) (hne : ev Φ (.comp elt tg it c) ρ ≠ .bad) {Q : Flow → Shared → Prop} {E : Value → Shared → Prop} (hE : ∀ k e Z' h' tk, ev Φ (.comp elt tg it c) ρ = .exn k → Grow Z s.heap Z' h' → XP Γ env.frame k e Z' s.heap h' → E e { s with heap := h', toks := tk })
    (fin : ∀ D C r Z' h' h1 tk ml a, ev Φ (.comp elt tg it c) ρ = .ok (.own r) → Grow Z s.heap Z' h' → s.heap.get? D = none → s.heap.get? C = none → D ≠ C → Z' C = none → OwnIs Z' h' D r → FP env a → Heap.SameBut a h' h1 → (∃ o, h1.get? a = some o) → FrS env h1 (upd m x (.ref D)) → h1.Ns C ml → ¬ FP env C →
      ∀ h2, Heap.SameBut C h1 h2 → Q .next { s with heap := h2, toks := tk }) :
    wpAny (model Γ.prog Γ.w) A (exec (.Assign [.Name x px] e pos) env) Q E s := by
  refine inv_comp hc fun y target iter ifs cs cpos xs he CK => ?_
  subst he
  obtain ⟨K, hz⟩ := comp_ok CK
  rw [exec_Assign_Name_used _ _ _ _ hsw]
  rw [ev_comp_eq] at hne fin hE
  refine wpAny_bind (wpAny_standAt (wpAny_bind ?_))
  show wpAny _ A (do let _ ← comprehension (.ListComp y [⟨target, iter, ifs, 0⟩] cs cpos) cs env _ (newList []) false (eval iter env) (some (assign (.Name x px) env))) _ _ s
  refine wpAny_bind (wpAny_mono (wpAny_comprehension_free (use := some (assign (.Name x px) env)) (Q := fun _ s' => Q .next s') rfl (notSet_folded CK.set env) (closure_is env cs (K.cl I.fr)) K.kind K.locs ?_) (fun _ s' hq => wpAny_pure (wpAny_pure hq)) fun _ _ e => e)
  refine hit nm ρ A env Z s m target iter CK.iter hz O AO I (fun b => hne (by rw [b]; rfl)) _ E (fun ds itv Z₂ h₂ tk₂ e₂ g₂ q => ?_) fun k e Z₂ h₂ tk₂ q g xp => hE k e Z₂ h₂ tk₂ (by rw [q]; rfl) g xp
  rw [e₂] at hne fin
  refine comp_core (RR := fun acc C => compPost (model Γ.prog Γ.w) A E (some (assign (.Name x px) env)) (fun _ s' => Q .next s') acc C) (AO.hd (loud_comp hc)) K CK.tgt O AO I helt hc' CK.elt CK.ifs g₂ q (fun b => hne (by rw [Out.bind_ok, b]; rfl)) fun D C h' Z' tk ml ys r er G sD sC hDC zD zC hns pl hl rl => ?_
  show wpAny _ A (assign (.Name x px) env (.ref D)) _ _ _
  have nC : ¬ FP env C := fun p => by obtain ⟨o, e⟩ := I.fr.there p; rw [sC] at e; cases e
  refine wpAny_assign_Name (store_var (s := { s with heap := h', toks := tk }) O.kind (I.grow G).fr kd fun h1 tk1 a p pw hs he F1 => ?_)
  have hns1 : h1.Ns C ml := hns.sameBut hs fun q => nC (q ▸ p)
  exact ⟨ml, hns1, fun h2 hs2 => fin D C r Z' h' h1 tk1 ml a (by rw [Out.bind_ok, er]; rfl) G sD sC hDC zC ⟨ys, zD, pl, hl, rl⟩ p hs he F1 hns1 nC h2 hs2⟩
theorem sndS_asg {i : Nat} {e : T} (he : SndE Γ n Φ e) (hcomp : ∀ elt tg it c, e = .comp elt tg it c → SndE Γ n Φ elt ∧ SndI Γ n Φ it ∧ SndT Γ n Φ c) : SndS Γ n Φ (.asg i e) := fun nm ρ A env Z s m st hc O AO I => inv_asg hc fun x px v pos hst h1 h2 h3 => by
  subst hst
  obtain ⟨kd, nl⟩ := varOf_kind h1
  refine fun hne Q E hQ hE => ?_
  replace hne : (ev Φ e ρ >>= stoV >>= fun x => Out.ok (Fl.next, ρ.set i x)) ≠ .bad := hne
  replace hQ : OnQ Γ nm env Z s ρ m (ev Φ e ρ >>= stoV >>= fun x => Out.ok (Fl.next, ρ.set i x)) Q := hQ
  replace hE : OnE Γ nm env Z s ρ m (ev Φ e ρ >>= stoV >>= fun x => Out.ok (Fl.next, ρ.set i x)) E := hE
  have hne1 : ev Φ e ρ ≠ .bad := fun q => hne (by rw [q]; rfl)
  rcases swaps_cases v x px pos.line env with hs | ⟨hs, hn, kl⟩
  · refine wpAny_Assign_Name (he nm ρ A env Z s m v h3 O AO I hne1 _ E (fun y u Z' h' tk ey g p => ?_) fun c e Z' h' tk q g xp => hE c e Z' h' tk (by rw [q]; rfl) (.of I g xp)) hs
    rw [ey, Out.bind_ok] at hne hQ
    cases hy : stoV y with
    | bad => rw [hy] at hne; exact absurd rfl hne
    | exn c => cases y <;> cases hy
    | ok z =>
      rw [hy] at hQ
      obtain ⟨Z'', g', r, so⟩ := sto_conv g p hy
      have I' := I.grow g'
      exact store_var (s := { s with heap := h', toks := tk }) O.kind I'.fr kd fun h1 tk1 a pa pw hs1 he1 F1 => hQ .next _ .next Z'' h1 tk1 _ rfl ((Post.grow I g').trans (Post.store I' nl r so pa hs1 he1 F1)) rfl
  · obtain ⟨elt, tg, it, c, rfl⟩ := chk_isComp h2 hn
    obtain ⟨k1, k2, k3⟩ := hcomp elt tg it c rfl
    refine comp_used k1 k2 k3 h3 O AO I hs (.inl kl) hne1 (fun k e Z' h' tk q g xp => hE k e Z' h' tk (by rw [q]; rfl) (.of I g xp)) fun D C r Z' h' h1 tk ml a er G sD sC hDC zC oi pa hs1 he1 F1 hns nC h2 hs2 => ?_
    rw [er] at hQ
    obtain ⟨Z'', g', le, rr, oth⟩ := freeze_own G sD oi
    have P := (Post.grow I g').trans (Post.store (I.grow g') nl (v := .ref D) (y := .sh (.lst r)) rr rfl pa hs1 he1 F1)
    exact hQ .next _ .next Z'' h2 tk _ rfl (P.junk hns ((oth C hDC.symm).trans zC) sC (I.kb.none sC) nC hs2 (I.notUp sC)) rfl
theorem sndS_asgO {i : Nat} {e : T} (he : SndE Γ n Φ e) (hcomp : ∀ elt tg it c, e = .comp elt tg it c → SndE Γ n Φ elt ∧ SndI Γ n Φ it ∧ SndT Γ n Φ c) : SndS Γ n Φ (.asgO i e) := fun nm ρ A env Z s m st hc O AO I => inv_asgO hc fun x px v pos hst h1 h2 h3 => by
  subst hst
  obtain ⟨kd, nl⟩ := varOf_kind h1
  refine fun hne Q E hQ hE => ?_
  replace hne : (ev Φ e ρ >>= own1 >>= fun x => Out.ok (Fl.next, ρ.set i x)) ≠ .bad := hne
  replace hQ : OnQ Γ nm env Z s ρ m (ev Φ e ρ >>= own1 >>= fun x => Out.ok (Fl.next, ρ.set i x)) Q := hQ
  replace hE : OnE Γ nm env Z s ρ m (ev Φ e ρ >>= own1 >>= fun x => Out.ok (Fl.next, ρ.set i x)) E := hE
  have hne1 : ev Φ e ρ ≠ .bad := fun q => hne (by rw [q]; rfl)
  rcases swaps_cases v x px pos.line env with hs | ⟨hs, hn, kl⟩
  · refine wpAny_Assign_Name (he nm ρ A env Z s m v h3 O AO I hne1 _ E (fun y u Z' h' tk ey g p => ?_) fun c e Z' h' tk q g xp => hE c e Z' h' tk (by rw [q]; rfl) (.of I g xp)) hs
    rw [ey, Out.bind_ok] at hne hQ
    cases y <;> first | exact absurd rfl hne | skip
    · exact store_var (s := { s with heap := h', toks := tk }) O.kind (I.grow g).fr kd fun h1 tk1 a pa pw hs1 he1 F1 => hQ .next _ .next Z' h1 tk1 _ rfl ((Post.grow I g).trans (Post.store (I.grow g) nl (RepV.weak p fun _ _ => trivial) rfl pa hs1 he1 F1)) rfl
    · obtain ⟨b, rfl, f, oi⟩ := p
      exact store_var (s := { s with heap := h', toks := tk }) O.kind (I.grow g).fr kd fun h1 tk1 a pa pw hs1 he1 F1 => hQ .next _ .next Z' h1 tk1 _ rfl (Post.storeOwn I g nl f oi pa hs1 he1 F1) rfl
  · obtain ⟨elt, tg, it, c, rfl⟩ := chk_isComp h2 hn
    obtain ⟨k1, k2, k3⟩ := hcomp elt tg it c rfl
    refine comp_used k1 k2 k3 h3 O AO I hs (.inl kl) hne1 (fun k e Z' h' tk q g xp => hE k e Z' h' tk (by rw [q]; rfl) (.of I g xp)) fun D C r Z' h' h1 tk ml a er G sD sC hDC zC oi pa hs1 he1 F1 hns nC h2 hs2 => ?_
    rw [er] at hQ
    exact hQ .next _ .next Z' h2 tk _ rfl ((Post.storeOwn I G nl sD oi pa hs1 he1 F1).junk hns zC sC (I.kb.none sC) nC hs2 (I.notUp sC)) rfl
end
end Mine
namespace Mine
open PySem PySem.Calls PyProof.Rows
section
variable {Γ : Cx} {n : Nat} {Φ : Nat → List Val → Out Val} {A : Around} {env : Env} {Z Z' : Led} {s : Shared} {nm : Nm} {ρ ρ' : List Val} {m m' : Str → Option Value} {h h' h'' : Heap}
theorem Post.mutate (I : Inv Γ nm ρ env Z h m) {x : Str} {i : Nat} {l : List Dat} {a : Addr} (hx : nm.lookup x = some i) (ho : ρ.getD i .un = .own l) (hm : m x = some (.ref a)) {ds : List Dat} {vs : List Value}
    (hs : Heap.SameBut a h h') (hp : h'.PlainList a vs.toArray) (hl : vs.length ≤ line) (hr : RepL Z vs ds) : Post Γ nm env Z h ρ m Z h' (ρ.set i (.own ds)) m := by
  have get_ne : ∀ j, j ≠ i → (ρ.set i (Val.own ds)).getD j .un = ρ.getD j .un := fun j hj => by simp [List.getD, List.getElem?_set, Ne.symm hj]
  have hi : i < ρ.length := by
    by_cases hi : i < ρ.length
    · exact hi
    · have : ρ.getD i .un = .un := by simp [List.getD, Nat.not_lt.mp hi]
      rw [this] at ho; cases ho
  have get_i : (ρ.set i (Val.own ds)).getD i .un = .own ds := by simp [List.getD, hi]
  obtain ⟨v, hv, r⟩ := I.var x i hx (by rw [ho]; simp)
  rw [ho] at r
  rw [hm] at hv; cases hv
  obtain ⟨a', ea, _, vs0, zn, ⟨k0, e0⟩, hl0, rl0⟩ := r
  cases ea
  have oa : OwnAt nm ρ m a := ⟨x, i, l, hx, ho, hm⟩
  have nfp : ∀ b, FP env b → b ≠ a := fun b p q => by subst q; exact I.fr.noSeq p e0 _ _ rfl
  have ba := I.ownb a oa
  have ap : ∀ x' j es b, x' ≠ x → nm.lookup x' = some j → (ρ.getD j .un = .own es ∨ ρ.getD j .un = .bor es) → m x' = some (.ref b) → b ≠ a := fun x' j es b ne lk hj hm' q => by
    subst q; exact ne (I.apart x x' i j b l es hx lk ho hj hm hm').symm
  have idx : ∀ x' j, nm.lookup x' = some j → x' ≠ x → j ≠ i := fun x' j l ne q => ne (I.inj x' x i (q ▸ l) hx)
  have ownsub : ∀ b, OwnAt nm (ρ.set i (.own ds)) m b → OwnAt nm ρ m b := fun b ⟨x', j, es, lk, hj, hmj⟩ => by
    by_cases e : x' = x
    · subst e; rw [hx] at lk; cases lk; exact ⟨x', i, l, hx, ho, hmj⟩
    · rw [get_ne j (idx x' j lk e)] at hj; exact ⟨x', j, es, lk, hj, hmj⟩
  refine ⟨⟨⟨?_, ?_, I.fr.inj⟩, fun b o e => hs.extBut b o (fun q => by subst q; rw [zn] at e; cases e) (I.sub b o e), I.ok, I.zfp, I.kz, ?_, ?_, ?_, I.inj, I.fpb, fun b ob => I.ownb b (ownsub b ob), ?_⟩, fun _ _ e => e, fun _ _ e => .inl e, ?_, fun b ob => .inl (ownsub b ob), ?_, fun b ob => ob.set (fun _ e => by cases e) fun _ _ _ _ => rfl, fun _ _ => rfl⟩
  · obtain ⟨ml', c, b⟩ := I.fr.loc
    exact ⟨ml', c.sameBut hs (nfp _ (.inl rfl)), b⟩
  · intro y k
    obtain ⟨c, lk, ic⟩ := I.fr.cel y k
    exact ⟨c, lk, ic.sameBut hs (nfp _ (.inr ⟨y, k, lk⟩))⟩
  · intro L hL
    obtain ⟨z, o, es, k, e, d⟩ := I.ups L hL
    exact ⟨z, o, es, k, hs.extBut L o (fun q => by subst q; rw [e0] at e; cases e; cases d) e, d⟩
  · intro x' j lk nu
    by_cases e : x' = x
    · subst e
      rw [hx] at lk; cases lk
      rw [get_i]
      exact ⟨_, hm, a, rfl, trivial, vs, zn, hp, hl, hr⟩
    · have hj := idx x' j lk e
      rw [get_ne j hj] at nu ⊢
      obtain ⟨u, hu, ru⟩ := I.var x' j lk nu
      refine ⟨u, hu, ?_⟩
      generalize hy : ρ.getD j .un = y at *
      cases y with
      | own es => obtain ⟨b, e1, f, ws, zb, ⟨k, p⟩, hw, rw'⟩ := ru; subst e1; exact ⟨b, rfl, f, ws, zb, ⟨k, hs.extBut b _ (ap x' j es b e lk (.inl hy) hu) p⟩, hw, rw'⟩
      | bor es => obtain ⟨b, ws, e1, ⟨k, p⟩, hw, rw'⟩ := ru; subst e1; exact ⟨b, ws, rfl, ⟨k, hs.extBut b _ (ap x' j es b e lk (.inr hy) hu) p⟩, hw, rw'⟩
      | sh d => exact ru
      | shop a b => exact ru
      | exc c => obtain ⟨e, oe, vs, D, h1, h2, h3, h4, h5⟩ := ru; exact ⟨e, oe, vs, D, h1, h2, hs.extBut e oe (fun q => by subst q; rw [e0] at h3; cases h3; cases h5) h3, h4, h5⟩
      | un => exact ru
      | pr d es => exact absurd hy (I.nopr j d es)
  · intro j d es q
    by_cases ej : j = i
    · subst ej; rw [get_i] at q; cases q
    · rw [get_ne j ej] at q; exact I.nopr j d es q
  · intro x1 x2 i1 i2 b ds1 es l1 l2 h1 h2 m1 m2
    have f1 : ∃ ds', ρ.getD i1 .un = .own ds' := by
      by_cases e1 : i1 = i
      · subst e1; exact ⟨l, ho⟩
      · rw [get_ne i1 e1] at h1; exact ⟨_, h1⟩
    have f2 : ∃ es', ρ.getD i2 .un = .own es' ∨ ρ.getD i2 .un = .bor es' := by
      by_cases e2 : i2 = i
      · subst e2; exact ⟨l, .inl ho⟩
      · rw [get_ne i2 e2] at h2; exact ⟨_, h2⟩
    obtain ⟨ds', f1⟩ := f1
    obtain ⟨es', f2⟩ := f2
    exact I.apart x1 x2 i1 i2 b ds' es' l1 l2 f1 f2 m1 m2
  · intro b o nb e
    have hb : b ≠ a := fun q => nb (.inr (q ▸ oa))
    exact ⟨fun _ => hs.extBut b o hb e, o, hs.extBut b o hb e, rfl, rfl⟩
  · exact sameBut_ex hs (by obtain ⟨k, e⟩ := hp; exact ⟨_, e⟩)
theorem plain_update {a : Addr} {vs : Array Value} (f : Array Value → Array Value) (hp : h.PlainList a vs) : (h.update a (Obj.mapSeq f)).PlainList a (f vs) := by
  obtain ⟨k, e⟩ := hp
  exact ⟨if (f vs).size == vs.size then k else k + 1, by rw [Heap.get?_update_self _ e rfl]; rfl⟩
end
end Mine
namespace Mine
open PySem PySem.Calls PyProof.Rows
section
variable {Γ : Cx} {n : Nat} {Φ : Nat → List Val → Out Val} {A : Around} {env : Env} {Z Z' : Led} {s : Shared} {nm : Nm} {ρ ρ' : List Val} {m m' : Str → Option Value} {h h' h'' : Heap}
theorem sizeLine_line {vs : List Value} (hl : vs.length ≤ line) : vs.toArray.size ≤ sizeLine := by
  simp only [List.size_toArray]
  exact Nat.le_trans hl (by decide)
theorem own_var (I : Inv Γ nm ρ env Z h m) {x : Str} {i : Nat} {l : List Dat} (nl : nm.lookup x = some i) (ho : ρ.getD i .un = .own l) : ∃ a, m x = some (.ref a) ∧ OwnIs Z h a l := by
  obtain ⟨v, e, r⟩ := I.var x i nl (by rw [ho]; exact nofun)
  rw [ho] at r
  obtain ⟨a, rfl, _, o⟩ := r
  exact ⟨a, e, o⟩
theorem sndS_app {i : Nat} {e : T} (he : SndE Γ n Φ e) : SndS Γ n Φ (.app i e) := fun nm ρ A env Z s m st hc O AO I => inv_app hc fun x px ap y cp pos hst h1 h2 h4 h5 h6 => by
  subst hst
  obtain ⟨kd, nl⟩ := varOf_kind h4
  have hs : backTo cp (starEach [y] env) = [(false, eval y env)] := by rw [star_cons h5]; rfl
  refine StT.own fun l ho => ?_
  obtain ⟨a, hma, oi⟩ := own_var I nl ho
  obtain ⟨vs0, _, pl0, _⟩ := id oi
  refine StT.rule (fun Q E h => wpAny_Expr_any (Call_meth rfl h2 (by rw [hs]; rfl) (by show 1 < 30; decide) (load_var O.kind I.fr kd hma h1 fun pl => getMethod_list_of PySem.F.slot_list_append PySem.F.type_list_append pl0.isList (by obtain ⟨k, q⟩ := pl0; exact ⟨_, q, rfl⟩) (by rw [hs]; exact callWith_builtin rfl (evalArgs_plain (spliced_cons h))))) O.inter (notComp_swaps rfl _ _ _))
    (StT.bind (W2 := fun v Q E s => wpAny (model Γ.prog Γ.w) A (spliced []) (fun vs s₂ => wpAny (model Γ.prog Γ.w) A (call (.builtin "list.append") ([.ref a] ++ (v :: vs))) (fun _ s' => Q .next s') E s₂) E s) I (he nm ρ A env Z s m y h6 O AO I).toD fun d v Z' h' tk _ g p => StT.guard fun hlt => fun _ Q E hQ _ => spliced_nil ?_)
  obtain ⟨vs, zn, pl1, hl1, rl1⟩ := oi.grow g
  exact wpAny_list_append_plain (s := { s with heap := h', toks := tk }) pl1 (fun h2 hp2 hs2 => hQ .next _ .next Z' h2 tk m rfl (Post.mutate (I.grow g) nl ho hma (vs := vs ++ [v]) hs2 (by simpa using hp2) (by rw [List.length_append, rl1.length]; exact hlt) (rl1.append (.one p))) rfl) (sizeLine_line hl1)
theorem sndS_rvs {i : Nat} : SndS Γ n Φ (.rvs i) := fun nm ρ A env Z s m st hc O AO I => inv_rvs hc fun x px ap cp pos hst h1 h2 h4 => by
  subst hst
  obtain ⟨kd, nl⟩ := varOf_kind h4
  refine StT.own fun l ho _ Q E hQ _ => ?_
  obtain ⟨a, hma, oi⟩ := own_var I nl ho
  obtain ⟨vs, zn, pl0, hl0, rl0⟩ := id oi
  refine wpAny_Expr_any (Call_meth rfl h2 rfl (by show 0 < 30; decide) (load_var O.kind I.fr kd hma h1 fun pl => ?_)) O.inter (notComp_swaps rfl _ _ _)
  refine getMethod_list_of PySem.F.slot_list_reverse PySem.F.type_list_reverse pl0.isList (by obtain ⟨k, q⟩ := pl0; exact ⟨_, q, rfl⟩) ?_
  refine callWith_bt (gs := Γ.gs) (sc := env.scope) (nm := nm) (t := .nil) (es := []) rfl rfl (spliced_nil ?_)
  obtain ⟨k, q⟩ := id pl0
  refine call_meets PySem.F.slot_list_reverse ⟨_, q, rfl⟩ PySem.F.entry_list_reverse (PySem.F.args_list_reverse_1 _) (PySem.AutoListH.list_reverse_list_0 a vs.toArray k (sizeLine_line hl0)) ⟨q, ?_⟩
  have hp2 := plain_update (fun x => x.reverse) pl0
  exact hQ .next _ .next Z _ s.toks m rfl (Post.mutate I nl ho hma (vs := vs.reverse) (Heap.SameBut.update ..) (by simpa using hp2) (by simpa using hl0) rl0.reverse) rfl
end
end Mine
namespace Mine
open PySem PySem.Calls PyProof.Rows
noncomputable def Nt (Z : Led) (h₀ H H' : Heap) : Prop := ∀ b o, H.get? b = some o → ((∃ vs, o.data = .fields vs) ∧ h₀.get? b = none ∧ Z b = none) ∨ (((Z b = some o ∨ NoDict o) → H'.get? b = some o) ∧ ∃ o', H'.get? b = some o' ∧ o'.data = o.data ∧ o'.cls = o.cls)
inductive XPe (Γ : Cx) (g : Value) (c : Nat) (v : Value) (Z : Led) (h₀ h : Heap) : Prop
  | mk (e : _) (oe : _) (vs : _) (C : _) (T : _) (oT : _) (ts : _) : (v = .ref e) → (Γ.exc c = some C) → (h₀.get? e = none) → (Z e = none) → (h.get? e = some oe) → (oe.cls = .ref C) → (oe.data = .fields vs) → (vs[1]? = some (.ref T)) → (h₀.get? T = none) → (Z T = none) → (T ≠ e) → (h.get? T = some oT) → (oT.data = .fields ts) → (ts[3]? = some g) → XPe Γ g c v Z h₀ h
section
variable {Γ : Cx} {n : Nat} {A : Around} {env : Env} {Z Z' : Led} {s : Shared} {nm : Nm} {ρ ρ' : List Val} {m m' : Str → Option Value} {h₀ h H H' H'' : Heap} {c : Nat} {v g : Value}
theorem Nt.refl : Nt Z h₀ H H := fun b o e => .inr ⟨fun _ => e, o, e, rfl, rfl⟩
theorem Nt.trans (a : Nt Z h₀ H H') (b : Nt Z h₀ H' H'') : Nt Z h₀ H H'' := fun x o e => by
  rcases a x o e with q | ⟨p, o', e', d', c'⟩
  · exact .inl q
  · rcases b x o' e' with ⟨⟨vs, f⟩, q⟩ | ⟨p2, o'', e'', d'', c''⟩
    · exact .inl ⟨⟨vs, d'.symm.trans f⟩, q⟩
    · refine .inr ⟨fun n => ?_, o'', e'', d''.trans d', c''.trans c'⟩
      have := p n
      rw [e'] at this
      cases this
      exact p2 n
theorem Nt.ex (a : Nt Z h₀ H H') (ex : ∀ b, H.get? b = none → h₀.get? b = none) : ∀ b, H'.get? b = none → h₀.get? b = none := fun b e => by
  cases q : H.get? b with
  | none => exact ex b q
  | some o =>
    rcases a b o q with ⟨_, q, _⟩ | ⟨_, o', e', _⟩
    · exact q
    · rw [e] at e'; cases e'
theorem Nt.sub (a : Nt Z h₀ H H') (sub : ∀ b o, Z b = some o → H.get? b = some o) : ∀ b o, Z b = some o → H'.get? b = some o := fun b o e => by
  rcases a b o (sub b o e) with ⟨_, _, q⟩ | ⟨q, _⟩
  · rw [e] at q; cases q
  · exact q (.inl e)
theorem Nt.noRec (a : Nt Z h₀ H H') {b : Addr} {o : Obj} (e : H.get? b = some o) (nf : ∀ vs, o.data ≠ .fields vs) : ∃ o', H'.get? b = some o' ∧ o'.data = o.data ∧ o'.cls = o.cls := by
  rcases a b o e with ⟨⟨vs, q⟩, _⟩ | ⟨_, q⟩
  · exact absurd q (nf vs)
  · exact q
theorem Nt.kw (a : Nt Z' h₀ H H') (le : Led.le Z Z') (k : Kw Z h₀ H) : Kw Z h₀ H' := fun b o e => by
  obtain ⟨p, o', e', d', c'⟩ := k b o e
  rcases a b o' e' with ⟨_, q, _⟩ | ⟨p2, o'', e'', d'', c''⟩
  · rw [q] at e; cases e
  · refine ⟨fun n => ?_, o'', e'', d''.trans d', c''.trans c'⟩
    have := p n
    rw [e'] at this
    cases this
    exact p2 (n.imp (le _ _) id)
theorem Post.note (p : Post Γ nm env Z h ρ m Z' H [] m') (a : Nt Z' h H H') : Post Γ nm env Z h ρ m Z' H' [] m' := by
  have I := p.inv
  refine ⟨⟨⟨?_, fun x k => ?_, I.fr.inj⟩, a.sub I.sub, I.ok, I.zfp, I.kz, fun L hL => ?_, fun _ _ _ hn => absurd rfl hn, I.nopr, I.inj, I.fpb, I.ownb, I.apart⟩, p.le, p.new, fun b o nb e => ?_, p.own, a.ex p.ex, p.bor, p.oth⟩
  · obtain ⟨ml, ⟨o, es, ep, e, d, r⟩, q⟩ := I.fr.loc
    obtain ⟨o', e', d', _⟩ := a.noRec e (fun vs q => by rw [d] at q; cases q)
    exact ⟨ml, ⟨o', es, ep, e', d'.trans d, r⟩, q⟩
  · obtain ⟨c, l, o, e, d⟩ := I.fr.cel x k
    obtain ⟨o', e', d', _⟩ := a.noRec e (fun vs q => by rw [d] at q; cases q)
    exact ⟨c, l, o', e', d'.trans d⟩
  · obtain ⟨z, o, es, k, e, d⟩ := I.ups L hL
    obtain ⟨o', e', d', _⟩ := a.noRec e (fun vs q => by rw [d] at q; cases q)
    exact ⟨z, o', es, k, e', d'.trans d⟩
  · obtain ⟨k1, o', e', d', c'⟩ := p.kp b o nb e
    rcases a b o' e' with ⟨_, q, _⟩ | ⟨p2, o'', e'', d'', c''⟩
    · rw [q] at e; cases e
    · refine ⟨fun n => ?_, o'', e'', d''.trans d', c''.trans c'⟩
      have := k1 n
      rw [e'] at this
      cases this
      exact p2 (n.imp (p.le _ _) id)
theorem XPe.xp {f : Option Addr} (x : XPe Γ g c v Z h₀ h) (hg : g = .none ∨ ∃ L, f = some L ∧ g = rawInt L) : XP Γ f c v Z h₀ h := by
  obtain ⟨e, oe, vs, C, T, oT, ts, a1, a2, a3, a4, a5, a6, a7, a8, b1, b2, b3, b4, b5, b6⟩ := x
  refine ⟨e, oe, vs, C, _, a1, a2, a3, a4, a5, a6, a7, a8, .inr ⟨T, oT, ts, rfl, b1, b2, b3, b4, b5, ?_⟩⟩
  rcases hg with rfl | ⟨L, q, rfl⟩
  · exact .inl b6
  · exact .inr ⟨L, q, b6⟩
theorem funFrames {base : Heap} (ups : ∀ L ∈ Γ.up, Z L = none ∧ ∃ o es k, h.get? L = some o ∧ o.data = .dict es k) : ∀ l : List Env, (∀ e ∈ l, e.scope.kind ≠ .module ∧ ∃ L, e.frame = some L ∧ L ∈ Γ.up) → (∀ b ∈ l.filterMap (·.frame), base.get? b = none) → h.FunFrames base l
  | [], _, _ => trivial
  | e :: l, hl, hb => by
    obtain ⟨hk, L, hf, hu⟩ := hl e (List.mem_cons_self ..)
    rw [List.filterMap_cons, hf] at hb
    obtain ⟨_, o, es, k, e1, d1⟩ := ups L hu
    exact ⟨hk, ⟨L, o, hf, hb L (List.mem_cons_self ..), e1, fun vs q => by rw [d1] at q; cases q⟩, funFrames ups l (fun e' h' => hl e' (List.mem_cons_of_mem _ h')) fun b h' => hb b (List.mem_cons_of_mem _ h')⟩
theorem of_noted {D : List Addr} {l : List Env} {e C : Addr} {oe : Obj} {vs : Array Value} {a0 : Value} (sub : ∀ a o, Z a = some o → H.get? a = some o) (ex : ∀ a, H.get? a = none → h₀.get? a = none) (ups : ∀ L ∈ Γ.up, Z L = none ∧ ∃ o es k, H.get? L = some o ∧ o.data = .dict es k)
    (hD : ∀ b ∈ D, b = e ∨ (h₀.get? b = none ∧ Z b = none ∧ ∃ o ts, H.get? b = some o ∧ o.data = .fields ts) ∨ b ∈ Γ.up) (hc : Γ.exc c = some C) (h0 : h₀.get? e = none) (hz : Z e = none) (he : H.get? e = some oe) (hd : oe.data = .fields vs)
    (hN : Heap.NotedW (TI.gone H D) l e (.ref C) a0 g H H') : Nt Z h₀ H H' ∧ XPe Γ g c (.ref e) Z h₀ H' := by
  obtain ⟨n1, n2, n3, n4⟩ := hN
  have dict : ∀ b ∈ Γ.up, Z b = none ∧ ∃ o sl es k, H.get? b = some o ∧ H'.get? b = some { o with slots := sl } ∧ o.data = .dict es k := fun b hu => by
    obtain ⟨z, o, es, k, e1, d1⟩ := ups b hu
    obtain ⟨sl, q⟩ := n4 b o e1 fun vs q => by rw [d1] at q; cases q
    exact ⟨z, o, sl, es, k, e1, q, d1⟩
  refine ⟨fun b o eb => ?_, ?_⟩
  · by_cases hb : b ∈ D
    · rcases hD b hb with rfl | ⟨q1, q2, o', ts, q3, q4⟩ | hu
      · rw [he] at eb; cases eb
        exact .inl ⟨⟨vs, hd⟩, h0, hz⟩
      · rw [q3] at eb; cases eb
        exact .inl ⟨⟨ts, q4⟩, q1, q2⟩
      · obtain ⟨z, o', sl, es, k, e1, e2, d1⟩ := dict b hu
        rw [eb] at e1; cases e1
        refine .inr ⟨fun n => ?_, _, e2, rfl, rfl⟩
        rcases n with n | n
        · rw [z] at n; cases n
        · exact absurd d1 (n es k)
    · have := n1 b o ((TI.gone_get hb).trans eb)
      exact .inr ⟨fun _ => this, o, this, rfl, rfl⟩
  · obtain ⟨oe', vs', T', oT', ts', p1, ⟨p2, _⟩, p3, p4, p5, p6, p7, p8, p9⟩ := n3
    have hT : h₀.get? T' = none ∧ Z T' = none := by
      cases q : H.get? T' with
      | none =>
        refine ⟨ex T' q, ?_⟩
        cases q2 : Z T' with
        | none => rfl
        | some o => have := sub T' o q2; rw [q] at this; cases this
      | some o =>
        by_cases hb : T' ∈ D
        · rcases hD T' hb with r | ⟨q1, q2, _⟩ | hu
          · exact absurd r p6
          · exact ⟨q1, q2⟩
          · obtain ⟨z, o', sl, es, k, e1, e2, d1⟩ := dict T' hu
            rw [p7] at e2; cases e2
            rw [d1] at p8; cases p8
        · rw [TI.gone_get hb, q] at p5; cases p5
    exact ⟨e, oe', vs', C, T', oT', ts', rfl, hc, h0, hz, p1, p2, p3, p4, hT.1, hT.2, p6, p7, p8, p9⟩
theorem note_same {e₀ : Env} (h : e₀.frame = env.frame) (v : Value) : noteFrame v env = noteFrame v e₀ := by
  unfold noteFrame PySem.frameOf
  rw [h]
theorem wp_note {Q : Unit → Shared → Prop} {E : Value → Shared → Prop} (AO : AOx Γ nm n A env) (sub : ∀ a o, Z a = some o → s.heap.get? a = some o) (ex : ∀ a, s.heap.get? a = none → h₀.get? a = none)
    (ups : ∀ L ∈ Γ.up, Z L = none ∧ ∃ o es k, s.heap.get? L = some o ∧ o.data = .dict es k) (x : XP Γ env.frame c v Z h₀ s.heap)
    (h : ∀ L H', env.frame = some L → Nt Z h₀ s.heap H' → XPe Γ (rawInt L) c v Z h₀ H' → Q () { s with heap := H' }) :
    wpAny (model Γ.prog Γ.w) A (noteFrame v env) Q E s := by
  obtain ⟨e₀, l, hfr, hef, hl⟩ := AO.fr
  obtain ⟨hk, L, hL, hLu⟩ := hl e₀ (List.mem_cons_self ..)
  rw [note_same hef]
  obtain ⟨e, oe, vs, C, u, rfl, a2, a3, a4, a5, a6, a7, a8, tr⟩ := x
  have hsz : 1 < vs.size := (Array.getElem?_eq_some_iff.mp a8).1
  obtain ⟨a0, h0⟩ : ∃ a0, vs[0]? = some a0 := ⟨vs[0], Array.getElem?_eq_getElem (by lia)⟩
  have upm : ∀ b ∈ (e₀ :: l).filterMap (·.frame), b ∈ Γ.up := fun b hb => by
    obtain ⟨e', he', q⟩ := List.mem_filterMap.mp hb
    obtain ⟨_, L', q', hu⟩ := hl e' he'
    rw [q] at q'; cases q'; exact hu
  rcases tr with rfl | ⟨T, oT, ts, rfl, t1, t2, t3, t4, t5, t6⟩
  · have FF := funFrames (base := TI.gone s.heap (e :: (e₀ :: l).filterMap (·.frame))) ups (e₀ :: l) hl fun b hb => TI.gone_none (List.mem_cons_of_mem _ hb)
    unfold noteFrame
    simp only [hL]
    refine wpAny_bind (wpAny_field a5 a7 a8 ?_)
    rw [if_neg (by decide)]
    refine wpAny_entryW hfr FF hL a5 (fun b o eb => (TI.gone_some eb).2) (TI.gone_none (List.mem_cons_self ..)) a7 hsz h0 fun h' hN => ?_
    rw [a6] at hN
    obtain ⟨q1, q2⟩ := of_noted (Γ := Γ) sub ex ups (fun b hb => by
      rcases List.mem_cons.mp hb with q | q
      · exact .inl q
      · exact .inr (.inr (upm b q))) a2 a3 a4 a5 a7 hN
    exact h L h' (hef ▸ hL) q1 q2
  · rcases t6 with t6 | ⟨L', q, t6⟩
    · have FF := funFrames (base := TI.gone s.heap (e :: T :: (e₀ :: l).filterMap (·.frame))) ups (e₀ :: l) hl fun b hb => TI.gone_none (List.mem_cons_of_mem _ (List.mem_cons_of_mem _ hb))
      refine wpAny_noteFrame_onW hfr FF hL ⟨oe, vs, T, oT, ts, a5, ⟨a6, h0⟩, a7, a8, TI.gone_none (List.mem_cons_of_mem _ (List.mem_cons_self ..)), t3, t4, t5, t6⟩ (fun b o eb => (TI.gone_some eb).2) (TI.gone_none (List.mem_cons_self ..)) fun h' hN => ?_
      obtain ⟨q1, q2⟩ := of_noted (Γ := Γ) sub ex ups (fun b hb => by
        rcases List.mem_cons.mp hb with q | q
        · exact .inl q
        · rcases List.mem_cons.mp q with q | q
          · subst q; exact .inr (.inl ⟨t1, t2, oT, ts, t4, t5⟩)
          · exact .inr (.inr (upm b q))) a2 a3 a4 a5 a7 hN
      exact h L h' (hef ▸ hL) q1 q2
    · rw [← hef, hL] at q; cases q
      exact wpAny_noteFrame_inFlight hL a5 a7 a8 t4 t5 t6 (h L s.heap (hef ▸ hL) .refl ⟨e, oe, vs, C, T, oT, ts, rfl, a2, a3, a4, a5, a6, a7, a8, t1, t2, t3, t4, t5, t6⟩)
theorem wp_setFlight {Q : Unit → Shared → Prop} {E : Value → Shared → Prop} (x : XPe Γ g c v Z h₀ s.heap) (fr : Option Addr)
    (h : ∀ H', Nt Z h₀ s.heap H' → XPe Γ (fr.elim .none fun f => rawInt f) c v Z h₀ H' → Q () { s with heap := H' }) : wpAny (model Γ.prog Γ.w) A (setFlight v fr) Q E s := by
  obtain ⟨e, oe, vs, C, T, oT, ts, rfl, a2, a3, a4, a5, a6, a7, a8, b1, b2, b3, b4, b5, b6⟩ := x
  have hsz : 3 < ts.size := (Array.getElem?_eq_some_iff.mp b6).1
  unfold setFlight
  refine wpAny_bind (wpAny_field a5 a7 a8 ?_)
  rw [if_pos (show (Value.ref T != Value.none) = true from by simp)]
  refine wpAny_setField b4 b5 hsz (h _ (fun b o eb => ?_) ?_)
  · by_cases hb : b = T
    · subst hb; rw [b4] at eb; cases eb
      exact .inl ⟨⟨ts, b5⟩, b1, b2⟩
    · have := (Heap.get?_update_other s.heap (Obj.mapFields (·.setIfInBounds 3 (fr.elim Value.none fun f => rawInt f))) (Ne.symm hb)).trans eb
      exact .inr ⟨fun _ => this, o, this, rfl, rfl⟩
  · refine ⟨e, oe, vs, C, T, _, _, rfl, a2, a3, a4, (Heap.get?_update_other s.heap _ b3).trans a5, a6, a7, a8, b1, b2, b3, Heap.get?_update_self _ b4 (Obj.isFreed_of_fields (Obj.data_mapFields b5 _)), Obj.data_mapFields b5 _, ?_⟩
    simp [hsz]
theorem wp_cameBack {E : Value → Shared → Prop} (x : XPe Γ g c v Z h₀ s.heap) (h : ∀ H', Nt Z h₀ s.heap H' → XPe Γ (env.frame.elim .none fun f => rawInt f) c v Z h₀ H' → E v { s with heap := H' }) : cameBackBy (model Γ.prog Γ.w) A env E v s := by
  unfold cameBackBy
  have x' := x
  obtain ⟨e, oe, vs, C, T, oT, ts, rfl, a2, a3, a4, a5, a6, a7, a8, _⟩ := x'
  refine wpAny_bind (wpAny_field a5 a7 a8 ?_)
  rw [if_neg (show ¬ ((Value.ref T == Value.none) = true) from by simp)]
  exact wp_setFlight x env.frame h
theorem Lv.noted {e : Value} {E : Value → Shared → Prop} (AO : AOx Γ nm n A env) (l : Lv Γ nm env Z h₀ ρ m c e Z' s.heap) (hE : ∀ H', Lv Γ nm env Z h₀ ρ m c e Z' H' → E e { s with heap := H' }) : notedBy (model Γ.prog Γ.w) A env (fun e s' => cameBackBy (model Γ.prog Γ.w) A env E e s') e s := by
  obtain ⟨⟨m', p⟩, x⟩ := l
  refine wp_note AO p.inv.sub p.ex p.inv.ups x fun L H' hL n1 x1 => ?_
  refine wp_cameBack (s := { s with heap := H' }) x1 fun H'' n2 x2 => hE H'' ⟨⟨m', p.note (n1.trans n2)⟩, x2.xp (.inr ⟨L, hL, ?_⟩)⟩
  rw [hL]; rfl
theorem Lv.leaves {e : Value} {Q : Unit → Shared → Prop} {E : Value → Shared → Prop} (AO : AOx Γ nm n A env) (l : Lv Γ nm env Z h₀ ρ m c e Z' s.heap) (f : Option Addr) (hQ : ∀ H' m', Post Γ nm env Z h₀ ρ m Z' H' [] m' → XP Γ f c e Z' h₀ H' → Q () { s with heap := H' }) : wpAny (model Γ.prog Γ.w) A (leaving env e) Q E s := by
  obtain ⟨⟨m', p⟩, x⟩ := l
  unfold leaving
  refine wpAny_bind (wp_note AO p.inv.sub p.ex p.inv.ups x fun L H' hL n1 x1 => ?_)
  exact wp_setFlight (s := { s with heap := H' }) x1 none fun H'' n2 x2 => hQ H'' m' (p.note (n1.trans n2)) (x2.xp (.inl rfl))
end
end Mine
namespace Mine
open PySem PySem.Calls PyProof.Rows
section
variable {Γ : Cx} {n : Nat} {Φ : Nat → List Val → Out Val} {A : Around} {env : Env} {Z Z' : Led} {s : Shared} {nm : Nm} {ρ ρ' : List Val} {m m' : Str → Option Value} {h₀ h h' h'' : Heap}
theorem Post.walk (P : Post Γ nm env Z h₀ ρ m Z' h ρ' m') (W : Addr → Prop) (hk : ∀ b o, ¬ W b → h.get? b = some o → h'.get? b = some o) (hu : ∀ b, W b → b ∉ Γ.up) (hx : ∀ b o C, W b → h.get? b = some o → o.cls ≠ .ref C) (h0 : ∀ b, W b → h₀.get? b = none) (hz : ∀ b, W b → Z' b = none) (hf : ∀ b, W b → ¬ FP env b) (ho : ∀ b, W b → ¬ OwnAt nm ρ' m' b) (hr : ∀ b, W b → ¬ BorAt nm ρ' m' b) :
    Post Γ nm env Z h₀ ρ m Z' h' ρ' m' := by
  have I := P.inv
  refine ⟨⟨⟨?_, ?_, I.fr.inj⟩, fun b o e => hk b o (fun q => by rw [hz b q] at e; cases e) (I.sub b o e), I.ok, I.zfp, I.kz, ?_, ?_, I.nopr, I.inj, I.fpb, I.ownb, I.apart⟩, P.le, P.new, ?_, P.own, fun c q => ?_, P.bor, P.oth⟩
  · obtain ⟨ml', a, b⟩ := I.fr.loc
    exact ⟨ml', a.at' fun o e => hk _ o (fun q => hf _ q (.inl rfl)) e, b⟩
  · intro x k
    obtain ⟨c, l, o, e, hd⟩ := I.fr.cel x k
    exact ⟨c, l, o, hk _ o (fun q => hf _ q (.inr ⟨x, k, l⟩)) e, hd⟩
  · intro L hL
    obtain ⟨z, o, es, k, e, d⟩ := I.ups L hL
    exact ⟨z, o, es, k, hk L o (fun q => hu L q hL) e, d⟩
  · intro x j l nu
    obtain ⟨v, hv, r⟩ := I.var x j l nu
    refine ⟨v, hv, ?_⟩
    generalize hy : ρ'.getD j .un = y at *
    cases y with
    | own ds => obtain ⟨b, e, f, vs, z, ⟨k, q⟩, ll, rr⟩ := r; subst e; exact ⟨b, rfl, f, vs, z, ⟨k, hk _ _ (fun w => ho b w ⟨x, j, ds, l, hy, hv⟩) q⟩, ll, rr⟩
    | bor ds => obtain ⟨b, vs, e, ⟨k, q⟩, ll, rr⟩ := r; subst e; exact ⟨b, vs, rfl, ⟨k, hk _ _ (fun w => hr b w ⟨x, j, ds, l, hy, hv⟩) q⟩, ll, rr⟩
    | pr d ds => exact absurd hy (I.nopr j d ds)
    | un => exact r
    | sh d => exact r
    | shop a b => exact r
    | exc c => obtain ⟨e, oe, vs, D, h1, h2, h3, h4, h5⟩ := r; exact ⟨e, oe, vs, D, h1, h2, hk e oe (fun q => hx e oe D q h3 h4) h3, h4, h5⟩
  · intro b o nb e
    have nw : ¬ W b := fun q => by rw [h0 b q] at e; cases e
    obtain ⟨k1, o', e', d', c'⟩ := P.kp b o nb e
    exact ⟨fun nf => hk b o nw (k1 nf), o', hk b o' nw e', d', c'⟩
  · by_cases hc : W c
    · exact h0 c hc
    · refine P.ex c ?_
      cases q' : h.get? c with
      | none => rfl
      | some o => rw [hk c o hc q'] at q; cases q
noncomputable def forF (Φ : Nat → List Val → Out Val) (tg : List Nat) (b : T) (ρ : List Val) (d : Dat) : Out (Fl × List Val) := bindT tg d ρ >>= ex Φ b
theorem ex_for_eq (tg : List Nat) (it b : T) (ρ : List Val) : ex Φ (.for_ tg it b) ρ = (itsF Φ it ρ >>= fun ds => forL (forF Φ tg b) ds ρ) := rfl
theorem tgVars_ok {xs : List Str} {is : List Nat} (h : tgVars nm env.scope xs is = true) : TgOk nm env xs is :=
  ⟨beq_inv (and_inv h).1, fun k x i h1 h2 => by
    have hm : (x, i) ∈ xs.zip is := List.mem_of_getElem? (i := k) (List.getElem?_zip_eq_some.mpr ⟨h1, h2⟩)
    obtain ⟨kd, nl⟩ := varOf_kind (beq_inv (and_inv (List.all_eq_true.mp (and_inv h).2 _ hm)).1)
    exact ⟨nl, kd⟩⟩
inductive FAt (Γ : Cx) (nm : Nm) (env : Env) (Z Z₂ : Led) (s : Shared) (ρ : List Val) (m : Str → Option Value) (St : Nat → Heap → Prop) (fp wr : List Addr) (F : List Val → Dat → Out (Fl × List Val)) (ds : List Dat) (k : Nat) (s' : Shared) : Prop
  | mk (i : _) (h' : _) (tk : _) (Z' : _) (ρ' : _) (m' : _) : (s' = { s with heap := h', toks := tk }) → (i ≤ ds.length) → (k = ds.length + 1 - i) → St i h' → Post Γ nm env Z s.heap ρ m Z' h' ρ' m' → Led.le Z₂ Z' → ((∀ b ∈ wr, Z' b = none)) → ((∀ b ∈ fp, ¬ OwnAt nm ρ' m' b)) → (forL F (ds.drop i) ρ' = forL F ds ρ) → FAt Γ nm env Z Z₂ s ρ m St fp wr F ds k s'
theorem own_ex {Z : Led} {h : Heap} {ρ : List Val} {m : Str → Option Value} (I : Inv Γ nm ρ env Z h m) {b : Addr} (x : OwnAt nm ρ m b) : Z b = none ∧ ∃ o, h.get? b = some o := by
  obtain ⟨x, i, es, lx, hx, hm⟩ := x
  obtain ⟨a, e, vs, zn, ⟨k, pl⟩, _⟩ := own_var I lx hx
  rw [hm] at e; cases e
  exact ⟨zn, _, pl⟩
theorem bor_ex {Z : Led} {h : Heap} {ρ : List Val} {m : Str → Option Value} (I : Inv Γ nm ρ env Z h m) {b : Addr} (x : BorAt nm ρ m b) : ∃ vs, h.PlainList b vs := by
  obtain ⟨x, i, es, lx, hx, hm⟩ := x
  obtain ⟨v, hv, r⟩ := I.var x i lx (by rw [hx]; exact nofun)
  rw [hx] at r; rw [hm] at hv; cases hv
  obtain ⟨c, vs, e, pl, _⟩ := r
  cases e
  exact ⟨_, pl⟩
theorem PlainList.ex {b : Addr} {vs : Array Value} (p : h.PlainList b vs) (e : h.get? b = none) : False := by obtain ⟨k, q⟩ := p; rw [e] at q; cases q
set_option maxHeartbeats 1000000 in
theorem sndS_for {tg : List Nat} {it b : T} (hit : SndF Γ n Φ it) (hb : SndB Γ n Φ b) : SndS Γ n Φ (.for_ tg it b) := fun nm ρ A env Z s m st hc O AO I => inv_for hc fun target iter body pos xs hst h1 h2 h3 hxs h4 _ _ h5 => by
  subst hst
  have TG : TgOk nm env xs tg := tgVars_ok h4
  rw [ex_for_eq]
  intro hne Q E hQ hE
  have hA := AO.hd (loud_for hc)
  refine wpAny_For ?_ (notSet_folded h1 env)
  refine hit nm ρ A env Z s m target iter h3 (zipTo_tg h2 hxs TG.1) O AO I (fun q => hne (by rw [q]; rfl)) _ E (fun ds itv Z₂ h₂ tk₂ e₂ g₂ q => ?_) fun c e Z' h' tk q g xp => hE c e Z' h' tk (by rw [q]; rfl) (.of I g xp)
  rw [e₂, Out.bind_ok] at hne hQ hE
  obtain ⟨J, fp, wr, P, Md, St, rfl, hlen, W, hst, hwr, hfp, hP⟩ := q
  have KT := W.k A hA
  have I2 := I.grow g₂
  have fpFP : ∀ b ∈ fp, ¬ FP env b := fun b hb p => by
    rcases hfp b hb with q | ⟨o, q⟩ | q
    · obtain ⟨o, e⟩ := I.fr.there p; rw [q.1] at e; cases e
    · rw [I2.zfp b p] at q; cases q
    · obtain ⟨vs, k, pl⟩ := bor_ex I2 q
      exact I2.fr.noSeq p pl _ _ rfl
  have fpOwn : ∀ b ∈ fp, ¬ OwnAt nm ρ m b := fun b hb p => by
    rcases hfp b hb with q | ⟨o, q⟩ | ⟨x, i, es, lx, hx, hm⟩
    · obtain ⟨o, e⟩ := (own_ex I p).2; rw [q.1] at e; cases e
    · rw [(own_ex I2 p).1] at q; cases q
    · obtain ⟨y, j, es', ly, hy, hm'⟩ := p
      have := I.apart y x j i b es' es ly lx hy (.inr hx) hm' hm
      subst this
      rw [ly] at lx; cases lx; rw [hx] at hy; cases hy
  have wrBor : ∀ b ∈ wr, ¬ BorAt nm ρ m b := fun b hb q => let ⟨_, pl⟩ := bor_ex I q; PlainList.ex pl (hwr b hb).1
  refine codeAny_forLoop_any (FAt Γ nm env Z Z₂ s ρ m St fp wr (forF Φ tg b) ds) ?_ (ds.length + 1)
    ⟨0, h₂, tk₂, Z₂, ρ, m, rfl, Nat.zero_le _, rfl, hst, Post.grow I g₂, fun _ _ e => e, fun b hb => (hwr b hb).2, fpOwn, rfl⟩
  rintro k s' ⟨i, H, tk, Z', ρ', m', rfl, hi, rfl, st, PP, le, zw, fo, hrest⟩
  have mk : ∀ H' : Heap, (∀ b o, b ∉ wr → H.get? b = some o → H'.get? b = some o) → Post Γ nm env Z s.heap ρ m Z' H' ρ' m' := fun H' hk =>
    PP.walk (fun b => b ∈ wr) hk (fun b hb => I.notUp (hwr b hb).1) (fun b o C hb e q => by obtain ⟨o', e', _, T, hT⟩ := W.live _ _ st b (KT.sub b hb); rw [e] at e'; cases e'; rw [hT] at q; cases q) (fun b hb => (hwr b hb).1) zw (fun b hb => fpFP b (KT.sub b hb)) (fun b hb => fo b (KT.sub b hb)) (fun b hb q => wrBor b hb (PP.bor b q))
  by_cases hlt : i < ds.length
  · refine KT.item i _ _ _ hlt st fun v H1 tk1 hMd keep1 => KT.go i v _ _ _ hMd fun H2 hPv st2 keep2 => ?_
    have PP2 := mk H2 fun b o hb e => keep2 b o hb (keep1 b o hb e)
    have hd : ds[i]? = some ds[i] := List.getElem?_eq_getElem hlt
    have hdrop : ds.drop i = ds[i] :: ds.drop (i + 1) := List.drop_eq_getElem_cons hlt
    generalize hdi : ds[i] = d at hd hdrop
    rw [hdrop, forL] at hrest
    have hfd : forF Φ tg b ρ' d ≠ .bad := fun q => hne (by rw [← hrest, q]; rfl)
    rcases bindT_cases tg d ρ' with q | ⟨ρ1, hbt⟩
    · exact absurd (by unfold forF; rw [q]; rfl) hfd
    have ef : forF Φ tg b ρ' d = ex Φ b ρ1 := by unfold forF; rw [hbt]; rfl
    rw [ef] at hrest hfd
    refine assign_tgt (s := { s with heap := H2, toks := tk1 }) (W := FP env) O.kind hA hxs TG (fun x _ => StW.fp env x) ((hP i v H2 d hPv hd).mono le) hbt PP2.inv fun H3 tk3 m3 P3 keep3 => ?_
    have PP3 := PP2.trans P3
    have fo3 : ∀ b ∈ fp, ¬ OwnAt nm ρ1 m3 b := fun b hb q => by
      rcases P3.own b q with q | q
      · exact fo b hb q
      · obtain ⟨o, e, _⟩ := W.live _ _ st2 b hb; rw [q] at e; cases e
    have st3 : St (i + 1) H3 := KT.frame _ _ _ st2 fun b hb o e => keep3 b o (fpFP b hb) e
    refine hb nm ρ1 A env Z' { s with heap := H3, toks := tk3 } m3 body h5 O AO P3.inv hfd _ _ (fun fl ρ2 f Z4 h4 tk4 m4 e4 P4 x4 => ?_) fun c e Z4 h4 tk4 q l => Lv.noted (s := { s with heap := h4, toks := tk4 }) AO (l.back PP3) fun H' l' => hE c e Z4 H' tk4 (by rw [← hrest, q]; rfl) l'
    rw [e4] at hrest
    have PP4 := PP3.trans P4
    cases fl with
    | next =>
      have : f = .next := x4
      subst this
      refine ⟨ds.length + 1 - (i + 1), by lia, i + 1, h4, tk4, Z4, ρ2, m4, rfl, hlt, rfl, ?_, PP4, fun a o e => P4.le a o (le a o e), ?_, ?_, hrest⟩
      · refine KT.frame _ _ _ st3 fun b hb o e => ?_
        obtain ⟨o', e', nf⟩ := W.live _ _ st3 b hb
        rw [e] at e'; cases e'
        exact (P4.kp b o (fun q => q.elim (fpFP b hb) (fo3 b hb)) e).1 (.inr nf.1)
      · intro b hb
        cases q : Z4 b with
        | none => rfl
        | some o =>
          obtain ⟨o', e', _⟩ := W.live _ _ st3 b (KT.sub b hb)
          rcases P4.new b o q with q | q | q
          · rw [zw b hb] at q; cases q
          · have q : H3.get? b = none := q
            rw [q] at e'; cases e'
          · exact absurd q (fo3 b (KT.sub b hb))
      · intro b hb q
        rcases P4.own b q with q | q
        · exact fo3 b hb q
        · have q : H3.get? b = none := q
          obtain ⟨o', e', _⟩ := W.live _ _ st3 b hb; rw [q] at e'; cases e'
    | ret u =>
      obtain ⟨w, rfl, rr⟩ := x4
      have hrest : Out.ok (Fl.ret u, ρ2) = forL (forF Φ tg b) ds ρ := hrest
      exact hQ (.ret u) ρ2 (.ret w) Z4 h4 tk4 m4 hrest.symm PP4 (FlIs.back PP3 ⟨w, rfl, rr⟩)
  · have hin : i = ds.length := by lia
    subst hin
    refine KT.done _ _ _ st fun H1 tk1 keep1 => wpAny_execs_nil ?_
    rw [List.drop_length] at hrest
    exact hQ .next ρ' .next Z' H1 tk1 m' hrest.symm (mk H1 keep1) rfl
end
end Mine
namespace Mine
open PySem PySem.Calls PyProof.Rows
section
variable {Γ : Cx} {n : Nat} {Φ : Nat → List Val → Out Val} {A : Around} {env : Env} {Z Z' Z'' : Led} {s : Shared} {nm : Nm} {ρ ρ' ρ'' : List Val} {m m' m'' : Str → Option Value} {h₀ h h' h'' : Heap}
theorem sndS_raise (C : CxOk Γ) {k : Nat} {y : List Nat} : SndS Γ n Φ (.raise k y) := fun nm ρ A env Z s m st hc O AO I => inv_raise hc fun x px v q p hst hl h1 h2 h4 => by
  subst hst
  obtain ⟨hlo, hk⟩ := and_inv hl
  obtain ⟨kd, l⟩ := globOf_kind h2
  cases k with
  | zero => exact (Bool.false_ne_true hk).elim
  | succ k =>
    obtain ⟨Cc, hm, hcx, ⟨_, ow⟩⟩ := C.gl _ _ l
    obtain ⟨tl, N, nm', q', bs, hdct, sn, sub, ab, col, dd, k0, k1, k2, k3, k5, mN, e1, e2, e3, e4⟩ := ow
    have ct : chkT Γ.gs (.cons (.cS y) .nil) nm env.scope [v] = true := by
      refine inv_cS h4 fun a0 a1 a2 hv g1 g2 g3 => ?_
      show (notStar v && chk Γ.gs (.cS y) nm env.scope v && true) = true
      rw [h4, hv]; rfl
    intro _ Q E hQ hE
    refine wpAny_Raise_call_subT (C := Cc) (nm := nm') (q := q') (N := N) (bs := bs) (bm := tl) (hdct := hdct) (sn := sn) (sub := sub) (ab := ab) (col := col) (dd := dd) (k0 := k0) (k1 := k1) (k2 := k2) (k3 := k3) (k5 := k5) PySem.F.excBase_ValueError (e4.hasType rfl) (AO.hd hlo) (chkT_plain ct) e3 (load_glob O C.g I kd hm h1 ⟨rfl, evalArgs_all ct ?_⟩)
    have ev1 : evT Φ (.cons (.cS y) .nil) ρ = .ok [.sh (.str y)] := rfl
    have HL := snd_cons (Γ := Γ) (n := n) (Φ := Φ) (snd_cS (x := y)) snd_nil nm ρ A env Z s m [v] q ct O AO I
    rw [ev1] at HL
    refine HL nofun _ _ (fun xs vs Z' h' tk ex g r => ?_) fun c e Z' h' tk ex _ _ => nomatch ex
    have kb : Kp Γ.base h' := (I.grow g).kb
    refine ⟨rfl, ?_, kb _ _ e1, kb.ns e2, e4.keeps kb, fun h'' e hme => ?_⟩
    · show vs.length ≤ sizeLine
      rw [r.2]; show 1 ≤ sizeLine; decide
    · have g2 := g.trans (Grow.keep g.sub g.ok (Kp.of hme.keeps))
      obtain ⟨t, ht, _⟩ := hme.there
      exact hE (k + 1) (.ref e) Z' h'' tk rfl (Lv.of I g2 ⟨e, _, _, Cc, .none, rfl, hcx, g.kp.none hme.new, led_none g.sub hme.new, ht, rfl, rfl, rfl, .inl rfl⟩)
theorem Inv.blank (I : Inv Γ nm [] env Z h m) (hu : ∀ i, ρ.getD i .un = .un) : Inv Γ nm ρ env Z h m :=
  ⟨I.fr, I.sub, I.ok, I.zfp, I.kz, I.ups, fun x i l hn => absurd (hu i) hn, fun i d ds q => (by rw [hu i] at q; cases q), I.inj, I.fpb, fun a ⟨x, i, ds, l, q, _⟩ => (by rw [hu i] at q; cases q), fun x y i j a ds es _ _ q => (by rw [hu i] at q; cases q)⟩
theorem Post.blank (p : Post Γ nm env Z h ρ m Z' h' [] m') (hu : ∀ i, ρ'.getD i .un = .un) : Post Γ nm env Z h ρ m Z' h' ρ' m' :=
  ⟨p.inv.blank hu, p.le, p.new, p.kp, fun a ⟨x, i, ds, l, q, _⟩ => (by rw [hu i] at q; cases q), p.ex, fun a ⟨x, i, ds, l, q, _⟩ => (by rw [hu i] at q; cases q), p.oth⟩
theorem quiet_of {x : Str} {i : Nat} (h : nm.lookup x = some i) : (quietNm nm).lookup x = some i := by
  unfold quietNm; rw [List.lookup_append, h]; rfl
theorem quiet_lookup {x : Str} {i : Nat} (h : (quietNm nm).lookup x = some i) : nm.lookup x = some i ∨ (x = quietS ∧ i = 1000) := by
  unfold quietNm at h
  rw [List.lookup_append] at h
  cases q : nm.lookup x with
  | some j => rw [q] at h; exact .inl h
  | none =>
    rw [q, Option.none_or, List.lookup_cons] at h
    by_cases e : x = quietS
    · rw [beq_iff_eq.mpr e] at h; cases h; exact .inr ⟨e, rfl⟩
    · rw [beq_eq_false_iff_ne.mpr e] at h; cases h
theorem quiet_none {x : Str} (h : nm.lookup x = none) (hx : x ≠ quietS) : (quietNm nm).lookup x = none := by
  unfold quietNm; rw [List.lookup_append, h, Option.none_or, List.lookup_cons, beq_eq_false_iff_ne.mpr hx]; rfl
theorem quiet_loud : loud (quietNm nm) = true → False := fun h => by
  unfold loud quietNm at h
  rw [List.lookup_append, List.lookup_cons, beq_self_eq_true] at h
  cases q : nm.lookup quietS <;> (rw [q] at h; cases h)
theorem Inv.quiet (I : Inv Γ nm ρ env Z h m) (hs : ∀ x i, nm.lookup x = some i → i < 1000) (hu : ρ.getD 1000 .un = .un) : Inv Γ (quietNm nm) ρ env Z h m := by
  have own : ∀ x i ds, (quietNm nm).lookup x = some i → (ρ.getD i .un = .own ds ∨ ρ.getD i .un = .bor ds) → nm.lookup x = some i := fun x i ds l q => by
    rcases quiet_lookup l with l | ⟨_, rfl⟩
    · exact l
    · rw [hu] at q; rcases q with q | q <;> cases q
  refine ⟨I.fr, I.sub, I.ok, I.zfp, I.kz, I.ups, fun x i l hn => ?_, I.nopr, fun x y k lx ly => ?_, I.fpb, fun a ⟨x, i, ds, l, q, e⟩ => I.ownb a ⟨x, i, ds, own x i ds l (.inl q), q, e⟩, fun x y i j a ds es l1 l2 q1 q2 => I.apart x y i j a ds es (own x i ds l1 (.inl q1)) (own y j es l2 q2) q1 q2⟩
  · rcases quiet_lookup l with l | ⟨_, rfl⟩
    · exact I.var x i l hn
    · exact absurd hu hn
  · rcases quiet_lookup lx with lx | ⟨ex, kx⟩ <;> rcases quiet_lookup ly with ly | ⟨ey, ky⟩
    · exact I.inj x y k lx ly
    · exact absurd (hs x k lx) (by rw [ky]; decide)
    · exact absurd (hs y k ly) (by rw [kx]; decide)
    · rw [ex, ey]
theorem Post.loud (P : Post Γ (quietNm nm) env Z h ρ m Z' h' ρ' m') (hl : loud nm = true) (hk : env.kindOf quietS = none) (hno : ∀ i ds, ρ.getD i .un ≠ .own ds ∧ ρ.getD i .un ≠ .bor ds) : Post Γ nm env Z h ρ m Z' h' ρ' (fun x => if x = quietS then m x else m' x) := by
  have I := P.inv
  have ql : nm.lookup quietS = none := Option.isNone_iff_eq_none.mp hl
  have ne : ∀ {x : Str} {i : Nat}, nm.lookup x = some i → x ≠ quietS := fun l q => by rw [q, ql] at l; cases l
  have nk : ∀ {x : Str} {k : NameKind}, env.kindOf x = some k → x ≠ quietS := fun l q => by rw [q, hk] at l; cases l
  have mm : ∀ {x : Str}, x ≠ quietS → (fun x => if x = quietS then m x else m' x) x = m' x := fun q => if_neg q
  have ow : ∀ {a : Addr}, OwnAt nm ρ' (fun x => if x = quietS then m x else m' x) a → OwnAt (quietNm nm) ρ' m' a := fun ⟨x, i, ds, l, q, e⟩ => ⟨x, i, ds, quiet_of l, q, (mm (ne l)).symm.trans e⟩
  have no : ∀ a, ¬ OwnAt (quietNm nm) ρ m a := fun a ⟨x, i, ds, l, q, e⟩ => (hno i ds).1 q
  refine ⟨⟨⟨?_, fun x k => ?_, I.fr.inj⟩, I.sub, I.ok, I.zfp, I.kz, I.ups, fun x i l hn => ?_, I.nopr, fun x y k lx ly => I.inj x y k (quiet_of lx) (quiet_of ly), I.fpb, fun a o => I.ownb a (ow o), fun x y i j a ds es l1 l2 q1 q2 e1 e2 => I.apart x y i j a ds es (quiet_of l1) (quiet_of l2) q1 q2 ((mm (ne l1)).symm.trans e1) ((mm (ne l2)).symm.trans e2)⟩, P.le, fun a o e => ?_, fun b o nb e => ?_, fun a o => ?_, P.ex, fun a o => ?_, fun x l => ?_⟩
  · obtain ⟨ml, a, b⟩ := I.fr.loc
    exact ⟨ml, a, fun x k => (b x k).trans (mm (nk k)).symm⟩
  · obtain ⟨c, l, i⟩ := I.fr.cel x k
    exact ⟨c, l, by rw [if_neg (nk k)]; exact i⟩
  · obtain ⟨v, e, r⟩ := I.var x i (quiet_of l) hn
    exact ⟨v, (mm (ne l)).trans e, r⟩
  · rcases P.new a o e with q | q | q
    · exact .inl q
    · exact .inr (.inl q)
    · exact absurd q (no a)
  · exact P.kp b o (fun q => q.elim (fun q => nb (.inl q)) (no b)) e
  · rcases P.own a (ow o) with q | q
    · exact absurd q (no a)
    · exact .inr q
  · obtain ⟨x, i, ds, l, q, e⟩ := o
    obtain ⟨x', i', ds', l', q', e'⟩ := P.bor a ⟨x, i, ds, quiet_of l, q, (mm (ne l)).symm.trans e⟩
    exact absurd q' (hno i' ds').2
  · by_cases q : x = quietS
    · exact if_pos q
    · exact (mm q).trans (P.oth x (quiet_none l q))
theorem Post.goes (I : Inv Γ nm ρ env Z h m) {x : Str} {i : Nat} (hx : nm.lookup x = some i) {v : Option Value} (hs : Heap.SameBut env.locals h h') (F' : FrS env h' (fun y => if y = x then v else m y)) : Post Γ nm env Z h ρ m Z h' (ρ.set i .un) (fun y => if y = x then v else m y) := by
  have p : FP env env.locals := .inl rfl
  have get_ne : ∀ j, j ≠ i → (ρ.set i Val.un).getD j .un = ρ.getD j .un := fun j hj => by simp [List.getD, List.getElem?_set, Ne.symm hj]
  have get_i : (ρ.set i Val.un).getD i .un = .un := by
    by_cases hi : i < ρ.length
    · simp [List.getD, hi]
    · simp [List.getD, Nat.not_lt.mp hi]
  have mm : ∀ {y : Str}, y ≠ x → (fun y => if y = x then v else m y) y = m y := fun q => if_neg q
  have jn : ∀ {y : Str} {j : Nat}, nm.lookup y = some j → (ρ.set i Val.un).getD j .un ≠ .un → y ≠ x ∧ j ≠ i := fun {y j} l nu => by
    have ej : j ≠ i := fun q => nu (by rw [q]; exact get_i)
    exact ⟨fun q => by rw [q, hx] at l; cases l; exact ej rfl, ej⟩
  have ow : ∀ {a : Addr}, OwnAt nm (ρ.set i .un) (fun y => if y = x then v else m y) a → OwnAt nm ρ m a := fun ⟨y, j, ds, l, q, e⟩ => by
    obtain ⟨n1, n2⟩ := jn l (by rw [q]; simp)
    exact ⟨y, j, ds, l, (get_ne j n2).symm.trans q, (mm n1).symm.trans e⟩
  refine ⟨⟨F', fun b o e => hs.extBut b o (fun q => by subst q; rw [I.zfp _ p] at e; cases e) (I.sub b o e), I.ok, I.zfp, I.kz, fun L hL => ⟨(I.ups L hL).1, I.fr.dict F' p hs (I.ups L hL).2⟩, fun y j l nu => ?_, fun j d ds q => ?_, I.inj, I.fpb, fun a o => I.ownb a (ow o), fun x1 x2 i1 i2 a ds es l1 l2 q1 q2 e1 e2 => ?_⟩, fun _ _ e => e, fun _ _ e => .inl e, fun b o nb e => ?_, fun a o => .inl (ow o), ?_, fun a o => ?_, fun y l => mm fun q => by rw [q, hx] at l; cases l⟩
  · obtain ⟨n1, n2⟩ := jn l nu
    rw [get_ne j n2] at nu ⊢
    obtain ⟨u, e, r⟩ := I.var y j l nu
    exact ⟨u, (mm n1).trans e, r.store I.fr p hs⟩
  · by_cases ej : j = i
    · subst ej; rw [get_i] at q; cases q
    · rw [get_ne j ej] at q; exact I.nopr j d ds q
  · obtain ⟨a1, a2⟩ := jn l1 (by rw [q1]; simp)
    obtain ⟨b1, b2⟩ := jn l2 (by rcases q2 with q2 | q2 <;> (rw [q2]; simp))
    rw [get_ne _ a2] at q1
    rw [get_ne _ b2] at q2
    exact I.apart x1 x2 i1 i2 a ds es l1 l2 q1 q2 ((mm a1).symm.trans e1) ((mm b1).symm.trans e2)
  · have hb : b ≠ env.locals := fun q => nb (.inl (q ▸ p))
    exact ⟨fun _ => hs.extBut b o hb e, o, hs.extBut b o hb e, rfl, rfl⟩
  · obtain ⟨ml, ⟨o, es, ep, e, _⟩, _⟩ := F'.loc
    exact sameBut_ex hs ⟨o, e⟩
  · obtain ⟨y, j, ds, l, q, e⟩ := o
    obtain ⟨n1, n2⟩ := jn l (by rw [q]; simp)
    exact ⟨y, j, ds, l, (get_ne j n2).symm.trans q, (mm n1).symm.trans e⟩
theorem map_un (ρ : List Val) (i : Nat) : (ρ.map fun _ => Val.un).getD i .un = .un := by
  simp only [List.getD, List.getElem?_map]
  cases ρ[i]? <;> rfl
theorem set_exc (ρ : List Val) (i c j : Nat) : ((ρ.map fun _ => Val.un).set i (.exc c)).getD j .un = .un ∨ (j = i ∧ ((ρ.map fun _ => Val.un).set i (.exc c)).getD j .un = .exc c) := by
  by_cases hj : j = i
  · subst hj
    by_cases hi : j < ρ.length
    · exact .inr ⟨rfl, by simp [List.getD, hi]⟩
    · exact .inl (by simp [List.getD, Nat.not_lt.mp hi])
  · left
    have : ((ρ.map fun _ => Val.un).set i (.exc c)).getD j .un = (ρ.map fun _ => Val.un).getD j .un := by simp only [List.getD, List.getElem?_set, Ne.symm hj, if_false]
    rw [this]; exact map_un ρ j
theorem tryS_exn {i c : Nat} {H : List Val → Out (Fl × List Val)} : tryS i H ρ (.exn c) = (noX (H ((ρ.map fun _ => Val.un).set i (.exc c))) >>= fun r => plF r.1 >>= fun f => .ok (f, r.2.set i .un)) := rfl
set_option maxHeartbeats 1000000 in
theorem sndS_try (C : CxOk Γ) {a b : T} {k i : Nat} (ha : SndB Γ n Φ a) (hb : SndB Γ n Φ b) : SndS Γ n Φ (.try_ a k i b) := fun nm ρ A env Z s m st hc O AO I => inv_try hc fun body x px nn b0 sb hp p hst hl h1 h2 h3 h4 h5 h6 h7 => by
  subst hst
  obtain ⟨kd, gl⟩ := globOf_kind h2
  obtain ⟨Tc, hm, hT, _⟩ := C.gl _ _ gl
  obtain ⟨_, nl⟩ := varOf_kind h4
  obtain ⟨hkq, hsm⟩ := and_inv h5
  have hsm : ∀ x i, nm.lookup x = some i → i < 1000 := fun x i l => Nat.le_of_ble_eq_true (List.all_eq_true.mp hsm _ (mem_of_lookup l))
  show StT Γ nm env Z s ρ m (tryS i (ex Φ b) ρ (ex Φ a ρ)) _
  intro hne Q E hQ hE
  refine wpAny_Try_except (ha nm ρ A env Z s m body h6 O AO I (fun q => hne (by rw [q]; rfl)) _ _ (fun fl ρ' f Z' h' tk m' e P x => ?_) fun c e Z' h' tk q l => ?_)
  · rw [e] at hQ
    cases fl with
    | next =>
      have : f = .next := x
      subst this
      exact wpAny_execs_nil (hQ .next ρ' .next Z' h' tk m' rfl P rfl)
    | ret u =>
      obtain ⟨w, rfl, r⟩ := x
      exact hQ (.ret u) ρ' (.ret w) Z' h' tk m' rfl P ⟨w, rfl, r⟩
  · rw [q, tryS_exn] at hne hQ
    obtain ⟨⟨m1, P1⟩, x1⟩ := l
    refine wp_note AO P1.inv.sub P1.ex P1.inv.ups x1 fun L H1 hL n1 y1 => ?_
    refine wp_setFlight (s := { s with heap := H1, toks := tk }) y1 none fun H2 n2 y2 => ?_
    have P2 := P1.note (n1.trans n2)
    obtain ⟨e0, oe, vs, Cc, Tr, oT, ts, rfl, a2, a3, a4, a5, a6, _⟩ := id y2
    have X2 := C.kin H2 P2.inv.kb
    refine wpAny_handleBy_cons (codeAny_handlers_test (load_glob (s := { s with heap := H2, toks := tk }) O C.g P2.inv kd hm h1 ?_)) (by intro q; cases q)
    have LT : PySem.W.Looks (model Γ.prog Γ.w) H2 (typeOf (.ref e0)) (.ref Cc) := a6 ▸ (PySem.W.Looks.ld a5).andThen .now
    refine PySem.W.Looks.here (s := { s with heap := H2, toks := tk }) (PySem.W.exm_one X2 LT (C.exo.cat c Cc Tc a2 hT)) ?_
    refine codeAny_handlers_suite_as (wp_setFlight (s := { s with heap := H2, toks := tk }) y2 none fun H3 n3 y3 => ?_)
    have P3 := (P2.note n3).blank (map_un ρ)
    obtain ⟨e1, oe3, vs3, C3, Tr3, oT3, ts3, ee, b2, b3, b4, b5, b6, b7, _⟩ := id y3
    cases ee
    have rx : RepV Γ Z' (fun _ => True) H3 (.ref e0) (.exc c) := ⟨e0, oe3, vs3, C3, rfl, b2, b5, b6, b7⟩
    refine store_var (s := { s with heap := H3, toks := tk }) O.kind P3.inv.fr (.inl h3) fun H4 tk4 ad p4 pw hs4 he4 F4 => ?_
    have P4 := Post.store P3.inv nl rx rfl p4 hs4 he4 F4
    have hno : ∀ j ds, ((ρ.map fun _ => Val.un).set i (.exc c)).getD j .un ≠ .own ds ∧ ((ρ.map fun _ => Val.un).set i (.exc c)).getD j .un ≠ .bor ds := fun j ds => by
      rcases set_exc ρ i c j with q | ⟨_, q⟩ <;> (rw [q]; exact ⟨nofun, nofun⟩)
    have hu : ((ρ.map fun _ => Val.un).set i (.exc c)).getD 1000 .un = .un := by
      rcases set_exc ρ i c 1000 with q | ⟨q, _⟩
      · exact q
      · exact absurd (hsm nn i nl) (by rw [← q]; decide)
    have AOq : AOx Γ (quietNm nm) n (A.mark (some (.ref e0))) env := ⟨⟨AO.depth, AO.units⟩, fun q => (quiet_loud q).elim, AO.fr⟩
    refine hb (quietNm nm) _ (A.mark (some (.ref e0))) env Z' { s with heap := H4, toks := tk4 } _ (b0 :: sb) h7 O AOq (P4.inv.quiet hsm hu) (fun q => hne (by rw [q]; rfl)) _ _ (fun fl ρ5 f Z5 H5 tk5 m5 e5 P5 x5 => ?_) fun c' e' Z5 H5 tk5 q5 l5 => absurd (by rw [q5]; rfl) hne
    rw [e5] at hne hQ
    obtain ⟨m5', P5'⟩ : ∃ m5', Post Γ nm env Z' H4 ((ρ.map fun _ => Val.un).set i (.exc c)) (upd m1 nn (.ref e0)) Z5 H5 ρ5 m5' := ⟨_, Post.loud P5 hl (Option.isNone_iff_eq_none.mp hkq) hno⟩
    obtain ⟨ml5, ns5, hml⟩ := P5'.inv.fr.loc
    refine wpAny_nameGoes_keeps (s := { s with heap := H5, toks := tk5 }) h3 ns5 (by rw [O.kind]; rfl) fun H6 v6 ns6 sb6 => ?_
    have F6 : FrS env H6 (fun y => if y = nn then v6 else m5' y) := by
      refine ⟨⟨_, ns6, fun y ky => ?_⟩, fun y ky => ?_, P5'.inv.fr.inj⟩
      · by_cases q : y = nn
        · rw [if_pos q, if_pos q]
        · rw [if_neg q, if_neg q]; exact hml y ky
      · have q : y ≠ nn := fun q => by rw [q] at ky; rw [show env.kindOf nn = some .local from h3] at ky; cases ky
        obtain ⟨cc, lc, ic⟩ := P5'.inv.fr.cel y ky
        refine ⟨cc, lc, ?_⟩
        rw [if_neg q]
        exact ic.sameBut sb6 fun q' => by
          obtain ⟨oc, ec, dc⟩ := ic
          obtain ⟨on, es, ep, en, dn, _⟩ := ns5
          rw [q', en] at ec; cases ec
          rw [dn] at dc; cases dc
    have PA := ((P3.trans P4).trans P5').trans (Post.goes P5'.inv nl sb6 F6)
    cases fl with
    | next =>
      have : f = .next := x5
      subst this
      exact hQ .next _ .next Z5 H6 _ _ rfl PA rfl
    | ret y =>
      obtain ⟨w, rfl, r⟩ := x5
      cases y with
      | sh d => exact hQ (.ret (.sh d)) _ (.ret w) Z5 H6 _ _ rfl PA ⟨w, rfl, r⟩
      | _ => exact absurd rfl hne
end
end Mine
namespace Mine
open PySem PySem.Calls PyProof.Rows
structure AllD (Γ : Cx) (n : Nat) (Φ : Nat → List Val → Out Val) (u : T) : Prop where
  e : SndE Γ n Φ u
  tt : SndT Γ n Φ u
  l : SndL Γ n Φ u
  i : SndI Γ n Φ u
  f : SndF Γ n Φ u
  v : SndV Γ n Φ u
  k : SndE Γ n Φ (.mkL u)
  s : SndS Γ n Φ u
  b : SndB Γ n Φ u
  cp : ∀ elt tg it c, u = .comp elt tg it c → SndE Γ n Φ elt ∧ SndI Γ n Φ it ∧ SndT Γ n Φ c
noncomputable def No {α : Type} (f : Nm → Scope → α → Bool) : Prop := ∀ nm sc e, f nm sc e = false
structure PlE (Γ : Cx) (Φ : Nat → List Val → Out Val) (t : T) : Prop where
  val : ValT Γ Φ t
  l : No (chkT Γ.gs t)
  s : No (chkS Γ.gs t)
  b : No (chkB Γ.gs t)
structure PlS (Γ : Cx) (t : T) : Prop where
  e : No (chk Γ.gs t)
  l : No (chkT Γ.gs t)
section
variable {Γ : Cx} {n : Nat} {Φ : Nat → List Val → Out Val}
theorem no_ {α : Type} {P : Prop} {f : Nm → Scope → α → Bool} (h : No f) {nm : Nm} {sc : Scope} {e : α} (q : f nm sc e = true) : P := (Bool.false_ne_true ((h nm sc e).symm.trans q)).elim
theorem triv_e {t : T} (h : No (chk Γ.gs t)) : SndE Γ n Φ t := fun _ _ _ _ _ _ _ _ hc _ _ _ => no_ h hc
theorem triv_t {t : T} (h : No (chk Γ.gs t)) : SndT Γ n Φ t := fun _ _ _ _ _ _ _ _ hc _ _ _ => no_ h hc
theorem triv_v {t : T} (h : No (chk Γ.gs t)) : SndV Γ n Φ t := fun _ _ _ _ _ _ _ _ hc _ _ _ => no_ h hc
theorem triv_l {t : T} (h : No (chkT Γ.gs t)) : SndL Γ n Φ t := fun _ _ _ _ _ _ _ _ _ hc _ _ _ => no_ h hc
theorem triv_i {t : T} (h : No (chkI Γ.gs t)) : SndI Γ n Φ t := fun _ _ _ _ _ _ _ _ _ hc _ _ _ _ => no_ h hc
theorem triv_f {t : T} (h : No (chkI Γ.gs t)) : SndF Γ n Φ t := fun _ _ _ _ _ _ _ _ _ hc _ _ _ _ => no_ h hc
theorem triv_s {t : T} (h : No (chkS Γ.gs t)) : SndS Γ n Φ t := fun _ _ _ _ _ _ _ _ hc _ _ _ => no_ h hc
theorem triv_b {t : T} (h : No (chkB Γ.gs t)) : SndB Γ n Φ t := fun _ _ _ _ _ _ _ _ hc _ _ _ => no_ h hc
theorem triv_k {t : T} (h : ∀ ρ, itsK Φ t ρ = .bad) : SndE Γ n Φ (.mkL t) := fun _ ρ _ _ _ _ _ _ _ _ _ _ => EvT.badE (show (itsK Φ t ρ >>= _) = _ by rw [h ρ]; rfl)
theorem no_comp {t : T} (h : t.isComp = false) : ∀ elt tg it c, t = .comp elt tg it c → SndE Γ n Φ elt ∧ SndI Γ n Φ it ∧ SndT Γ n Φ c := fun _ _ _ _ e => by subst e; exact (Bool.false_ne_true h.symm).elim
theorem all_v {t : T} (C : CxOk Γ) (p : PlE Γ Φ t) (e : SndE Γ n Φ t) (tt : SndT Γ n Φ t) (v : SndV Γ n Φ t) (cp : ∀ elt tg it c, t = .comp elt tg it c → SndE Γ n Φ elt ∧ SndI Γ n Φ it ∧ SndT Γ n Φ c) : AllD Γ n Φ t :=
  ⟨e, tt, triv_l p.l, snd_I_val p.val e, snd_F_val p.val v, v, snd_mkL0 C e p.val.c p.val.k, triv_s p.s, triv_b p.b, cp⟩
theorem srcE_of {t : T} (h : ∀ ρ, srcV Φ t ρ = (ev Φ t ρ >>= srcE1)) (e : SndE Γ n Φ t) : SndV Γ n Φ t := fun nm ρ A env Z s m x hc O AO I => by rw [h]; exact snd_srcE (e nm ρ A env Z s m x hc O AO I)
theorem all_e {t : T} (C : CxOk Γ) (p : PlE Γ Φ t) (h : ∀ ρ, srcV Φ t ρ = (ev Φ t ρ >>= srcE1)) (e : SndE Γ n Φ t) (hp : ∀ nm sc e, chk Γ.gs t nm sc e = true → plainTest e = true) (nc : t.isComp = false) : AllD Γ n Φ t := all_v C p e (snd_plain e hp) (srcE_of h e) (no_comp nc)
theorem all_et {t : T} (C : CxOk Γ) (p : PlE Γ Φ t) (h : ∀ ρ, srcV Φ t ρ = (ev Φ t ρ >>= srcE1)) (e : SndE Γ n Φ t ∧ SndT Γ n Φ t) (nc : t.isComp = false) : AllD Γ n Φ t := all_v C p e.1 e.2 (srcE_of h e.1) (no_comp nc)
theorem all_s {t : T} (p : PlS Γ t) (hi : No (chkI Γ.gs t)) (hb : No (chkB Γ.gs t)) (hk : ∀ ρ, itsK Φ t ρ = .bad) (s : SndS Γ n Φ t) (nc : t.isComp = false) : AllD Γ n Φ t :=
  ⟨triv_e p.e, triv_t p.e, triv_l p.l, triv_i hi, triv_f hi, triv_v p.e, triv_k hk, s, triv_b hb, no_comp nc⟩
theorem all_i {t : T} (p : PlS Γ t) (hs : No (chkS Γ.gs t)) (hb : No (chkB Γ.gs t)) (hk : ∀ ρ, itsK Φ t ρ = .bad) (i : SndI Γ n Φ t) (f : SndF Γ n Φ t) (nc : t.isComp = false) : AllD Γ n Φ t :=
  ⟨triv_e p.e, triv_t p.e, triv_l p.l, i, f, triv_v p.e, triv_k hk, triv_s hs, triv_b hb, no_comp nc⟩
theorem all_ik {t : T} (p : PlS Γ t) (hs : No (chkS Γ.gs t)) (hb : No (chkB Γ.gs t)) (k : SndE Γ n Φ (.mkL t)) (i : SndI Γ n Φ t) (f : SndF Γ n Φ t) (nc : t.isComp = false) : AllD Γ n Φ t :=
  ⟨triv_e p.e, triv_t p.e, triv_l p.l, i, f, triv_v p.e, k, triv_s hs, triv_b hb, no_comp nc⟩
theorem all_l {t : T} (e : No (chk Γ.gs t)) (hs : No (chkS Γ.gs t)) (hi : No (chkI Γ.gs t)) (hk : ∀ ρ, itsK Φ t ρ = .bad) (l : SndL Γ n Φ t) (b : SndB Γ n Φ t) (nc : t.isComp = false) : AllD Γ n Φ t :=
  ⟨triv_e e, triv_t e, l, triv_i hi, triv_f hi, triv_v e, triv_k hk, triv_s hs, b, no_comp nc⟩
theorem pl {e e' : Expr} (he : e = e') (h : plainTest e' = true) : plainTest e = true := he ▸ h
theorem snd_all (C : CxOk Γ) (HC : SndC Γ n Φ) (HN : ∀ f ts, SndL Γ n Φ ts → SndE Γ n Φ (.new f ts)) (t : T) : AllD Γ n Φ t := by
  induction t with
  | cN   => exact all_e C ⟨⟨fun _ _ _ h => h, fun _ => rfl, fun _ => rfl, fun _ => rfl⟩, fun _ _ _ => rfl, fun _ _ _ => rfl, fun _ _ _ => rfl⟩ (fun _ => rfl) (snd_cN) (fun _ _ _ h => inv_cN h fun _ _ he  => pl he rfl) rfl
  | cB x  => exact all_e C ⟨⟨fun _ _ _ h => h, fun _ => rfl, fun _ => rfl, fun _ => rfl⟩, fun _ _ _ => rfl, fun _ _ _ => rfl, fun _ _ _ => rfl⟩ (fun _ => rfl) (snd_cB) (fun _ _ _ h => inv_cB h fun _ _ he  => pl he rfl) rfl
  | cI x  => exact all_e C ⟨⟨fun _ _ _ h => h, fun _ => rfl, fun _ => rfl, fun _ => rfl⟩, fun _ _ _ => rfl, fun _ _ _ => rfl, fun _ _ _ => rfl⟩ (fun _ => rfl) (snd_cI) (fun _ _ _ h => inv_cI h fun _ _ he  => pl he rfl) rfl
  | cS x  => exact all_e C ⟨⟨fun _ _ _ h => h, fun _ => rfl, fun _ => rfl, fun _ => rfl⟩, fun _ _ _ => rfl, fun _ _ _ => rfl, fun _ _ _ => rfl⟩ (fun _ => rfl) (snd_cS) (fun _ _ _ h => inv_cS h fun _ _ _ he _ _ _ => pl he rfl) rfl
  | gI x  => exact all_e C ⟨⟨fun _ _ _ h => h, fun _ => rfl, fun _ => rfl, fun _ => rfl⟩, fun _ _ _ => rfl, fun _ _ _ => rfl, fun _ _ _ => rfl⟩ (fun _ => rfl) (snd_gI C) (fun _ _ _ h => inv_gI h fun _ _ he _ _ => pl he rfl) rfl
  | gS x  => exact all_e C ⟨⟨fun _ _ _ h => h, fun _ => rfl, fun _ => rfl, fun _ => rfl⟩, fun _ _ _ => rfl, fun _ _ _ => rfl, fun _ _ _ => rfl⟩ (fun _ => rfl) (snd_gS C) (fun _ _ _ h => inv_gS h fun _ _ he _ _ => pl he rfl) rfl
  | neg a ha => exact all_e C ⟨⟨fun _ _ _ h => h, fun _ => rfl, fun _ => rfl, fun _ => rfl⟩, fun _ _ _ => rfl, fun _ _ _ => rfl, fun _ _ _ => rfl⟩ (fun _ => rfl) (snd_neg ha.e) (fun _ _ _ h => inv_neg h fun _ _ he _ => pl he rfl) rfl
  | bin o a b ha hb => exact all_e C ⟨⟨fun _ _ _ h => h, fun _ => rfl, fun _ => rfl, fun _ => rfl⟩, fun _ _ _ => rfl, fun _ _ _ => rfl, fun _ _ _ => rfl⟩ (fun _ => rfl) (snd_bin ha.e hb.e) (fun _ _ _ h => inv_bin h fun _ _ _ he _ _ => pl he rfl) rfl
  | tup a ha => exact all_e C ⟨⟨fun _ _ _ h => h, fun _ => rfl, fun _ => rfl, fun _ => rfl⟩, fun _ _ _ => rfl, fun _ _ _ => rfl, fun _ _ _ => rfl⟩ (fun _ => rfl) (snd_tup ha.l) (fun _ _ _ h => inv_tup h fun _ _ _ he _ _ => pl he rfl) rfl
  | lst a ha => exact all_e C ⟨⟨fun _ _ _ h => h, fun _ => rfl, fun _ => rfl, fun _ => rfl⟩, fun _ _ _ => rfl, fun _ _ _ => rfl, fun _ _ _ => rfl⟩ (fun _ => rfl) (snd_lst ha.l) (fun _ _ _ h => inv_lst h fun _ _ he _ _ => pl he rfl) rfl
  | idx a b ha hb => exact all_e C ⟨⟨fun _ _ _ h => h, fun _ => rfl, fun _ => rfl, fun _ => rfl⟩, fun _ _ _ => rfl, fun _ _ _ => rfl, fun _ _ _ => rfl⟩ (fun _ => rfl) (snd_idx ha.e hb.e) (fun _ _ _ h => inv_idx h fun _ _ _ he _ _ _ => pl he rfl) rfl
  | sl a b c ha hb hc => exact all_e C ⟨⟨fun _ _ _ h => h, fun _ => rfl, fun _ => rfl, fun _ => rfl⟩, fun _ _ _ => rfl, fun _ _ _ => rfl, fun _ _ _ => rfl⟩ (fun _ => rfl) (snd_sl ha.e (snd_O hb.e) (snd_O hc.e)) (fun _ _ _ h => inv_sl h fun _ _ _ _ _ he _ _ _ => pl he rfl) rfl
  | dget x a ha => exact all_v C ⟨⟨fun _ _ _ h => h, fun _ => rfl, fun _ => rfl, fun _ => rfl⟩, fun _ _ _ => rfl, fun _ _ _ => rfl, fun _ _ _ => rfl⟩ (triv_e (fun _ _ _ => rfl)) (triv_t (fun _ _ _ => rfl)) (triv_v (fun _ _ _ => rfl)) (no_comp rfl)
  | call x a ha => exact all_e C ⟨⟨fun _ _ _ h => h, fun _ => rfl, fun _ => rfl, fun _ => rfl⟩, fun _ _ _ => rfl, fun _ _ _ => rfl, fun _ _ _ => rfl⟩ (fun _ => rfl) (snd_call C HC ha.l) (fun _ _ _ h => inv_call h fun _ _ _ _ he _ _ _ => pl he rfl) rfl
  | bi x a ha => exact all_e C ⟨⟨fun _ _ _ h => h, fun _ => rfl, fun _ => rfl, fun _ => rfl⟩, fun _ _ _ => rfl, fun _ _ _ => rfl, fun _ _ _ => rfl⟩ (fun _ => rfl) (snd_bi C ha.l) (fun _ _ _ h => inv_bi h fun _ _ _ _ he _ _ _ => pl he rfl) rfl
  | isi x a ha => exact all_e C ⟨⟨fun _ _ _ h => h, fun _ => rfl, fun _ => rfl, fun _ => rfl⟩, fun _ _ _ => rfl, fun _ _ _ => rfl, fun _ _ _ => rfl⟩ (fun _ => rfl) (snd_isi C ha.e) (fun _ _ _ h => inv_isi h fun _ _ _ _ _ _ he _ _ _ _ _ _ => pl he rfl) rfl
  | mkL a ha => exact all_e C ⟨⟨fun _ _ _ h => h, fun _ => rfl, fun _ => rfl, fun _ => rfl⟩, fun _ _ _ => rfl, fun _ _ _ => rfl, fun _ _ _ => rfl⟩ (fun _ => rfl) (ha.k) (fun _ _ _ h => inv_mkL h fun _ _ _ _ he _ _ _ _ => pl he rfl) rfl
  | mkT a ha => exact all_e C ⟨⟨fun _ _ _ h => h, fun _ => rfl, fun _ => rfl, fun _ => rfl⟩, fun _ _ _ => rfl, fun _ _ _ => rfl, fun _ _ _ => rfl⟩ (fun _ => rfl) (snd_mkT C ha.e) (fun _ _ _ h => inv_mkT h fun _ _ _ _ he _ _ _ _ => pl he rfl) rfl
  | meth x a b ha hb => exact all_e C ⟨⟨fun _ _ _ h => h, fun _ => rfl, fun _ => rfl, fun _ => rfl⟩, fun _ _ _ => rfl, fun _ _ _ => rfl, fun _ _ _ => rfl⟩ (fun _ => rfl) (snd_meth ha.e hb.l) (fun _ _ _ h => inv_meth h fun _ _ _ _ he _ _ _ _ _ => pl he rfl) rfl
  | attr x a ha => exact all_v C ⟨⟨fun _ _ _ h => h, fun _ => rfl, fun _ => rfl, fun _ => rfl⟩, fun _ _ _ => rfl, fun _ _ _ => rfl, fun _ _ _ => rfl⟩ (triv_e (fun _ _ _ => rfl)) (triv_t (fun _ _ _ => rfl)) (triv_v (fun _ _ _ => rfl)) (no_comp rfl)
  | mcall x a b ha hb => exact all_v C ⟨⟨fun _ _ _ h => h, fun _ => rfl, fun _ => rfl, fun _ => rfl⟩, fun _ _ _ => rfl, fun _ _ _ => rfl, fun _ _ _ => rfl⟩ (triv_e (fun _ _ _ => rfl)) (triv_t (fun _ _ _ => rfl)) (triv_v (fun _ _ _ => rfl)) (no_comp rfl)
  | new x a ha => exact all_v C ⟨⟨fun _ _ _ h => h, fun _ => rfl, fun _ => rfl, fun _ => rfl⟩, fun _ _ _ => rfl, fun _ _ _ => rfl, fun _ _ _ => rfl⟩ (triv_e (fun _ _ _ => rfl)) (triv_t (fun _ _ _ => rfl)) (triv_v (fun _ _ _ => rfl)) (no_comp rfl)
  | v x  => exact all_v C ⟨⟨fun _ _ _ h => h, fun _ => rfl, fun _ => rfl, fun _ => rfl⟩, fun _ _ _ => rfl, fun _ _ _ => rfl, fun _ _ _ => rfl⟩ snd_v (snd_plain snd_v fun _ _ _ h => inv_v h fun _ _ he _ _ => pl he rfl) (fun _ _ _ _ _ _ _ _ hc O _ I => snd_srcV hc O I) (no_comp rfl)
  | comp a x b c ha hb hc => exact all_v C ⟨⟨fun _ _ _ h => h, fun _ => rfl, fun _ => rfl, fun _ => rfl⟩, fun _ _ _ => rfl, fun _ _ _ => rfl, fun _ _ _ => rfl⟩ (snd_comp ha.e hb.i hc.tt) (snd_plain (snd_comp ha.e hb.i hc.tt) fun _ _ _ h => inv_comp h fun _ _ _ _ _ _ _ he _ => pl he rfl) (srcE_of (fun _ => rfl) (snd_comp ha.e hb.i hc.tt)) (fun _ _ _ _ h => by injection h with h1 h2 h3 h4; subst h1 h3 h4; exact ⟨ha.e, hb.i, hc.tt⟩)
  | cmp o a b ha hb => exact all_et C ⟨⟨fun _ _ _ h => h, fun _ => rfl, fun _ => rfl, fun _ => rfl⟩, fun _ _ _ => rfl, fun _ _ _ => rfl, fun _ _ _ => rfl⟩ (fun _ => rfl) (snd_cmp ha.e hb.e) rfl
  | cmp2 o p a b c ha hb hc => exact all_et C ⟨⟨fun _ _ _ h => h, fun _ => rfl, fun _ => rfl, fun _ => rfl⟩, fun _ _ _ => rfl, fun _ _ _ => rfl, fun _ _ _ => rfl⟩ (fun _ => rfl) (snd_cmp2 ha.e hb.e hc.e) rfl
  | isN x a ha => exact all_et C ⟨⟨fun _ _ _ h => h, fun _ => rfl, fun _ => rfl, fun _ => rfl⟩, fun _ _ _ => rfl, fun _ _ _ => rfl, fun _ _ _ => rfl⟩ (fun _ => rfl) (snd_isN ha.e) rfl
  | not a ha => exact all_et C ⟨⟨fun _ _ _ h => h, fun _ => rfl, fun _ => rfl, fun _ => rfl⟩, fun _ _ _ => rfl, fun _ _ _ => rfl, fun _ _ _ => rfl⟩ (fun _ => rfl) (snd_not ha.e ha.tt) rfl
  | and a b ha hb => exact all_et C ⟨⟨fun _ _ _ h => h, fun _ => rfl, fun _ => rfl, fun _ => rfl⟩, fun _ _ _ => rfl, fun _ _ _ => rfl, fun _ _ _ => rfl⟩ (fun _ => rfl) (snd_and ⟨ha.e, ha.tt⟩ ⟨hb.e, hb.tt⟩) rfl
  | or a b ha hb => exact all_et C ⟨⟨fun _ _ _ h => h, fun _ => rfl, fun _ => rfl, fun _ => rfl⟩, fun _ _ _ => rfl, fun _ _ _ => rfl, fun _ _ _ => rfl⟩ (fun _ => rfl) (snd_or ⟨ha.e, ha.tt⟩ ⟨hb.e, hb.tt⟩) rfl
  | ite c a b hc ha hb => exact all_et C ⟨⟨fun _ _ _ h => h, fun _ => rfl, fun _ => rfl, fun _ => rfl⟩, fun _ _ _ => rfl, fun _ _ _ => rfl, fun _ _ _ => rfl⟩ (fun _ => rfl) (snd_ite hc.tt ⟨ha.e, ha.tt⟩ ⟨hb.e, hb.tt⟩) rfl
  | din x y a ha => exact all_v C ⟨⟨fun _ _ _ h => h, fun _ => rfl, fun _ => rfl, fun _ => rfl⟩, fun _ _ _ => rfl, fun _ _ _ => rfl, fun _ _ _ => rfl⟩ (triv_e (fun _ _ _ => rfl)) (triv_t (fun _ _ _ => rfl)) (triv_v (fun _ _ _ => rfl)) (no_comp rfl)
  | dic   => exact all_v C ⟨⟨fun _ _ _ h => h, fun _ => rfl, fun _ => rfl, fun _ => rfl⟩, fun _ _ _ => rfl, fun _ _ _ => rfl, fun _ _ _ => rfl⟩ (triv_e (fun _ _ _ => rfl)) (triv_t (fun _ _ _ => rfl)) (triv_v (fun _ _ _ => rfl)) (no_comp rfl)
  | asg x a ha => exact all_s ⟨fun _ _ _ => rfl, fun _ _ _ => rfl⟩ (fun _ _ _ => rfl) (fun _ _ _ => rfl) (fun _ => rfl) (sndS_asg ha.e ha.cp) rfl
  | asgO x a ha => exact all_s ⟨fun _ _ _ => rfl, fun _ _ _ => rfl⟩ (fun _ _ _ => rfl) (fun _ _ _ => rfl) (fun _ => rfl) (sndS_asgO ha.e ha.cp) rfl
  | asgT x a ha => exact all_s ⟨fun _ _ _ => rfl, fun _ _ _ => rfl⟩ (fun _ _ _ => rfl) (fun _ _ _ => rfl) (fun _ => rfl) (triv_s (fun _ _ _ => rfl)) rfl
  | seti x a b ha hb => exact all_s ⟨fun _ _ _ => rfl, fun _ _ _ => rfl⟩ (fun _ _ _ => rfl) (fun _ _ _ => rfl) (fun _ => rfl) (triv_s (fun _ _ _ => rfl)) rfl
  | app x a ha => exact all_s ⟨fun _ _ _ => rfl, fun _ _ _ => rfl⟩ (fun _ _ _ => rfl) (fun _ _ _ => rfl) (fun _ => rfl) (sndS_app ha.e) rfl
  | rvs x  => exact all_s ⟨fun _ _ _ => rfl, fun _ _ _ => rfl⟩ (fun _ _ _ => rfl) (fun _ _ _ => rfl) (fun _ => rfl) (sndS_rvs) rfl
  | clr x  => exact all_s ⟨fun _ _ _ => rfl, fun _ _ _ => rfl⟩ (fun _ _ _ => rfl) (fun _ _ _ => rfl) (fun _ => rfl) (triv_s (fun _ _ _ => rfl)) rfl
  | ex a ha => exact all_s ⟨fun _ _ _ => rfl, fun _ _ _ => rfl⟩ (fun _ _ _ => rfl) (fun _ _ _ => rfl) (fun _ => rfl) (triv_s (fun _ _ _ => rfl)) rfl
  | iff c a b hc ha hb => exact all_s ⟨fun _ _ _ => rfl, fun _ _ _ => rfl⟩ (fun _ _ _ => rfl) (fun _ _ _ => rfl) (fun _ => rfl) (sndS_iff hc.tt ha.b hb.b) rfl
  | for_ x a b ha hb => exact all_s ⟨fun _ _ _ => rfl, fun _ _ _ => rfl⟩ (fun _ _ _ => rfl) (fun _ _ _ => rfl) (fun _ => rfl) (sndS_for ha.f hb.b) rfl
  | whl c b hc hb => exact all_s ⟨fun _ _ _ => rfl, fun _ _ _ => rfl⟩ (fun _ _ _ => rfl) (fun _ _ _ => rfl) (fun _ => rfl) (triv_s (fun _ _ _ => rfl)) rfl
  | ret a ha => exact all_s ⟨fun _ _ _ => rfl, fun _ _ _ => rfl⟩ (fun _ _ _ => rfl) (fun _ _ _ => rfl) (fun _ => rfl) (sndS_ret ha.e) rfl
  | retO x  => exact all_s ⟨fun _ _ _ => rfl, fun _ _ _ => rfl⟩ (fun _ _ _ => rfl) (fun _ _ _ => rfl) (fun _ => rfl) (sndS_retO) rfl
  | retP a x ha => exact all_s ⟨fun _ _ _ => rfl, fun _ _ _ => rfl⟩ (fun _ _ _ => rfl) (fun _ _ _ => rfl) (fun _ => rfl) (triv_s (fun _ _ _ => rfl)) rfl
  | frz x  => exact all_s ⟨fun _ _ _ => rfl, fun _ _ _ => rfl⟩ (fun _ _ _ => rfl) (fun _ _ _ => rfl) (fun _ => rfl) (triv_s (fun _ _ _ => rfl)) rfl
  | raise x y  => exact all_s ⟨fun _ _ _ => rfl, fun _ _ _ => rfl⟩ (fun _ _ _ => rfl) (fun _ _ _ => rfl) (fun _ => rfl) (sndS_raise C) rfl
  | try_ a x y b ha hb => exact all_s ⟨fun _ _ _ => rfl, fun _ _ _ => rfl⟩ (fun _ _ _ => rfl) (fun _ _ _ => rfl) (fun _ => rfl) (sndS_try C ha.b hb.b) rfl
  | zip a b ha hb => exact all_i ⟨fun _ _ _ => rfl, fun _ _ _ => rfl⟩ (fun _ _ _ => rfl) (fun _ _ _ => rfl) (fun _ => rfl) (triv_i (fun _ _ _ => rfl)) (triv_f (fun _ _ _ => rfl)) rfl
  | rng a b c ha hb hc => exact all_ik ⟨fun _ _ _ => rfl, fun _ _ _ => rfl⟩ (fun _ _ _ => rfl) (fun _ _ _ => rfl) (snd_K_rng C hb.e) (snd_I_rng C ha.e hb.e hc.e) (snd_F_rng C ha.e hb.e hc.e) rfl
  | rev a ha => exact all_ik ⟨fun _ _ _ => rfl, fun _ _ _ => rfl⟩ (fun _ _ _ => rfl) (fun _ _ _ => rfl) (snd_K_rev C ha.e) snd_I_rev (snd_F_rev C ha.v) rfl
  | nil   => exact all_l (fun _ _ _ => rfl) (fun _ _ _ => rfl) (fun _ _ _ => rfl) (fun _ => rfl) snd_nil sndB_nil rfl
  | cons a b ha hb => exact all_l (fun _ _ _ => rfl) (fun _ _ _ => rfl) (fun _ _ _ => rfl) (fun _ => rfl) (snd_cons ha.e hb.l) (sndB_cons ha.s hb.b) rfl
end
end Mine
namespace Mine
open PySem PySem.Calls PyProof.Rows
theorem bindL_eq {kindOf : Str → Option NameKind} {x : Str} (hx : kindOf x = some .local) : ∀ (binds : List (Str × Value)) (m : Str → Option Value), (binds.map (·.1)).Nodup → bindL kindOf binds m x = (binds.lookup x).or (m x)
  | [], m, _ => by simp [bindL]
  | (n, v) :: r, m, hn => by
    simp only [List.map_cons, List.nodup_cons] at hn
    rw [bindL, bindL_eq hx r _ hn.2, List.lookup_cons]
    by_cases e : x = n
    · subst e
      have : r.lookup x = none := by
        cases q : r.lookup x with
        | none => rfl
        | some u => exact absurd (List.mem_map.2 ⟨_, mem_of_lookup q, rfl⟩) hn.1
      simp [this, hx]
    · have hb : (x == n) = false := by simp [e]
      rw [hb]
      split <;> simp [e]
theorem bindC_eq {kindOf : Str → Option NameKind} {x : Str} (hx : kindOf x = some .cell) : ∀ (binds : List (Str × Value)) (m : Str → Option Value), (binds.map (·.1)).Nodup → bindC kindOf binds m x = (binds.lookup x).or (m x)
  | [], m, _ => by simp [bindC]
  | (n, v) :: r, m, hn => by
    simp only [List.map_cons, List.nodup_cons] at hn
    rw [bindC, bindC_eq hx r _ hn.2, List.lookup_cons]
    by_cases e : x = n
    · subst e
      have : r.lookup x = none := by
        cases q : r.lookup x with
        | none => rfl
        | some u => exact absurd (List.mem_map.2 ⟨_, mem_of_lookup q, rfl⟩) hn.1
      have hl : ¬ kindOf x = some .local := by rw [hx]; decide
      simp [this, hl]
    · have hb : (x == n) = false := by simp [e]
      rw [hb]
      split <;> simp [e]
theorem lookup_zip {vs : List Value} : ∀ {pn : List Str} {vs : List Value} {k : Nat} {x : Str} {v : Value}, pn.Nodup → pn[k]? = some x → vs[k]? = some v → (pn.zip vs).lookup x = some v
  | [], _, _, _, _, _, h, _ => by simp at h
  | _ :: _, [], _, _, _, _, _, h => by simp at h
  | y :: pn, u :: vs, 0, x, v, hn, h1, h2 => by
    simp at h1 h2; subst h1 h2; simp [List.lookup_cons]
  | y :: pn, u :: vs, k + 1, x, v, hn, h1, h2 => by
    simp only [List.nodup_cons] at hn
    simp only [List.getElem?_cons_succ] at h1 h2
    have hb : (x == y) = false := by
      simp; rintro rfl; exact hn.1 (List.mem_of_getElem? h1)
    rw [List.zip_cons_cons, List.lookup_cons, hb]
    exact lookup_zip (vs := vs) hn.2 h1 h2
section
variable {Γ : Cx} {Φ : Nat → List Val → Out Val} {Z : Led} {h : Heap}
theorem RepVs.len {vs : List Value} {xs : List Val} (r : RepVs Γ Z h vs xs) : vs.length = xs.length := by
  induction r with
  | nil => rfl
  | cons _ _ _ ih => simp [ih]
theorem RepVs.get {vs : List Value} {xs : List Val} (r : RepVs Γ Z h vs xs) : ∀ {k : Nat} {x : Val}, xs[k]? = some x → ∃ v, vs[k]? = some v ∧ RepV Γ Z (fun _ => True) h v x ∧ argOk x = true := by
  induction r with
  | nil => intro k x e; simp at e
  | cons a b _ ih =>
    intro k x e
    cases k with
    | zero => simp at e; subst e; exact ⟨_, rfl, a, b⟩
    | succ k => simp only [List.getElem?_cons_succ] at e ⊢; exact ih e
theorem AOk.deeper {n : Nat} {A : Around} (h : AOk (n + 1) A) (env : Env) : AOk n (A.deeper env) := by
  obtain ⟨b, c⟩ := h
  exact ⟨by show A.depth + 1 + 2 * n < recursionLimit; lia, by show A.units + 3 + 8 * n + 200 ≤ cLine; lia⟩
noncomputable abbrev Cx.wup (Γ : Cx) (u : List Addr) : Cx := { Γ with up := u }
noncomputable def FnIs.wup {f : Addr} {i : Nat} (F : FnIs Γ f i) (u : List Addr) : FnIs (Γ.wup u) f i := ⟨F.fn, F.o, F.fd, F.body, F.nm, F.pn, F.here, F.data, F.ofi, F.bod, F.glob, F.bui, F.clos, F.co, F.gen, F.kind, F.code, F.binds, F.pnl, F.pnn, F.par, F.inj, F.low, F.le, F.cells, F.cellof, F.ini, F.quiet, F.chk⟩
theorem GOk.wup {x : Str} {g : G} (h : GOk Γ x g) (u : List Addr) : GOk (Γ.wup u) x g := by
  cases g with
  | fn i => obtain ⟨f, a, ⟨F⟩⟩ := h; exact ⟨f, a, ⟨F.wup u⟩⟩
  | meth i => obtain ⟨f, a, b, ⟨F⟩⟩ := h; exact ⟨f, a, b, ⟨F.wup u⟩⟩
  | exc c => cases c <;> exact h
  | _ => exact h
theorem CxOk.wup (C : CxOk Γ) (u : List Addr) : CxOk (Γ.wup u) := ⟨⟨C.exo.one, C.exo.get, C.exo.isi, C.exo.isv, C.exo.cat⟩, C.kin, C.g, C.b, C.nolimit, fun x g h => (C.gl x g h).wup u⟩
theorem RepV.wup {fr : Addr → Prop} {v : Value} {x : Val} {u : List Addr} : RepV (Γ.wup u) Z fr h v x ↔ RepV Γ Z fr h v x := by cases x <;> exact Iff.rfl
theorem AOc.deeper {i n : Nat} {A : Around} {nm : Nm} {env : Env} {L : Addr} (AO : AOc Γ i (n + 1) A) (hq : quietFn i = true → loud nm = false) (hk : env.scope.kind = .function) (hf : env.frame = some L) : AOx (Γ.wup (L :: Γ.up)) nm n (A.deeper env) env := by
  obtain ⟨l, h1, h2⟩ := AO.fr
  refine ⟨AO.toAOk.deeper env, fun hl => AO.hd ?_, env, l, ?_, rfl, fun e he => ?_⟩
  · cases q : quietFn i with
    | false => rfl
    | true => rw [hq q] at hl; cases hl
  · show A.frames.map (env :: ·) = _
    rw [h1]; rfl
  · rcases List.mem_cons.mp he with rfl | he
    · exact ⟨by rw [hk]; decide, L, hf, List.mem_cons_self ..⟩
    · obtain ⟨a, L', b, c⟩ := h2 e he
      exact ⟨a, L', b, List.mem_cons_of_mem _ c⟩
theorem getD_app {xs : List Val} {k i : Nat} : (xs ++ List.replicate k Val.un).getD i .un = xs.getD i .un := by
  simp only [List.getD]
  by_cases h : i < xs.length
  · rw [List.getElem?_append_left h]
  · have h' := Nat.not_lt.mp h
    rw [List.getElem?_append_right h', List.getElem?_eq_none h', List.getElem?_replicate]
    split <;> rfl
set_option maxHeartbeats 1000000 in
theorem sndC_succ {n : Nat} (C : CxOk Γ) (HC : ∀ u, SndC (Γ.wup u) n Φ) (HN : ∀ u f ts, SndL (Γ.wup u) n Φ ts → SndE (Γ.wup u) n Φ (.new f ts)) :
    SndC Γ (n + 1) (fun f as => match Γ.fns[f]? with | some fn => runFn Φ fn as | Option.none => .bad) := by
  intro i f F A env Z s vs xs AO Gd rep
  have sub := Gd.sub
  have ok := Gd.ok
  have kb := Gd.kb
  simp only [F.ofi]
  unfold runFn
  by_cases hlen : xs.length = F.fn.pars
  · rw [if_pos hlen, F.ini]
    dsimp only
    intro hne Q E hQ hE
    have hvl : vs.length = F.fn.pars := rep.len.trans hlen
    have hlim : s.heap.NoLimit := by obtain ⟨mc, a, b⟩ := C.nolimit; exact ⟨mc, kb.ns a, b⟩
    have hcd : s.heap.CodeRec F.fd.code F.fd.qualname := by
      obtain ⟨c, o, ws, t, e1, e2, e3, e4⟩ := F.code
      exact ⟨c, o, ws, t, e1, kb c o e2, e3, e4⟩
    have hzl : (F.pn.zip vs).map (·.1) = F.pn := by rw [List.map_fst_zip]; rw [hvl, F.pnl]; exact Nat.le_refl _
    have hmem : ∀ x ∈ F.pn.zip vs, ∃ k, F.pn[k]? = some x.1 := fun x hx => by
      have : x.1 ∈ F.pn := by rw [← hzl]; exact List.mem_map.2 ⟨x, hx, rfl⟩
      obtain ⟨k, hk, e⟩ := List.getElem_of_mem this
      exact ⟨k, by rw [List.getElem?_eq_getElem hk, e]⟩
    refine wpAny_call (codeAny_call_cells (by have := AO.depth; lia) (F.at_ kb) F.data hlim hcd F.bod (F.binds vs hvl) F.clos (fun x hx => ?_) (fun s₁ X => ?_) F.co F.gen F.kind)
    · obtain ⟨k, hk⟩ := hmem x hx
      rcases (F.par k x.1 hk).2 with q | q
      · exact .inl q
      · exact .inr ⟨q, F.cellof x.1 q _⟩
    generalize henv : callEnvC F.fd s.heap.objs.size f = env' at X ⊢
    have hscope : env'.scope = F.fd.scope := by rw [← henv]; rfl
    have hkof : ∀ x, env'.kindOf x = F.fd.scope.names.lookup x := fun x => by rw [← henv]; rfl
    have hloc : env'.locals = s.heap.objs.size := by rw [← henv]; rfl
    have hfrm : env'.frame = some env'.locals := by rw [← henv]; rfl
    have hcells : env'.cells = cellsFrom (s.heap.objs.size + 1) F.fd.scope.names [] := by rw [← henv]; rfl
    have O' : EnvOk env' := ⟨by rw [hscope]; exact F.kind, by rw [← henv]; exact F.glob, by rw [← henv]; exact F.bui⟩
    obtain ⟨h₁, tk₁, es₁⟩ := X.toInCall.same
    have keep := X.toInCall.keep
    have fresh : ∀ a, FP env' a → s.heap.get? a = none := fun a p => by
      rcases p with rfl | ⟨x, k, l⟩
      · rw [hloc]; exact get_size _
      · exact Heap.get?_none_of_le (Nat.le_of_lt (Nat.lt_of_le_of_lt X.toInCall.fresh (X.above x a (mem_of_lookup l))))
    let m0 : Str → Option Value := fun x => (F.pn.zip vs).lookup x
    have g1 : Grow Z s.heap Z s₁.heap := Grow.keep sub ok (Kp.of keep)
    have noOwn : ∀ i ds, (xs ++ List.replicate (F.fn.names - F.fn.pars) Val.un).getD i .un ≠ .own ds := fun i ds q => by
      rw [getD_app, List.getD] at q
      cases e : xs[i]? with
      | none => rw [e] at q; cases q
      | some y =>
        rw [e] at q
        obtain ⟨_, _, _, a⟩ := rep.get e
        have q : y = .own ds := q
        subst q; cases a
    have AO' := AO.deeper (nm := F.nm) F.quiet O'.kind hfrm
    have I0 : Inv (Γ.wup (env'.locals :: Γ.up)) F.nm (xs ++ List.replicate (F.fn.names - F.fn.pars) Val.un) env' Z s₁.heap m0 := by
      refine ⟨⟨⟨_, X.toInCall.ns, fun x hx => ?_⟩, fun x hx => ?_, fun x y c kx ky lx ly => name_of_addr X.apart (mem_of_lookup lx) (mem_of_lookup ly)⟩, g1.sub, ok, fun a p => led_none sub (fresh a p), Gd.kz, fun L hL => ?_, fun x j l nu => ?_, fun j d ds q => ?_, F.inj, fun a p => kb.none (fresh a p), fun a ⟨x, j, ds, l, ho, _⟩ => absurd ho (noOwn j ds), fun x y j k a ds es lx ly hx hy mx my => absurd hx (noOwn j ds)⟩
      · rw [bindL_eq hx _ _ (by rw [hzl]; exact F.pnn)]; simp [m0]
      · have hx' := hx
        rw [hkof] at hx'
        have := F.cellof x hx' (s.heap.objs.size + 1)
        rw [← hcells] at this
        obtain ⟨c, hc⟩ := Option.isSome_iff_exists.mp this
        refine ⟨c, hc, ?_⟩
        have := X.cell x c hc
        rw [bindC_eq hx _ _ (by rw [hzl]; exact F.pnn)] at this
        simpa [m0] using this
      · rcases List.mem_cons.mp hL with rfl | hL
        · obtain ⟨o, es, ep, e, d, _⟩ := X.toInCall.ns
          exact ⟨led_none sub (fresh _ (.inl rfl)), o, es, ep, e, d⟩
        · obtain ⟨z, o, es, k, e, d⟩ := Gd.ups L hL
          exact ⟨z, o, es, k, keep L o e, d⟩
      · rw [getD_app] at nu ⊢
        simp only [List.getD] at nu ⊢
        cases e : xs[j]? with
        | none => rw [e] at nu; exact absurd rfl nu
        | some y =>
          obtain ⟨v, hv, r, _⟩ := rep.get e
          have hj : j < F.pn.length := by rw [F.pnl, ← hlen]; exact (List.getElem?_eq_some_iff.mp e).1
          have hp := List.getElem?_eq_getElem hj
          have hn := (F.par j _ hp).1
          have : F.pn[j] = x := F.inj _ _ _ hn l
          rw [this] at hp
          exact ⟨v, lookup_zip (vs := vs) F.pnn hp hv, RepV.wup.mpr (r.grow g1)⟩
      · rw [getD_app, List.getD] at q
        cases e : xs[j]? with
        | none => rw [e] at q; cases q
        | some y =>
          rw [e] at q
          obtain ⟨_, _, _, a⟩ := rep.get e
          have q : y = .pr d ds := q
          subst q; cases a
    have HB := (snd_all (C.wup _) (HC _) (HN _) F.fn.body).b F.nm _ (A.deeper env') env' Z s₁ m0 F.body (by rw [hscope]; exact F.chk) O' AO' I0
    have ownF : ∀ a, ¬ OwnAt F.nm (xs ++ List.replicate (F.fn.names - F.fn.pars) Val.un) m0 a := fun a ⟨x, j, ds, l, ho, _⟩ => noOwn j ds ho
    have none1 : ∀ a, s₁.heap.get? a = none → s.heap.get? a = none := fun a q => g1.kp.none q
    have G : ∀ Z' h' ρ' m', Post (Γ.wup (env'.locals :: Γ.up)) F.nm env' Z s₁.heap (xs ++ List.replicate (F.fn.names - F.fn.pars) Val.un) m0 Z' h' ρ' m' → Grow Z s.heap Z' h' := fun Z' h' ρ' m' P => by
      refine ⟨fun b o eb => ?_, P.le, fun a o ea => ?_, P.inv.sub, P.inv.ok⟩
      · exact P.kp b o (fun q => q.elim (fun q => by rw [fresh b q] at eb; cases eb) (ownF b)) (keep b o eb)
      · rcases P.new a o ea with q | q | q
        · exact .inl q
        · exact .inr (none1 a q)
        · exact absurd q (ownF a)
    have es : ∀ h' tk, ({ s₁ with heap := h', toks := tk } : Shared) = { s with heap := h', toks := tk } := fun h' tk => by rw [es₁]
    refine HB (fun q => hne (by rw [q]; rfl)) _ _ (fun fl ρ' fw Z' h' tk m' e P x => ?_) fun c e Z' h' tk q l => ?_
    · rw [e] at hQ
      cases fl with
      | next =>
        have x : fw = .next := x
        subst x
        show Q .none _
        rw [es]
        exact hQ (.sh .none) .none Z' h' tk rfl (G _ _ _ _ P) Rep.none
      | ret y =>
        obtain ⟨u, rfl, r⟩ := x
        show Q u _
        rw [es]
        exact hQ y u Z' h' tk rfl (G _ _ _ _ P) (RepV.weak (RepV.wup.mp r) fun a q => q.elim (none1 a) fun q => absurd q (ownF a))
    · refine Lv.leaves (Γ := Γ.wup (env'.locals :: Γ.up)) (s := { s₁ with heap := h', toks := tk }) AO' l env.frame fun H' m' P x => ?_
      show E e { s₁ with heap := H', toks := tk }
      rw [es]
      exact hE c e Z' H' tk (by rw [q]; rfl) (G _ _ _ _ P) (XP.old none1 x)
  · rw [if_neg hlen]; exact EvT.badE rfl
end
end Mine
namespace Mine
open PySem PySem.Calls PyProof.Rows
theorem snd_calls {Γ : Cx} (C : CxOk Γ) : ∀ n u, SndC (Γ.wup u) n (callF Γ.fns n)
  | 0, u => fun i f F A env Z s vs xs AO G rep => EvT.badE (by rw [callF])
  | n + 1, u => by
    have a := sndC_succ (C.wup u) (fun v => snd_calls C n v) fun v f ts _ => triv_e (fun _ _ _ => rfl)
    exact cast (congrArg (SndC (Γ.wup u) (n + 1)) (funext fun f => funext fun as => by rw [callF] <;> (cases Γ.fns[f]? <;> rfl))) a
end Mine
namespace Mine
open PySem PySem.Calls PyProof.Rows
theorem lookup_zip_some {α : Type} : ∀ (ns : List Str) (vs : List α), vs.length = ns.length → ∀ n ∈ ns, ((ns.zip vs).lookup n).isSome = true
  | [], _, _, n, h => by simp at h
  | m :: ns, [], h, _, _ => by simp at h
  | m :: ns, v :: vs, h, n, hn => by
    rw [List.zip_cons_cons, List.lookup_cons]
    cases e : n == m with
    | true => rfl
    | false =>
      rcases List.mem_cons.1 hn with q | q
      · subst q; simp at e
      · exact lookup_zip_some ns vs (by simpa using h) n q
theorem filterMap_zip {α : Type} : ∀ (ns : List Str) (vs : List α), vs.length = ns.length → ns.Nodup → ∀ (l : List (Str × α)), (∀ n ∈ ns, l.lookup n = (ns.zip vs).lookup n) → ns.filterMap (fun n => (l.lookup n).map (n, ·)) = ns.zip vs
  | [], _, _, _, _, _ => by simp
  | m :: ns, [], h, _, _, _ => by simp at h
  | m :: ns, v :: vs, h, hn, l, hl => by
    simp only [List.nodup_cons] at hn
    have h0 : l.lookup m = some v := by rw [hl m (List.mem_cons_self ..), List.zip_cons_cons, List.lookup_cons]; simp
    rw [List.filterMap_cons, h0]
    simp only [Option.map_some, List.zip_cons_cons]
    congr 1
    refine filterMap_zip ns vs (by simpa using h) hn.2 l fun n q => ?_
    rw [hl n (List.mem_cons_of_mem _ q), List.zip_cons_cons, List.lookup_cons]
    have : (n == m) = false := by simp; rintro rfl; exact hn.1 q
    rw [this]
theorem bindArgs_plain {fd : FuncData} {as : List Arg} (hp : fd.params = { posonlyargs := [], args := as, vararg := none, kwonlyargs := [], kw_defaults := [], kwarg := none, defaults := [] }) (hd : fd.defaults = .none) (hn : (as.map (·.arg)).Nodup)
    (vals : List Value) (hl : vals.length = (as.map (·.arg)).length) : bindArgs fd ⟨vals, []⟩ = pure ((as.map (·.arg)).zip vals) := by
  unfold bindArgs
  simp only [hp, hd, List.map_nil, List.nil_append, List.append_nil]
  generalize as.map (·.arg) = ns at *
  have s0 : (seqItems? Value.none : Sem _) = pure none := rfl
  rw [s0]
  have hgt : ¬ vals.length > ns.length := by omega
  have hmiss : (ns.take ns.length).filter (fun n => ((ns.zip vals).lookup n).isNone) = [] := by
    rw [List.take_length, List.filter_eq_nil_iff]
    intro n hm
    have := lookup_zip_some ns vals hl n hm
    cases q : (ns.zip vals).lookup n with
    | none => rw [q] at this; cases this
    | some v => simp
  have hfm := filterMap_zip ns vals hl hn (ns.zip vals) fun _ _ => rfl
  simp only [List.forIn_nil, pure_bind, Option.getD_none, List.length_nil, Nat.zero_sub, List.drop_nil, Nat.sub_zero, hmiss, hgt, decide_false, Bool.false_and, Bool.false_eq_true, if_false, List.isEmpty_nil, Bool.not_true, List.zip_nil_right, hfm, Array.toList_empty]
theorem cellsFrom_has {x : Str} : ∀ (names : List (Str × NameKind)) (k : Nat) (acc : List (Str × Addr)), ((x, NameKind.cell) ∈ names ∨ (acc.lookup x).isSome = true) → ((cellsFrom k names acc).lookup x).isSome = true
  | [], k, acc, h => by
    rcases h with h | h
    · cases h
    · exact h
  | (y, kd) :: r, k, acc, h => by
    unfold cellsFrom
    split
    · rename_i hk
      refine cellsFrom_has r _ _ ?_
      rcases h with h | h
      · rcases List.mem_cons.1 h with q | q
        · right; cases q; simp [List.lookup_cons]
        · exact .inl q
      · right
        rw [List.lookup_cons]
        split
        · rfl
        · exact h
    · rename_i hk
      refine cellsFrom_has r _ _ ?_
      rcases h with h | h
      · rcases List.mem_cons.1 h with q | q
        · cases q; simp at hk
        · exact .inl q
      · exact .inr h
noncomputable def codeIn (K : PySem.W.Frag) (cd : Value) (q : Str) : Bool := match cd with
  | .ref c => (match K.lookup c with
    | some o => (match o.data with
      | .fields vs => (match (vs.toList[1]? : Option Value) with | some (.str q' _) => q' == q | _ => false)
      | _ => false)
    | none => false)
  | _ => false
theorem codeRec_of {K : PySem.W.Frag} {h : Heap} (X : K.In h) {cd : Value} {q : Str} (e : codeIn K cd q = true) : h.CodeRec cd q := by
  unfold codeIn at e
  split at e <;> try (cases e; done)
  rename_i c
  split at e <;> try (cases e; done)
  rename_i o ho
  split at e <;> try (cases e; done)
  rename_i vs hvs
  split at e <;> try (cases e; done)
  rename_i q' t hq
  have := beq_iff_eq.mp e
  subst this
  exact ⟨c, o, vs, t, rfl, X _ _ ho, hvs, by simpa using hq⟩
noncomputable def nmOk (nm : Nm) (k : Nat) : Bool := decide (nm.map (·.2)).Nodup && nm.all fun p => decide (p.2 < k)
theorem nm_inj {nm : Nm} {k : Nat} (h : nmOk nm k = true) : ∀ x y j, nm.lookup x = some j → nm.lookup y = some j → x = y := by
  unfold nmOk at h
  simp only [Bool.and_eq_true, decide_eq_true_eq] at h
  intro x y j h1 h2
  have m1 := mem_of_lookup h1
  have m2 := mem_of_lookup h2
  obtain ⟨a, ha, ea⟩ := List.getElem_of_mem m1
  obtain ⟨b, hb, eb⟩ := List.getElem_of_mem m2
  have : (nm.map (·.2))[a]? = (nm.map (·.2))[b]? := by
    simp only [List.getElem?_map, List.getElem?_eq_getElem ha, List.getElem?_eq_getElem hb, ea, eb, Option.map_some]
  have hab := (List.getElem?_inj (by simpa using ha) h.1).mp this
  subst hab
  rw [ea] at eb
  exact (Prod.mk.inj eb).1
theorem nm_low {nm : Nm} {k : Nat} (h : nmOk nm k = true) : ∀ x j, nm.lookup x = some j → j < k := by
  unfold nmOk at h
  simp only [Bool.and_eq_true, List.all_eq_true, decide_eq_true_eq] at h
  exact fun x j l => h.2 _ (mem_of_lookup l)
noncomputable def parOk (nm : Nm) (sc : Scope) : Nat → List Str → Bool
  | _, [] => true
  | k, x :: r => nm.lookup x == some k && (sc.names.lookup x == some .local || sc.names.lookup x == some .cell) && parOk nm sc (k + 1) r
theorem par_of {nm : Nm} {sc : Scope} : ∀ (l : List Str) (o : Nat), parOk nm sc o l = true → ∀ k x, l[k]? = some x → nm.lookup x = some (o + k) ∧ (sc.names.lookup x = some .local ∨ sc.names.lookup x = some .cell)
  | [], o, _, k, x, h => by simp at h
  | y :: r, o, h, k, x, hx => by
    simp only [parOk, Bool.and_eq_true, Bool.or_eq_true] at h
    cases k with
    | zero => simp at hx; subst hx; exact ⟨beq_iff_eq.mp h.1.1, h.1.2.elim (fun q => .inl (beq_iff_eq.mp q)) fun q => .inr (beq_iff_eq.mp q)⟩
    | succ k =>
      have := par_of r (o + 1) h.2 k x (by simpa using hx)
      rw [show o + (k + 1) = o + 1 + k by omega]; exact this
noncomputable def plainPars (p : Arguments) : Bool := p.posonlyargs.isEmpty && p.vararg.isNone && p.kwonlyargs.isEmpty && p.kw_defaults.isEmpty && p.kwarg.isNone && p.defaults.isEmpty
theorem plain_of {p : Arguments} (h : plainPars p = true) : p = { posonlyargs := [], args := p.args, vararg := none, kwonlyargs := [], kw_defaults := [], kwarg := none, defaults := [] } := by
  obtain ⟨a, b, c, d, e, f, g⟩ := p
  unfold plainPars at h
  simp only [Bool.and_eq_true, List.isEmpty_iff, Option.isNone_iff_eq_none] at h
  obtain ⟨⟨⟨⟨⟨h1, h2⟩, h3⟩, h4⟩, h5⟩, h6⟩ := h
  subst h1 h2 h3 h4 h5 h6
  rfl
noncomputable def onFunc (e : Data) (k : FuncData → Bool) : Bool := dite (e.ctorIdx = 7) (fun h => @Data.func.elim (fun _ => Bool) e h k) fun _ => false
theorem onFunc_inv {P : Prop} {e : Data} {k : FuncData → Bool} (h : onFunc e k = true) (f : ∀ a0, e = Data.func a0 → k a0 = true → P) : P :=
  if q : e.ctorIdx = 7 then @Data.func.elim (fun x => e = x → onFunc x k = true → P) e q f rfl h else (Bool.false_ne_true ((dif_neg q).symm.trans h)).elim
noncomputable def onStmts (e : FuncBody) (k : List Stmt → Bool) : Bool := dite (e.ctorIdx = 0) (fun h => @FuncBody.stmts.elim (fun _ => Bool) e h k) fun _ => false
theorem onStmts_inv {P : Prop} {e : FuncBody} {k : List Stmt → Bool} (h : onStmts e k = true) (f : ∀ a0, e = FuncBody.stmts a0 → k a0 = true → P) : P :=
  if q : e.ctorIdx = 0 then @FuncBody.stmts.elim (fun x => e = x → onStmts x k = true → P) e q f rfl h else (Bool.false_ne_true ((dif_neg q).symm.trans h)).elim
noncomputable def onRef (e : Value) (k : Addr → Bool) : Bool := dite (e.ctorIdx = 10) (fun h => @Value.ref.elim (fun _ => Bool) e h k) fun _ => false
theorem onRef_inv {P : Prop} {e : Value} {k : Addr → Bool} (h : onRef e k = true) (f : ∀ a0, e = Value.ref a0 → k a0 = true → P) : P :=
  if q : e.ctorIdx = 10 then @Value.ref.elim (fun x => e = x → onRef x k = true → P) e q f rfl h else (Bool.false_ne_true ((dif_neg q).symm.trans h)).elim
noncomputable def onInt (e : Value) (k : Int → Tok → Bool) : Bool := dite (e.ctorIdx = 4) (fun h => @Value.int.elim (fun _ => Bool) e h k) fun _ => false
theorem onInt_inv {P : Prop} {e : Value} {k : Int → Tok → Bool} (h : onInt e k = true) (f : ∀ a0 a1, e = Value.int a0 a1 → k a0 a1 = true → P) : P :=
  if q : e.ctorIdx = 4 then @Value.int.elim (fun x => e = x → onInt x k = true → P) e q f rfl h else (Bool.false_ne_true ((dif_neg q).symm.trans h)).elim
noncomputable def onStr (e : Value) (k : Str → Tok → Bool) : Bool := dite (e.ctorIdx = 6) (fun h => @Value.str.elim (fun _ => Bool) e h k) fun _ => false
theorem onStr_inv {P : Prop} {e : Value} {k : Str → Tok → Bool} (h : onStr e k = true) (f : ∀ a0 a1, e = Value.str a0 a1 → k a0 a1 = true → P) : P :=
  if q : e.ctorIdx = 6 then @Value.str.elim (fun x => e = x → onStr x k = true → P) e q f rfl h else (Bool.false_ne_true ((dif_neg q).symm.trans h)).elim
theorem isNone_of {v : Value} (h : v.ctorIdx.beq (Value.none).ctorIdx = true) : v = .none := by cases v <;> first | rfl | exact (Bool.false_ne_true h).elim
noncomputable def headChk (K : PySem.W.Frag) (o : Obj) (fd : FuncData) : Bool :=
  (fd.globals == mainGlobals && fd.builtins == builtinsNs && fd.closure.isEmpty && !fd.scope.isCoroutine && !fd.scope.isGenerator && fd.scope.kind == .function) && (codeIn K fd.code fd.qualname && plainPars fd.params && fd.defaults.ctorIdx.beq (Value.none).ctorIdx &&
    decide (fd.params.args.map (·.arg)).Nodup) && o.cls == .type "function"
structure HeadOk (h : Heap) (o : Obj) (fd : FuncData) : Prop where
  glob : fd.globals = mainGlobals
  bui : fd.builtins = builtinsNs
  clos : fd.closure = []
  co : fd.scope.isCoroutine = false
  gen : fd.scope.isGenerator = false
  kind : fd.scope.kind = .function
  code : h.CodeRec fd.code fd.qualname
  binds : ∀ vals : List Value, vals.length = (fd.params.args.map (·.arg)).length → bindArgs fd ⟨vals, []⟩ = pure ((fd.params.args.map (·.arg)).zip vals)
  nd : (fd.params.args.map (·.arg)).Nodup
theorem head_of {K : PySem.W.Frag} {h : Heap} {o : Obj} {fd : FuncData} (X : K.In h) (q : headChk K o fd = true) : HeadOk h o fd :=
  have a := and6 (and3 q).1
  have b := and4 (and3 q).2.1
  ⟨beq_inv a.1, beq_inv a.2.1, nil_inv a.2.2.1, not_inv a.2.2.2.1, not_inv a.2.2.2.2.1, beq_inv a.2.2.2.2.2, codeRec_of X b.1, bindArgs_plain (plain_of b.2.1) (isNone_of b.2.2.1) (of_decide_eq_true b.2.2.2), of_decide_eq_true b.2.2.2⟩
noncomputable def fnChk (K : PySem.W.Frag) (fns : List Fn) (gs : Gs) (nm : Nm) (f : Addr) (i : Nat) : Bool := onSome (K.lookup f) fun o => onSome fns[i]? fun fn => onFunc o.data fun fd => onStmts fd.body fun body =>
  headChk K o fd && ((fd.params.args.map (·.arg)).length == fn.pars && nmOk nm fn.names && parOk nm fd.scope 0 (fd.params.args.map (·.arg)) && decide (fn.pars ≤ fn.names) &&
    decide ((cellsFrom 0 fd.scope.names []).map (·.1)).Nodup && (fn.init.isNone && (!quietFn i || !loud nm))) && chkB gs fn.body nm fd.scope body
theorem fn_of {Γ : Cx} (X : Γ.K.In Γ.base) {nm : Nm} {f : Addr} {i : Nat} (h : fnChk Γ.K Γ.fns Γ.gs nm f i = true) : Nonempty (FnIs Γ f i) :=
  onSome_inv h fun o ho h => onSome_inv h fun fn hfn h => onFunc_inv h fun fd hfd h => onStmts_inv h fun body hbody h =>
    have H := head_of X (and3 h).1
    have q := and6 (and3 h).2.1
    have hl := beq_inv q.1
    ⟨{ fn := fn, o := o, fd := fd, body := body, nm := nm, pn := fd.params.args.map (·.arg), here := X _ _ ho, data := hfd, ofi := hfn, bod := hbody, glob := H.glob, bui := H.bui, clos := H.clos, co := H.co, gen := H.gen, kind := H.kind, code := H.code, binds := fun vals hv => H.binds vals (hv.trans hl.symm), pnl := hl, pnn := H.nd, par := fun k x hx => (Nat.zero_add k) ▸ par_of _ 0 q.2.2.1 k x hx, inj := nm_inj q.2.1, low := nm_low q.2.1, le := of_decide_eq_true q.2.2.2.1, cells := of_decide_eq_true q.2.2.2.2.1, cellof := fun x hx k => cellsFrom_has _ _ _ (.inl (mem_of_lookup hx)), ini := none_inv (and_inv q.2.2.2.2.2).1, quiet := fun z => not_inv (notb (and_inv q.2.2.2.2.2).2 z), chk := (and3 h).2.2 }⟩
end Mine
namespace Mine
open PySem PySem.Calls PyProof.Rows
noncomputable def dictRows : List DictEntry → List (List Nat × Int) → Bool
  | [], k => k.isEmpty
  | e :: r, k => onStr e.key fun x _ => onInt e.val fun i _ => onCons k fun p q => p.1 == x.cps.toList && p.2 == i && dictRows r q
theorem toList_inj {x s : Str} (q : s.cps.toList = x.cps.toList) : x = s := by
  obtain ⟨a⟩ := x; obtain ⟨b⟩ := s
  congr 1
  exact (Array.toList_inj.mp q).symm
theorem dict_find {s : Str} : ∀ {l : List DictEntry} {k : List (List Nat × Int)}, dictRows l k = true → (k.lookup s.cps.toList = none ∧ (l.find? fun e => Value.isStrOf s e.key).map (·.val) = none) ∨ ∃ i t, k.lookup s.cps.toList = some i ∧ (l.find? fun e => Value.isStrOf s e.key).map (·.val) = some (.int i t)
  | [], k, h => by cases nil_inv h; exact .inl ⟨rfl, rfl⟩
  | e :: r, k, h => onStr_inv (k := fun x _ => onInt e.val fun i _ => onCons k fun p q => p.1 == x.cps.toList && p.2 == i && dictRows r q) h fun x t hk h => onInt_inv h fun i u hv h => onCons_inv h fun p q hq h => by
    obtain ⟨hsh, key, val⟩ := e
    obtain ⟨p1, p2⟩ := p
    dsimp only at hk hv
    have e1 : p1 = x.cps.toList := beq_inv (and3 h).1
    have e2 : p2 = i := beq_inv (and3 h).2.1
    subst hk hv hq e1 e2
    rw [List.lookup_cons, List.find?_cons]
    show (match s.cps.toList == x.cps.toList with | true => _ | false => _) = _ ∧ Option.map _ (match x == s with | true => _ | false => _) = _ ∨ _
    by_cases e : x = s
    · subst e
      exact .inr ⟨p2, u, by simp, by simp [Value.isStrOf]⟩
    · have h1 : (x == s) = false := by simp [e]
      have h2 : (s.cps.toList == x.cps.toList) = false := beq_eq_false_iff_ne.mpr fun q => e (toList_inj q)
      have h3 : Value.isStrOf s (.str x t) = false := h1
      simp only [h1, h2, h3]
      exact dict_find (and3 h).2.2
noncomputable def onDictD (e : Data) (k : Array DictEntry → Nat → Bool) : Bool := dite (e.ctorIdx = 3) (fun h => @Data.dict.elim (fun _ => Bool) e h k) fun _ => false
theorem onDictD_inv {P : Prop} {e : Data} {k : Array DictEntry → Nat → Bool} (h : onDictD e k = true) (f : ∀ a0 a1, e = Data.dict a0 a1 → k a0 a1 = true → P) : P :=
  if q : e.ctorIdx = 3 then @Data.dict.elim (fun x => e = x → onDictD x k = true → P) e q f rfl h else (Bool.false_ne_true ((dif_neg q).symm.trans h)).elim
noncomputable def dictChk (K : PySem.W.Frag) (a : Addr) (k : List (List Nat × Int)) : Bool := onSome (K.lookup a) fun o => onDictD o.data fun es _ => o.cls == .type "dict" && o.dict.isNone && o.slots.isEmpty && dictRows es.toList k && a != sysModules
theorem dictChk_inv {P : Prop} {K : PySem.W.Frag} {a : Addr} {k : List (List Nat × Int)} (h : dictChk K a k = true) (f : ∀ es n, K.lookup a = some ⟨.type "dict", none, .dict es n, #[]⟩ → dictRows es.toList k = true → (a != sysModules) = true → P) : P :=
  onSome_inv h fun o ho h => onDictD_inv h fun es n hd h => by
    obtain ⟨c, d, dt, sl⟩ := o
    dsimp only at hd
    have q := and4 (and_inv h).1
    have h1 : c = .type "dict" := beq_inv q.1
    have h2 : d = none := none_inv q.2.1
    have h3 : sl = #[] := Array.isEmpty_iff.mp q.2.2.1
    subst h1 h2 h3 hd
    exact f es n ho q.2.2.2 (and_inv h).2
noncomputable def topV (K : PySem.W.Frag) (x : Str) (k : Value → Bool) : Bool := onSome (PySem.W.nsIn K mainGlobals x) fun o => onSome o k
noncomputable def topRef (K : PySem.W.Frag) (x : Str) (k : Addr → Bool) : Bool := topV K x fun v => onRef v k
theorem topV_inv {P : Prop} {K : PySem.W.Frag} {x : Str} {k : Value → Bool} (h : topV K x k = true) (f : ∀ v, PySem.W.nsIn K mainGlobals x = some (some v) → k v = true → P) : P :=
  onSome_inv h fun _ e h => onSome_inv h fun v e' h => f v (e' ▸ e) h
theorem topRef_inv {P : Prop} {K : PySem.W.Frag} {x : Str} {k : Addr → Bool} (h : topRef K x k = true) (f : ∀ a, PySem.W.nsIn K mainGlobals x = some (some (.ref a)) → k a = true → P) : P :=
  topV_inv h fun _ e h => onRef_inv h fun a e' h => f a (e' ▸ e) h
noncomputable def gChk (K : PySem.W.Frag) (fns : List Fn) (gs : Gs) (nms : Nat → Nm) (C : Addr) (xs : List (Nat × Addr)) (x : Str) (g : G) : Bool := match g with
  | .cI i => topV K x fun v => onInt v fun j _ => j == i
  | .cS s => topV K x fun v => onStr v fun y _ => y.cps.toList == s && PyData.strOk y && decide (s.length ≤ 1000)
  | .bi _ => onSome (PySem.W.nsIn K mainGlobals x) fun o => o.isNone
  | .fn i => topRef K x fun f => fnChk K fns gs (nms i) f i
  | .dict k => topRef K x fun a => dictChk K a k
  | .cls _ => false
  | .meth _ => false
  | .exc c => match c with
    | 0 => onSome (PySem.W.nsIn K mainGlobals x) fun o => o.isNone
    | c + 1 => topRef K x fun a => xs.lookup (c + 1) == some a
section
variable {Γ : Cx} {nms : Nat → Nm} {xs : List (Nat × Addr)}
theorem g_of {p : Program} {lo : List Str} (X : Γ.K.In Γ.base) (T : PySem.W.TopRead p lo Γ.mg Γ.mb Γ.base) (M : Γ.base.Ns mainGlobals Γ.mg) (H6 : ∀ c C, xs.lookup c = some C → PySem.W.excIn Γ.K C bmV "ValueError.__new__" = true) (HB : ∀ x v, Γ.gs.lookup x = some (.bi v) → Γ.mb x = some v) (HV : ∀ x, Γ.gs.lookup x = some (.exc 0) → Γ.mb x = some (.type "ValueError")) (hx : ∀ c, Γ.exc c = xs.lookup c)
    {x : Str} {g : G} (hl : Γ.gs.lookup x = some g) (h : gChk Γ.K Γ.fns Γ.gs nms Γ.shopC xs x g = true) (hnd : ∀ k, g ≠ .dict k) : GOk Γ x g := by
  cases g with
  | cI i => exact topV_inv h fun v e h => onInt_inv h fun j t e' h => ⟨t, PySem.W.mg_of X M (beq_inv h ▸ e' ▸ e)⟩
  | cS s =>
    exact topV_inv h fun v e h => onStr_inv h fun y t e' h => by
      have h1 : y.cps.toList = s := beq_inv (and3 h).1
      subst h1 e'
      exact ⟨⟨t, PySem.W.mg_of X M e⟩, (and3 h).2.1, Nat.le_trans (of_decide_eq_true (and3 h).2.2) (by decide)⟩
  | bi v => exact onSome_inv h fun o e h => ⟨PySem.W.mg_none_of X M (none_inv h ▸ e), HB x v hl⟩
  | fn i => exact topRef_inv h fun f e h => ⟨f, PySem.W.mg_of X M e, fn_of X h⟩
  | dict k => exact absurd rfl (hnd k)
  | cls i => exact (Bool.false_ne_true h).elim
  | meth i => exact (Bool.false_ne_true h).elim
  | exc c =>
    cases c with
    | zero => exact onSome_inv h fun o e h => ⟨PySem.W.mg_none_of X M (none_inv h ▸ e), HV x hl⟩
    | succ c => exact topRef_inv h fun a e h => ⟨a, PySem.W.mg_of X M e, (hx _).trans (beq_inv h), PySem.W.own_of_in X T e (H6 _ _ (beq_inv h))⟩
noncomputable def excChk (K : PySem.W.Frag) (xs : List (Nat × Addr)) : Bool := onSome (xs.lookup 1) fun T => xs.all fun p =>
  (PySem.W.excIn K p.2 bmV "ValueError.__new__" && excGet K p.2 && PySem.W.kitOne K (.ref p.2) (.type "ValueError") == some true && PySem.W.exmOne K (.ref p.2) (.ref T) == some true) && xs.all fun q => PySem.W.kitOne K (.ref p.2) (.ref q.2) == some (q.1.beq p.1 || q.1.ble 1)
theorem mem_lookupN {c : Nat} {C : Addr} : ∀ {l : List (Nat × Addr)}, l.lookup c = some C → (c, C) ∈ l
  | [], h => by cases h
  | (d, D) :: r, h => by
    rw [List.lookup_cons] at h
    by_cases e : c = d
    · subst e
      rw [beq_self_eq_true] at h
      cases h
      exact List.mem_cons_self ..
    · rw [beq_eq_false_iff_ne.mpr e] at h
      exact List.mem_cons_of_mem _ (mem_lookupN h)
theorem exc_of (hx : ∀ c, Γ.exc c = xs.lookup c) (h : excChk Γ.K xs = true) : ExcOk Γ := onSome_inv h fun T hT h => by
  have ha := fun c C (e : Γ.exc c = some C) => and_inv (List.all_eq_true.mp h (c, C) (mem_lookupN ((hx c).symm.trans e)))
  refine ⟨⟨T, (hx 1).trans hT⟩, fun c C e => (and4 (ha c C e).1).2.1, fun c C d D e f => beq_inv (List.all_eq_true.mp (ha c C e).2 (d, D) (mem_lookupN ((hx d).symm.trans f))), fun c C e => beq_inv (and4 (ha c C e).1).2.2.1, fun c C T' e f => ?_⟩
  have : T' = T := Option.some.inj (((hx 1).symm.trans f).symm.trans hT)
  subst this
  exact beq_inv (and4 (ha c C e).1).2.2.2
theorem exc_in {K : PySem.W.Frag} (h : excChk K xs = true) (c : Nat) (C : Addr) (e : xs.lookup c = some C) : PySem.W.excIn K C bmV "ValueError.__new__" = true := onSome_inv h fun T hT h => (and4 (and_inv (List.all_eq_true.mp h (c, C) (mem_lookupN e))).1).1
theorem mem_lookup_gs : ∀ {gs : Gs} {x : Str} {g : G}, gs.lookup x = some g → (x, g) ∈ gs := fun h => mem_of_lookup h
end
end Mine
namespace Mine
open PySem PySem.Calls PyProof.Rows
theorem ints_rep {Z : Led} {vs : List Value} {ns : List Int} (h : IntsAre vs ns) : RepL Z vs (ns.map Dat.int) := by
  induction h with
  | nil => exact .nil
  | cons n t _ ih => exact .cons (.int n t) ih
theorem aok_caller {n : Nat} (hn : n ≤ 300) : AOk n callerA := by
  refine ⟨?_, ?_⟩
  · show 1 + claimMargin + 2 * n < recursionLimit
    have : claimMargin = 300 := rfl
    have : recursionLimit = 1000 := rfl
    lia
  · show 4 + 8 * n + 200 ≤ cLine
    have : cLine = 9900 := rfl
    lia
theorem law_run {Γ : Cx} (hu : Γ.up = []) (C : CxOk Γ) {fa : Addr} {i : Nat} (F : FnIs Γ fa i) (s : Shared) (hb : Γ.base = s.heap) {l : Addr} {vs : List Value} {ns : List Int} {k : Nat}
    (hl : s.heap.get? l = some { cls := .type "list", data := .seq vs.toArray k }) (hi : IntsAre vs ns) (hlen : ns.length ≤ 63) (n : Nat) (hn : n ≤ 300) (hr : callF Γ.fns n i [.sh (.lst (ns.map .int))] = .ok (.sh (.bool true)))
    {Q E : Value → Shared → Prop} (hQ : ∀ h' tk, (∀ b o, s.heap.get? b = some o → h'.get? b = some o) → Q (.bool true) { s with heap := h', toks := tk }) : wpAny (model Γ.prog Γ.w) callerA (call (.ref fa) [.ref l]) Q E s := by
  have S : SndC Γ n (callF Γ.fns n) := by
    have := snd_calls C n []
    rw [← hu] at this
    exact this
  have hvl : vs.length = ns.length := hi.length
  have rep : RepVs Γ s.heap.get? s.heap [.ref l] [.sh (.lst (ns.map .int))] := .cons (show Rep s.heap.get? (.ref l) (.lst _) from .lst (n := k) hl (by rw [hvl]; exact Nat.le_trans hlen (by decide)) (ints_rep hi)) rfl .nil
  have G : Gnd Γ s.heap.get? s.heap := ⟨fun _ _ e => e, fun _ _ _ => trivial, fun a o e => by rw [hb] at e; exact e, fun L hL => by rw [hu] at hL; cases hL⟩
  have E0 := S i fa F callerA (callEnvC F.fd 0 fa) s.heap.get? s [.ref l] [.sh (.lst (ns.map .int))] ⟨aok_caller hn, fun _ => rfl, [], rfl, fun e he => by cases he⟩ G rep
  rw [hr] at E0
  refine E0 (by simp) Q E (fun x v Z' h' tk e g p => ?_) (fun c e Z' h' tk q g xp => by cases q)
  cases e
  have p : Rep Z' v (.bool true) := p
  cases p
  exact hQ h' tk fun b o e => (g.kp b o e).1 (.inl e)
end Mine
namespace Mine
open PySem PySem.Calls PyProof.Rows
noncomputable def dictAt (K : PySem.W.Frag) (a : Addr) : List DictEntry := match K.lookup a with
  | some ⟨_, _, .dict es _, _⟩ => es.toList
  | _ => []
noncomputable def topAddr (K : PySem.W.Frag) (x : Str) : Addr := match PySem.W.nsIn K mainGlobals x with
  | some (some (.ref a)) => a
  | _ => 0
noncomputable def rehash (P : Params) : List DictEntry → List DictEntry
  | [] => []
  | e :: r => (match e.key with | .str x t => ⟨PyData.keyHash P x, .str x t, e.val⟩ | _ => ⟨e.hash + 1, e.key, e.val⟩) :: rehash P r
theorem keysLit_of {P : Params} : ∀ {l : List DictEntry}, l = rehash P l → PySem.W.KeysLit P l
  | [], _ => trivial
  | e :: r, h => by
    rw [rehash] at h
    injection h with h1 h2
    refine ⟨?_, keysLit_of h2⟩
    cases hk : e.key with
    | str x t => rw [hk] at h1; exact ⟨x, t, rfl, by rw [h1]⟩
    | _ =>
      rw [hk] at h1
      have := congrArg DictEntry.hash h1
      dsimp only at this
      omega
noncomputable def biChk (gs : Gs) : Bool := gs.all fun p => match p.2 with
  | .bi v => p.1 != ("__name__" : Str) && bootBuiltins p.1 == some v
  | .exc c => !c.beq 0 || (p.1 != ("__name__" : Str) && bootBuiltins p.1 == some (.type "ValueError"))
  | _ => true
noncomputable def dictOnly (gs : Gs) (x : Str) : Bool := gs.all fun p => match p.2 with
  | .dict k => p.1 == x && !k.isEmpty
  | _ => true
theorem cx_all {p : Program} {lo : List Str} {prog : Program} {w : World} {h : Heap} {mg mb : Str → Option Value} {fns : List Fn} {gs : Gs} {nms : Nat → Nm} {shopC : Addr} {K : PySem.W.Frag} {dx : Str} {xs : List (Nat × Addr)} (X : K.In h) (T : PySem.W.TopRead p lo mg mb h)
    (h1 : biChk gs = true) (h2 : dictOnly gs dx = true) (h3 : dictAt K (topAddr K dx) = rehash w.params (dictAt K (topAddr K dx))) (h4 : (gs.all fun p => gChk K fns gs nms shopC xs p.1 p.2) = true) (h6 : excChk K xs = true) :
    CxOk ⟨prog, w, h, mg, mb, fns, gs, shopC, K, [], fun c => xs.lookup c⟩ := by
  have M := T.g
  have hbi := T.builtins
  have hall := List.all_eq_true.mp h4
  have hb := List.all_eq_true.mp h1
  have hd := List.all_eq_true.mp h2
  have HB : ∀ x v, gs.lookup x = some (.bi v) → mb x = some v := fun x v hl => by
    have := hb _ (mem_lookup_gs hl)
    simp only [Bool.and_eq_true, beq_iff_eq, bne_iff_ne, ne_eq] at this
    rw [hbi x this.1, this.2]
  have HV : ∀ x, gs.lookup x = some (.exc 0) → mb x = some (.type "ValueError") := fun x hl => by
    have := hb _ (mem_lookup_gs hl)
    have := notb this rfl
    simp only [Bool.and_eq_true, beq_iff_eq, bne_iff_ne, ne_eq] at this
    rw [hbi x this.1, this.2]
  let Γ : Cx := ⟨prog, w, h, mg, mb, fns, gs, shopC, K, [], fun c => xs.lookup c⟩
  refine ⟨exc_of (Γ := Γ) (fun _ => rfl) h6, fun h' kp b o q => kp.keep _ _ (X b o q), M, T.b, T.nolimit, fun x g hl => ?_⟩
  by_cases hg : ∃ k, g = .dict k
  · obtain ⟨k, rfl⟩ := hg
    have hx := hd _ (mem_lookup_gs hl)
    simp only [Bool.and_eq_true, beq_iff_eq] at hx
    obtain ⟨rfl, hk⟩ := hx
    have hc := hall _ (mem_lookup_gs hl)
    refine topRef_inv hc fun a e hc => dictChk_inv hc fun es n hes q2 q3 => ?_
    have ha : topAddr K x = a := by unfold topAddr; rw [e]
    rw [ha] at h3
    have hda : dictAt K a = es.toList := by unfold dictAt; rw [hes]
    rw [hda] at h3
    refine ⟨a, fun s => findBy Value.isStrOf es s, PySem.W.mg_of X M e, by simpa using q3, fun h' kp => PySem.W.mapOf_K (fun b o q => kp.keep _ _ (X b o q)) hes (keysLit_of h3), fun s => ?_⟩
    have := dict_find (s := s) q2
    obtain ⟨l⟩ := es
    have ef : findBy Value.isStrOf (⟨l⟩ : Array DictEntry) s = (l.find? fun e => Value.isStrOf s e.key).map (·.val) := by
      unfold findBy; rw [List.find?_toArray]
    show _ ∨ _
    simp only [ef]
    exact this
  · have hc := hall _ (mem_lookup_gs hl)
    cases g with
    | dict k => exact absurd ⟨k, rfl⟩ hg
    | _ => exact g_of (Γ := Γ) (nms := nms) (xs := xs) X T M (exc_in h6) HB HV (fun _ => rfl) hl hc (fun k e => by cases e)
end Mine
namespace Mine
noncomputable def t_between : T := (.cons (.ret (.and (.isi .int (.v 0)) (.and (.not (.isi .bool (.v 0))) (.cmp2 .le .le (.v 1) (.v 0) (.v 2))))) .nil)
noncomputable def f_between : Fn := { pars := 3, names := 3, body := t_between }
noncomputable def b_is_name_1 : T := (.cons (.iff (.cmp .notin (.v 1) (.gS [97, 98, 99, 100, 101, 102, 103, 104, 105, 106, 107, 108, 109, 110, 111, 112, 113, 114, 115, 116, 117, 118, 119, 120, 121, 122])) (.cons (.ret (.cB false)) .nil) .nil) .nil)
noncomputable def t_is_name : T := (.cons (.iff (.or (.not (.isi .str (.v 0))) (.not (.cmp2 .le .le (.cI 1) (.bi .len (.cons (.v 0) .nil)) (.gI 8)))) (.cons (.ret (.cB false)) .nil) .nil) (.cons (.for_ [1] (.v 0) b_is_name_1) (.cons (.ret (.cB true)) .nil)))
noncomputable def f_is_name : Fn := { pars := 1, names := 2, body := t_is_name }
noncomputable def b_wants_pairs_1 : T := (.cons (.iff (.or (.not (.isi .tuple (.v 1))) (.cmp .ne (.bi .len (.cons (.v 1) .nil)) (.cI 2))) (.cons (.ret (.cB false)) .nil) .nil) .nil)
noncomputable def t_wants_pairs : T := (.cons (.iff (.not (.isi .tuple (.v 0))) (.cons (.ret (.cB false)) .nil) .nil) (.cons (.for_ [1] (.v 0) b_wants_pairs_1) (.cons (.ret (.cB true)) .nil)))
noncomputable def f_wants_pairs : Fn := { pars := 1, names := 2, body := t_wants_pairs }
noncomputable def b_set_fits_1 : T := (.cons (.iff (.or (.cmp .isin (.idx (.v 3) (.cI 0)) (.v 2)) (.not (.call 0 (.cons (.idx (.v 3) (.cI 1)) (.cons (.cI 1) (.cons (.cI 9) .nil)))))) (.cons (.ret (.cB false)) .nil) .nil) (.cons (.app 2 (.idx (.v 3) (.cI 0))) .nil))
noncomputable def t_set_fits : T := (.cons (.iff (.or (.not (.call 8 (.cons (.v 0) .nil))) (.or (.not (.cmp2 .le .le (.cI 1) (.bi .len (.cons (.v 0) .nil)) (.cI 5))) (.not (.call 0 (.cons (.v 1) (.cons (.cI 0) (.cons (.gI 100000) .nil))))))) (.cons (.ret (.cB false)) .nil) .nil) (.cons (.asgO 2 (.lst .nil)) (.cons (.for_ [3] (.v 0) b_set_fits_1) (.cons (.ret (.cB true)) .nil))))
noncomputable def f_set_fits : Fn := { pars := 2, names := 4, body := t_set_fits }
noncomputable def t_fits : T := (.cons (.iff (.cmp .eq (.idx (.v 0) (.cI 0)) (.cS [109, 111, 114, 101])) (.cons (.ret (.and (.call 0 (.cons (.idx (.v 0) (.cI 2)) (.cons (.cI 2) (.cons (.cI 9) .nil)))) (.call 0 (.cons (.idx (.v 0) (.cI 3)) (.cons (.cI 1) (.cons (.bin .sub (.idx (.v 0) (.cI 2)) (.cI 1)) .nil)))))) .nil) .nil) (.cons (.iff (.cmp .eq (.idx (.v 0) (.cI 0)) (.cS [115, 101, 116])) (.cons (.ret (.call 10 (.cons (.idx (.v 0) (.cI 1)) (.cons (.idx (.v 0) (.cI 2)) .nil)))) .nil) .nil) (.cons (.iff (.cmp .eq (.idx (.v 0) (.cI 0)) (.cS [115, 104, 97, 114, 101])) (.cons (.ret (.call 0 (.cons (.idx (.v 0) (.cI 2)) (.cons (.cI 1) (.cons (.cI 100) .nil))))) .nil) .nil) (.cons (.ret (.and (.cmp .ne (.idx (.v 0) (.cI 1)) (.idx (.v 0) (.cI 2))) (.call 0 (.cons (.idx (.v 0) (.cI 3)) (.cons (.cI 1) (.cons (.gI 100000) .nil)))))) .nil))))
noncomputable def f_fits : Fn := { pars := 1, names := 1, body := t_fits }
noncomputable def t_l_cell_at : T := (.cons (.iff (.cmp .lt (.v 1) (.bi .len (.cons (.v 0) .nil))) (.cons (.ret (.idx (.v 0) (.v 1))) .nil) .nil) (.cons (.ret (.cI 0)) .nil))
noncomputable def f_l_cell_at : Fn := { pars := 2, names := 2, body := t_l_cell_at }
noncomputable def t_l_number : T := (.cons (.iff (.cmp .eq (.bi .len (.cons (.v 0) .nil)) (.cI 0)) (.cons (.ret (.bin .mul (.cI 5003) (.v 1))) .nil) .nil) (.cons (.asg 2 (.bin .add (.bin .add (.idx (.v 0) (.bin .mod (.v 1) (.bi .len (.cons (.v 0) .nil)))) (.bin .mul (.cI 7919) (.bin .fdiv (.v 1) (.bi .len (.cons (.v 0) .nil))))) (.bin .mul (.cI 101) (.v 1)))) (.cons (.ret (.bin .mod (.bin .mul (.v 2) (.cI 48271)) (.cI 2147483647))) .nil)))
noncomputable def f_l_number : Fn := { pars := 2, names := 3, body := t_l_number }
noncomputable def b_l_name_by_1 : T := (.cons (.asg 6 (.bin .add (.v 6) (.idx (.v 2) (.bin .mod (.bin .add (.bin .fdiv (.v 4) (.cI 208)) (.bin .mul (.v 7) (.v 5))) (.cI 26))))) .nil)
noncomputable def t_l_name_by : T := (.cons (.asg 2 (.cS [97, 98, 99, 100, 101, 102, 103, 104, 105, 106, 107, 108, 109, 110, 111, 112, 113, 114, 115, 116, 117, 118, 119, 120, 121, 122])) (.cons (.asg 3 (.cmp .eq (.bin .mod (.bin .fdiv (.call 20 (.cons (.v 0) (.cons (.cI 0) .nil))) (.cI 5)) (.cI 2)) (.cI 1))) (.cons (.asg 4 (.call 21 (.cons (.v 0) (.cons (.bin .add (.cI 1) (.bin .mul (.bin .mul (.cI 3) (.v 1)) (.bi .int (.cons (.not (.v 3)) .nil)))) .nil)))) (.cons (.asg 5 (.bin .add (.cI 1) (.bin .mod (.bin .fdiv (.v 4) (.cI 5408)) (.cI 25)))) (.cons (.asg 6 (.cS [])) (.cons (.for_ [7] (.rng .nil (.bin .add (.cI 1) (.bin .mod (.v 4) (.cI 8))) .nil) b_l_name_by_1) (.cons (.iff (.v 3) (.cons (.asg 8 (.bin .mod (.bin .fdiv (.v 4) (.cI 8)) (.bi .len (.cons (.v 6) .nil)))) (.cons (.asg 9 (.idx (.v 2) (.bin .mod (.bin .add (.bin .fdiv (.v 4) (.cI 64)) (.bin .mul (.cI 5) (.v 1))) (.cI 26)))) (.cons (.asg 6 (.bin .add (.bin .add (.sl (.v 6) .nil (.v 8)) (.v 9)) (.sl (.v 6) (.bin .add (.v 8) (.cI 1)) .nil))) .nil))) .nil) (.cons (.ret (.v 6)) .nil))))))))
noncomputable def f_l_name_by : Fn := { pars := 2, names := 10, body := t_l_name_by }
noncomputable def b_l_kinds_1 : T := (.cons (.asg 4 (.call 21 (.cons (.v 0) (.cons (.bin .add (.bin .mul (.cI 3) (.v 3)) (.cI 2)) .nil)))) (.cons (.asg 5 (.call 22 (.cons (.v 0) (.cons (.v 3) .nil)))) (.cons (.asg 6 (.bin .mod (.bin .fdiv (.v 4) (.cI 1009)) (.cI 100))) (.cons (.iff (.cmp .eq (.bin .mod (.v 4) (.cI 3)) (.cI 0)) (.cons (.asg 6 (.bin .mod (.bin .fdiv (.v 4) (.cI 1009)) (.cI 100001))) .nil) .nil) (.cons (.iff (.cmp .isin (.v 5) (.v 2)) (.cons (.asg 5 (.bin .add (.sl (.v 5) .nil (.cI 7)) (.idx (.cS [97, 98, 99, 100, 101]) (.v 3)))) .nil) .nil) (.cons (.iff (.cmp .notin (.v 5) (.v 2)) (.cons (.app 2 (.v 5)) (.cons (.app 1 (.tup (.cons (.v 5) (.cons (.v 6) .nil)))) .nil)) .nil) .nil))))))
noncomputable def t_l_kinds : T := (.cons (.asgO 1 (.lst .nil)) (.cons (.asgO 2 (.lst .nil)) (.cons (.for_ [3] (.rng .nil (.bin .add (.cI 1) (.bin .mod (.call 20 (.cons (.v 0) (.cons (.cI 0) .nil))) (.cI 5))) .nil) b_l_kinds_1) (.cons (.retO 1) .nil))))
noncomputable def f_l_kinds : Fn := { pars := 1, names := 7, body := t_l_kinds }
noncomputable def b_l_offer_1 : T := (.cons (.iff (.and (.cmp .ne (.idx (.v 7) (.cI 0)) (.v 2)) (.cmp .gt (.bin .mod (.bin .fdiv (.v 4) (.cI 18)) (.cI 3)) (.cI 0))) (.cons (.app 6 (.tup (.cons (.idx (.v 7) (.cI 0)) (.cons (.bin .add (.cI 1) (.bin .mod (.bin .fdiv (.v 4) (.cI 54)) (.idx (.lst (.cons (.cI 1) (.cons (.cI 2) (.cons (.cI 9) .nil)))) (.bin .mod (.bin .fdiv (.v 4) (.cI 486)) (.cI 3))))) .nil)))) .nil) .nil) (.cons (.asg 4 (.bin .fdiv (.v 4) (.cI 3))) .nil))
noncomputable def t_l_offer : T := (.cons (.asg 2 (.idx (.idx (.v 0) (.bin .mod (.bin .fdiv (.v 1) (.cI 4)) (.bi .len (.cons (.v 0) .nil)))) (.cI 0))) (.cons (.asg 3 (.idx (.idx (.v 0) (.bin .mod (.bin .fdiv (.v 1) (.cI 20)) (.bi .len (.cons (.v 0) .nil)))) (.cI 0))) (.cons (.asg 4 (.bin .fdiv (.v 1) (.cI 100))) (.cons (.iff (.and (.cmp .eq (.bin .mod (.v 1) (.cI 4)) (.cI 1)) (.cmp .ne (.v 3) (.v 2))) (.cons (.ret (.tup (.cons (.cS [115, 108, 105, 112]) (.cons (.v 3) (.cons (.v 2) (.cons (.bin .add (.cI 1) (.bin .mod (.v 4) (.idx (.lst (.cons (.cI 100) (.cons (.cI 100000) .nil))) (.bin .mod (.bin .fdiv (.v 4) (.cI 100)) (.cI 2))))) .nil)))))) .nil) .nil) (.cons (.iff (.cmp .eq (.bin .mod (.v 1) (.cI 4)) (.cI 2)) (.cons (.ret (.tup (.cons (.cS [115, 104, 97, 114, 101]) (.cons (.v 2) (.cons (.bin .add (.cI 1) (.bin .mod (.v 4) (.cI 100))) .nil))))) .nil) .nil) (.cons (.iff (.cmp .eq (.bin .mod (.v 1) (.cI 4)) (.cI 3)) (.cons (.asg 5 (.bin .add (.cI 2) (.bin .mod (.v 4) (.cI 8)))) (.cons (.ret (.tup (.cons (.cS [109, 111, 114, 101]) (.cons (.v 2) (.cons (.v 5) (.cons (.bin .add (.cI 1) (.bin .mod (.bin .fdiv (.v 4) (.cI 8)) (.bin .sub (.v 5) (.cI 1)))) .nil)))))) .nil)) .nil) (.cons (.asgO 6 (.lst (.cons (.tup (.cons (.v 2) (.cons (.bin .add (.cI 1) (.bin .mod (.v 4) (.idx (.lst (.cons (.cI 2) (.cons (.cI 9) .nil))) (.bin .mod (.bin .fdiv (.v 4) (.cI 9)) (.cI 2))))) .nil))) .nil))) (.cons (.for_ [7] (.v 0) b_l_offer_1) (.cons (.iff (.cmp .eq (.bin .mod (.bin .fdiv (.v 1) (.cI 11)) (.cI 3)) (.cI 1)) (.cons (.rvs 6) .nil) .nil) (.cons (.ret (.tup (.cons (.cS [115, 101, 116]) (.cons (.mkT (.v 6)) (.cons (.bin .mod (.bin .fdiv (.v 1) (.cI 700)) (.idx (.lst (.cons (.cI 300) (.cons (.cI 100001) .nil))) (.bin .mod (.bin .fdiv (.v 1) (.cI 11)) (.cI 2)))) .nil))))) .nil))))))))))
noncomputable def f_l_offer : Fn := { pars := 2, names := 8, body := t_l_offer }
noncomputable def t_l_offers : T := (.cons (.asg 3 (.bin .mod (.call 20 (.cons (.v 0) (.cons (.cI 2) .nil))) (.cI 7))) (.cons (.iff (.cmp .eq (.bin .mod (.bin .fdiv (.call 20 (.cons (.v 0) (.cons (.cI 2) .nil))) (.cI 7)) (.cI 8)) (.cI 1)) (.cons (.asg 3 (.bin .add (.v 3) (.cI 6))) .nil) .nil) (.cons (.ret (.comp (.call 24 (.cons (.v 1) (.cons (.call 21 (.cons (.v 0) (.cons (.bin .add (.v 2) (.v 4)) .nil))) .nil))) [4] (.rng .nil (.v 3) .nil) .nil)) .nil)))
noncomputable def f_l_offers : Fn := { pars := 3, names := 5, body := t_l_offers }
noncomputable def b_shown_1 : T := (.cons (.app 1 (.v 2)) (.cons (.app 1 (.bi .str (.cons (.v 3) .nil))) .nil))
noncomputable def b_shown_2 : T := (.cons (.app 1 (.bi .str (.cons (.v 4) .nil))) .nil)
noncomputable def t_shown : T := (.cons (.asgO 1 (.lst (.cons (.idx (.v 0) (.cI 0)) .nil))) (.cons (.iff (.cmp .eq (.idx (.v 0) (.cI 0)) (.cS [115, 101, 116])) (.cons (.for_ [2, 3] (.idx (.v 0) (.cI 1)) b_shown_1) (.cons (.app 1 (.cS [97, 116])) (.cons (.app 1 (.bi .str (.cons (.idx (.v 0) (.cI 2)) .nil))) .nil))) (.cons (.for_ [4] (.sl (.v 0) (.cI 1) .nil) b_shown_2) .nil)) (.cons (.ret (.meth .join (.cS [32]) (.cons (.v 1) .nil))) .nil)))
noncomputable def f_shown : Fn := { pars := 1, names := 5, body := t_shown }
noncomputable def b_l_text_1 : T := (.cons (.asgO 1 (.bin .add (.v 1) (.lst (.cons (.idx (.v 3) (.cI 0)) (.cons (.bi .str (.cons (.idx (.v 3) (.cI 1)) .nil)) .nil))))) .nil)
noncomputable def b_l_text_2 : T := (.cons (.iff (.isi .tuple (.v 2)) (.cons (.for_ [3] (.v 2) b_l_text_1) (.cons (.app 1 (.cS [97, 116])) .nil)) (.cons (.app 1 (.bi .str (.cons (.v 2) .nil))) .nil)) .nil)
noncomputable def t_l_text : T := (.cons (.asgO 1 (.lst (.cons (.idx (.v 0) (.cI 0)) .nil))) (.cons (.for_ [2] (.sl (.v 0) (.cI 1) .nil) b_l_text_2) (.cons (.ret (.meth .join (.cS [32]) (.cons (.v 1) .nil))) .nil)))
noncomputable def f_l_text : Fn := { pars := 1, names := 4, body := t_l_text }
noncomputable def t_l_one_class : T := (.cons (.asg 1 (.lst (.cons (.isi (.exc 2) (.v 0)) (.cons (.isi (.exc 3) (.v 0)) (.cons (.isi (.exc 4) (.v 0)) (.cons (.isi (.exc 5) (.v 0)) .nil)))))) (.cons (.asg 1 (.bin .add (.v 1) (.lst (.cons (.isi (.exc 6) (.v 0)) (.cons (.isi (.exc 7) (.v 0)) (.cons (.isi (.exc 8) (.v 0)) .nil)))))) (.cons (.asg 1 (.bin .add (.v 1) (.lst (.cons (.isi (.exc 9) (.v 0)) (.cons (.isi (.exc 10) (.v 0)) .nil))))) (.cons (.ret (.and (.cmp .eq (.meth .count (.v 1) (.cons (.cB true) .nil)) (.cI 1)) (.and (.isi (.exc 1) (.v 0)) (.isi (.exc 0) (.v 0))))) .nil))))
noncomputable def f_l_one_class : Fn := { pars := 1, names := 3, body := t_l_one_class }
noncomputable def b_number_in_1 : T := (.cons (.iff (.cmp .notin (.v 1) (.gS [48, 49, 50, 51, 52, 53, 54, 55, 56, 57])) (.cons (.raise 10 [97, 32, 110, 117, 109, 98, 101, 114, 32, 105, 115, 32, 119, 97, 110, 116, 101, 100]) .nil) .nil) .nil)
noncomputable def t_number_in : T := (.cons (.iff (.or (.not (.cmp2 .le .le (.cI 1) (.bi .len (.cons (.v 0) .nil)) (.gI 6))) (.and (.cmp .eq (.idx (.v 0) (.cI 0)) (.cS [48])) (.cmp .gt (.bi .len (.cons (.v 0) .nil)) (.cI 1)))) (.cons (.raise 10 [97, 32, 110, 117, 109, 98, 101, 114, 32, 105, 115, 32, 119, 97, 110, 116, 101, 100]) .nil) .nil) (.cons (.for_ [1] (.v 0) b_number_in_1) (.cons (.ret (.bi .int (.cons (.v 0) .nil))) .nil)))
noncomputable def f_number_in : Fn := { pars := 1, names := 2, body := t_number_in }
noncomputable def t_name_in : T := (.cons (.iff (.not (.call 1 (.cons (.v 0) .nil))) (.cons (.raise 10 [97, 32, 110, 97, 109, 101, 32, 105, 115, 32, 119, 97, 110, 116, 101, 100]) .nil) .nil) (.cons (.ret (.v 0)) .nil))
noncomputable def f_name_in : Fn := { pars := 1, names := 1, body := t_name_in }
noncomputable def b_set_in_1 : T := (.cons (.app 1 (.tup (.cons (.call 78 (.cons (.idx (.v 0) (.v 2)) .nil)) (.cons (.call 77 (.cons (.idx (.v 0) (.bin .add (.v 2) (.cI 1))) .nil)) .nil)))) .nil)
noncomputable def t_set_in : T := (.cons (.iff (.or (.cmp .lt (.bi .len (.cons (.v 0) .nil)) (.cI 5)) (.or (.cmp .eq (.bin .mod (.bi .len (.cons (.v 0) .nil)) (.cI 2)) (.cI 0)) (.cmp .ne (.idx (.v 0) (.neg (.cI 2))) (.cS [97, 116])))) (.cons (.raise 10 [97, 32, 115, 101, 116, 32, 105, 115, 32, 119, 97, 110, 116, 101, 100]) .nil) .nil) (.cons (.asgO 1 (.lst .nil)) (.cons (.for_ [2] (.rng (.cI 1) (.bin .sub (.bi .len (.cons (.v 0) .nil)) (.cI 2)) (.cI 2)) b_set_in_1) (.cons (.ret (.tup (.cons (.cS [115, 101, 116]) (.cons (.mkT (.v 1)) (.cons (.call 77 (.cons (.idx (.v 0) (.neg (.cI 1))) .nil)) .nil))))) .nil))))
noncomputable def f_set_in : Fn := { pars := 1, names := 3, body := t_set_in }
noncomputable def t_offer_in : T := (.cons (.iff (.cmp .eq (.idx (.v 0) (.cI 0)) (.cS [115, 101, 116])) (.cons (.ret (.call 79 (.cons (.v 0) .nil))) .nil) .nil) (.cons (.iff (.and (.cmp .eq (.idx (.v 0) (.cI 0)) (.cS [109, 111, 114, 101])) (.cmp .eq (.bi .len (.cons (.v 0) .nil)) (.cI 4))) (.cons (.ret (.tup (.cons (.cS [109, 111, 114, 101]) (.cons (.call 78 (.cons (.idx (.v 0) (.cI 1)) .nil)) (.cons (.call 77 (.cons (.idx (.v 0) (.cI 2)) .nil)) (.cons (.call 77 (.cons (.idx (.v 0) (.cI 3)) .nil)) .nil)))))) .nil) .nil) (.cons (.iff (.and (.cmp .eq (.idx (.v 0) (.cI 0)) (.cS [115, 104, 97, 114, 101])) (.cmp .eq (.bi .len (.cons (.v 0) .nil)) (.cI 3))) (.cons (.ret (.tup (.cons (.cS [115, 104, 97, 114, 101]) (.cons (.call 78 (.cons (.idx (.v 0) (.cI 1)) .nil)) (.cons (.call 77 (.cons (.idx (.v 0) (.cI 2)) .nil)) .nil))))) .nil) .nil) (.cons (.iff (.and (.cmp .eq (.idx (.v 0) (.cI 0)) (.cS [115, 108, 105, 112])) (.cmp .eq (.bi .len (.cons (.v 0) .nil)) (.cI 4))) (.cons (.ret (.tup (.cons (.cS [115, 108, 105, 112]) (.cons (.call 78 (.cons (.idx (.v 0) (.cI 1)) .nil)) (.cons (.call 78 (.cons (.idx (.v 0) (.cI 2)) .nil)) (.cons (.call 77 (.cons (.idx (.v 0) (.cI 3)) .nil)) .nil)))))) .nil) .nil) (.cons (.raise 10 [97, 110, 32, 111, 102, 102, 101, 114, 32, 105, 115, 32, 119, 97, 110, 116, 101, 100]) .nil)))))
noncomputable def f_offer_in : Fn := { pars := 1, names := 1, body := t_offer_in }
noncomputable def t_read : T := (.cons (.iff (.not (.isi .str (.v 0))) (.cons (.raise 10 [97, 32, 116, 101, 120, 116, 32, 105, 115, 32, 119, 97, 110, 116, 101, 100]) .nil) .nil) (.cons (.asg 1 (.call 80 (.cons (.meth .split (.v 0) (.cons (.cS [32]) .nil)) .nil))) (.cons (.iff (.not (.call 11 (.cons (.v 1) .nil))) (.cons (.raise 10 [116, 104, 101, 32, 112, 97, 114, 116, 115, 32, 111, 102, 32, 97, 110, 32, 111, 102, 102, 101, 114, 32, 97, 114, 101, 32, 111, 116, 104, 101, 114, 115]) .nil) .nil) (.cons (.ret (.v 1)) .nil))))
noncomputable def f_read : Fn := { pars := 1, names := 2, body := t_read }
noncomputable def t_l_changed_c : T := (.cons (.asg 3 (.cS [32, 33, 34, 35, 36, 38, 39, 40, 41, 42, 43, 44, 45, 46, 47, 48, 49, 50, 51, 52, 53, 54, 55, 56, 57, 58, 59, 60, 61, 62, 63, 64, 65, 66, 67, 68, 69, 70, 71, 72, 73, 74, 75, 76, 77, 78, 79, 80, 81, 82, 83, 84, 85, 86, 87, 88, 89, 90, 91, 92, 93, 94, 95, 96, 97, 98, 99, 100, 101, 102, 103, 104, 105, 106, 107, 108, 109, 110, 111, 112, 113, 114, 115, 116, 117, 118, 119, 120, 121, 122, 123, 124, 125, 126, 10, 9])) (.cons (.asg 4 (.meth .split (.v 0) (.cons (.cS [32]) .nil))) (.cons (.asg 5 (.bin .mod (.v 2) (.bin .add (.bi .len (.cons (.v 0) .nil)) (.cI 1)))) (.cons (.asg 6 (.bin .mod (.v 2) (.bi .len (.cons (.v 4) .nil)))) (.cons (.asg 7 (.idx (.v 3) (.bin .mod (.bin .fdiv (.v 2) (.cI 101)) (.bi .len (.cons (.v 3) .nil))))) (.cons (.iff (.cmp .lt (.v 1) (.cI 2)) (.cons (.ret (.bin .add (.bin .add (.sl (.v 0) .nil (.v 5)) (.v 7)) (.sl (.v 0) (.bin .add (.v 5) (.v 1)) .nil))) .nil) .nil) (.cons (.iff (.cmp .eq (.v 1) (.cI 2)) (.cons (.ret (.bin .add (.sl (.v 0) .nil (.v 5)) (.sl (.v 0) (.bin .add (.v 5) (.cI 1)) .nil))) .nil) .nil) (.cons (.iff (.cmp .eq (.v 1) (.cI 3)) (.cons (.ret (.meth .join (.cS [32]) (.cons (.bin .add (.bin .add (.sl (.v 4) .nil (.v 6)) (.sl (.v 4) (.v 6) (.bin .add (.v 6) (.cI 1)))) (.sl (.v 4) (.v 6) .nil)) .nil))) .nil) .nil) (.cons (.iff (.cmp .eq (.v 1) (.cI 5)) (.cons (.ret (.meth .join (.cS [32]) (.cons (.bin .add (.bin .add (.sl (.v 4) .nil (.v 6)) (.lst (.cons (.bin .add (.cS [48]) (.idx (.v 4) (.v 6))) .nil))) (.sl (.v 4) (.bin .add (.v 6) (.cI 1)) .nil)) .nil))) .nil) .nil) (.cons (.iff (.cmp .eq (.v 1) (.cI 4)) (.cons (.asg 8 (.mkL (.rev (.sl (.v 4) (.v 6) (.bin .add (.v 6) (.cI 2)))))) (.cons (.ret (.meth .join (.cS [32]) (.cons (.bin .add (.bin .add (.sl (.v 4) .nil (.v 6)) (.v 8)) (.sl (.v 4) (.bin .add (.v 6) (.cI 2)) .nil)) .nil))) .nil)) .nil) (.cons (.ret (.meth .join (.cS [32]) (.cons (.bin .add (.sl (.v 4) .nil (.v 6)) (.sl (.v 4) (.bin .add (.v 6) (.cI 1)) .nil)) .nil))) .nil)))))))))))
noncomputable def f_l_changed_c : Fn := { pars := 3, names := 9, body := t_l_changed_c }
noncomputable def t_l_name : T := (.cons (.asg 1 (.comp (.v 2) [2] (.v 0) (.cmp .notin (.v 2) (.cS [97, 98, 99, 100, 101, 102, 103, 104, 105, 106, 107, 108, 109, 110, 111, 112, 113, 114, 115, 116, 117, 118, 119, 120, 121, 122])))) (.cons (.ret (.and (.cmp2 .le .le (.cI 1) (.bi .len (.cons (.v 0) .nil)) (.cI 8)) (.cmp .eq (.bi .len (.cons (.v 1) .nil)) (.cI 0)))) .nil))
noncomputable def f_l_name : Fn := { pars := 1, names := 3, body := t_l_name }
noncomputable def t_l_count : T := (.cons (.iff (.or (.not (.cmp2 .le .le (.cI 1) (.bi .len (.cons (.v 0) .nil)) (.cI 6))) (.cmp .gt (.bi .len (.cons (.comp (.v 3) [3] (.v 0) (.cmp .notin (.v 3) (.cS [48, 49, 50, 51, 52, 53, 54, 55, 56, 57]))) .nil)) (.cI 0))) (.cons (.ret (.cB false)) .nil) .nil) (.cons (.ret (.and (.cmp .eq (.bi .str (.cons (.bi .int (.cons (.v 0) .nil)) .nil)) (.v 0)) (.cmp2 .le .le (.v 1) (.bi .int (.cons (.v 0) .nil)) (.v 2)))) .nil))
noncomputable def f_l_count : Fn := { pars := 3, names := 4, body := t_l_count }
noncomputable def b_l_set_1 : T := (.cons (.iff (.or (.not (.call 83 (.cons (.idx (.v 0) (.v 2)) .nil))) (.not (.call 84 (.cons (.idx (.v 0) (.bin .add (.v 2) (.cI 1))) (.cons (.cI 1) (.cons (.cI 9) .nil)))))) (.cons (.ret .cN) .nil) .nil) (.cons (.iff (.cmp .isin (.idx (.v 0) (.v 2)) (.comp (.idx (.v 3) (.cI 0)) [3] (.v 1) .nil)) (.cons (.ret .cN) .nil) .nil) (.cons (.app 1 (.tup (.cons (.idx (.v 0) (.v 2)) (.cons (.bi .int (.cons (.idx (.v 0) (.bin .add (.v 2) (.cI 1))) .nil)) .nil)))) .nil)))
noncomputable def t_l_set : T := (.cons (.iff (.or (.cmp .lt (.bi .len (.cons (.v 0) .nil)) (.cI 5)) (.or (.cmp .gt (.bi .len (.cons (.v 0) .nil)) (.cI 13)) (.cmp .eq (.bin .mul (.bin .fdiv (.bi .len (.cons (.v 0) .nil)) (.cI 2)) (.cI 2)) (.bi .len (.cons (.v 0) .nil))))) (.cons (.ret .cN) .nil) .nil) (.cons (.iff (.cmp .ne (.idx (.v 0) (.bin .sub (.bi .len (.cons (.v 0) .nil)) (.cI 2))) (.cS [97, 116])) (.cons (.ret .cN) .nil) .nil) (.cons (.asgO 1 (.lst .nil)) (.cons (.for_ [2] (.rng (.cI 1) (.bin .sub (.bi .len (.cons (.v 0) .nil)) (.cI 2)) (.cI 2)) b_l_set_1) (.cons (.iff (.not (.call 84 (.cons (.idx (.v 0) (.bin .sub (.bi .len (.cons (.v 0) .nil)) (.cI 1))) (.cons (.cI 0) (.cons (.cI 100000) .nil))))) (.cons (.ret .cN) .nil) .nil) (.cons (.ret (.tup (.cons (.cS [115, 101, 116]) (.cons (.mkT (.v 1)) (.cons (.bi .int (.cons (.idx (.v 0) (.bin .sub (.bi .len (.cons (.v 0) .nil)) (.cI 1))) .nil)) .nil))))) .nil))))))
noncomputable def f_l_set : Fn := { pars := 1, names := 4, body := t_l_set }
noncomputable def t_l_due_d : T := (.cons (.asg 1 (.meth .split (.v 0) (.cons (.cS [32]) .nil))) (.cons (.iff (.cmp .eq (.idx (.v 1) (.cI 0)) (.cS [115, 101, 116])) (.cons (.ret (.call 85 (.cons (.v 1) .nil))) .nil) .nil) (.cons (.iff (.or (.cmp .lt (.bi .len (.cons (.v 1) .nil)) (.cI 3)) (.not (.call 83 (.cons (.idx (.v 1) (.cI 1)) .nil)))) (.cons (.ret .cN) .nil) .nil) (.cons (.iff (.and (.cmp .eq (.idx (.v 1) (.cI 0)) (.cS [115, 104, 97, 114, 101])) (.and (.cmp .eq (.bi .len (.cons (.v 1) .nil)) (.cI 3)) (.call 84 (.cons (.idx (.v 1) (.cI 2)) (.cons (.cI 1) (.cons (.cI 100) .nil)))))) (.cons (.ret (.tup (.cons (.cS [115, 104, 97, 114, 101]) (.cons (.idx (.v 1) (.cI 1)) (.cons (.bi .int (.cons (.idx (.v 1) (.cI 2)) .nil)) .nil))))) .nil) .nil) (.cons (.iff (.and (.cmp .eq (.idx (.v 1) (.cI 0)) (.cS [109, 111, 114, 101])) (.and (.cmp .eq (.bi .len (.cons (.v 1) .nil)) (.cI 4)) (.call 84 (.cons (.idx (.v 1) (.cI 2)) (.cons (.cI 2) (.cons (.cI 9) .nil)))))) (.cons (.iff (.call 84 (.cons (.idx (.v 1) (.cI 3)) (.cons (.cI 1) (.cons (.bin .sub (.bi .int (.cons (.idx (.v 1) (.cI 2)) .nil)) (.cI 1)) .nil)))) (.cons (.ret (.tup (.cons (.cS [109, 111, 114, 101]) (.cons (.idx (.v 1) (.cI 1)) (.cons (.bi .int (.cons (.idx (.v 1) (.cI 2)) .nil)) (.cons (.bi .int (.cons (.idx (.v 1) (.cI 3)) .nil)) .nil)))))) .nil) .nil) .nil) .nil) (.cons (.iff (.and (.cmp .eq (.idx (.v 1) (.cI 0)) (.cS [115, 108, 105, 112])) (.and (.cmp .eq (.bi .len (.cons (.v 1) .nil)) (.cI 4)) (.and (.call 83 (.cons (.idx (.v 1) (.cI 2)) .nil)) (.cmp .ne (.idx (.v 1) (.cI 1)) (.idx (.v 1) (.cI 2)))))) (.cons (.iff (.call 84 (.cons (.idx (.v 1) (.cI 3)) (.cons (.cI 1) (.cons (.cI 100000) .nil)))) (.cons (.ret (.tup (.cons (.cS [115, 108, 105, 112]) (.cons (.idx (.v 1) (.cI 1)) (.cons (.idx (.v 1) (.cI 2)) (.cons (.bi .int (.cons (.idx (.v 1) (.cI 3)) .nil)) .nil)))))) .nil) .nil) .nil) .nil) (.cons (.ret .cN) .nil)))))))
noncomputable def f_l_due_d : Fn := { pars := 1, names := 2, body := t_l_due_d }
noncomputable def t_l_kind : T := (.cons (.iff (.isi .tuple (.v 0)) (.cons (.ret (.comp (.call 87 (.cons (.v 1) .nil)) [1] (.v 0) .nil)) .nil) .nil) (.cons (.iff (.isi .bool (.v 0)) (.cons (.ret (.cS [116, 114, 117, 116, 104])) .nil) .nil) (.cons (.ret (.ite (.isi .str (.v 0)) (.cS [116, 101, 120, 116]) (.cS [110, 117, 109, 98, 101, 114]))) .nil)))
noncomputable def f_l_kind : Fn := { pars := 1, names := 2, body := t_l_kind }
noncomputable def t_l_told_c : T := (.cons (.try_ (.cons (.ret (.call 81 (.cons (.v 0) .nil))) .nil) 1 1 (.cons (.ret (.ite (.and (.isi (.exc 10) (.v 1)) (.call 63 (.cons (.v 1) .nil))) .cN (.cS [111, 116, 104, 101, 114]))) .nil)) .nil)
noncomputable def f_l_told_c : Fn := { pars := 1, names := 2, body := t_l_told_c }
noncomputable def b_law11_1 : T := (.cons (.asg 3 (.call 82 (.cons (.v 3) (.cons (.bin .mod (.call 21 (.cons (.v 0) (.cons (.bin .add (.cI 50) (.v 6)) .nil))) (.cI 7)) (.cons (.bin .fdiv (.call 21 (.cons (.v 0) (.cons (.bin .add (.cI 52) (.v 6)) .nil))) (.cI 6)) .nil))))) .nil)
noncomputable def t_law11 : T := (.cons (.asg 1 (.call 23 (.cons (.v 0) .nil))) (.cons (.asg 2 (.call 24 (.cons (.v 1) (.cons (.call 21 (.cons (.v 0) (.cons (.cI 41) .nil))) .nil)))) (.cons (.asg 3 (.call 50 (.cons (.v 2) .nil))) (.cons (.asg 4 (.call 47 (.cons (.v 2) .nil))) (.cons (.asg 5 (.call 88 (.cons (.v 3) .nil))) (.cons (.iff (.or (.not (.isi .str (.v 4))) (.or (.cmp .ne (.v 4) (.v 3)) (.or (.cmp .ne (.v 5) (.v 2)) (.cmp .ne (.call 87 (.cons (.v 5) .nil)) (.call 87 (.cons (.v 2) .nil)))))) (.cons (.ret (.cB false)) .nil) .nil) (.cons (.for_ [6] (.rng .nil (.bin .mod (.call 20 (.cons (.v 0) (.cons (.cI 3) .nil))) (.cI 3)) .nil) b_law11_1) (.cons (.asg 5 (.call 88 (.cons (.v 3) .nil))) (.cons (.asg 7 (.call 86 (.cons (.v 3) .nil))) (.cons (.iff (.or (.cmp .ne (.v 5) (.v 7)) (.and (.isN true (.v 7)) (.cmp .ne (.call 87 (.cons (.v 5) .nil)) (.call 87 (.cons (.v 7) .nil))))) (.cons (.ret (.cB false)) .nil) .nil) (.cons (.ret (.isN false (.call 88 (.cons (.idx (.lst (.cons .cN (.cons (.cI 5) (.cons (.tup (.cons (.cS [109, 111, 114, 101]) (.cons (.cS [97]) (.cons (.cI 2) (.cons (.cI 1) .nil))))) (.cons (.lst (.cons (.cS [115, 104, 97, 114, 101, 32, 97, 32, 53]) .nil)) (.cons (.cS []) .nil)))))) (.bin .mod (.call 20 (.cons (.v 0) (.cons (.cI 4) .nil))) (.cI 5))) .nil)))) .nil)))))))))))
noncomputable def f_law11 : Fn := { pars := 1, names := 8, body := t_law11 }
noncomputable def f_none : Fn := { pars := 0, names := 0, body := .nil }
end Mine
namespace Mine.PL
open Mine
theorem callF_succ {fns : List Fn} {f : Nat} {fn : Fn} (h : fns[f]? = some fn) (n : Nat) (as : List Val) : callF fns (n + 1) f as = runFn (callF fns n) fn as := by
  show (match fns[f]? with | some fn => runFn (callF fns n) fn as | Option.none => .bad) = _
  rw [h]
section
variable {Φ : Nat → List Val → Out Val} {ρ : List Val} {a b c t e : T}
@[scoped simp] theorem ev_cN : ev Φ .cN ρ = .ok (.sh .none) := rfl
@[scoped simp] theorem ev_cB {b} : ev Φ (.cB b) ρ = .ok (.sh (.bool b)) := rfl
@[scoped simp] theorem ev_cI {b} : ev Φ (.cI b) ρ = .ok (.sh (.int b)) := rfl
@[scoped simp] theorem ev_cS {b} : ev Φ (.cS b) ρ = .ok (.sh (.str b)) := rfl
@[scoped simp] theorem ev_gI {b} : ev Φ (.gI b) ρ = .ok (.sh (.int b)) := rfl
@[scoped simp] theorem ev_gS {b} : ev Φ (.gS b) ρ = .ok (.sh (.str b)) := rfl
@[scoped simp] theorem ev_v {i} : ev Φ (.v i) ρ = rd (ρ.getD i .un) := rfl
@[scoped simp] theorem ev_neg : ev Φ (.neg a) ρ = (ev Φ a ρ >>= intD >>= fun i => .ok (.sh (.int (-i)))) := rfl
@[scoped simp] theorem bin2_ok {o x y} : bin2 o (.ok x) (.ok y) = (needB x >>= fun x => needB y >>= fun y => binD o x y) := rfl
@[scoped simp] theorem cmpB_ok {o x y} : cmpB o (.ok x) (.ok y) = (needB x >>= fun x => needB y >>= fun y => cmpD o x y) := rfl
@[scoped simp] theorem andB_true {y} : andB (.ok true) y = y := rfl
@[scoped simp] theorem andB_false {y} : andB (.ok false) y = .ok false := rfl
@[scoped simp] theorem orB_true {y} : orB (.ok true) y = .ok true := rfl
@[scoped simp] theorem orB_false {y} : orB (.ok false) y = y := rfl
@[scoped simp] theorem andB_ok {x y} : andB (.ok x) (.ok y) = .ok (x && y) := by cases x <;> rfl
@[scoped simp] theorem orB_ok {x y} : orB (.ok x) (.ok y) = .ok (x || y) := by cases x <;> rfl
@[scoped simp] theorem ev_bin {o} : ev Φ (.bin o a b) ρ = bin2 o (ev Φ a ρ) (ev Φ b ρ) := rfl
@[scoped simp] theorem ev_cmp {o} : ev Φ (.cmp o a b) ρ = (cmpB o (ev Φ a ρ) (ev Φ b ρ) >>= fun r => .ok (.sh (.bool r))) := rfl
@[scoped simp] theorem ev_cmp2 {o p} : ev Φ (.cmp2 o p a b c) ρ = ((ev Φ a ρ >>= needB >>= fun x => ev Φ b ρ >>= needB >>= fun y => cmpD o x y >>= fun r =>
    if r then ev Φ c ρ >>= needB >>= fun z => cmpD p y z else .ok false) >>= fun r => .ok (.sh (.bool r))) := rfl
@[scoped simp] theorem isNV_none {n} : isNV n (.sh .none) = .ok (!n) := rfl
@[scoped simp] theorem isNV_int {n i} : isNV n (.sh (.int i)) = .ok n := rfl
@[scoped simp] theorem ev_isN {n} : ev Φ (.isN n a) ρ = (ev Φ a ρ >>= isNV n >>= fun r => .ok (.sh (.bool r))) := rfl
@[scoped simp] theorem ev_not : ev Φ (.not a) ρ = ((ev Φ a ρ >>= boolD >>= fun b => .ok (!b)) >>= fun r => .ok (.sh (.bool r))) := rfl
@[scoped simp] theorem ev_and : ev Φ (.and a b) ρ = (andB (ev Φ a ρ >>= boolD) (ev Φ b ρ >>= boolD) >>= fun r => .ok (.sh (.bool r))) := rfl
@[scoped simp] theorem ev_or : ev Φ (.or a b) ρ = (orB (ev Φ a ρ >>= boolD) (ev Φ b ρ >>= boolD) >>= fun r => .ok (.sh (.bool r))) := rfl
@[scoped simp] theorem ev_ite : ev Φ (.ite c a b) ρ = (ev Φ c ρ >>= boolD >>= fun x => if x then ev Φ a ρ else ev Φ b ρ) := rfl
@[scoped simp] theorem ev_tup : ev Φ (.tup t) ρ = (evT Φ t ρ >>= allD >>= fun r => .ok (.sh (.tup r))) := rfl
@[scoped simp] theorem ev_lst : ev Φ (.lst t) ρ = (evT Φ t ρ >>= allD >>= fun r => .ok (.own r)) := rfl
@[scoped simp] theorem ev_idx : ev Φ (.idx a b) ρ = (ev Φ a ρ >>= fun x => ev Φ b ρ >>= intD >>= fun k => idx2 x k) := rfl
@[scoped simp] theorem idx2_lst {l k} : idx2 (.sh (.lst l)) k = idxL l k := rfl
@[scoped simp] theorem idx2_own {l k} : idx2 (.own l) k = idxL l k := rfl
@[scoped simp] theorem idx2_bor {l k} : idx2 (.bor l) k = idxL l k := rfl
@[scoped simp] theorem idx2_tup {l k} : idx2 (.sh (.tup l)) k = idxL l k := rfl
@[scoped simp] theorem idx2_str {l k} : idx2 (.sh (.str l)) k = idxS l k := rfl
@[scoped simp] theorem idx2_pr0 {d l} : idx2 (.pr d l) 0 = .ok (.sh d) := rfl
@[scoped simp] theorem idx2_pr1 {d l} : idx2 (.pr d l) 1 = .ok (.own l) := rfl
theorem posOf_at {k : Int} {n : Nat} (h0 : 0 ≤ k) (h : k < n) : posOf k n = some k.toNat := (if_pos h0).trans (if_pos h)
theorem idxL_at {l : List Dat} {k : Int} {d : Dat} (h0 : 0 ≤ k) (h : l[k.toNat]? = some d) : idxL l k = .ok (.sh d) := by
  have hl : k.toNat < l.length := (List.getElem?_eq_some_iff.1 h).1
  unfold idxL
  rw [posOf_at h0 (by lia)]
  show (match l[k.toNat]? with | some d => Out.ok (Val.sh d) | Option.none => .bad) = _
  rw [h]
@[scoped simp] theorem idxL_0 {x l} : idxL (x :: l) 0 = .ok (.sh x) := idxL_at (by decide) rfl
@[scoped simp] theorem idxL_1 {x y l} : idxL (x :: y :: l) 1 = .ok (.sh y) := idxL_at (by decide) rfl
@[scoped simp] theorem idxL_2 {x y z l} : idxL (x :: y :: z :: l) 2 = .ok (.sh z) := idxL_at (by decide) rfl
@[scoped simp] theorem idxL_3 {x y z w l} : idxL (x :: y :: z :: w :: l) 3 = .ok (.sh w) := idxL_at (by decide) rfl
theorem idxL_last {l : List Dat} {d : Dat} : idxL (l ++ [d]) (-1) = .ok (.sh d) := by
  have e : posOf (-1) (l ++ [d]).length = some l.length := by
    unfold posOf
    rw [if_neg (by decide), List.length_append, List.length_singleton, if_pos (by lia)]
    congr 1; lia
  unfold idxL
  rw [e]
  show (match (l ++ [d])[l.length]? with | some d => Out.ok (Val.sh d) | Option.none => .bad) = _
  rw [List.getElem?_concat_length]
theorem idxS_at {l : List Nat} {k : Int} {d : Nat} (h0 : 0 ≤ k) (h : l[k.toNat]? = some d) : idxS l k = .ok (.sh (.str [d])) := by
  have hl : k.toNat < l.length := (List.getElem?_eq_some_iff.1 h).1
  unfold idxS
  rw [posOf_at h0 (by lia)]
  show (match l[k.toNat]? with | some d => Out.ok (Val.sh (.str [d])) | Option.none => .bad) = _
  rw [h]
@[scoped simp] theorem sl2_lst {xs l h} : sl2 (.lst xs) l h = .ok (.own (cut l h xs)) := rfl
@[scoped simp] theorem sl2_str {xs l h} : sl2 (.str xs) l h = .ok (.sh (.str (cut l h xs))) := rfl
@[scoped simp] theorem sl2_tup {xs l h} : sl2 (.tup xs) l h = .ok (.sh (.tup (cut l h xs))) := rfl
@[scoped simp] theorem ev_sl : ev Φ (.sl a b c) ρ = (ev Φ a ρ >>= needB >>= fun x => evO Φ b ρ >>= fun l => evO Φ c ρ >>= fun h => sl2 x l h) := rfl
@[scoped simp] theorem evO_nil : evO Φ .nil ρ = .ok Option.none := rfl
@[scoped simp] theorem evO_cI {i} : evO Φ (.cI i) ρ = .ok (some i) := rfl
@[scoped simp] theorem evO_v {i} : evO Φ (.v i) ρ = (rd (ρ.getD i .un) >>= intD >>= fun i => .ok (some i)) := rfl
@[scoped simp] theorem evO_bin {o} : evO Φ (.bin o a b) ρ = (bin2 o (ev Φ a ρ) (ev Φ b ρ) >>= intD >>= fun i => .ok (some i)) := rfl
@[scoped simp] theorem evT_nil : evT Φ .nil ρ = .ok [] := rfl
@[scoped simp] theorem evT_cons : evT Φ (.cons a b) ρ = (ev Φ a ρ >>= argV >>= fun x => evT Φ b ρ >>= fun y => .ok (x :: y)) := rfl
@[scoped simp] theorem ev_call {f} : ev Φ (.call f t) ρ = (evT Φ t ρ >>= Φ f) := rfl
@[scoped simp] theorem ev_new {f} : ev Φ (.new f t) ρ = (evT Φ t ρ >>= fun vs => Φ f (.un :: vs)) := rfl
@[scoped simp] theorem mcall1_shop {f vs x y} : mcall1 Φ f vs (.shop x y) = (vs >>= fun vs => Φ f (.shop x y :: vs)) := rfl
@[scoped simp] theorem ev_mcall {f} : ev Φ (.mcall f a t) ρ = (ev Φ a ρ >>= mcall1 Φ f (evT Φ t ρ)) := rfl
@[scoped simp] theorem ev_bi {f} : ev Φ (.bi f t) ρ = (evT Φ t ρ >>= allB >>= biD f >>= fun d => .ok (.sh d)) := rfl
@[scoped simp] theorem ev_isi {f} : ev Φ (.isi f a) ρ = (ev Φ a ρ >>= isiV f >>= fun d => .ok (.sh (.bool d))) := rfl
@[scoped simp] theorem isiV_sh {f d} : isiV f (.sh d) = isiD f d := rfl
@[scoped simp] theorem isiV_bor {f d} : isiV f (.bor d) = isiD f (.lst d) := rfl
@[scoped simp] theorem isiV_own {f d} : isiV f (.own d) = isiD f (.lst d) := rfl
@[scoped simp] theorem ev_mkL_v {i} : ev Φ (.mkL (.v i)) ρ = (rd (ρ.getD i .un) >>= itemsS >>= fun ds => .ok (.own ds)) := rfl
@[scoped simp] theorem ev_mkT : ev Φ (.mkT a) ρ = (ev Φ a ρ >>= itemsL >>= fun ds => .ok (.sh (.tup ds))) := rfl
@[scoped simp] theorem ev_meth {m} : ev Φ (.meth m a t) ρ = (ev Φ a ρ >>= needB >>= fun x => if meOk m x then evT Φ t ρ >>= allB >>= meD m x else .bad) := rfl
@[scoped simp] theorem attr1_shop {k x y} : attr1 k (.shop x y) = .ok (.sh (.lst (if k then y else x))) := rfl
@[scoped simp] theorem ev_attr {k} : ev Φ (.attr k a) ρ = (ev Φ a ρ >>= attr1 k) := rfl
@[scoped simp] theorem lkI_some {i} : lkI (some i) = .ok (.sh (.int i)) := rfl
@[scoped simp] theorem dg1_str {k s} : dg1 k (.str s) = lk k s := rfl
@[scoped simp] theorem din1_str {k n s} : din1 k n (.str s) = .ok ((k.lookup s).isSome != n) := rfl
@[scoped simp] theorem ev_dget {k} : ev Φ (.dget k a) ρ = (ev Φ a ρ >>= needB >>= dg1 k) := rfl
@[scoped simp] theorem ev_din {k n} : ev Φ (.din k n a) ρ = (ev Φ a ρ >>= needB >>= din1 k n >>= fun r => .ok (.sh (.bool r))) := rfl
noncomputable def compF (Φ : Nat → List Val → Out Val) (elt : T) (tg : List Nat) (c : T) (ρ : List Val) (d : Dat) : Out (Option Dat) := compS (evA Φ elt) tg c (evA Φ c) ρ d
@[scoped simp] theorem ev_comp {tg} : ev Φ (.comp e tg t c) ρ = (its Φ t ρ >>= compL (compF Φ e tg c ρ) >>= fun r => .ok (.own r)) := rfl
@[scoped simp] theorem noX_ok {α : Type} {x : α} : noX (Out.ok x) = .ok x := rfl
theorem compF_nil {tg d} : compF Φ e tg .nil ρ d = noX (bindT tg d ρ >>= fun ρ' => ev Φ e ρ' >>= needD >>= fun x => .ok (some x)) := rfl
theorem compF_if {tg d} (hc : c.isNil = false) : compF Φ e tg c ρ d = noX (bindT tg d ρ >>= fun ρ' => ev Φ c ρ' >>= boolD >>= fun b => if b then ev Φ e ρ' >>= needD >>= fun x => .ok (some x) else .ok Option.none) := by
  show noX (bindT tg d ρ >>= fun ρ' => cond c.isNil (.ok true) (ev Φ c ρ' >>= boolD) >>= fun b => if b then ev Φ e ρ' >>= needD >>= fun x => .ok (some x) else .ok Option.none) = _
  rw [hc]; rfl
theorem rngOk_of {y : Int} (h0 : -1000 ≤ y) (h : y ≤ 1000) : rngD y = .ok (rangeL 0 1 y.toNat) := (rngD_eq y).trans (if_pos (by lia))
@[scoped simp] theorem its_rng1 : its Φ (.rng .nil b .nil) ρ = (ev Φ b ρ >>= intD >>= rngD) := rfl
@[scoped simp] theorem its_rng2I : its Φ (.rng (.cI 1) b .nil) ρ = (ev Φ b ρ >>= intD >>= rngD2 1) := rfl
@[scoped simp] theorem its_zip : its Φ (.zip a b) ρ = (ev Φ a ρ >>= argV >>= itemsS >>= fun x => ev Φ b ρ >>= argV >>= itemsS >>= fun y => .ok (zipD x y)) := rfl
@[scoped simp] theorem its_v {i} : its Φ (.v i) ρ = (rd (ρ.getD i .un) >>= argV >>= itemsV) := rfl
@[scoped simp] theorem its_idx : its Φ (.idx a b) ρ = (ev Φ (.idx a b) ρ >>= argV >>= itemsV) := rfl
@[scoped simp] theorem its_sl : its Φ (.sl a b c) ρ = (ev Φ (.sl a b c) ρ >>= argV >>= itemsV) := rfl
@[scoped simp] theorem its_bin {o} : its Φ (.bin o a b) ρ = (ev Φ (.bin o a b) ρ >>= argV >>= itemsV) := rfl
@[scoped simp] theorem itsF_rng : itsF Φ (.rng a b c) ρ = its Φ (.rng a b c) ρ := rfl
@[scoped simp] theorem itsF_zip : itsF Φ (.zip a b) ρ = (srcV Φ a ρ >>= itemsS >>= fun x => srcV Φ b ρ >>= itemsS >>= fun y => .ok (zipD x y)) := rfl
@[scoped simp] theorem srcF1_sh {d} : srcF1 (.sh d) = .ok (.sh d) := rfl
@[scoped simp] theorem srcF1_bor {d} : srcF1 (.bor d) = .ok (.bor d) := rfl
@[scoped simp] theorem srcV_v {i} : srcV Φ (.v i) ρ = srcF1 (ρ.getD i .un) := rfl
@[scoped simp] theorem srcE1_sh {d} : srcE1 (.sh d) = .ok (.sh d) := rfl
@[scoped simp] theorem srcE1_own {d} : srcE1 (.own d) = .ok (.sh (.lst d)) := rfl
@[scoped simp] theorem itsF_v {i} : itsF Φ (.v i) ρ = (srcF1 (ρ.getD i .un) >>= itemsV) := rfl
@[scoped simp] theorem itsF_idx : itsF Φ (.idx a b) ρ = (ev Φ (.idx a b) ρ >>= srcE1 >>= itemsV) := rfl
@[scoped simp] theorem itsF_call {f} : itsF Φ (.call f b) ρ = (ev Φ (.call f b) ρ >>= srcE1 >>= itemsV) := rfl
@[scoped simp] theorem itsF_sl : itsF Φ (.sl a b c) ρ = (ev Φ (.sl a b c) ρ >>= srcE1 >>= itemsV) := rfl
@[scoped simp] theorem itsF_tup : itsF Φ (.tup a) ρ = (ev Φ (.tup a) ρ >>= srcE1 >>= itemsV) := rfl
@[scoped simp] theorem seq_next {ρ f} : seq (.ok (.next, ρ)) f = f ρ := rfl
@[scoped simp] theorem seq_ret {ρ v f} : seq (.ok (.ret v, ρ)) f = .ok (.ret v, ρ) := rfl
@[scoped simp] theorem ex_nil : ex Φ .nil ρ = .ok (.next, ρ) := rfl
@[scoped simp] theorem ex_cons : ex Φ (.cons a b) ρ = seq (ex Φ a ρ) (ex Φ b) := rfl
@[scoped simp] theorem ex_asg {i} : ex Φ (.asg i e) ρ = (ev Φ e ρ >>= stoV >>= fun x => .ok (.next, ρ.set i x)) := rfl
@[scoped simp] theorem own1_own {l} : own1 (.own l) = .ok (.own l) := rfl
@[scoped simp] theorem ownX_own {f l} : ownX f (.own l) = f l := rfl
@[scoped simp] theorem ex_asgO {i} : ex Φ (.asgO i e) ρ = (ev Φ e ρ >>= own1 >>= fun x => .ok (.next, ρ.set i x)) := rfl
@[scoped simp] theorem ex_app {i} : ex Φ (.app i e) ρ = ownX (fun l => ev Φ e ρ >>= needD >>= fun d => if l.length < line then .ok (.next, ρ.set i (.own (l ++ [d]))) else .bad) (ρ.getD i .un) := rfl
@[scoped simp] theorem ex_seti {i} : ex Φ (.seti i a e) ρ = (ev Φ e ρ >>= needD >>= fun d => ownX (fun l => ev Φ a ρ >>= intD >>= fun j => if 0 ≤ j ∧ j < l.length then .ok (.next, ρ.set i (.own (l.set j.toNat d))) else .bad) (ρ.getD i .un)) := rfl
@[scoped simp] theorem ex_rvs {i} : ex Φ (.rvs i) ρ = ownX (fun l => .ok (.next, ρ.set i (.own l.reverse))) (ρ.getD i .un) := rfl
@[scoped simp] theorem ex_frz {i} : ex Φ (.frz i) ρ = ownX (fun l => .ok (.next, ρ.set i (.sh (.lst l)))) (ρ.getD i .un) := rfl
@[scoped simp] theorem un1_sh {ρ d} : un1 ρ (.sh d) = .ok (.next, ρ) := rfl
@[scoped simp] theorem un1_own {ρ d} : un1 ρ (.own d) = .ok (.next, ρ) := rfl
@[scoped simp] theorem un1_pr {ρ d l} : un1 ρ (.pr d l) = .ok (.next, ρ) := rfl
@[scoped simp] theorem ex_ex : ex Φ (.ex e) ρ = (ev Φ e ρ >>= un1 ρ) := rfl
@[scoped simp] theorem ex_iff : ex Φ (.iff c a b) ρ = (ev Φ c ρ >>= boolD >>= fun x => if x then ex Φ a ρ else ex Φ b ρ) := rfl
noncomputable def stepF (Φ : Nat → List Val → Out Val) (tg : List Nat) (b : T) (ρ : List Val) (d : Dat) : Out (Fl × List Val) := bindT tg d ρ >>= ex Φ b
@[scoped simp] theorem ex_for {tg} : ex Φ (.for_ tg t b) ρ = (itsF Φ t ρ >>= fun ds => forL (stepF Φ tg b) ds ρ) := rfl
@[scoped simp] theorem ex_ret : ex Φ (.ret e) ρ = (ev Φ e ρ >>= retV >>= fun x => .ok (.ret x, ρ)) := rfl
@[scoped simp] theorem ex_retO {i} : ex Φ (.retO i) ρ = ownX (fun l => .ok (.ret (.own l), ρ)) (ρ.getD i .un) := rfl
@[scoped simp] theorem ex_retP {i} : ex Φ (.retP e i) ρ = (ev Φ e ρ >>= needD >>= fun d => ownX (fun l => .ok (.ret (.pr d l), ρ)) (ρ.getD i .un)) := rfl
end
@[scoped simp] theorem outOf_ret {v ρ} : outOf (.ret v, ρ) = v := rfl
@[scoped simp] theorem outOf_next {ρ} : outOf (.next, ρ) = .sh .none := rfl
theorem runFn_plain {Φ f as} (h : f.init = Option.none) (hl : as.length = f.pars) : runFn Φ f as = (ex Φ f.body (as ++ List.replicate (f.names - f.pars) .un) >>= fun r => .ok (outOf r)) := by
  unfold runFn
  rw [if_pos hl, h]
@[scoped simp] theorem rd_sh {d} : rd (.sh d) = .ok (.sh d) := rfl
@[scoped simp] theorem rd_own {d} : rd (.own d) = .ok (.bor d) := rfl
@[scoped simp] theorem rd_bor {d} : rd (.bor d) = .ok (.bor d) := rfl
@[scoped simp] theorem rd_shop {a b} : rd (.shop a b) = .ok (.shop a b) := rfl
@[scoped simp] theorem needB_sh {d} : needB (.sh d) = .ok d := rfl
@[scoped simp] theorem needB_own {d} : needB (.own d) = .ok (.lst d) := rfl
@[scoped simp] theorem needB_bor {d} : needB (.bor d) = .ok (.lst d) := rfl
@[scoped simp] theorem needB_pr {d l} : needB (.pr d l) = .ok (.tup [d, .lst l]) := rfl
@[scoped simp] theorem needD_sh {d} : needD (.sh d) = .ok d := rfl
@[scoped simp] theorem needD_own {d} : needD (.own d) = .ok (.lst d) := rfl
@[scoped simp] theorem needD_pr {d l} : needD (.pr d l) = .ok (.tup [d, .lst l]) := rfl
@[scoped simp] theorem argV_sh {d} : argV (.sh d) = .ok (.sh d) := rfl
@[scoped simp] theorem argV_own {d} : argV (.own d) = .ok (.sh (.lst d)) := rfl
@[scoped simp] theorem argV_bor {d} : argV (.bor d) = .ok (.bor d) := rfl
@[scoped simp] theorem argV_pr {d l} : argV (.pr d l) = .ok (.sh (.tup [d, .lst l])) := rfl
@[scoped simp] theorem argV_shop {d l} : argV (.shop d l) = .ok (.shop d l) := rfl
@[scoped simp] theorem stoV_sh {d} : stoV (.sh d) = .ok (.sh d) := rfl
@[scoped simp] theorem stoV_own {d} : stoV (.own d) = .ok (.sh (.lst d)) := rfl
@[scoped simp] theorem stoV_pr {d l} : stoV (.pr d l) = .ok (.sh (.tup [d, .lst l])) := rfl
@[scoped simp] theorem stoV_shop {d l} : stoV (.shop d l) = .ok (.shop d l) := rfl
@[scoped simp] theorem retV_sh {d} : retV (.sh d) = .ok (.sh d) := rfl
@[scoped simp] theorem retV_own {d} : retV (.own d) = .ok (.own d) := rfl
@[scoped simp] theorem retV_pr {d l} : retV (.pr d l) = .ok (.pr d l) := rfl
@[scoped simp] theorem boolD_b {b} : boolD (.sh (.bool b)) = .ok b := rfl
@[scoped simp] theorem intD_i {i} : intD (.sh (.int i)) = .ok i := rfl
@[scoped simp] theorem allD_nil : allD [] = .ok [] := rfl
@[scoped simp] theorem allD_cons {v l} : allD (v :: l) = (needD v >>= fun d => allD l >>= fun ds => .ok (d :: ds)) := rfl
@[scoped simp] theorem allB_nil : allB [] = .ok [] := rfl
@[scoped simp] theorem allB_cons {v l} : allB (v :: l) = (needB v >>= fun d => allB l >>= fun ds => .ok (d :: ds)) := rfl
@[scoped simp] theorem bindT_one {i d ρ} : bindT [i] d ρ = .ok (ρ.set i (.sh d)) := rfl
@[scoped simp] theorem bindT_two {i j d e ρ} : bindT [i, j] (.tup [d, e]) ρ = .ok ((ρ.set i (.sh d)).set j (.sh e)) := rfl
@[scoped simp] theorem bindT_three {i j k d e f ρ} : bindT [i, j, k] (.tup [d, e, f]) ρ = .ok (((ρ.set i (.sh d)).set j (.sh e)).set k (.sh f)) := rfl
@[scoped simp] theorem itemsV_lst {l} : itemsV (.sh (.lst l)) = .ok l := rfl
@[scoped simp] theorem itemsV_tup {l} : itemsV (.sh (.tup l)) = .ok l := rfl
@[scoped simp] theorem itemsV_str {l} : itemsV (.sh (.str l)) = .ok (signs l) := rfl
@[scoped simp] theorem itemsV_own {l} : itemsV (.own l) = .ok l := rfl
@[scoped simp] theorem itemsV_bor {l} : itemsV (.bor l) = .ok l := rfl
@[scoped simp] theorem itemsS_lst {l} : itemsS (.sh (.lst l)) = .ok l := rfl
@[scoped simp] theorem itemsS_tup {l} : itemsS (.sh (.tup l)) = .ok l := rfl
@[scoped simp] theorem itemsS_own {l} : itemsS (.own l) = .ok l := rfl
@[scoped simp] theorem itemsS_bor {l} : itemsS (.bor l) = .ok l := rfl
@[scoped simp] theorem itemsL_lst {l} : itemsL (.sh (.lst l)) = .ok l := rfl
@[scoped simp] theorem itemsL_own {l} : itemsL (.own l) = .ok l := rfl
@[scoped simp] theorem itemsL_bor {l} : itemsL (.bor l) = .ok l := rfl
@[scoped simp] theorem add_i {a b} : binD .add (.int a) (.int b) = .ok (.sh (.int (a + b))) := rfl
@[scoped simp] theorem sub_i {a b} : binD .sub (.int a) (.int b) = .ok (.sh (.int (a - b))) := rfl
theorem mul_i {a b : Int} (h : a.natAbs < 2 ^ 64 ∨ b.natAbs < 2 ^ 64) : binD .mul (.int a) (.int b) = .ok (.sh (.int (a * b))) := if_pos h
theorem fdiv_i {a b : Int} (h0 : 0 < b) (h : b < 1073741824) : binD .fdiv (.int a) (.int b) = .ok (.sh (.int (a / b))) := by
  have : b ≠ 0 ∧ b.natAbs < 1073741824 := by lia
  rw [← Int.fdiv_eq_ediv_of_nonneg a (Int.le_of_lt h0)]
  exact if_pos this
theorem mod_i {a b : Int} (h0 : 0 < b) : binD .mod (.int a) (.int b) = .ok (.sh (.int (a % b))) := by
  rw [← Int.fmod_eq_emod_of_nonneg a (Int.le_of_lt h0)]
  exact if_pos (Int.ne_of_gt h0)
@[scoped simp] theorem add_l {a b : List Dat} : binD .add (.lst a) (.lst b) = if a.length + b.length ≤ line then .ok (.own (a ++ b)) else .bad := rfl
@[scoped simp] theorem add_s {a b : List Nat} : binD .add (.str a) (.str b) = if a.length + b.length ≤ line then .ok (.sh (.str (a ++ b))) else .bad := rfl
@[scoped simp] theorem lt_i {a b} : cmpD .lt (.int a) (.int b) = .ok (decide (a < b)) := rfl
@[scoped simp] theorem le_i {a b} : cmpD .le (.int a) (.int b) = .ok (decide (a ≤ b)) := rfl
@[scoped simp] theorem gt_i {a b} : cmpD .gt (.int a) (.int b) = .ok (decide (b < a)) := rfl
@[scoped simp] theorem ge_i {a b} : cmpD .ge (.int a) (.int b) = .ok (decide (b ≤ a)) := rfl
@[scoped simp] theorem eq_i {a b : Int} : cmpD .eq (.int a) (.int b) = .ok (a == b) := rfl
@[scoped simp] theorem ne_i {a b : Int} : cmpD .ne (.int a) (.int b) = .ok (!(a == b)) := rfl
theorem deq_str {a b : List Nat} : Dat.eq (.str a) (.str b) = (a == b) := by
  show ((⟨a.toArray⟩ : PySem.Str) == ⟨b.toArray⟩) = (a == b)
  rw [Bool.eq_iff_iff]
  simp
@[scoped simp] theorem eq_s {a b : List Nat} : cmpD .eq (.str a) (.str b) = .ok (a == b) := by rw [← deq_str]; rfl
@[scoped simp] theorem ne_s {a b : List Nat} : cmpD .ne (.str a) (.str b) = .ok (!(a == b)) := by rw [← deq_str]; rfl
@[scoped simp] theorem notin_c {c : Nat} {b : List Nat} : cmpD .notin (.str [c]) (.str b) = .ok (!decide (c ∈ b)) := rfl
@[scoped simp] theorem isin_c {c : Nat} {b : List Nat} : cmpD .isin (.str [c]) (.str b) = .ok (decide (c ∈ b)) := rfl
@[scoped simp] theorem meOk_idx {l} : meOk .index (.lst l) = true := rfl
@[scoped simp] theorem meD_idx {l a} : meD .index (.lst l) [a] = indexD l a := rfl
@[scoped simp] theorem len_s {s : List Nat} : biD .len [.str s] = .ok (.int s.length) := rfl
@[scoped simp] theorem len_l {s : List Dat} : biD .len [.lst s] = .ok (.int s.length) := rfl
@[scoped simp] theorem len_t {s : List Dat} : biD .len [.tup s] = .ok (.int s.length) := rfl
@[scoped simp] theorem int_b {b : Bool} : biD .int [.bool b] = .ok (.int (if b then 1 else 0)) := rfl
@[scoped simp] theorem max_i {a b : Int} : biD .max [.int a, .int b] = .ok (.int (if b > a then b else a)) := rfl
@[scoped simp] theorem min_i {a b : Int} : biD .min [.int a, .int b] = .ok (.int (if b < a then b else a)) := rfl
@[scoped simp] theorem isi_int_int {i} : isiD .int (.int i) = .ok true := rfl
@[scoped simp] theorem isi_bool_int {i} : isiD .bool (.int i) = .ok false := rfl
@[scoped simp] theorem isi_str_str {i} : isiD .str (.str i) = .ok true := rfl
@[scoped simp] theorem isi_str_int {i} : isiD .str (.int i) = .ok false := rfl
@[scoped simp] theorem isi_str_tup {i} : isiD .str (.tup i) = .ok false := rfl
@[scoped simp] theorem isi_list_lst {i} : isiD .list (.lst i) = .ok true := rfl
@[scoped simp] theorem isi_tup_tup {i} : isiD .tuple (.tup i) = .ok true := rfl
@[scoped simp] theorem isi_tup_str {i} : isiD .tuple (.str i) = .ok false := rfl
@[scoped simp] theorem isi_tup_int {i} : isiD .tuple (.int i) = .ok false := rfl
theorem forL_next {f ρ ρ' d ds} (h : f ρ d = .ok (.next, ρ')) : forL f (d :: ds) ρ = forL f ds ρ' := by show seq (f ρ d) (forL f ds) = _; rw [h]; rfl
theorem forL_ret {f ρ ρ' v d ds} (h : f ρ d = .ok (.ret v, ρ')) : forL f (d :: ds) ρ = .ok (.ret v, ρ') := by show seq (f ρ d) (forL f ds) = _; rw [h]; rfl
theorem compL_map {f : Dat → Out (Option Dat)} {g : Dat → Dat} : ∀ {ds : List Dat}, (∀ d ∈ ds, f d = .ok (some (g d))) → compL f ds = .ok (ds.map g)
  | [], _ => rfl
  | d :: ds, h => by
    simp only [compL, h d (List.mem_cons_self ..), Out.bind_ok, compL_map fun d' m => h d' (List.mem_cons_of_mem _ m), List.map_cons]
theorem compL_mapO {α : Type} {f : Dat → Out (Option Dat)} {e : α → Dat} {g : α → Option Dat} : ∀ {l : List α}, (∀ a ∈ l, f (e a) = .ok (g a)) → compL f (l.map e) = .ok (l.filterMap g)
  | [], _ => rfl
  | d :: ds, h => by
    simp only [List.map_cons, compL, h d (List.mem_cons_self ..), Out.bind_ok]
    cases hp : g d
    · simp [hp, compL_mapO fun d' m => h d' (List.mem_cons_of_mem _ m)]
    · simp [hp, compL_mapO fun d' m => h d' (List.mem_cons_of_mem _ m)]
theorem ex_step {Φ : Nat → List Val → Out Val} {a b : T} {ρ ρ' : List Val} {v : Val} (h : ex Φ a ρ = .ok (.next, ρ')) (k : ∃ ρ2, ex Φ b ρ' = .ok (.ret v, ρ2)) : ∃ ρ2, ex Φ (.cons a b) ρ = .ok (.ret v, ρ2) := by
  show ∃ ρ2, seq (ex Φ a ρ) (ex Φ b) = .ok (.ret v, ρ2)
  rw [h]; exact k
theorem ex_next {Φ : Nat → List Val → Out Val} {a b : T} {ρ ρ' : List Val} {r : Out (Fl × List Val)} (h : ex Φ a ρ = .ok (.next, ρ')) (k : ex Φ b ρ' = r) : ex Φ (.cons a b) ρ = r := by
  show seq (ex Φ a ρ) (ex Φ b) = r
  rw [h]; exact k
theorem ex_ret1 {Φ : Nat → List Val → Out Val} {a b : T} {ρ ρ' : List Val} {v : Val} (h : ex Φ a ρ = .ok (.ret v, ρ')) : ∃ ρ2, ex Φ (.cons a b) ρ = .ok (.ret v, ρ2) := by
  rw [ex_cons, h]; exact ⟨ρ', rfl⟩
theorem ex_stepP {P : Val → Prop} {Φ : Nat → List Val → Out Val} {a b : T} {ρ ρ' : List Val} (h : ex Φ a ρ = .ok (.next, ρ')) (k : ∃ v, P v ∧ ∃ ρ2, ex Φ b ρ' = .ok (.ret v, ρ2)) : ∃ v, P v ∧ ∃ ρ2, ex Φ (.cons a b) ρ = .ok (.ret v, ρ2) := by
  rw [ex_cons, h]; exact k
theorem ex_retsP {P : Val → Prop} {Φ : Nat → List Val → Out Val} {a b : T} {ρ ρ' : List Val} {v : Val} (h : ex Φ a ρ = .ok (.ret v, ρ')) (hp : P v) : ∃ v, P v ∧ ∃ ρ2, ex Φ (.cons a b) ρ = .ok (.ret v, ρ2) := by
  rw [ex_cons, h]; exact ⟨v, hp, ρ', rfl⟩
end Mine.PL
namespace Mine.PL
open Mine
section
variable {Φ : Nat → List Val → Out Val} {ρ : List Val} {a b c e t : T} {i f : Nat} {as : List Val} {v x y : Val} {d d' : Dat} {k : Int} {p q : Bool} {l : List Dat} {r : Out (Fl × List Val)}
theorem ob {α β : Type} {r : Out α} {x : α} {f : α → Out β} {z : Out β} (h : r = .ok x) (k : f x = z) : (r >>= f) = z := h ▸ k
theorem sv_call (h1 : evT Φ t ρ = .ok as) (h2 : Φ f as = .ok v) : ev Φ (.call f t) ρ = .ok v := ob h1 h2
theorem sv_cmp {o : COp} (ha : ev Φ a ρ = .ok x) (hb : ev Φ b ρ = .ok y) (hx : needB x = .ok d) (hy : needB y = .ok d') (hc : cmpD o d d' = .ok p) : ev Φ (.cmp o a b) ρ = .ok (.sh (.bool p)) :=
  ob (ob (ob ha hx) (ob (ob hb hy) hc)) rfl
theorem sv_bin {o : BOp} (ha : ev Φ a ρ = .ok x) (hb : ev Φ b ρ = .ok y) (hx : needB x = .ok d) (hy : needB y = .ok d') (hc : binD o d d' = .ok v) : ev Φ (.bin o a b) ρ = .ok v := ob (ob ha hx) (ob (ob hb hy) hc)
theorem sv_not (h : ev Φ a ρ = .ok (.sh (.bool p))) : ev Φ (.not a) ρ = .ok (.sh (.bool (!p))) := ob (ob (ob h rfl) rfl) rfl
theorem sv_or (ha : ev Φ a ρ = .ok (.sh (.bool false))) (hb : ev Φ b ρ = .ok (.sh (.bool p))) : ev Φ (.or a b) ρ = .ok (.sh (.bool p)) := ob (f := fun r => Out.ok (Val.sh (.bool r))) (ob (ob ha rfl) (ob hb rfl)) rfl
theorem sv_or_t (ha : ev Φ a ρ = .ok (.sh (.bool true))) : ev Φ (.or a b) ρ = .ok (.sh (.bool true)) := ob (f := fun r => Out.ok (Val.sh (.bool r))) (ob (x := true) (ob ha rfl) rfl) rfl
theorem sv_and (ha : ev Φ a ρ = .ok (.sh (.bool true))) (hb : ev Φ b ρ = .ok (.sh (.bool p))) : ev Φ (.and a b) ρ = .ok (.sh (.bool p)) := ob (f := fun r => Out.ok (Val.sh (.bool r))) (ob (ob ha rfl) (ob hb rfl)) rfl
theorem sv_idx (ha : ev Φ a ρ = .ok x) (hb : ev Φ b ρ = .ok (.sh (.int k))) (h : idx2 x k = .ok v) : ev Φ (.idx a b) ρ = .ok v := ob (f := fun x => ev Φ b ρ >>= intD >>= fun k => idx2 x k) ha (ob (ob hb rfl) h)
theorem sv_bi {o : BI} (h1 : evT Φ t ρ = .ok as) (h2 : allB as = .ok l) (h3 : biD o l = .ok d) : ev Φ (.bi o t) ρ = .ok (.sh d) := ob (ob (ob h1 h2) h3) rfl
theorem needX_of (h : needB x = .ok d) : needX x = .ok (.inl d) := by
  cases x <;> first | (show (needB _ >>= _) = _; rw [h]; rfl) | cases h
theorem sv_isi {o : Ty} (h1 : ev Φ a ρ = .ok x) (h2 : needB x = .ok d) (h3 : isiD o d = .ok p) : ev Φ (.isi o a) ρ = .ok (.sh (.bool p)) := ob (r := ev Φ a ρ >>= isiV o) (ob h1 (ob (f := isiY o) (needX_of h2) h3)) rfl
theorem sv_comp {tg : List Nat} {ds : List Dat} (h1 : its Φ t ρ = .ok ds) (h2 : compL (compF Φ e tg c ρ) ds = .ok l) : ev Φ (.comp e tg t c) ρ = .ok (.own l) := ob (ob h1 h2) rfl
theorem st_cons (ha : ev Φ a ρ = .ok v) (hx : argV v = .ok x) (hb : evT Φ b ρ = .ok as) : evT Φ (.cons a b) ρ = .ok (x :: as) := ob (ob ha hx) (ob hb rfl)
theorem sx_asg (h : ev Φ e ρ = .ok v) (hs : stoV v = .ok x) : ex Φ (.asg i e) ρ = .ok (.next, ρ.set i x) := ob (ob h hs) rfl
theorem sx_asgO (h : ev Φ e ρ = .ok (.own l)) : ex Φ (.asgO i e) ρ = .ok (.next, ρ.set i (.own l)) := ob (ob h rfl) rfl
theorem sx_no (h : ev Φ c ρ = .ok (.sh (.bool false))) : ex Φ (.iff c a .nil) ρ = .ok (.next, ρ) := ob (r := ev Φ c ρ >>= boolD) (f := fun x => if x then ex Φ a ρ else ex Φ .nil ρ) (ob h rfl) rfl
theorem sx_else (h : ev Φ c ρ = .ok (.sh (.bool false))) (k : ex Φ b ρ = r) : ex Φ (.iff c a b) ρ = r := ob (r := ev Φ c ρ >>= boolD) (f := fun x => if x then ex Φ a ρ else ex Φ b ρ) (ob h rfl) k
theorem sx_yes (h : ev Φ c ρ = .ok (.sh (.bool true))) (k : ex Φ a ρ = r) : ex Φ (.iff c a b) ρ = r := ob (r := ev Φ c ρ >>= boolD) (f := fun x => if x then ex Φ a ρ else ex Φ b ρ) (ob h rfl) k
theorem sx_app (hl : ρ.getD i .un = .own l) (h : ev Φ e ρ = .ok v) (hd : needD v = .ok d) (hn : l.length < line) : ex Φ (.app i e) ρ = .ok (.next, ρ.set i (.own (l ++ [d]))) := by
  show ownX _ (ρ.getD i .un) = _
  rw [hl]
  exact ob (ob h hd) (if_pos hn)
theorem sx_for {tg : List Nat} {ds : List Dat} (h1 : itsF Φ t ρ = .ok ds) (h2 : forL (stepF Φ tg b) ds ρ = r) : ex Φ (.for_ tg t b) ρ = r := ob h1 h2
theorem sv_rng {ds : List Dat} (h : ev Φ b ρ = .ok (.sh (.int k))) (h2 : rngD k = .ok ds) : itsF Φ (.rng .nil b .nil) ρ = .ok ds := ob (r := ev Φ b ρ >>= intD) (ob h rfl) h2
theorem sv_mkT (h : ev Φ a ρ = .ok v) (h2 : itemsL v = .ok l) : ev Φ (.mkT a) ρ = .ok (.sh (.tup l)) := ob (ob h h2) rfl
theorem sv_lst (h1 : evT Φ t ρ = .ok as) (h2 : allD as = .ok l) : ev Φ (.lst t) ρ = .ok (.own l) := ob (ob h1 h2) rfl
theorem sv_tup (h1 : evT Φ t ρ = .ok as) (h2 : allD as = .ok l) : ev Φ (.tup t) ρ = .ok (.sh (.tup l)) := ob (ob h1 h2) rfl
theorem sv_meth {m : Me} (ha : ev Φ a ρ = .ok x) (hx : needB x = .ok d) (hm : meOk m d = true) (hb : evT Φ t ρ = .ok as) (hl : allB as = .ok l) (h : meD m d l = .ok v) : ev Φ (.meth m a t) ρ = .ok v :=
  ob (f := fun x => if meOk m x then evT Φ t ρ >>= allB >>= meD m x else .bad) (ob ha hx) ((if_pos hm).trans (ob (ob hb hl) h))
theorem sv_idxT (ha : ev Φ a ρ = .ok (.sh (.tup l))) (hb : ev Φ b ρ = .ok (.sh (.int k))) (h : idxL l k = .ok v) : ev Φ (.idx a b) ρ = .ok v := sv_idx ha hb h
theorem sv_idxL (ha : ev Φ a ρ = .ok (.sh (.lst l))) (hb : ev Φ b ρ = .ok (.sh (.int k))) (h : idxL l k = .ok v) : ev Φ (.idx a b) ρ = .ok v := sv_idx ha hb h
theorem cut_one {α : Type} {d : α} {l : List α} : cut (some 1) Option.none (d :: l) = l := by
  unfold cut
  have h : clampAt (d :: l).length 1 = 1 := by unfold clampAt; simp only [List.length_cons]; lia
  show ((d :: l).drop (clampAt (d :: l).length 1)).take ((d :: l).length - clampAt (d :: l).length 1) = l
  rw [h]
  exact List.take_length
theorem sv_slT (ha : ev Φ a ρ = .ok (.sh (.tup (d :: l)))) : itsF Φ (.sl a (.cI 1) .nil) ρ = .ok l := by
  show (ev Φ a ρ >>= needB >>= fun x => sl2 x (some 1) Option.none) >>= srcE1 >>= itemsV = _
  rw [ha]
  show Out.ok (cut (some 1) Option.none (d :: l)) = _
  rw [cut_one]
theorem sv_itsI (h : ev Φ (.idx a b) ρ = .ok (.sh (.tup l))) : itsF Φ (.idx a b) ρ = .ok l := by
  show ev Φ (.idx a b) ρ >>= srcE1 >>= itemsV = _
  rw [h]; rfl
theorem sb {o : BOp} {m n : Int} (ha : ev Φ a ρ = .ok (.sh (.int m))) (hb : ev Φ b ρ = .ok (.sh (.int n))) (h : binD o (.int m) (.int n) = .ok v) : ev Φ (.bin o a b) ρ = .ok v := sv_bin ha hb rfl rfl h
theorem sv_and_f (ha : ev Φ a ρ = .ok (.sh (.bool false))) : ev Φ (.and a b) ρ = .ok (.sh (.bool false)) := ob (f := fun r => Out.ok (Val.sh (.bool r))) (ob (x := false) (ob ha rfl) rfl) rfl
theorem sx_cret (h : ev Φ e ρ = .ok v) (hr : retV v = .ok x) : ex Φ (.cons (.ret e) b) ρ = .ok (.ret x, ρ) := by
  show seq (ev Φ e ρ >>= retV >>= fun x => .ok (.ret x, ρ)) (ex Φ b) = _
  rw [h]
  show seq (retV v >>= fun x => .ok (.ret x, ρ)) (ex Φ b) = _
  rw [hr]; rfl
theorem sx_ret (h : ev Φ e ρ = .ok v) (hr : retV v = .ok x) : ex Φ (.ret e) ρ = .ok (.ret x, ρ) := ob (ob h hr) rfl
theorem run_ret (h : ∃ ρ2, ex Φ t ρ = .ok (.ret v, ρ2)) : (ex Φ t ρ >>= fun r => Out.ok (outOf r)) = .ok v := by
  obtain ⟨ρ2, h⟩ := h
  exact ob h rfl
theorem nx {α : Type} {r : Out α} {x : α} (h : r = .ok x) : noX r = .ok x := by rw [h]; rfl
theorem cf_nil {tg : List Nat} {ρ' : List Val} (hb : bindT tg d ρ = .ok ρ') (h : ev Φ e ρ' = .ok v) (hx : needD v = .ok d') : compF Φ e tg .nil ρ d = .ok (some d') := compF_nil.trans (nx (ob hb (ob (ob h hx) rfl)))
theorem cf_no {tg : List Nat} {ρ' : List Val} (hc : c.isNil = false) (hb : bindT tg d ρ = .ok ρ') (h : ev Φ c ρ' = .ok (.sh (.bool false))) : compF Φ e tg c ρ d = .ok Option.none := (compF_if hc).trans (nx (ob hb (ob (r := ev Φ c ρ' >>= boolD) (f := fun b => if b then ev Φ e ρ' >>= needD >>= fun x => .ok (some x) else .ok Option.none) (ob h rfl) rfl)))
theorem cf_yes {tg : List Nat} {ρ' : List Val} (hc : c.isNil = false) (hb : bindT tg d ρ = .ok ρ') (h : ev Φ c ρ' = .ok (.sh (.bool true))) (he : ev Φ e ρ' = .ok v) (hx : needD v = .ok d') : compF Φ e tg c ρ d = .ok (some d') := (compF_if hc).trans (nx (ob hb (ob (r := ev Φ c ρ' >>= boolD) (f := fun b => if b then ev Φ e ρ' >>= needD >>= fun x => .ok (some x) else .ok Option.none) (ob h rfl) (ob (ob he hx) rfl))))
theorem sx_stop {ρ' : List Val} (h : ex Φ a ρ = .ok (.ret v, ρ')) : ex Φ (.cons a b) ρ = .ok (.ret v, ρ') := by
  show seq (ex Φ a ρ) (ex Φ b) = _
  rw [h]; rfl
end
end Mine.PL
namespace Mine.PL
open Mine
structure Has01 (fns : List Fn) : Prop where
  b0 : fns[0]? = some f_between
  b1 : fns[1]? = some f_is_name
noncomputable def letters : List Nat := [97, 98, 99, 100, 101, 102, 103, 104, 105, 106, 107, 108, 109, 110, 111, 112, 113, 114, 115, 116, 117, 118, 119, 120, 121, 122]
noncomputable def NameOk (s : List Nat) : Prop := 1 ≤ s.length ∧ s.length ≤ 8 ∧ ∀ c ∈ s, c ∈ letters
variable {fns : List Fn}
theorem sp_between (H : Has01 fns) (n : Nat) (x lo hi : Int) : callF fns (n + 1) 0 [.sh (.int x), .sh (.int lo), .sh (.int hi)] = .ok (.sh (.bool (decide (lo ≤ x) && decide (x ≤ hi)))) := by
  rw [callF_succ H.b0, runFn_plain rfl rfl]
  by_cases h : lo ≤ x <;> simp [f_between, t_between, h]
noncomputable abbrev Kind := List Nat × Int
noncomputable def kD (k : Kind) : Dat := .tup [.str k.1, .int k.2]
noncomputable def nD (ks : List Kind) : List Dat := ks.map fun k => .str k.1
structure KindsOk (ks : List Kind) : Prop where
  len1 : 1 ≤ ks.length
  len5 : ks.length ≤ 5
  names : ∀ k ∈ ks, NameOk k.1
  nodup : (ks.map (·.1)).Nodup
  prices : ∀ k ∈ ks, 0 ≤ k.2 ∧ k.2 ≤ 100000
theorem any_names (ks : List Kind) (s : List Nat) : (nD ks).any (fun x => Dat.eq x (.str s)) = decide (s ∈ ks.map (·.1)) := by
  induction ks with
  | nil => rfl
  | cons k ks ih =>
    show (Dat.eq (.str k.1) (.str s) || (nD ks).any (fun x => Dat.eq x (.str s))) = _
    rw [ih, deq_str]
    by_cases e : k.1 = s
    · simp [e]
    · have : (k.1 == s) = false := by simp [e]
      have e' : s ≠ k.1 := fun x => e x.symm
      simp [this, e']
theorem fine_names (ks : List Kind) : (nD ks).all (Dat.fine 20) = true := by
  induction ks with
  | nil => rfl
  | cons k ks ih => exact ih
theorem in_names (ks : List Kind) (s : List Nat) : cmpD .isin (.str s) (.lst (nD ks)) = .ok (decide (s ∈ ks.map (·.1))) := by
  rw [← any_names]
  exact if_pos (fine_names ks)
theorem notin_names (ks : List Kind) (s : List Nat) : cmpD .notin (.str s) (.lst (nD ks)) = .ok (!decide (s ∈ ks.map (·.1))) := by
  rw [← any_names]
  exact if_pos (fine_names ks)
end Mine.PL
namespace Mine.PL
open Mine
structure Has3 (fns : List Fn) : Prop where
  b20 : fns[20]? = some f_l_cell_at
  b21 : fns[21]? = some f_l_number
  b22 : fns[22]? = some f_l_name_by
  b23 : fns[23]? = some f_l_kinds
variable {fns : List Fn}
noncomputable def iD (l : List Int) : List Dat := l.map .int
@[scoped simp] theorem iD_length {l} : (iD l).length = l.length := by simp [iD]
theorem iD_get {l : List Int} {k : Nat} : (iD l)[k]? = l[k]?.map Dat.int := by simp [iD]
theorem len_ints (l : List Int) : biD .len [.lst (iD l)] = .ok (.int l.length) := by show Out.ok (Dat.int ((iD l).length : Int)) = _; rw [iD_length]
theorem idx_iD {l : List Int} {k : Int} (h0 : 0 ≤ k) (h : k < l.length) : idxL (iD l) k = .ok (.sh (.int (l[k.toNat]'(by lia)))) := by
  refine idxL_at h0 ?_
  rw [iD_get, List.getElem?_eq_getElem (by lia)]; rfl
theorem sp_cell (H : Has3 fns) (n : Nat) (s : List Int) (k : Int) (h0 : 0 ≤ k) : ∃ i : Int, callF fns (n + 1) 20 [.sh (.lst (iD s)), .sh (.int k)] = .ok (.sh (.int i)) := by
  rw [callF_succ H.b20, runFn_plain rfl rfl]
  generalize callF fns n = Φ
  by_cases h : k < s.length
  · exact ⟨_, run_ret (ex_ret1 (sx_yes (sv_cmp rfl (sv_bi rfl rfl (len_ints s)) rfl rfl (congrArg Out.ok (decide_eq_true h))) (sx_cret (sv_idxL rfl rfl (idx_iD h0 h)) rfl)))⟩
  · exact ⟨0, run_ret (ex_step (sx_no (sv_cmp rfl (sv_bi rfl rfl (len_ints s)) rfl rfl (congrArg Out.ok (decide_eq_false h)))) ⟨_, rfl⟩)⟩
theorem sp_number (H : Has3 fns) (n : Nat) (s : List Int) (k : Int) (h0 : 0 ≤ k) (hs : s.length ≤ 63) (hk : k ≤ 1000) :
    ∃ i : Int, 0 ≤ i ∧ i < 2147483647 ∧ callF fns (n + 1) 21 [.sh (.lst (iD s)), .sh (.int k)] = .ok (.sh (.int i)) := by
  rw [callF_succ H.b21, runFn_plain rfl rfl]
  by_cases h : s.length = 0
  · refine ⟨5003 * k, by lia, by lia, ?_⟩
    have hm : binD .mul (.int 5003) (.int k) = .ok (.sh (.int (5003 * k))) := mul_i (Or.inl (by decide))
    have : ((s.length : Int) == 0) = true := by simp [h]
    exact run_ret (ex_ret1 (sx_yes (sv_cmp (sv_bi rfl rfl (len_ints s)) rfl rfl rfl (congrArg Out.ok this)) (sx_cret (sb rfl rfl hm) rfl)))
  · have hz : ((s.length : Int) == 0) = false := by simp; exact fun e => h (by simp [e])
    have hp : (0 : Int) < s.length := by lia
    have hm := mod_i (a := k) hp
    have hd := fdiv_i (a := k) hp (by lia)
    have hx := idx_iD (l := s) (k := k % s.length) (Int.emod_nonneg _ (by lia)) (Int.emod_lt_of_pos _ hp)
    generalize s[(k % (s.length : Int)).toNat]'_ = x at hx
    have hm1 : binD .mul (.int 7919) (.int (k / s.length)) = .ok (.sh (.int (7919 * (k / s.length)))) := mul_i (Or.inl (by decide))
    have hm2 : binD .mul (.int 101) (.int k) = .ok (.sh (.int (101 * k))) := mul_i (Or.inl (by decide))
    have hm3 : binD .mul (.int (x + 7919 * (k / s.length) + 101 * k)) (.int 48271) = .ok (.sh (.int ((x + 7919 * (k / s.length) + 101 * k) * 48271))) := mul_i (Or.inr (by decide))
    refine ⟨(x + 7919 * (k / s.length) + 101 * k) * 48271 % 2147483647, Int.emod_nonneg _ (by decide), Int.emod_lt_of_pos _ (by decide), ?_⟩
    have hm4 := mod_i (a := (x + 7919 * (k / s.length) + 101 * k) * 48271) (b := 2147483647) (by decide)
    have el := fun (Φ : Nat → List Val → Out Val) x y => sv_bi (Φ := Φ) (t := .cons (.v 0) .nil) (ρ := [.sh (.lst (iD s)), x, y]) rfl rfl (len_ints s)
    exact run_ret (ex_step (sx_no (sv_cmp (el _ _ _) rfl rfl rfl (congrArg Out.ok hz))) (ex_step (sx_asg (sb (sb (sv_idxL rfl (sb rfl (el _ _ _) hm) hx) (sb rfl (sb rfl (el _ _ _) hd) hm1) rfl) (sb rfl rfl hm2) rfl) rfl) (ex_ret1 (sx_ret (sb (sb rfl rfl hm3) rfl hm4) rfl))))
theorem sign_at {k : Int} (h0 : 0 ≤ k) (h : k < 26) : ∃ c ∈ letters, idxS letters k = .ok (.sh (.str [c])) := by
  have hl : k.toNat < letters.length := by simp only [letters, List.length_cons, List.length_nil]; lia
  exact ⟨letters[k.toNat], List.getElem_mem hl, idxS_at h0 (List.getElem?_eq_getElem hl)⟩
theorem rangeL_map (a : Int) : ∀ (m : Nat), rangeL a 1 m = (List.range m).map fun (j : Nat) => Dat.int (a + j)
  | 0 => rfl
  | m + 1 => by
    rw [rangeL, rangeL_map (a + 1) m, List.range_succ_eq_map]
    simp only [List.map_cons, List.map_map]
    congr 1
    · simp
    · apply List.map_congr_left; intro j _; simp; lia
theorem rangeL_length {a : Int} {m : Nat} : (rangeL a 1 m).length = m := by rw [rangeL_map]; simp
theorem NameOk.cut {s : List Nat} {c : Nat} {p : Nat} (h : NameOk s) (hc : c ∈ letters) (hp : p < s.length) : NameOk (s.take p ++ [c] ++ s.drop (p + 1)) := by
  obtain ⟨h1, h2, h3⟩ := h
  refine ⟨by simp; lia, by simp; lia, ?_⟩
  intro d hd
  simp only [List.mem_append, List.mem_singleton] at hd
  rcases hd with (hd | hd) | hd
  · exact h3 d (List.mem_of_mem_take hd)
  · exact hd ▸ hc
  · exact h3 d (List.mem_of_mem_drop hd)
theorem clamp_nat (n p : Nat) : clampAt n (p : Int) = min p n := by
  show (max 0 (min (if (p : Int) < 0 then (p : Int) + n else p) (n : Int))).toNat = _
  rw [if_neg (Int.not_lt.2 (Int.natCast_nonneg p))]
  rcases Nat.le_total p n with h | h
  · rw [Nat.min_eq_left h, Int.min_eq_left (Int.ofNat_le.2 h), Int.max_eq_right (Int.natCast_nonneg _), Int.toNat_natCast]
  · rw [Nat.min_eq_right h, Int.min_eq_right (Int.ofNat_le.2 h), Int.max_eq_right (Int.natCast_nonneg _), Int.toNat_natCast]
theorem cut_take {l : List Nat} {p : Int} (h0 : 0 ≤ p) (h : p ≤ l.length) : cut Option.none (some p) l = l.take p.toNat := by
  have e : clampAt l.length p = p.toNat := by
    obtain ⟨q, rfl⟩ := Int.eq_ofNat_of_zero_le h0
    rw [clamp_nat, Int.toNat_natCast, Nat.min_eq_left (Int.ofNat_le.1 h)]
  simp [cut, e]
theorem cut_drop {l : List Nat} {p : Int} (h0 : 0 ≤ p) (h : p ≤ l.length) : cut (some p) Option.none l = l.drop p.toNat := by
  have e : clampAt l.length p = p.toNat := by
    obtain ⟨q, rfl⟩ := Int.eq_ofNat_of_zero_le h0
    rw [clamp_nat, Int.toNat_natCast, Nat.min_eq_left (Int.ofNat_le.1 h)]
  simp [cut, e]
  apply List.take_of_length_le; simp
theorem forL_idx (f : List Val → Dat → Out (Fl × List Val)) (I : Nat → List Val → Prop) : ∀ (ds : List Dat) (o : Nat) (ρ : List Val), I o ρ →
    (∀ i d ρ, ds[i]? = some d → I (o + i) ρ → ∃ ρ', f ρ d = .ok (.next, ρ') ∧ I (o + i + 1) ρ') →
    ∃ ρ', forL f ds ρ = .ok (.next, ρ') ∧ I (o + ds.length) ρ'
  | [], o, ρ, h, _ => ⟨ρ, rfl, h⟩
  | d :: ds, o, ρ, h, hs => by
    obtain ⟨ρ1, e1, i1⟩ := hs 0 d ρ rfl h
    obtain ⟨ρ2, e2, i2⟩ := forL_idx f I ds (o + 1) ρ1 i1 fun i d' r e m => by
      have := hs (i + 1) d' r (by simpa using e) (by rw [← Nat.add_assoc, Nat.add_right_comm]; exact m)
      have e' : o + 1 + i + 1 = o + (i + 1) + 1 := by lia
      rw [e']; exact this
    refine ⟨ρ2, (forL_next e1).trans e2, ?_⟩
    have e' : o + (d :: ds).length = o + 1 + ds.length := by simp only [List.length_cons]; lia
    rw [e']; exact i2
theorem rangeL_get {m i : Nat} {d : Dat} (h : (rangeL 0 1 m)[i]? = some d) : i < m ∧ d = .int i := by
  rw [rangeL_map, List.getElem?_map] at h
  cases e : (List.range m)[i]? with
  | none => rw [e] at h; cases h
  | some j =>
    rw [e] at h
    have h1 := List.getElem?_eq_some_iff.1 e
    obtain ⟨h2, h3⟩ := h1
    simp only [List.length_range] at h2
    simp only [List.getElem_range] at h3
    subst h3
    simp only [Option.map_some, Option.some.injEq] at h
    exact ⟨h2, by simp [← h]⟩
theorem sp_name_by (H : Has3 fns) (n : Nat) (s : List Int) (k : Int) (h0 : 0 ≤ k) (hs : s.length ≤ 63) (hk : k ≤ 5) :
    ∃ nm, NameOk nm ∧ callF fns (n + 2) 22 [.sh (.lst (iD s)), .sh (.int k)] = .ok (.sh (.str nm)) := by
  rw [callF_succ H.b22, runFn_plain rfl rfl]
  obtain ⟨c0, e0⟩ := sp_cell H n s 0 (by decide)
  generalize hal : (c0 / 5 % 2 == 1) = al
  have hd1 := fdiv_i (a := c0) (b := 5) (by decide) (by decide)
  have hd2 := mod_i (a := c0 / 5) (b := 2) (by decide)
  have hm1 : binD .mul (.int 3) (.int k) = .ok (.sh (.int (3 * k))) := mul_i (Or.inl (by decide))
  have hm2 : binD .mul (.int (3 * k)) (.int (if al = false then 1 else 0)) = .ok (.sh (.int (3 * k * (if al = false then 1 else 0)))) := mul_i (Or.inr (by cases al <;> decide))
  have hr : 0 ≤ 3 * k * (if al = false then 1 else 0) ∧ 3 * k * (if al = false then 1 else 0) ≤ 15 := by cases al <;> simp <;> lia
  obtain ⟨m, m0, m1, em⟩ := sp_number H n s (1 + 3 * k * (if al = false then 1 else 0)) (by lia) hs (by lia)
  generalize (3 * k * (if al = false then 1 else 0) : Int) = kk at *
  generalize callF fns (n + 1) = Φ at *
  suffices Q : ∃ v, (∃ nm, NameOk nm ∧ v = .sh (.str nm)) ∧ ∃ ρ', ex Φ t_l_name_by [.sh (.lst (iD s)), .sh (.int k), .un, .un, .un, .un, .un, .un, .un, .un] = .ok (.ret v, ρ') by
    obtain ⟨v, ⟨nm, hn, rfl⟩, ρ', Q⟩ := Q
    exact ⟨nm, hn, (congrArg (· >>= fun r => Out.ok (outOf r)) Q).trans rfl⟩
  have hd3 := fdiv_i (a := m) (b := 5408) (by decide) (by decide)
  have hd4 := mod_i (a := m / 5408) (b := 25) (by decide)
  have hd5 := mod_i (a := m) (b := 8) (by decide)
  have hd6 := fdiv_i (a := m) (b := 208) (by decide) (by decide)
  obtain ⟨ρ', eρ, nm, y, er, hl, ha⟩ := forL_idx (stepF Φ [7] b_l_name_by_1) (fun o ρ => ∃ nm y, ρ = [.sh (.lst (iD s)), .sh (.int k), .sh (.str letters), .sh (.bool al), .sh (.int m), .sh (.int (1 + m / 5408 % 25)), .sh (.str nm), y, .un, .un] ∧ nm.length = o ∧ ∀ c ∈ nm, c ∈ letters)
    (rangeL 0 1 (1 + m % 8).toNat) 0 [.sh (.lst (iD s)), .sh (.int k), .sh (.str letters), .sh (.bool al), .sh (.int m), .sh (.int (1 + m / 5408 % 25)), .sh (.str []), .un, .un, .un] ⟨[], .un, rfl, rfl, by simp⟩ (by
      intro i d ρ hd ⟨nm, y, er, hl, ha⟩
      obtain ⟨hi, ed⟩ := rangeL_get hd
      subst er ed
      have hm : binD .mul (.int i) (.int (1 + m / 5408 % 25)) = .ok (.sh (.int (i * (1 + m / 5408 % 25)))) := mul_i (Or.inr (by lia))
      have hmm := mod_i (a := m / 208 + i * (1 + m / 5408 % 25)) (b := 26) (by decide)
      obtain ⟨c, hc, ec⟩ := sign_at (k := (m / 208 + i * (1 + m / 5408 % 25)) % 26) (Int.emod_nonneg _ (by decide)) (Int.emod_lt_of_pos _ (by decide))
      have hll : nm.length + 1 ≤ line := by simp only [line]; lia
      have R : ex Φ b_l_name_by_1 [.sh (.lst (iD s)), .sh (.int k), .sh (.str letters), .sh (.bool al), .sh (.int m), .sh (.int (1 + m / 5408 % 25)), .sh (.str nm), .sh (.int i), .un, .un] = _ := ex_next (sx_asg (sv_bin rfl (sv_idx rfl (sb (sb (sb rfl rfl hd6) (sb rfl rfl hm) rfl) rfl hmm) ec) rfl rfl (if_pos hll)) rfl) rfl
      refine ⟨_, R, nm ++ [c], .sh (.int i), rfl, by simp [hl], ?_⟩
      intro c' hc'
      rcases List.mem_append.1 hc' with h | h
      · exact ha c' h
      · simp only [List.mem_singleton] at h; exact h ▸ hc)
  subst er
  rw [rangeL_length] at hl
  have hN : NameOk nm := ⟨by lia, by lia, ha⟩
  have hrg := rngOk_of (y := 1 + m % 8) (by lia) (by lia)
  unfold t_l_name_by
  refine ex_stepP rfl ?_
  refine ex_stepP (sx_asg (sv_cmp (sb (sb (sv_call rfl e0) rfl hd1) rfl hd2) rfl rfl rfl (congrArg Out.ok hal)) rfl) ?_
  refine ex_stepP (sx_asg (sv_call (st_cons rfl rfl (st_cons (sb rfl (sb (sb rfl rfl hm1) (sv_bi rfl rfl (show biD .int [.bool (!al)] = .ok (.int (if al = false then 1 else 0)) by cases al <;> rfl)) hm2) rfl) rfl rfl)) em) rfl) ?_
  refine ex_stepP (sx_asg (sb rfl (sb (sb rfl rfl hd3) rfl hd4) rfl) rfl) ?_
  refine ex_stepP rfl ?_
  refine ex_stepP (sx_for (sv_rng (sb rfl (sb rfl rfl hd5) rfl) hrg) eρ) ?_
  cases al with
  | false =>
    refine ex_stepP rfl ?_
    refine ex_retsP rfl ?_
    exact ⟨nm, hN, rfl⟩
  | true =>
    have hp : (0 : Int) < nm.length := by lia
    have hq := fdiv_i (a := m) (b := 8) (by decide) (by decide)
    have hq2 := mod_i (a := m / 8) hp
    have hq3 : binD .mul (.int 5) (.int k) = .ok (.sh (.int (5 * k))) := mul_i (Or.inl (by decide))
    have hq4 := fdiv_i (a := m) (b := 64) (by decide) (by decide)
    have hq5 := mod_i (a := m / 64 + 5 * k) (b := 26) (by decide)
    have p0 := Int.emod_nonneg (m / 8) (b := nm.length) (by lia)
    have p1 := Int.emod_lt_of_pos (m / 8) hp
    obtain ⟨c, hc, ec⟩ := sign_at (k := (m / 64 + 5 * k) % 26) (Int.emod_nonneg _ (by decide)) (Int.emod_lt_of_pos _ (by decide))
    generalize m / 8 % (nm.length : Int) = p at *
    have c1 := cut_take (l := nm) (p := p) p0 (by lia)
    have c2 := cut_drop (l := nm) (p := p + 1) (by lia) (by lia)
    have e2 : (p + 1).toNat = p.toNat + 1 := by lia
    rw [e2] at c2
    have l1 : (cut Option.none (some p) nm).length + 1 ≤ line := by rw [c1]; simp only [line, List.length_take]; lia
    have l2 : (cut Option.none (some p) nm ++ [c]).length + (cut (some (p + 1)) Option.none nm).length ≤ line := by rw [c1, c2]; simp only [line, List.length_append, List.length_take, List.length_drop, List.length_singleton]; lia
    refine ex_stepP (sx_yes rfl (ex_next (sx_asg (sb (sb rfl rfl hq) rfl hq2) rfl) (ex_next (sx_asg (sv_idx rfl (sb (sb (sb rfl rfl hq4) (sb rfl rfl hq3) rfl) rfl hq5) ec) rfl) (ex_next (sx_asg (sv_bin (sv_bin rfl rfl rfl rfl (if_pos l1)) rfl rfl rfl (if_pos l2)) rfl) rfl)))) ?_
    refine ex_retsP rfl ⟨_, ?_, rfl⟩
    rw [c1, c2]
    exact hN.cut hc (p := p.toNat) (by lia)
end Mine.PL
namespace Mine.PL
open Mine
variable {fns : List Fn}
theorem sign5_at {k : Int} (h0 : 0 ≤ k) (h : k < 5) : ∃ c ∈ letters, idxS [97, 98, 99, 100, 101] k = .ok (.sh (.str [c])) := by
  have hl : k.toNat < [97, 98, 99, 100, 101].length := by simp only [List.length_cons, List.length_nil]; lia
  refine ⟨[97, 98, 99, 100, 101][k.toNat], ?_, idxS_at h0 (List.getElem?_eq_getElem hl)⟩
  have : ∀ c ∈ [97, 98, 99, 100, 101], c ∈ letters := by decide
  exact this _ (List.getElem_mem hl)
structure KindsUpTo (ks : List Kind) (o : Nat) : Prop where
  len : ks.length ≤ o
  ne : 1 ≤ o → 1 ≤ ks.length
  names : ∀ k ∈ ks, NameOk k.1
  nodup : (ks.map (·.1)).Nodup
  prices : ∀ k ∈ ks, 0 ≤ k.2 ∧ k.2 ≤ 100000
theorem KindsUpTo.add {ks o nm p} (h : KindsUpTo ks o) (hn : NameOk nm) (hni : ¬ nm ∈ ks.map (·.1)) (h0 : 0 ≤ p) (hp : p ≤ 100000) : KindsUpTo (ks ++ [(nm, p)]) (o + 1) := by
  refine ⟨by have := h.len; simp; lia, fun _ => by simp, ?_, ?_, ?_⟩
  · intro k hk
    rcases List.mem_append.1 hk with hk | hk
    · exact h.names k hk
    · simp only [List.mem_singleton] at hk; subst hk; exact hn
  · rw [List.map_append, List.nodup_append]
    refine ⟨h.nodup, by simp, ?_⟩
    intro a ha b hb e
    simp at hb
    subst hb; subst e; exact hni ha
  · intro k hk
    rcases List.mem_append.1 hk with hk | hk
    · exact h.prices k hk
    · simp only [List.mem_singleton] at hk; subst hk; exact ⟨h0, hp⟩
theorem KindsUpTo.skip {ks o} {nm : List Nat} (h : KindsUpTo ks o) (hi : nm ∈ ks.map (·.1)) : KindsUpTo ks (o + 1) := by
  refine ⟨by have := h.len; lia, fun _ => ?_, h.names, h.nodup, h.prices⟩
  cases ks with
  | nil => simp at hi
  | cons k ks => simp
theorem NameOk.tail {s : List Nat} {c : Nat} (h : NameOk s) (hc : c ∈ letters) : NameOk (s.take 7 ++ [c]) := by
  obtain ⟨h1, h2, h3⟩ := h
  refine ⟨by simp, by simp; lia, ?_⟩
  intro d hd
  simp only [List.mem_append, List.mem_singleton] at hd
  rcases hd with hd | hd
  · exact h3 d (List.mem_of_mem_take hd)
  · exact hd ▸ hc
theorem cut_take7 (l : List Nat) : cut Option.none (some 7) l = l.take 7 := by
  have e : clampAt l.length 7 = min 7 l.length := clamp_nat l.length 7
  simp only [cut, Option.elim, List.drop_zero, Nat.sub_zero, e]
  rw [List.take_eq_take_iff]; lia
theorem sp_kinds (H : Has3 fns) (n : Nat) (s : List Int) (hs : s.length ≤ 63) : ∃ ks, KindsOk ks ∧ callF fns (n + 3) 23 [.sh (.lst (iD s))] = .ok (.own (ks.map kD)) := by
  rw [callF_succ H.b23, runFn_plain rfl rfl]
  obtain ⟨c0, e0⟩ := sp_cell H (n + 1) s 0 (by decide)
  have hm0 := mod_i (a := c0) (b := 5) (by decide)
  obtain ⟨ρ', eρ, ks, y3, y4, y5, y6, er, hk⟩ := forL_idx (stepF (callF fns (n + 2)) [3] b_l_kinds_1) (fun o ρ => ∃ ks y3 y4 y5 y6, ρ = [.sh (.lst (iD s)), .own (ks.map kD), .own (nD ks), y3, y4, y5, y6] ∧ KindsUpTo ks o)
    (rangeL 0 1 (1 + c0 % 5).toNat) 0 [.sh (.lst (iD s)), .own [], .own [], .un, .un, .un, .un] ⟨[], .un, .un, .un, .un, rfl, by simp, by simp, by simp, by simp, by simp⟩ (by
      intro i d ρ hd ⟨ks, y3, y4, y5, y6, er, hk⟩
      obtain ⟨hi, ed⟩ := rangeL_get hd
      subst er ed
      have hi5 : i < 5 := by lia
      simp only [Nat.zero_add] at hk ⊢
      have hm : binD .mul (.int 3) (.int i) = .ok (.sh (.int (3 * i))) := mul_i (Or.inl (by decide))
      obtain ⟨m, m0, m1, em⟩ := sp_number H (n + 1) s (3 * i + 2) (by lia) hs (by lia)
      obtain ⟨nm, hn, en⟩ := sp_name_by H n s i (by lia) hs (by lia)
      obtain ⟨c, hc, ec⟩ := sign5_at (k := i) (by lia) (by lia)
      have hd1 := fdiv_i (a := m) (b := 1009) (by decide) (by decide)
      have hd2 := mod_i (a := m / 1009) (b := 100) (by decide)
      have hd3 := mod_i (a := m / 1009) (b := 100001) (by decide)
      have hd4 := mod_i (a := m) (b := 3) (by decide)
      have hin := in_names ks nm
      have hni := notin_names ks nm
      have hl1 : (cut Option.none (some 7) nm).length + 1 ≤ line := by rw [cut_take7]; simp only [line, List.length_take]; lia
      have hn7 := hn.tail hc
      rw [← cut_take7] at hn7
      have hni2 := notin_names ks (cut Option.none (some 7) nm ++ [c])
      have hlk : ks.length < line := by have := hk.len; simp only [line]; lia
      have hln : (nD ks).length < line := by simpa [nD] using hlk
      obtain ⟨p, hp0, hp1, hp⟩ : ∃ p : Int, 0 ≤ p ∧ p ≤ 100000 ∧ p = if m % 3 == 0 then m / 1009 % 100001 else m / 1009 % 100 := by
        refine ⟨_, ?_, ?_, rfl⟩ <;> split <;> lia
      have key2 : ex (callF fns (n + 2)) (.iff (.cmp .eq (.bin .mod (.v 4) (.cI 3)) (.cI 0)) (.cons (.asg 6 (.bin .mod (.bin .fdiv (.v 4) (.cI 1009)) (.cI 100001))) .nil) .nil)
          [.sh (.lst (iD s)), .own (ks.map kD), .own (nD ks), .sh (.int i), .sh (.int m), .sh (.str nm), .sh (.int (m / 1009 % 100))] = .ok (.next, [.sh (.lst (iD s)), .own (ks.map kD), .own (nD ks), .sh (.int i), .sh (.int m), .sh (.str nm), .sh (.int p)]) := by
        subst hp
        generalize callF fns (n + 2) = Φ
        cases h3 : (m % 3 == 0) with
        | false => exact sx_no (sv_cmp (sb rfl rfl hd4) rfl rfl rfl (congrArg Out.ok h3))
        | true => exact sx_yes (sv_cmp (sb rfl rfl hd4) rfl rfl rfl (congrArg Out.ok h3)) (ex_next (sx_asg (sb (sb rfl rfl hd1) rfl hd3) rfl) rfl)
      have en1 : nD ks ++ [.str nm] = nD (ks ++ [(nm, p)]) := by simp [nD]
      have en2 : nD ks ++ [.str (cut Option.none (some 7) nm ++ [c])] = nD (ks ++ [(cut Option.none (some 7) nm ++ [c], p)]) := by simp [nD]
      have ek1 : ks.map kD ++ [.tup [.str nm, .int p]] = (ks ++ [(nm, p)]).map kD := by simp [kD]
      have ek2 : ks.map kD ++ [.tup [.str (cut Option.none (some 7) nm ++ [c]), .int p]] = (ks ++ [(cut Option.none (some 7) nm ++ [c], p)]).map kD := by simp [kD]
      generalize callF fns (n + 2) = Φ at *
      have hstep : ∀ {r}, ex Φ (.cons (.iff (.cmp .isin (.v 5) (.v 2)) (.cons (.asg 5 (.bin .add (.sl (.v 5) .nil (.cI 7)) (.idx (.cS [97, 98, 99, 100, 101]) (.v 3)))) .nil) .nil) (.cons (.iff (.cmp .notin (.v 5) (.v 2)) (.cons (.app 2 (.v 5)) (.cons (.app 1 (.tup (.cons (.v 5) (.cons (.v 6) .nil)))) .nil)) .nil) .nil)) [.sh (.lst (iD s)), .own (ks.map kD), .own (nD ks), .sh (.int i), .sh (.int m), .sh (.str nm), .sh (.int p)] = r →
          stepF Φ [3] b_l_kinds_1 [.sh (.lst (iD s)), .own (ks.map kD), .own (nD ks), y3, y4, y5, y6] (.int i) = r := fun hr => by
        show ex Φ b_l_kinds_1 [.sh (.lst (iD s)), .own (ks.map kD), .own (nD ks), .sh (.int i), y4, y5, y6] = _
        exact ex_next (sx_asg (sv_call (st_cons rfl rfl (st_cons (sb (sb rfl rfl hm) rfl rfl) rfl rfl)) em) rfl) (ex_next (sx_asg (sv_call rfl en) rfl) (ex_next (sx_asg (sb (sb rfl rfl hd1) rfl hd2) rfl) (ex_next key2 hr)))
      by_cases hx : nm ∈ ks.map (·.1)
      · rw [decide_eq_true hx] at hin hni
        have s1 := fun {r} hr => hstep (r := r) (ex_next (sx_yes (sv_cmp rfl rfl rfl rfl hin) (ex_next (sx_asg (sv_bin rfl (sv_idx rfl rfl ec) rfl rfl (if_pos hl1)) rfl) rfl)) hr)
        by_cases hx2 : cut Option.none (some 7) nm ++ [c] ∈ ks.map (·.1)
        · rw [decide_eq_true hx2] at hni2
          exact ⟨_, s1 (ex_next (sx_no (sv_cmp rfl rfl rfl rfl hni2)) rfl), ks, _, _, _, _, rfl, hk.skip hx⟩
        · rw [decide_eq_false hx2] at hni2
          refine ⟨_, s1 (ex_next (sx_yes (sv_cmp rfl rfl rfl rfl hni2) (ex_next (sx_app rfl rfl rfl hln) (ex_next (sx_app rfl rfl rfl (by rw [List.length_map]; exact hlk)) rfl))) rfl), ks ++ [(cut Option.none (some 7) nm ++ [c], p)], .sh (.int i), .sh (.int m), .sh (.str (cut Option.none (some 7) nm ++ [c])), .sh (.int p), ?_, hk.add hn7 hx2 hp0 hp1⟩
          rw [← en2, ← ek2]; rfl
      · rw [decide_eq_false hx] at hin hni
        refine ⟨_, hstep (ex_next (sx_no (sv_cmp rfl rfl rfl rfl hin)) (ex_next (sx_yes (sv_cmp rfl rfl rfl rfl hni) (ex_next (sx_app rfl rfl rfl hln) (ex_next (sx_app rfl rfl rfl (by rw [List.length_map]; exact hlk)) rfl))) rfl)), ks ++ [(nm, p)], .sh (.int i), .sh (.int m), .sh (.str nm), .sh (.int p), ?_, hk.add hn hx hp0 hp1⟩
        rw [← en1, ← ek1]; rfl)
  subst er
  rw [rangeL_length] at hk
  have hrg := rngOk_of (y := 1 + c0 % 5) (by lia) (by lia)
  refine ⟨ks, ⟨hk.ne (by lia), by have := hk.len; lia, hk.names, hk.nodup, hk.prices⟩, ?_⟩
  exact run_ret (ex_step rfl (ex_step rfl (ex_step (sx_for (sv_rng (sb rfl (sb (sv_call rfl e0) rfl hm0) rfl) hrg) eρ) ⟨_, rfl⟩)))
end Mine.PL
namespace Mine.PL
open Mine
variable {fns : List Fn}
inductive Off where
  | more (nm : List Nat) (many cnt : Int)
  | set (ws : List Kind) (p : Int)
  | share (nm : List Nat) (pc : Int)
  | slip (a b : List Nat) (x : Int)
noncomputable def sMore : List Nat := [109, 111, 114, 101]
noncomputable def sSet : List Nat := [115, 101, 116]
noncomputable def sShare : List Nat := [115, 104, 97, 114, 101]
noncomputable def sSlip : List Nat := [115, 108, 105, 112]
noncomputable def Off.dat : Off → Dat
  | .more nm m c => .tup [.str sMore, .str nm, .int m, .int c]
  | .set ws p => .tup [.str sSet, .tup (ws.map kD), .int p]
  | .share nm p => .tup [.str sShare, .str nm, .int p]
  | .slip a b x => .tup [.str sSlip, .str a, .str b, .int x]
structure WsOk (ks ws : List Kind) : Prop where
  len1 : 1 ≤ ws.length
  len5 : ws.length ≤ 5
  nodup : (ws.map (·.1)).Nodup
  sub : ∀ w ∈ ws, w.1 ∈ ks.map (·.1)
  rng : ∀ w ∈ ws, 1 ≤ w.2 ∧ w.2 ≤ 9
noncomputable def OffOk (ks : List Kind) : Off → Prop
  | .more nm m c => nm ∈ ks.map (·.1) ∧ 2 ≤ m ∧ m ≤ 9 ∧ 1 ≤ c ∧ c ≤ m - 1
  | .set ws p => WsOk ks ws ∧ 0 ≤ p ∧ p ≤ 100000
  | .share nm p => nm ∈ ks.map (·.1) ∧ 1 ≤ p ∧ p ≤ 100
  | .slip a b x => a ∈ ks.map (·.1) ∧ b ∈ ks.map (·.1) ∧ a ≠ b ∧ 1 ≤ x ∧ x ≤ 100000
theorem pick2 (a b : Int) {k : Int} (h0 : 0 ≤ k) (h : k < 2) : ∃ v, idxL [.int a, .int b] k = .ok (.sh (.int v)) ∧ (v = a ∨ v = b) := by
  rcases (show k = 0 ∨ k = 1 by lia) with rfl | rfl
  · exact ⟨a, by simp, Or.inl rfl⟩
  · exact ⟨b, by simp, Or.inr rfl⟩
theorem pick3 (a b c : Int) {k : Int} (h0 : 0 ≤ k) (h : k < 3) : ∃ v, idxL [.int a, .int b, .int c] k = .ok (.sh (.int v)) ∧ (v = a ∨ v = b ∨ v = c) := by
  rcases (show k = 0 ∨ k = 1 ∨ k = 2 by lia) with rfl | rfl | rfl
  · exact ⟨a, by simp, Or.inl rfl⟩
  · exact ⟨b, by simp, Or.inr (Or.inl rfl)⟩
  · exact ⟨c, by simp, Or.inr (Or.inr rfl)⟩
theorem kind_at {ks : List Kind} {k : Int} (h0 : 0 ≤ k) (h : k < ks.length) : ∃ x ∈ ks, ks[k.toNat]? = some x ∧ idxL (ks.map kD) k = .ok (.sh (kD x)) := by
  have hl : k.toNat < ks.length := by lia
  refine ⟨ks[k.toNat], List.getElem_mem hl, List.getElem?_eq_getElem hl, idxL_at h0 ?_⟩
  rw [List.getElem?_map, List.getElem?_eq_getElem hl]; rfl
structure WsUp (ks : List Kind) (nm : List Nat) (ws : List Kind) (o : Nat) : Prop where
  len1 : 1 ≤ ws.length
  len : ws.length ≤ 1 + ((ks.take o).filter fun k => k.1 != nm).length
  nodup : (ws.map (·.1)).Nodup
  sub : ∀ w ∈ ws, w.1 = nm ∨ w.1 ∈ (ks.take o).map (·.1)
  rng : ∀ w ∈ ws, 1 ≤ w.2 ∧ w.2 ≤ 9
theorem take_succ' {α : Type} {l : List α} {i : Nat} {x : α} (h : l[i]? = some x) : l.take (i + 1) = l.take i ++ [x] := by
  rw [List.take_add_one, h]; rfl
theorem WsUp.add {ks nm ws o k v} (hk : (ks.map (·.1)).Nodup) (h : WsUp ks nm ws o) (e : ks[o]? = some k) (hn : k.1 ≠ nm) (h1 : 1 ≤ v) (h9 : v ≤ 9) : WsUp ks nm (ws ++ [(k.1, v)]) (o + 1) := by
  have et := take_succ' e
  refine ⟨by simp, ?_, ?_, ?_, ?_⟩
  · have := h.len
    rw [et]; simp [List.filter_append, hn]; lia
  · rw [List.map_append, List.nodup_append]
    refine ⟨h.nodup, by simp, ?_⟩
    intro a ha b hb eab
    simp at hb
    subst hb; subst eab
    obtain ⟨w, hw, ew⟩ := List.mem_map.1 ha
    rcases h.sub w hw with e1 | e1
    · exact hn (ew ▸ e1)
    · rw [ew] at e1
      have hkk : (ks.map (·.1)) = (ks.take o).map (·.1) ++ (ks.drop o).map (·.1) := by rw [← List.map_append, List.take_append_drop]
      rw [hkk, List.nodup_append] at hk
      refine hk.2.2 k.1 e1 k.1 ?_ rfl
      obtain ⟨hl, hx⟩ := List.getElem?_eq_some_iff.1 e
      rw [List.drop_eq_getElem_cons hl, hx]
      simp
  · intro w hw
    rw [et, List.map_append]
    rcases List.mem_append.1 hw with hw | hw
    · rcases h.sub w hw with e1 | e1
      · exact Or.inl e1
      · exact Or.inr (List.mem_append_left _ e1)
    · simp only [List.mem_singleton] at hw; subst hw; exact Or.inr (by simp)
  · intro w hw
    rcases List.mem_append.1 hw with hw | hw
    · exact h.rng w hw
    · simp only [List.mem_singleton] at hw; subst hw; exact ⟨h1, h9⟩
theorem WsUp.skip {ks nm ws o k} (h : WsUp ks nm ws o) (e : ks[o]? = some k) : WsUp ks nm ws (o + 1) := by
  have et := take_succ' e
  refine ⟨h.len1, ?_, h.nodup, ?_, h.rng⟩
  · have := h.len
    rw [et, List.filter_append, List.length_append]; lia
  · intro w hw
    rw [et, List.map_append]
    rcases h.sub w hw with e1 | e1
    · exact Or.inl e1
    · exact Or.inr (List.mem_append_left _ e1)
theorem WsUp.ok {ks nm ws} (hk : ks.length ≤ 5) (hm : nm ∈ ks.map (·.1)) (h : WsUp ks nm ws ks.length) : WsOk ks ws := by
  refine ⟨h.len1, ?_, h.nodup, ?_, h.rng⟩
  · have h1 := h.len
    rw [List.take_length] at h1
    obtain ⟨k, hk1, hk2⟩ := List.mem_map.1 hm
    have : ((ks.filter fun k => k.1 != nm).length) < ks.length := by
      rw [List.length_filter_lt_length_iff_exists]
      exact ⟨k, hk1, by simp [hk2]⟩
    lia
  · intro w hw
    rcases h.sub w hw with e1 | e1
    · rw [e1]; exact hm
    · rw [List.take_length] at e1; exact e1
theorem WsOk.rev {ks ws} (h : WsOk ks ws) : WsOk ks ws.reverse := by
  refine ⟨by simpa using h.len1, by simpa using h.len5, ?_, fun w hw => h.sub w (List.mem_reverse.1 hw), fun w hw => h.rng w (List.mem_reverse.1 hw)⟩
  rw [List.map_reverse]
  exact (List.reverse_perm _).nodup_iff.2 h.nodup
structure Has3o (fns : List Fn) : Prop extends Has3 fns where
  b24 : fns[24]? = some f_l_offer
  b25 : fns[25]? = some f_l_offers
theorem sp_offer (H : Has3o fns) (n : Nat) (ks : List Kind) (hk : KindsOk ks) (m : Int) : ∃ o, OffOk ks o ∧ callF fns (n + 1) 24 [.sh (.lst (ks.map kD)), .sh (.int m)] = .ok (.sh o.dat) := by
  rw [callF_succ H.b24, runFn_plain rfl rfl]
  generalize callF fns n = Φ
  suffices Q : ∃ v, (∃ o, OffOk ks o ∧ v = .sh o.dat) ∧ ∃ ρ', ex Φ t_l_offer [.sh (.lst (ks.map kD)), .sh (.int m), .un, .un, .un, .un, .un, .un] = .ok (.ret v, ρ') by
    obtain ⟨v, ⟨o, ho, rfl⟩, ρ', Q⟩ := Q
    exact ⟨o, ho, (congrArg (· >>= fun r => Out.ok (outOf r)) Q).trans rfl⟩
  have hl1 := hk.len1
  have hl5 := hk.len5
  have hp : (0 : Int) < ks.length := by lia
  have d4 := fdiv_i (a := m) (b := 4) (by decide) (by decide)
  have d20 := fdiv_i (a := m) (b := 20) (by decide) (by decide)
  have d100 := fdiv_i (a := m) (b := 100) (by decide) (by decide)
  have d11 := fdiv_i (a := m) (b := 11) (by decide) (by decide)
  have d700 := fdiv_i (a := m) (b := 700) (by decide) (by decide)
  have ma := mod_i (a := m / 4) hp
  have mb := mod_i (a := m / 20) hp
  have m4 := mod_i (a := m) (b := 4) (by decide)
  obtain ⟨ka, hka, _, eka⟩ := kind_at (ks := ks) (k := m / 4 % ks.length) (Int.emod_nonneg _ (by lia)) (Int.emod_lt_of_pos _ hp)
  obtain ⟨kb, hkb, _, ekb⟩ := kind_at (ks := ks) (k := m / 20 % ks.length) (Int.emod_nonneg _ (by lia)) (Int.emod_lt_of_pos _ hp)
  have ina : ka.1 ∈ ks.map (·.1) := List.mem_map.2 ⟨ka, hka, rfl⟩
  have inb : kb.1 ∈ ks.map (·.1) := List.mem_map.2 ⟨kb, hkb, rfl⟩
  have hln : biD .len [.lst (ks.map kD)] = .ok (.int ks.length) := by show Out.ok (Dat.int ((ks.map kD).length : Int)) = _; rw [List.length_map]
  generalize hmo : m / 100 = mo at *
  unfold t_l_offer
  refine ex_stepP (sx_asg (sv_idxT (l := [.str ka.1, .int ka.2]) (sv_idxL rfl (sb (sb rfl rfl d4) (sv_bi rfl rfl hln) ma) eka) rfl idxL_0) rfl) ?_
  refine ex_stepP (sx_asg (sv_idxT (l := [.str kb.1, .int kb.2]) (sv_idxL rfl (sb (sb rfl rfl d20) (sv_bi rfl rfl hln) mb) ekb) rfl idxL_0) rfl) ?_
  refine ex_stepP (ρ' := [.sh (.lst (ks.map kD)), .sh (.int m), .sh (.str ka.1), .sh (.str kb.1), .sh (.int mo), .un, .un, .un]) (sx_asg (sb rfl rfl d100) rfl) ?_
  by_cases c1 : m % 4 = 1 ∧ kb.1 ≠ ka.1
  · have b1 : (m % 4 == 1) = true := by simp [c1.1]
    have b2 : (kb.1 == ka.1) = false := by simp [c1.2]
    have q1 := fdiv_i (a := mo) (b := 100) (by decide) (by decide)
    have q2 := mod_i (a := mo / 100) (b := 2) (by decide)
    obtain ⟨v, ev, hv⟩ := pick2 100 100000 (k := mo / 100 % 2) (by lia) (by lia)
    have hv0 : 0 < v := by lia
    have q3 := mod_i (a := mo) hv0
    have r0 := Int.emod_nonneg mo (b := v) (by lia)
    have r1 := Int.emod_lt_of_pos mo hv0
    refine ex_retsP (sx_yes (sv_and (sv_cmp (sb rfl rfl m4) rfl rfl rfl (congrArg Out.ok b1)) (sv_cmp rfl rfl rfl rfl (ne_s.trans (congrArg (fun z => Out.ok (!z)) b2)))) (sx_cret (sv_tup (st_cons rfl rfl (st_cons rfl rfl (st_cons rfl rfl (st_cons (sb rfl (sb rfl (sv_idx rfl (sb (sb rfl rfl q1) rfl q2) ev) q3) rfl) rfl rfl)))) rfl) rfl)) ?_
    exact ⟨.slip kb.1 ka.1 (1 + mo % v), ⟨inb, ina, c1.2, by lia, by lia⟩, rfl⟩
  · have cond : (ev Φ (.and (.cmp .eq (.bin .mod (.v 1) (.cI 4)) (.cI 1)) (.cmp .ne (.v 3) (.v 2))) [.sh (.lst (ks.map kD)), .sh (.int m), .sh (.str ka.1), .sh (.str kb.1), .sh (.int mo), .un, .un, .un]) = .ok (.sh (.bool false)) := by
      by_cases hx : m % 4 = 1
      · have hy : (kb.1 == ka.1) = true := by rw [beq_iff_eq]; exact Classical.byContradiction fun h => c1 ⟨hx, h⟩
        exact sv_and (sv_cmp (sb rfl rfl m4) rfl rfl rfl (congrArg Out.ok (beq_iff_eq.2 hx))) (sv_cmp rfl rfl rfl rfl (ne_s.trans (congrArg (fun z => Out.ok (!z)) hy)))
      · exact sv_and_f (sv_cmp (sb rfl rfl m4) rfl rfl rfl (congrArg Out.ok (beq_eq_false_iff_ne.2 hx)))
    refine ex_stepP (sx_no cond) ?_
    by_cases c2 : m % 4 = 2
    · have b2 : (m % 4 == 2) = true := by simp [c2]
      have q1 := mod_i (a := mo) (b := 100) (by decide)
      refine ex_retsP (sx_yes (sv_cmp (sb rfl rfl m4) rfl rfl rfl (congrArg Out.ok b2)) (sx_cret (sv_tup (st_cons rfl rfl (st_cons rfl rfl (st_cons (sb rfl (sb rfl rfl q1) rfl) rfl rfl))) rfl) rfl)) ?_
      exact ⟨.share ka.1 (1 + mo % 100), ⟨ina, by lia, by lia⟩, rfl⟩
    · have b2 : (m % 4 == 2) = false := by simp [c2]
      refine ex_stepP (sx_no (sv_cmp (sb rfl rfl m4) rfl rfl rfl (congrArg Out.ok b2))) ?_
      by_cases c3 : m % 4 = 3
      · have b3 : (m % 4 == 3) = true := by simp [c3]
        have q1 := mod_i (a := mo) (b := 8) (by decide)
        have q2 := fdiv_i (a := mo) (b := 8) (by decide) (by decide)
        have q0 : (0 : Int) < 2 + mo % 8 - 1 := by lia
        have q3 := mod_i (a := mo / 8) q0
        have r0 := Int.emod_nonneg (mo / 8) (b := 2 + mo % 8 - 1) (by lia)
        have r1 := Int.emod_lt_of_pos (mo / 8) q0
        refine ex_retsP (sx_yes (sv_cmp (sb rfl rfl m4) rfl rfl rfl (congrArg Out.ok b3)) (ex_next (sx_asg (sb rfl (sb rfl rfl q1) rfl) rfl) (sx_cret (sv_tup (st_cons rfl rfl (st_cons rfl rfl (st_cons rfl rfl (st_cons (sb rfl (sb (sb rfl rfl q2) rfl q3) rfl) rfl rfl)))) rfl) rfl))) ?_
        exact ⟨.more ka.1 (2 + mo % 8) (1 + mo / 8 % (2 + mo % 8 - 1)), ⟨ina, by lia, by lia, by lia, by lia⟩, rfl⟩
      · have b3 : (m % 4 == 3) = false := by simp [c3]
        refine ex_stepP (sx_no (sv_cmp (sb rfl rfl m4) rfl rfl rfl (congrArg Out.ok b3))) ?_
        have q1 := fdiv_i (a := mo) (b := 9) (by decide) (by decide)
        have q2 := mod_i (a := mo / 9) (b := 2) (by decide)
        obtain ⟨v, ev, hv⟩ := pick2 2 9 (k := mo / 9 % 2) (by lia) (by lia)
        have hv0 : 0 < v := by lia
        have q3 := mod_i (a := mo) hv0
        have r0 := Int.emod_nonneg mo (b := v) (by lia)
        have r1 := Int.emod_lt_of_pos mo hv0
        obtain ⟨ρ', eρ, ws, y4, y7, er, hw⟩ := forL_idx (stepF Φ [7] b_l_offer_1) (fun o ρ => ∃ (ws : List Kind) (y4 : Int) (y7 : Val), ρ = [.sh (.lst (ks.map kD)), .sh (.int m), .sh (.str ka.1), .sh (.str kb.1), .sh (.int y4), .un, .own (ws.map kD), y7] ∧ WsUp ks ka.1 ws o)
          (ks.map kD) 0 [.sh (.lst (ks.map kD)), .sh (.int m), .sh (.str ka.1), .sh (.str kb.1), .sh (.int mo), .un, .own [kD (ka.1, 1 + mo % v)], .un]
          ⟨[(ka.1, 1 + mo % v)], mo, .un, rfl, by simp, by simp, by simp, by simp, by simp; lia⟩ (by
            intro i d ρ hd ⟨ws, y4, y7, er, hw⟩
            subst er
            rw [List.getElem?_map] at hd
            cases ei : ks[i]? with
            | none => rw [ei] at hd; cases hd
            | some k =>
              rw [ei] at hd
              simp only [Option.map_some, Option.some.injEq] at hd
              subst hd
              simp only [Nat.zero_add] at hw ⊢
              have s1 := fdiv_i (a := y4) (b := 18) (by decide) (by decide)
              have s2 := mod_i (a := y4 / 18) (b := 3) (by decide)
              have s3 := fdiv_i (a := y4) (b := 54) (by decide) (by decide)
              have s4 := fdiv_i (a := y4) (b := 486) (by decide) (by decide)
              have s5 := mod_i (a := y4 / 486) (b := 3) (by decide)
              have s6 := fdiv_i (a := y4) (b := 3) (by decide) (by decide)
              obtain ⟨u, eu, hu⟩ := pick3 1 2 9 (k := y4 / 486 % 3) (by lia) (by lia)
              have hu0 : 0 < u := by lia
              have s7 := mod_i (a := y4 / 54) hu0
              have t0 := Int.emod_nonneg (y4 / 54) (b := u) (by lia)
              have t1 := Int.emod_lt_of_pos (y4 / 54) hu0
              have hlw : ws.length < line := by
                have h1 := hw.len
                have h2 := List.length_filter_le (fun k : Kind => k.1 != ka.1) (ks.take i)
                simp only [List.length_take] at h2
                simp only [line]; lia
              by_cases hn : k.1 = ka.1
              · have hb : (k.1 == ka.1) = true := by simp [hn]
                exact ⟨[.sh (.lst (ks.map kD)), .sh (.int m), .sh (.str ka.1), .sh (.str kb.1), .sh (.int (y4 / 3)), .un, .own (ws.map kD), .sh (kD k)], show ex Φ b_l_offer_1 [.sh (.lst (ks.map kD)), .sh (.int m), .sh (.str ka.1), .sh (.str kb.1), .sh (.int y4), .un, .own (ws.map kD), .sh (kD k)] = _ from ex_next (sx_no (sv_and_f (sv_cmp (sv_idxT (l := [.str k.1, .int k.2]) rfl rfl idxL_0) rfl rfl rfl (ne_s.trans (congrArg (fun z => Out.ok (!z)) hb))))) (ex_next (sx_asg (sb rfl rfl s6) rfl) rfl), ws, _, _, rfl, hw.skip ei⟩
              · have hb : (k.1 == ka.1) = false := by simp [hn]
                by_cases hg : 0 < y4 / 18 % 3
                · refine ⟨[.sh (.lst (ks.map kD)), .sh (.int m), .sh (.str ka.1), .sh (.str kb.1), .sh (.int (y4 / 3)), .un, .own ((ws ++ [(k.1, 1 + y4 / 54 % u)]).map kD), .sh (kD k)], ?_, _, _, _, rfl, hw.add hk.nodup ei hn (by lia) (by lia)⟩
                  rw [List.map_append]
                  exact show ex Φ b_l_offer_1 [.sh (.lst (ks.map kD)), .sh (.int m), .sh (.str ka.1), .sh (.str kb.1), .sh (.int y4), .un, .own (ws.map kD), .sh (kD k)] = _ from ex_next (sx_yes (sv_and (sv_cmp (sv_idxT (l := [.str k.1, .int k.2]) rfl rfl idxL_0) rfl rfl rfl (ne_s.trans (congrArg (fun z => Out.ok (!z)) hb))) (sv_cmp (sb (sb rfl rfl s1) rfl s2) rfl rfl rfl (congrArg Out.ok (decide_eq_true hg)))) (ex_next (sx_app rfl (sv_tup (st_cons (sv_idxT (l := [.str k.1, .int k.2]) rfl rfl idxL_0) rfl (st_cons (sb rfl (sb (sb rfl rfl s3) (sv_idx rfl (sb (sb rfl rfl s4) rfl s5) eu) s7) rfl) rfl rfl)) rfl) rfl (by rw [List.length_map]; exact hlw)) rfl)) (ex_next (sx_asg (sb rfl rfl s6) rfl) rfl)
                · exact ⟨[.sh (.lst (ks.map kD)), .sh (.int m), .sh (.str ka.1), .sh (.str kb.1), .sh (.int (y4 / 3)), .un, .own (ws.map kD), .sh (kD k)], show ex Φ b_l_offer_1 [.sh (.lst (ks.map kD)), .sh (.int m), .sh (.str ka.1), .sh (.str kb.1), .sh (.int y4), .un, .own (ws.map kD), .sh (kD k)] = _ from ex_next (sx_no (sv_and (sv_cmp (sv_idxT (l := [.str k.1, .int k.2]) rfl rfl idxL_0) rfl rfl rfl (ne_s.trans (congrArg (fun z => Out.ok (!z)) hb))) (sv_cmp (sb (sb rfl rfl s1) rfl s2) rfl rfl rfl (congrArg Out.ok (decide_eq_false hg))))) (ex_next (sx_asg (sb rfl rfl s6) rfl) rfl), ws, _, _, rfl, hw.skip ei⟩)
        subst er
        simp only [List.length_map, Nat.zero_add] at hw
        have hW := hw.ok hl5 ina
        have z1 := mod_i (a := m / 11) (b := 3) (by decide)
        have z2 := mod_i (a := m / 11) (b := 2) (by decide)
        obtain ⟨w, ew, hw'⟩ := pick2 300 100001 (k := m / 11 % 2) (by lia) (by lia)
        have hw0 : 0 < w := by lia
        have z3 := mod_i (a := m / 700) hw0
        have u0 := Int.emod_nonneg (m / 700) (b := w) (by lia)
        have u1 := Int.emod_lt_of_pos (m / 700) hw0
        have ekd : kD (ka.1, 1 + mo % v) = .tup [.str ka.1, .int (1 + mo % v)] := rfl
        rw [ekd] at eρ
        have ekm : [kD (ka.1, 1 + mo % v)] = [.tup [.str ka.1, .int (1 + mo % v)]] := rfl
        refine ex_stepP (sx_asgO (l := [.tup [.str ka.1, .int (1 + mo % v)]]) (sv_lst (st_cons (sv_tup (st_cons rfl rfl (st_cons (sb rfl (sb rfl (sv_idx rfl (sb (sb rfl rfl q1) rfl q2) ev) q3) rfl) rfl rfl)) rfl) rfl rfl) rfl)) ?_
        refine ex_stepP (sx_for rfl eρ) ?_
        cases hr : (m / 11 % 3 == 1)
        · refine ex_stepP (sx_no (sv_cmp (sb (sb rfl rfl d11) rfl z1) rfl rfl rfl (congrArg Out.ok hr))) ?_
          refine ⟨_, ?_, _, sx_cret (sv_tup (st_cons rfl rfl (st_cons rfl rfl (st_cons (sb (sb rfl rfl d700) (sv_idx rfl (sb (sb rfl rfl d11) rfl z2) ew) z3) rfl rfl))) rfl) rfl⟩
          exact ⟨.set ws (m / 700 % w), ⟨hW, by lia, by lia⟩, rfl⟩
        · refine ex_stepP (sx_yes (sv_cmp (sb (sb rfl rfl d11) rfl z1) rfl rfl rfl (congrArg Out.ok hr)) rfl) ?_
          refine ⟨_, ?_, _, sx_cret (sv_tup (st_cons rfl rfl (st_cons rfl rfl (st_cons (sb (sb rfl rfl d700) (sv_idx rfl (sb (sb rfl rfl d11) rfl z2) ew) z3) rfl rfl))) rfl) rfl⟩
          exact ⟨.set ws.reverse (m / 700 % w), ⟨hW.rev, by lia, by lia⟩, by simp [Off.dat]; rfl⟩
end Mine.PL
namespace Mine.PL
open Mine
variable {fns : List Fn}
structure Has2f (fns : List Fn) : Prop where
  b8 : fns[8]? = some f_wants_pairs
  b10 : fns[10]? = some f_set_fits
  b11 : fns[11]? = some f_fits
noncomputable def Off.names : Off → List (List Nat)
  | .more nm _ _ => [nm]
  | .set ws _ => ws.map (·.1)
  | .share nm _ => [nm]
  | .slip a b _ => [a, b]
theorem KindsOk.name {ks s} (h : KindsOk ks) (hs : s ∈ ks.map (·.1)) : NameOk s := by
  obtain ⟨k, hk, e⟩ := List.mem_map.1 hs
  exact e ▸ h.names k hk
end Mine.PL
namespace Mine.PL
open Mine
variable {fns : List Fn}
end Mine.PL
namespace Mine.PL
open Mine
variable {fns : List Fn}
theorem lt_line {n : Nat} (h : n ≤ 2000) : n < line := Nat.lt_of_le_of_lt h (by simp only [line]; lia)
theorem le_line {n : Nat} (h : n ≤ 2000) : n ≤ line := Nat.le_of_lt (lt_line h)
end Mine.PL
namespace Mine.PL
open Mine
variable {fns : List Fn}
noncomputable def nameD (d : Dat) : Bool := match d with
  | .str s => decide (1 ≤ s.length) && decide (s.length ≤ 8) && s.all fun c => decide (c ∈ letters)
  | _ => false
theorem ex_exn {Φ : Nat → List Val → Out Val} {a b : T} {ρ : List Val} {c : Nat} (h : ex Φ a ρ = .exn c) : ex Φ (.cons a b) ρ = .exn c := by show seq (ex Φ a ρ) (ex Φ b) = _; rw [h]; rfl
theorem forL_exn {f : List Val → Dat → Out (Fl × List Val)} {ρ : List Val} {d : Dat} {ds : List Dat} {c : Nat} (h : f ρ d = .exn c) : forL f (d :: ds) ρ = .exn c := by show seq (f ρ d) (forL f ds) = _; rw [h]; rfl
theorem sign_in (c : Nat) : cmpD .notin (.str [c]) (.str letters) = .ok (!decide (c ∈ letters)) := rfl
theorem for_nameD (Φ) (X : Val) : ∀ (l : List Nat) (y : Val), ∃ ρ, forL (stepF Φ [1] b_is_name_1) (signs l) [X, y] = (if l.all (fun c => decide (c ∈ letters)) then .ok (.next, ρ) else .ok (.ret (.sh (.bool false)), ρ))
  | [], y => ⟨_, rfl⟩
  | c :: l, y => by
    obtain ⟨ρ, e⟩ := for_nameD Φ X l (.sh (.str [c]))
    have hs := sign_in c
    by_cases hc : c ∈ letters
    · refine ⟨ρ, ?_⟩
      rw [decide_eq_true hc] at hs
      rw [signs, List.map_cons, List.all_cons, decide_eq_true hc, Bool.true_and, ← e]
      exact forL_next (show ex Φ b_is_name_1 [X, .sh (.str [c])] = _ from ex_next (sx_no (sv_cmp rfl rfl rfl rfl hs)) rfl)
    · refine ⟨[X, .sh (.str [c])], ?_⟩
      rw [decide_eq_false hc] at hs
      rw [signs, List.map_cons, List.all_cons, decide_eq_false hc, Bool.false_and]
      exact forL_ret (show ex Φ b_is_name_1 [X, .sh (.str [c])] = _ from sx_stop (sx_yes (sv_cmp rfl rfl rfl rfl hs) (sx_cret rfl rfl)))
theorem sv_cmp2 {Φ : Nat → List Val → Out Val} {ρ : List Val} {a b c : T} {o p : COp} {x y z : Val} {dx dy dz : Dat} {q1 q2 : Bool} (ha : ev Φ a ρ = .ok x) (hb : ev Φ b ρ = .ok y) (hc : ev Φ c ρ = .ok z) (nx : needB x = .ok dx) (ny : needB y = .ok dy) (nz : needB z = .ok dz)
    (h1 : cmpD o dx dy = .ok q1) (h2 : cmpD p dy dz = .ok q2) : ev Φ (.cmp2 o p a b c) ρ = .ok (.sh (.bool (q1 && q2))) := by
  refine ev_cmp2.trans (ob (x := q1 && q2) (ob (ob ha nx) (ob (ob hb ny) (ob h1 ?_))) rfl)
  cases q1
  · rfl
  · exact ob (ob hc nz) h2
theorem sv_orB {Φ : Nat → List Val → Out Val} {ρ : List Val} {a b : T} {p q : Bool} (ha : ev Φ a ρ = .ok (.sh (.bool p))) (hb : p = false → ev Φ b ρ = .ok (.sh (.bool q))) : ev Φ (.or a b) ρ = .ok (.sh (.bool (p || q))) := by
  cases p
  · exact sv_or ha (hb rfl)
  · exact sv_or_t ha
theorem sv_andB {Φ : Nat → List Val → Out Val} {ρ : List Val} {a b : T} {p q : Bool} (ha : ev Φ a ρ = .ok (.sh (.bool p))) (hb : p = true → ev Φ b ρ = .ok (.sh (.bool q))) : ev Φ (.and a b) ρ = .ok (.sh (.bool (p && q))) := by
  cases p
  · exact sv_and_f ha
  · exact sv_and ha (hb rfl)
theorem len_test {Φ : Nat → List Val → Out Val} {ρ : List Val} {a hi : T} {X : Val} {d : Dat} {k : Int} {n : Nat} (ha : ev Φ a ρ = .ok X) (hx : argV X = .ok X) (hn : needB X = .ok d) (hh : ev Φ hi ρ = .ok (.sh (.int k))) (hb : lenD d = .ok (.int n)) :
    ev Φ (.not (.cmp2 .le .le (.cI 1) (.bi .len (.cons a .nil)) hi)) ρ = .ok (.sh (.bool (!(decide ((1 : Int) ≤ n) && decide ((n : Int) ≤ k))))) := by
  refine sv_not (sv_cmp2 rfl (sv_bi (as := [X]) (l := [d]) (d := .int n) (st_cons ha hx rfl) ?_ hb) hh rfl rfl rfl rfl rfl)
  show (needB X >>= fun d => allB [] >>= fun ds => Out.ok (d :: ds)) = _
  rw [hn]; rfl
theorem sp_nameD (H : Has01 fns) (n : Nat) (d : Dat) (h : d ≠ .dic) : callF fns (n + 1) 1 [.sh d] = .ok (.sh (.bool (nameD d))) := by
  rw [callF_succ H.b1, runFn_plain rfl rfl]
  cases d with
  | dic => exact absurd rfl h
  | str s =>
    obtain ⟨ρ, e⟩ := for_nameD (callF fns n) (.sh (.str s)) s .un
    have t1 : ev (callF fns n) (.or (.not (.isi .str (.v 0))) (.not (.cmp2 .le .le (.cI 1) (.bi .len (.cons (.v 0) .nil)) (.gI 8)))) [.sh (.str s), .un] = .ok (.sh (.bool (!(decide ((1 : Int) ≤ s.length) && decide ((s.length : Int) ≤ 8))))) := sv_or rfl (len_test (X := .sh (.str s)) rfl rfl rfl rfl rfl)
    have hd : nameD (.str s) = ((decide ((1 : Int) ≤ s.length) && decide ((s.length : Int) ≤ 8)) && s.all fun c => decide (c ∈ letters)) := by
      show (decide (1 ≤ s.length) && decide (s.length ≤ 8) && _) = _
      congr 2
      · exact decide_eq_decide.mpr (by lia)
      · exact decide_eq_decide.mpr (by lia)
    rw [hd]
    generalize (decide ((1 : Int) ≤ s.length) && decide ((s.length : Int) ≤ 8)) = q at t1
    refine run_ret ?_
    cases q
    · exact ⟨_, sx_stop (sx_yes t1 (sx_cret rfl rfl))⟩
    · refine ex_step (sx_no t1) ?_
      cases ha : s.all (fun c => decide (c ∈ letters)) with
      | true =>
        rw [ha] at e
        exact ex_step (sx_for rfl e) (ex_ret1 (sx_ret rfl rfl))
      | false =>
        rw [ha] at e
        exact ex_ret1 (sx_for rfl e)
  | _ => rfl
end Mine.PL
namespace Mine.PL
open Mine
variable {fns : List Fn}
noncomputable def fstD (d : Dat) : Dat := match d with
  | .tup (a :: _) => a
  | _ => .none
noncomputable def sndD (d : Dat) : Dat := match d with
  | .tup (_ :: b :: _) => b
  | _ => .none
end Mine.PL
namespace Mine.PL
open Mine
variable {fns : List Fn}
section
variable {Φ : Nat → List Val → Out Val} {ρ : List Val} {i f : Nat} {d a b : Dat}
theorem ev_at (hv : ρ.getD i .un = .sh d) : ev Φ (.v i) ρ = .ok (.sh d) := by show rd (ρ.getD i .un) = _; rw [hv]; rfl
theorem fine_dic {k : Nat} (h : Dat.fine k d = true) : d ≠ .dic := fun q => by subst q; cases k <;> cases h
theorem fine_tup {k : Nat} {l : List Dat} (h : Dat.fine (k + 1) (.tup l) = true) : ∀ x ∈ l, Dat.fine k x = true := List.all_eq_true.mp h
theorem in_test {j : Nat} {names : List Dat} (hv : ρ.getD i .un = .sh (.tup [a, b])) (hn : ρ.getD j .un = .own names) (fa : a.fine 20 = true) (fn : names.all (Dat.fine 20) = true) :
    ev Φ (.cmp .isin (.idx (.v i) (.cI 0)) (.v j)) ρ = .ok (.sh (.bool (names.any fun x => Dat.eq x a))) := by
  have e := ev_at (Φ := Φ) hv
  have e2 : ev Φ (.v j) ρ = .ok (.bor names) := by show rd (ρ.getD j .un) = _; rw [hn]; rfl
  refine sv_cmp (sv_idxT e rfl rfl) e2 rfl rfl ?_
  show (if a.fine 20 && names.all (Dat.fine 20) then Out.ok _ else .bad) = _
  rw [fa, fn]; rfl
end
end Mine.PL
namespace Mine.PL
open Mine
variable {fns : List Fn}
theorem fine_up {k : Nat} {d : Dat} (h : Dat.fine k d = true) : Dat.fine (k + 1) d = true := by
  induction k generalizing d with
  | zero => cases d <;> first | rfl | cases h
  | succ k ih => cases d <;> first | rfl | (exact List.all_eq_true.mpr fun x hx => ih (List.all_eq_true.mp h x hx)) | cases h
end Mine.PL
namespace Mine.PL
open Mine
variable {fns : List Fn}
theorem sx_try {Φ : Nat → List Val → Out Val} {a h : T} {k i c : Nat} {ρ ρ2 : List Val} {d : Dat} (ha : ex Φ a ρ = .exn c) (hh : ex Φ h ((ρ.map fun _ => Val.un).set i (.exc c)) = .ok (.ret (.sh d), ρ2)) : ex Φ (.try_ a k i h) ρ = .ok (.ret (.sh d), ρ2.set i .un) := by
  show tryS i (ex Φ h) ρ (ex Φ a ρ) = _
  rw [ha]
  show (noX (ex Φ h ((ρ.map fun _ => Val.un).set i (.exc c))) >>= fun r => plF r.1 >>= fun f => Out.ok (f, r.2.set i .un)) = _
  rw [hh]; rfl
theorem sx_tryN {Φ : Nat → List Val → Out Val} {a h : T} {k i : Nat} {ρ : List Val} {r : Fl × List Val} (ha : ex Φ a ρ = .ok r) : ex Φ (.try_ a k i h) ρ = .ok r := by
  show tryS i (ex Φ h) ρ (ex Φ a ρ) = _
  rw [ha]; rfl
theorem sx_asgX {Φ : Nat → List Val → Out Val} {e : T} {ρ : List Val} {i c : Nat} (h : ev Φ e ρ = .exn c) : ex Φ (.asg i e) ρ = .exn c := by
  show (ev Φ e ρ >>= stoV >>= fun x => Out.ok (Fl.next, ρ.set i x)) = _
  rw [h]; rfl
theorem sx_retX {Φ : Nat → List Val → Out Val} {e : T} {ρ : List Val} {c : Nat} (h : ev Φ e ρ = .exn c) : ex Φ (.ret e) ρ = .exn c := by
  show (ev Φ e ρ >>= retV >>= fun x => Out.ok (Fl.ret x, ρ)) = _
  rw [h]; rfl
end Mine.PL
namespace Mine.PL
open Mine
variable {fns : List Fn}
theorem idx_get {l : List Dat} {k : Int} (h0 : 0 ≤ k) (h : k < l.length) : ∃ d ∈ l, idxL l k = .ok (.sh d) := by
  have hk : k.toNat < l.length := by lia
  refine ⟨l[k.toNat], List.getElem_mem hk, ?_⟩
  unfold idxL posOf
  rw [if_pos h0, if_pos h]
  show (match l[k.toNat]? with | some d => Out.ok (Val.sh d) | Option.none => .bad) = _
  rw [List.getElem?_eq_getElem hk]
theorem len_cut {α : Type} {lo hi : Option Int} {l : List α} : (cut lo hi l).length ≤ l.length := by
  unfold cut
  rw [List.length_take, List.length_drop]
  lia
section
variable {Φ : Nat → List Val → Out Val} {ρ ρ' : List Val} {a b e lo hi : T} {is : List Nat} {ds l l' : List Dat} {s s' : List Nat} {x y : Option Int}
theorem sv_slS (h : ev Φ a ρ = .ok (.sh (.str s))) (h1 : evO Φ lo ρ = .ok x) (h2 : evO Φ hi ρ = .ok y) : ev Φ (.sl a lo hi) ρ = .ok (.sh (.str (cut x y s))) := by
  rw [ev_sl, h]
  show (evO Φ lo ρ >>= fun l => evO Φ hi ρ >>= fun h => sl2 (.str s) l h) = _
  rw [h1]
  show (evO Φ hi ρ >>= fun h => sl2 (.str s) x h) = _
  rw [h2]; rfl
theorem sv_addS (ha : ev Φ a ρ = .ok (.sh (.str s))) (hb : ev Φ b ρ = .ok (.sh (.str s'))) (h : s.length + s'.length ≤ line) : ev Φ (.bin .add a b) ρ = .ok (.sh (.str (s ++ s'))) := sv_bin ha hb rfl rfl (if_pos h)
theorem sv_addL {X Y : Val} (ha : ev Φ a ρ = .ok X) (hb : ev Φ b ρ = .ok Y) (hX : needB X = .ok (.lst l)) (hY : needB Y = .ok (.lst l')) (h : l.length + l'.length ≤ line) : ev Φ (.bin .add a b) ρ = .ok (.own (l ++ l')) := sv_bin ha hb hX hY (if_pos h)
end
end Mine.PL
namespace Mine.PL
open Mine
variable {fns : List Fn}
end Mine.PL
namespace Mine.PL
open Mine
variable {fns : List Fn}
noncomputable def rangeD (d : Dat) (lo hi : Int) : Bool := match d with
  | .int i => decide (lo ≤ i) && decide (i ≤ hi)
  | _ => false
theorem sp_betweenR (H : Has01 fns) (n : Nat) (d : Dat) (lo hi : Int) (h : d ≠ .dic) : callF fns (n + 1) 0 [.sh d, .sh (.int lo), .sh (.int hi)] = .ok (.sh (.bool (rangeD d lo hi))) := by
  cases d with
  | dic => exact absurd rfl h
  | int i => exact sp_between H n i lo hi
  | _ => rw [callF_succ H.b0, runFn_plain rfl rfl]; rfl
noncomputable def isPair (d : Dat) : Bool := match d with
  | .tup [_, _] => true
  | _ => false
noncomputable def pairsD (d : Dat) : Bool := match d with
  | .tup l => l.all isPair
  | _ => false
theorem pair_of {d : Dat} (h : isPair d = true) : ∃ a b, d = .tup [a, b] := by
  cases d with
  | tup l =>
    match l, h with
    | [a, b], h => exact ⟨a, b, rfl⟩
    | [], h => cases h
    | [_], h => cases h
    | _ :: _ :: _ :: _, h => cases h
  | _ => cases h
theorem pair_test {Φ : Nat → List Val → Out Val} {ρ : List Val} {i : Nat} {d : Dat} (hv : ρ.getD i .un = .sh d) (hd : d ≠ .dic) :
    ev Φ (.or (.not (.isi .tuple (.v i))) (.cmp .ne (.bi .len (.cons (.v i) .nil)) (.cI 2))) ρ = .ok (.sh (.bool (!isPair d))) := by
  have e := ev_at (Φ := Φ) hv
  have nt : ∀ p : Bool, isiD .tuple d = .ok p → ev Φ (.not (.isi .tuple (.v i))) ρ = .ok (.sh (.bool (!p))) := fun p h => sv_not (sv_isi e rfl h)
  have ln : ∀ k : Int, lenD d = .ok (.int k) → ev Φ (.cmp .ne (.bi .len (.cons (.v i) .nil)) (.cI 2)) ρ = .ok (.sh (.bool (!(k == 2)))) := fun k h => sv_cmp (sv_bi (st_cons e rfl rfl) rfl h) rfl rfl rfl ne_i
  cases d with
  | dic => exact absurd rfl hd
  | tup l =>
    refine sv_or (nt true rfl) ?_
    cases l with
    | nil => exact ln 0 rfl
    | cons a l =>
      cases l with
      | nil => exact ln 1 rfl
      | cons b l =>
        cases l with
        | nil => exact ln 2 rfl
        | cons c r =>
          have h3 := ln ((a :: b :: c :: r).length : Int) rfl
          rw [show (((a :: b :: c :: r).length : Int) == 2) = false from beq_eq_false_iff_ne.mpr (by simp only [List.length_cons]; lia)] at h3
          exact h3
  | _ => exact sv_or_t (nt false rfl)
theorem fine_tup' {d : Dat} {l : List Dat} {k : Nat} (h : Dat.fine (k + 1) (.tup l) = true) (hd : d ∈ l) : Dat.fine k d = true := fine_tup h d hd
theorem pairs_loop (Φ) (X : Val) : ∀ (l : List Dat) (y : Val), (∀ d ∈ l, d ≠ .dic) → ∃ ρ, forL (stepF Φ [1] b_wants_pairs_1) l [X, y] = (if l.all isPair then .ok (.next, ρ) else .ok (.ret (.sh (.bool false)), ρ))
  | [], y, _ => ⟨_, rfl⟩
  | d :: l, y, hd => by
    have t := pair_test (Φ := Φ) (ρ := [X, .sh d]) (i := 1) rfl (hd d (List.mem_cons_self ..))
    rw [List.all_cons]
    cases hp : isPair d with
    | true =>
      rw [hp] at t
      obtain ⟨ρ, e⟩ := pairs_loop Φ X l (.sh d) fun x hx => hd x (List.mem_cons_of_mem _ hx)
      refine ⟨ρ, ?_⟩
      rw [Bool.true_and, ← e]
      exact forL_next (show ex Φ b_wants_pairs_1 [X, .sh d] = _ from ex_next (sx_no t) rfl)
    | false =>
      rw [hp] at t
      refine ⟨[X, .sh d], ?_⟩
      rw [Bool.false_and]
      exact forL_ret (show ex Φ b_wants_pairs_1 [X, .sh d] = _ from sx_stop (sx_yes t (sx_cret rfl rfl)))
theorem sp_pairs (H : Has2f fns) (n : Nat) {d : Dat} {k : Nat} (fd : Dat.fine (k + 2) d = true) : callF fns (n + 1) 8 [.sh d] = .ok (.sh (.bool (pairsD d))) := by
  rw [callF_succ H.b8, runFn_plain rfl rfl]
  cases d with
  | dic => cases fd
  | tup l =>
    obtain ⟨ρ, e⟩ := pairs_loop (callF fns n) (.sh (.tup l)) l .un fun x hx => fine_dic (fine_tup' fd hx)
    refine run_ret (ex_step (sx_no rfl) ?_)
    show ∃ ρ2, ex _ _ _ = .ok (.ret (.sh (.bool (l.all isPair))), ρ2)
    cases ha : l.all isPair with
    | true => rw [ha] at e; exact ex_step (sx_for rfl e) (ex_ret1 (sx_ret rfl rfl))
    | false => rw [ha] at e; exact ex_ret1 (sx_for rfl e)
  | _ => rfl
theorem comp_fst {Φ : Nat → List Val → Out Val} {ρ : List Val} {i : Nat} (hρ : ∀ d, (ρ.set i (.sh d)).getD i .un = .sh d) : ∀ {l : List Dat}, (∀ d ∈ l, isPair d = true) → compL (compF Φ (.idx (.v i) (.cI 0)) [i] .nil ρ) l = .ok (l.map fstD) := fun {l} hp =>
  compL_map fun d hd => by
    obtain ⟨a, b, rfl⟩ := pair_of (hp d hd)
    exact cf_nil (show bindT [i] (.tup [a, b]) ρ = .ok (ρ.set i (.sh (.tup [a, b]))) from rfl) (sv_idxT (ev_at (hρ _)) rfl rfl) rfl
end Mine.PL
namespace Mine.PL
open Mine
variable {fns : List Fn}
theorem all_pairs {l : List Dat} (h : l.all isPair = true) : ∀ d ∈ l, isPair d = true := List.all_eq_true.mp h
noncomputable def parts : List (List Nat × Int) := [([109, 111, 114, 101], 4), ([115, 101, 116], 3), ([115, 104, 97, 114, 101], 3), ([115, 108, 105, 112], 4)]
section
variable {Φ : Nat → List Val → Out Val} {S : Val} {ρ : List Val} {x : Dat} {w : List Nat} {r : List Dat}
end
end Mine.PL
namespace Mine.PL
open Mine
variable {fns : List Fn}
noncomputable def setL (names : List Dat) : List Dat → Bool
  | [] => true
  | x :: l => (!(names.any fun y => Dat.eq y (fstD x)) && rangeD (sndD x) 1 9) && setL (names ++ [fstD x]) l
noncomputable def intOf (d : Dat) : Int := match d with
  | .int i => i
  | _ => 0
noncomputable def itemsD (d : Dat) : List Dat := match d with
  | .tup l => l
  | _ => []
noncomputable def setD (a b : Dat) : Bool := pairsD a && ((decide ((1 : Int) ≤ (itemsD a).length) && decide (((itemsD a).length : Int) ≤ 5)) && (rangeD b 0 100000 && setL [] (itemsD a)))
theorem fits_loop (H : Has01 fns) (n : Nat) (X Y : Val) : ∀ (l names : List Dat) (y : Val), (∀ d ∈ l, isPair d = true ∧ Dat.fine 18 d = true) → names.all (Dat.fine 20) = true → names.length + l.length < line →
    ∃ ρ, forL (stepF (callF fns (n + 1)) [3] b_set_fits_1) l [X, Y, .own names, y] = (if setL names l then .ok (.next, ρ) else .ok (.ret (.sh (.bool false)), ρ))
  | [], names, y, _, _, _ => ⟨_, rfl⟩
  | d :: l, names, y, hd, fn, hl => by
    obtain ⟨hp, fd⟩ := hd d (List.mem_cons_self ..)
    obtain ⟨a, b, rfl⟩ := pair_of hp
    have fa : Dat.fine 17 a = true := fine_tup' fd (by simp)
    have fb : Dat.fine 17 b = true := fine_tup' fd (by simp)
    have fa20 : Dat.fine 20 a = true := fine_up (fine_up (fine_up fa))
    have t1 := in_test (Φ := callF fns (n + 1)) (ρ := [X, Y, .own names, .sh (.tup [a, b])]) (i := 3) (j := 2) rfl rfl fa20 fn
    have t2 : ev (callF fns (n + 1)) (.not (.call 0 (.cons (.idx (.v 3) (.cI 1)) (.cons (.cI 1) (.cons (.cI 9) .nil))))) [X, Y, .own names, .sh (.tup [a, b])] = .ok (.sh (.bool (!rangeD b 1 9))) := sv_not (sv_call rfl (sp_betweenR H n b 1 9 (fine_dic fb)))
    have t := sv_orB t1 fun _ => t2
    have hs : setL names (.tup [a, b] :: l) = ((!(names.any fun y => Dat.eq y a) && rangeD b 1 9) && setL (names ++ [a]) l) := rfl
    rw [hs]
    rw [List.length_cons] at hl
    cases hq : (!(names.any fun y => Dat.eq y a) && rangeD b 1 9) with
    | false =>
      have hq' : ((names.any fun x => Dat.eq x a) || !rangeD b 1 9) = true := by
        cases h1 : names.any (fun x => Dat.eq x a)
        · rw [h1] at hq; rw [show rangeD b 1 9 = false from hq]; rfl
        · rfl
      rw [hq'] at t
      exact ⟨_, forL_ret (show ex (callF fns (n + 1)) b_set_fits_1 [X, Y, .own names, .sh (.tup [a, b])] = _ from sx_stop (sx_yes t (sx_cret rfl rfl)))⟩
    | true =>
      have hq' : ((names.any fun x => Dat.eq x a) || !rangeD b 1 9) = false := by
        obtain ⟨h1, h2⟩ := Bool.and_eq_true_iff.mp hq
        rw [h2, show names.any (fun x => Dat.eq x a) = false from by simpa using h1]; rfl
      rw [hq'] at t
      obtain ⟨ρ, e⟩ := fits_loop H n X Y l (names ++ [a]) (.sh (.tup [a, b])) (fun x hx => hd x (List.mem_cons_of_mem _ hx)) (by rw [List.all_append, fn, List.all_cons, fa20]; rfl) (by rw [List.length_append, List.length_cons, List.length_nil]; lia)
      refine ⟨ρ, ?_⟩
      rw [Bool.true_and, ← e]
      exact forL_next (show ex (callF fns (n + 1)) b_set_fits_1 [X, Y, .own names, .sh (.tup [a, b])] = _ from ex_next (sx_no t) (ex_next (sx_app rfl rfl rfl (by lia)) rfl))
theorem len5_lt {l : List Dat} (h : (decide ((1 : Int) ≤ l.length) && decide ((l.length : Int) ≤ 5)) = true) : ([] : List Dat).length + l.length < line := by
  have := of_decide_eq_true (Bool.and_eq_true_iff.mp h).2
  exact Nat.lt_of_le_of_lt (show 0 + l.length ≤ 5 by lia) (by decide)
theorem sp_setD (H1 : Has01 fns) (H : Has2f fns) (n : Nat) {a b : Dat} (fa : Dat.fine 19 a = true) (fb : Dat.fine 19 b = true) : callF fns (n + 2) 10 [.sh a, .sh b] = .ok (.sh (.bool (setD a b))) := by
  have hw := sp_pairs H n (d := a) (k := 17) fa
  rw [callF_succ H.b10, runFn_plain rfl rfl]
  refine run_ret ?_
  unfold setD
  cases hp : pairsD a with
  | false => rw [hp] at hw; exact ex_ret1 (sx_yes (sv_or_t (sv_not (sv_call rfl hw))) (sx_cret rfl rfl))
  | true =>
    rw [hp] at hw
    cases a with
    | tup l =>
      have e1 := len_test (Φ := callF fns (n + 1)) (ρ := [.sh (.tup l), .sh b, .un, .un]) (a := .v 0) (hi := .cI 5) (X := .sh (.tup l)) rfl rfl rfl rfl (n := l.length) rfl
      have e2 : ev (callF fns (n + 1)) (.not (.call 0 (.cons (.v 1) (.cons (.cI 0) (.cons (.gI 100000) .nil))))) [.sh (.tup l), .sh b, .un, .un] = .ok (.sh (.bool (!rangeD b 0 100000))) := sv_not (sv_call rfl (sp_betweenR H1 n b 0 100000 (fine_dic fb)))
      have e0 : ev (callF fns (n + 1)) (.not (.call 8 (.cons (.v 0) .nil))) [.sh (.tup l), .sh b, .un, .un] = .ok (.sh (.bool false)) := sv_not (sv_call rfl hw)
      have e := sv_or e0 (sv_orB e1 fun _ => e2)
      show ∃ ρ2, ex _ _ _ = .ok (.ret (.sh (.bool (true && ((decide ((1 : Int) ≤ l.length) && decide ((l.length : Int) ≤ 5)) && (rangeD b 0 100000 && setL [] l))))), ρ2)
      cases hq : (decide ((1 : Int) ≤ l.length) && decide ((l.length : Int) ≤ 5)) with
      | false => rw [hq] at e; exact ex_ret1 (sx_yes e (sx_cret rfl rfl))
      | true =>
        rw [hq] at e
        cases hr : rangeD b 0 100000 with
        | false => rw [hr] at e; exact ex_ret1 (sx_yes e (sx_cret rfl rfl))
        | true =>
          rw [hr] at e
          obtain ⟨ρ, ef⟩ := fits_loop H1 n (.sh (.tup l)) (.sh b) l [] .un (fun d hd => ⟨all_pairs hp d hd, fine_tup' fa hd⟩) rfl (len5_lt hq)
          refine ex_step (sx_no e) (ex_step (sx_asgO rfl) ?_)
          cases hs : setL [] l with
          | true => rw [hs] at ef; exact ex_step (sx_for rfl ef) (ex_ret1 (sx_ret rfl rfl))
          | false => rw [hs] at ef; exact ex_ret1 (sx_for rfl ef)
    | _ => cases hp
inductive SoundIs : Dat → Bool → Prop
  | more (a b c : Dat) : SoundIs (.tup [.str sMore, a, b, c]) (rangeD b 2 9 && rangeD c 1 (intOf b - 1))
  | set (a b : Dat) : SoundIs (.tup [.str sSet, a, b]) (setD a b)
  | share (a b : Dat) : SoundIs (.tup [.str sShare, a, b]) (rangeD b 1 100)
  | slip (a b c : Dat) : SoundIs (.tup [.str sSlip, a, b, c]) (!(Dat.eq a b) && rangeD c 1 100000)
theorem range_int {d : Dat} {lo hi : Int} (h : rangeD d lo hi = true) : ∃ i : Int, d = .int i ∧ lo ≤ i ∧ i ≤ hi := by
  cases d with
  | int i =>
    have h : (decide (lo ≤ i) && decide (i ≤ hi)) = true := h
    simp only [Bool.and_eq_true, decide_eq_true_eq] at h
    exact ⟨i, rfl, h⟩
  | _ => cases h
theorem ne_any {a b : Dat} (fa : Dat.fine 20 a = true) (fb : Dat.fine 20 b = true) : cmpD .ne a b = .ok (!Dat.eq a b) := if_pos (by rw [fa, fb]; rfl)
theorem sp_fitsD (H1 : Has01 fns) (H : Has2f fns) (n : Nat) {o : Dat} {q : Bool} (S : SoundIs o q) (fo : Dat.fine 20 o = true) : callF fns (n + 3) 11 [.sh o] = .ok (.sh (.bool q)) := by
  have bt := fun d lo hi h => sp_betweenR H1 (n + 1) d lo hi h
  have st := fun {a b : Dat} fa fb => sp_setD H1 H n (a := a) (b := b) fa fb
  rw [callF_succ H.b11, runFn_plain rfl rfl]
  generalize callF fns (n + 2) = Φ at bt st
  refine run_ret ?_
  cases S with
  | more a b c =>
    have fb : b ≠ .dic := fine_dic (fine_tup' fo (by simp))
    have fc : c ≠ .dic := fine_dic (fine_tup' fo (by simp))
    refine ex_ret1 (sx_yes rfl (sx_cret (sv_andB (sv_call rfl (bt b 2 9 fb)) fun hq => ?_) rfl))
    obtain ⟨i, rfl, _, _⟩ := range_int hq
    exact sv_call rfl (bt c 1 (i - 1) fc)
  | set a b => exact ex_step (sx_no rfl) (ex_ret1 (sx_yes rfl (sx_cret (sv_call rfl (st (fine_tup' fo (by simp)) (fine_tup' fo (by simp)))) rfl)))
  | share a b =>
    have fb : b ≠ .dic := fine_dic (fine_tup' fo (by simp))
    exact ex_step (sx_no rfl) (ex_step (sx_no rfl) (ex_ret1 (sx_yes rfl (sx_cret (sv_call rfl (bt b 1 100 fb)) rfl))))
  | slip a b c =>
    have fc : c ≠ .dic := fine_dic (fine_tup' fo (by simp))
    exact ex_step (sx_no rfl) (ex_step (sx_no rfl) (ex_step (sx_no rfl) (ex_ret1 (sx_ret (sv_andB (sv_cmp rfl rfl rfl rfl (ne_any (fine_up (fine_tup' fo (by simp))) (fine_up (fine_tup' fo (by simp))))) fun _ => sv_call rfl (bt c 1 100000 fc)) rfl))))
end Mine.PL
namespace Mine.PL
open Mine
variable {fns : List Fn}
theorem strOf_len {i : Int} (h0 : 0 ≤ i) (h : i < 10 ^ 12) : (strOfInt i).length ≤ 12 := by
  obtain ⟨n, rfl⟩ := Int.eq_ofNat_of_zero_le h0
  show (n.repr.toList.map Char.toNat).length ≤ 12
  rw [List.length_map, Nat.toList_repr, Nat.length_toDigits_le_iff (by decide) (by decide)]
  exact Int.ofNat_lt.1 h
theorem str_i {i : Int} (h0 : 0 ≤ i) (h : i < 10 ^ 12) : biD .str [.int i] = .ok (.str (strOfInt i)) := by
  have h1 := strOf_len h0 h
  exact if_pos ⟨by lia, le_line (by lia)⟩
noncomputable def sDs (ws : List (List Nat)) : List Dat := ws.map Dat.str
theorem strsOf_sDs : ∀ ws : List (List Nat), strsOf (sDs ws) = some ws
  | [] => rfl
  | w :: ws => by
    show (strsOf (sDs ws)).map (w :: ·) = _
    rw [strsOf_sDs ws]; rfl
noncomputable def small (ws : List (List Nat)) : Prop := ∀ w ∈ ws, w.length ≤ 12
theorem sum_small : ∀ {ws : List (List Nat)}, small ws → (ws.map List.length).sum ≤ 12 * ws.length
  | [], _ => Nat.le_refl _
  | w :: ws, h => by
    have h1 := h w (List.mem_cons_self ..)
    have h2 := sum_small (ws := ws) fun x hx => h x (List.mem_cons_of_mem _ hx)
    simp only [List.map_cons, List.sum_cons, List.length_cons]; lia
theorem joinW_len : ∀ {ws : List (List Nat)}, (joinW [32] ws).length ≤ (ws.map List.length).sum + ws.length
  | [] => Nat.le_refl _
  | [x] => by simp [joinW]
  | x :: y :: ws => by
    have h := joinW_len (ws := y :: ws)
    show (x ++ [32] ++ joinW [32] (y :: ws)).length ≤ _
    simp only [List.length_append, List.map_cons, List.sum_cons, List.length_cons, List.length_nil] at h ⊢; lia
theorem join_ok {ws : List (List Nat)} (h : small ws) (hl : ws.length ≤ 20) : joinD [32] (sDs ws) = .ok (.sh (.str (joinW [32] ws))) := by
  have h1 := sum_small h
  unfold joinD
  rw [strsOf_sDs]
  exact if_pos (le_line (by simp only [List.length_cons, List.length_nil]; lia))
theorem join_small {ws : List (List Nat)} (h : small ws) (hl : ws.length ≤ 20) : (joinW [32] ws).length ≤ 300 := by
  have h1 := sum_small h
  have h2 := joinW_len (ws := ws)
  lia
noncomputable def pairW (k : Kind) : List (List Nat) := [k.1, strOfInt k.2]
noncomputable def wordsOf : Off → List (List Nat)
  | .more nm m c => [sMore, nm, strOfInt m, strOfInt c]
  | .set ws p => (sSet :: ws.flatMap pairW) ++ [[97, 116], strOfInt p]
  | .share nm p => [sShare, nm, strOfInt p]
  | .slip a b x => [sSlip, a, b, strOfInt x]
noncomputable def textOf (o : Off) : List Nat := joinW [32] (wordsOf o)
theorem small_c {w : List Nat} {ws : List (List Nat)} (h : w.length ≤ 12) (hs : small ws) : small (w :: ws) := fun x hx => (List.mem_cons.1 hx).elim (fun e => e ▸ h) (hs x)
theorem small_n : small [] := fun _ hx => nomatch hx
theorem name_le {ks : List Kind} (hk : KindsOk ks) {nm : List Nat} (h : nm ∈ ks.map (·.1)) : nm.length ≤ 12 := by
  obtain ⟨k, hk1, rfl⟩ := List.mem_map.1 h
  have := (hk.names k hk1).2.1
  lia
theorem flat_len : ∀ ws : List Kind, (ws.flatMap pairW).length = 2 * ws.length
  | [] => rfl
  | w :: ws => by
    rw [List.flatMap_cons, List.length_append, flat_len ws, List.length_cons]; show 2 + _ = _; lia
theorem words_ok {ks : List Kind} (hk : KindsOk ks) {o : Off} (h : OffOk ks o) : small (wordsOf o) ∧ (wordsOf o).length ≤ 20 := by
  cases o with
  | more nm m c => exact ⟨small_c (by decide) (small_c (name_le hk h.1) (small_c (strOf_len (by have := h.2; lia) (by have := h.2; lia)) (small_c (strOf_len (by have := h.2; lia) (by have := h.2; lia)) small_n))), by show 4 ≤ 20; decide⟩
  | share nm p => exact ⟨small_c (by decide) (small_c (name_le hk h.1) (small_c (strOf_len (by have := h.2; lia) (by have := h.2; lia)) small_n)), by show 3 ≤ 20; decide⟩
  | slip a b x => exact ⟨small_c (by decide) (small_c (name_le hk h.1) (small_c (name_le hk h.2.1) (small_c (strOf_len (by have := h.2.2; lia) (by have := h.2.2; lia)) small_n))), by show 4 ≤ 20; decide⟩
  | set ws p =>
    obtain ⟨hw, h0, h1⟩ := h
    refine ⟨?_, ?_⟩
    · intro x hx
      rcases List.mem_append.1 hx with hx | hx
      · rcases List.mem_cons.1 hx with rfl | hx
        · decide
        · obtain ⟨k, hk1, hx⟩ := List.mem_flatMap.1 hx
          have hr := hw.rng k hk1
          exact small_c (name_le hk (hw.sub k hk1)) (small_c (strOf_len (by lia) (by lia)) small_n) x hx
      · exact small_c (by decide) (small_c (strOf_len h0 (by lia)) small_n) x hx
    · have := hw.len5
      show ((sSet :: ws.flatMap pairW) ++ [[97, 116], strOfInt p]).length ≤ 20
      rw [List.length_append, List.length_cons, flat_len]
      show 2 * ws.length + 1 + 2 ≤ 20
      lia
theorem text_len {ks : List Kind} (hk : KindsOk ks) {o : Off} (h : OffOk ks o) : (textOf o).length ≤ 300 := join_small (words_ok hk h).1 (words_ok hk h).2
noncomputable def PartOk (p : Dat × List Nat) : Prop := biD .str [p.1] = .ok (.str p.2) ∧ isiD .tuple p.1 = .ok false
theorem part_i {i : Int} (h0 : 0 ≤ i) (h : i < 10 ^ 12) : PartOk (.int i, strOfInt i) := ⟨str_i h0 h, rfl⟩
theorem part_s (x : List Nat) : PartOk (.str x, x) := ⟨rfl, rfl⟩
theorem sDs_app (w : List (List Nat)) (x : List Nat) : sDs w ++ [.str x] = sDs (w ++ [x]) := by simp [sDs]
theorem sDs_len (w : List (List Nat)) : (sDs w).length = w.length := by simp [sDs]
theorem shown_parts (Φ : Nat → List Val → Out Val) (x0 x2 x3 : Val) : ∀ (l : List (Dat × List Nat)) (w : List (List Nat)) (y4 : Val), (∀ p ∈ l, PartOk p) → w.length + l.length ≤ 100 →
    ∃ z, forL (stepF Φ [4] b_shown_2) (l.map (·.1)) [x0, .own (sDs w), x2, x3, y4] = .ok (.next, [x0, .own (sDs (w ++ l.map (·.2))), x2, x3, z])
  | [], w, y4, _, _ => ⟨y4, by rw [List.map_nil, List.map_nil, List.append_nil]; rfl⟩
  | p :: l, w, y4, hl, hlen => by
    have hw : w.length + (l.length + 1) ≤ 100 := hlen
    obtain ⟨z, e⟩ := shown_parts Φ x0 x2 x3 l (w ++ [p.2]) (.sh p.1) (fun x hx => hl x (List.mem_cons_of_mem _ hx)) (by rw [List.length_append]; show _ + 1 + _ ≤ _; lia)
    have hll : (sDs w).length < line := by rw [sDs_len]; exact lt_line (by lia)
    rw [← sDs_app w p.2, List.append_assoc] at e
    exact ⟨z, (forL_next (show ex Φ b_shown_2 [x0, .own (sDs w), x2, x3, .sh p.1] = _ from ex_next (sx_app rfl (sv_bi rfl rfl (hl p (List.mem_cons_self ..)).1) rfl hll) rfl)).trans e⟩
theorem shown_pairs (Φ : Nat → List Val → Out Val) (x0 x4 : Val) : ∀ (l : List Kind) (w : List (List Nat)) (y2 y3 : Val), (∀ k ∈ l, 1 ≤ k.2 ∧ k.2 ≤ 9) → w.length + 2 * l.length ≤ 100 →
    ∃ z2 z3, forL (stepF Φ [2, 3] b_shown_1) (l.map kD) [x0, .own (sDs w), y2, y3, x4] = .ok (.next, [x0, .own (sDs (w ++ l.flatMap pairW)), z2, z3, x4])
  | [], w, y2, y3, _, _ => ⟨y2, y3, by rw [List.flatMap_nil, List.append_nil]; rfl⟩
  | k :: l, w, y2, y3, hl, hlen => by
    have hp := hl k (List.mem_cons_self ..)
    have hw : w.length + 2 * (l.length + 1) ≤ 100 := hlen
    obtain ⟨z2, z3, e⟩ := shown_pairs Φ x0 x4 l (w ++ [k.1] ++ [strOfInt k.2]) (.sh (.str k.1)) (.sh (.int k.2)) (fun x hx => hl x (List.mem_cons_of_mem _ hx)) (by rw [List.length_append, List.length_append]; show _ + 1 + 1 + _ ≤ _; lia)
    have hll : (sDs w).length < line := by rw [sDs_len]; exact lt_line (by lia)
    have hll2 : (sDs w ++ [Dat.str k.1]).length < line := by rw [sDs_app, sDs_len, List.length_append]; exact lt_line (by show _ + 1 ≤ _; lia)
    have hs := str_i (i := k.2) (by lia) (by lia)
    rw [show w ++ [k.1] ++ [strOfInt k.2] ++ l.flatMap pairW = w ++ (k :: l).flatMap pairW by rw [List.append_assoc, List.append_assoc]; rfl, ← sDs_app _ (strOfInt k.2), ← sDs_app w k.1] at e
    exact ⟨z2, z3, (forL_next (show ex Φ b_shown_1 [x0, .own (sDs w), .sh (.str k.1), .sh (.int k.2), x4] = _ from ex_next (sx_app rfl rfl rfl hll) (ex_next (sx_app rfl (sv_bi rfl rfl hs) rfl hll2) rfl))).trans e⟩
noncomputable def partsOf : Off → List (Dat × List Nat)
  | .more nm m c => [(.str nm, nm), (.int m, strOfInt m), (.int c, strOfInt c)]
  | .set _ _ => []
  | .share nm p => [(.str nm, nm), (.int p, strOfInt p)]
  | .slip a b x => [(.str a, a), (.str b, b), (.int x, strOfInt x)]
noncomputable def tagOf : Off → List Nat
  | .more _ _ _ => sMore
  | .set _ _ => sSet
  | .share _ _ => sShare
  | .slip _ _ _ => sSlip
noncomputable def isSet : Off → Bool
  | .set _ _ => true
  | _ => false
theorem mem_p {P : Dat × List Nat → Prop} {a : Dat × List Nat} {l : List (Dat × List Nat)} (ha : P a) (h : ∀ x ∈ l, P x) : ∀ x ∈ a :: l, P x := fun x hx => (List.mem_cons.1 hx).elim (fun e => e ▸ ha) (h x)
theorem mem_p0 {P : Dat × List Nat → Prop} : ∀ x ∈ ([] : List (Dat × List Nat)), P x := fun _ hx => nomatch hx
structure PlainOff (o : Off) : Prop where
  ok : ∀ p ∈ partsOf o, PartOk p
  len : (partsOf o).length ≤ 3
  dat : o.dat = .tup (.str (tagOf o) :: (partsOf o).map (·.1))
  words : wordsOf o = tagOf o :: (partsOf o).map (·.2)
  tag : (tagOf o == sSet) = false
theorem plain_off {ks : List Kind} {o : Off} (h : OffOk ks o) (hs : isSet o = false) : PlainOff o := by
  cases o with
  | more nm m c => exact ⟨mem_p (part_s _) (mem_p (part_i (by have := h.2; lia) (by have := h.2; lia)) (mem_p (part_i (by have := h.2; lia) (by have := h.2; lia)) mem_p0)), by show 3 ≤ 3; decide, rfl, rfl, rfl⟩
  | set ws p => cases hs
  | share nm p => exact ⟨mem_p (part_s _) (mem_p (part_i (by have := h.2; lia) (by have := h.2; lia)) mem_p0), by show 2 ≤ 3; decide, rfl, rfl, rfl⟩
  | slip a b x => exact ⟨mem_p (part_s _) (mem_p (part_s _) (mem_p (part_i (by have := h.2.2; lia) (by have := h.2.2; lia)) mem_p0)), by show 3 ≤ 3; decide, rfl, rfl, rfl⟩
theorem sp_shown (h47 : fns[47]? = some f_shown) (n : Nat) {ks : List Kind} (hk : KindsOk ks) (o : Off) (h : OffOk ks o) : callF fns (n + 1) 47 [.sh o.dat] = .ok (.sh (.str (textOf o))) := by
  rw [callF_succ h47, runFn_plain rfl rfl]
  generalize callF fns n = Φ
  obtain ⟨hw1, hw2⟩ := words_ok hk h
  have hj : joinD [32] (sDs (wordsOf o)) = .ok (.sh (.str (textOf o))) := join_ok hw1 hw2
  suffices R : ∃ ρ', ex Φ t_shown [.sh o.dat, .un, .un, .un, .un] = .ok (.ret (.sh (.str (textOf o))), ρ') by
    obtain ⟨ρ', R⟩ := R
    exact (congrArg (· >>= fun r => Out.ok (outOf r)) R).trans rfl
  cases hs : isSet o with
  | false =>
    obtain ⟨p1, p2, p3, p4, p5⟩ := plain_off h hs
    obtain ⟨z, e⟩ := shown_parts Φ (.sh o.dat) .un .un (partsOf o) [tagOf o] .un p1 (by simp; lia)
    have e : forL (stepF Φ [4] b_shown_2) ((partsOf o).map (·.1)) [.sh o.dat, .own [.str (tagOf o)], .un, .un, .un] = .ok (.next, [.sh o.dat, .own (sDs (wordsOf o)), .un, .un, z]) := by rw [p4]; exact e
    rw [p3] at e ⊢
    exact ex_step (sx_asgO (sv_lst (st_cons (sv_idxT rfl rfl idxL_0) rfl rfl) rfl)) (ex_step (sx_else (sv_cmp (sv_idxT rfl rfl idxL_0) rfl rfl rfl (eq_s.trans (congrArg Out.ok p5))) (ex_next (sx_for (sv_slT rfl) e) rfl)) (ex_ret1 (sx_ret (sv_meth rfl rfl rfl rfl rfl hj) rfl)))
  | true =>
    cases o with
    | set ws p =>
      obtain ⟨hw, h0, h1⟩ := h
      have h5 := hw.len5
      obtain ⟨z2, z3, e⟩ := shown_pairs Φ (.sh (Off.set ws p).dat) .un ws [sSet] .un .un hw.rng (by simp; lia)
      have ew : wordsOf (.set ws p) = ([sSet] ++ ws.flatMap pairW) ++ [[97, 116], strOfInt p] := rfl
      rw [ew] at hj
      have hl1 : (sDs ([sSet] ++ ws.flatMap pairW)).length < line := by rw [sDs_len]; exact lt_line (by rw [List.length_append, flat_len]; show 1 + _ ≤ 2000; lia)
      have hl2 : (sDs (([sSet] ++ ws.flatMap pairW) ++ [[97, 116]])).length < line := by rw [sDs_len]; exact lt_line (by rw [List.length_append, List.length_append, flat_len]; show 1 + _ + 1 ≤ 2000; lia)
      have hs := str_i (i := p) (by lia) (by lia)
      have e : forL (stepF Φ [2, 3] b_shown_1) (ws.map kD) [.sh (.tup [.str sSet, .tup (ws.map kD), .int p]), .own [.str sSet], .un, .un, .un] = .ok (.next, [.sh (.tup [.str sSet, .tup (ws.map kD), .int p]), .own (sDs ([sSet] ++ ws.flatMap pairW)), z2, z3, .un]) := e
      generalize [sSet] ++ ws.flatMap pairW = w at *
      have hl2 : (sDs w ++ [Dat.str [97, 116]]).length < line := by rw [sDs_app]; exact hl2
      rw [show w ++ [[97, 116], strOfInt p] = w ++ [[97, 116]] ++ [strOfInt p] by rw [List.append_assoc]; rfl, ← sDs_app, ← sDs_app] at hj
      exact ex_step (sx_asgO (sv_lst (st_cons (sv_idxT rfl rfl idxL_0) rfl rfl) rfl)) (ex_step (sx_yes (sv_cmp (sv_idxT rfl rfl idxL_0) rfl rfl rfl rfl) (ex_next (sx_for (sv_itsI (sv_idxT rfl rfl idxL_1)) e) (ex_next (sx_app rfl rfl rfl hl1) (ex_next (sx_app rfl (sv_bi (st_cons (sv_idxT rfl rfl idxL_2) rfl rfl) rfl hs) rfl hl2) rfl)))) (ex_ret1 (sx_ret (sv_meth rfl rfl rfl rfl rfl hj) rfl)))
    | _ => cases hs
theorem text_pairs (Φ : Nat → List Val → Out Val) (x0 x2 : Val) : ∀ (l : List Kind) (w : List (List Nat)) (y3 : Val), (∀ k ∈ l, 1 ≤ k.2 ∧ k.2 ≤ 9) → w.length + 2 * l.length ≤ 100 →
    ∃ z3, forL (stepF Φ [3] b_l_text_1) (l.map kD) [x0, .own (sDs w), x2, y3] = .ok (.next, [x0, .own (sDs (w ++ l.flatMap pairW)), x2, z3])
  | [], w, y3, _, _ => ⟨y3, by rw [List.flatMap_nil, List.append_nil]; rfl⟩
  | k :: l, w, y3, hl, hlen => by
    have hp := hl k (List.mem_cons_self ..)
    have hw : w.length + 2 * (l.length + 1) ≤ 100 := hlen
    obtain ⟨z3, e⟩ := text_pairs Φ x0 x2 l (w ++ pairW k) (.sh (kD k)) (fun x hx => hl x (List.mem_cons_of_mem _ hx)) (by rw [List.length_append]; show _ + 2 + _ ≤ _; lia)
    have hll : (sDs w).length + 2 ≤ line := by rw [sDs_len]; exact le_line (by lia)
    have hs := str_i (i := k.2) (by lia) (by lia)
    rw [show sDs (w ++ pairW k) = sDs w ++ [.str k.1, .str (strOfInt k.2)] from List.map_append, List.append_assoc] at e
    exact ⟨z3, (forL_next (show ex Φ b_l_text_1 [x0, .own (sDs w), x2, .sh (kD k)] = _ from ex_next (sx_asgO (sv_bin rfl (sv_lst (st_cons (sv_idxT rfl rfl idxL_0) rfl (st_cons (sv_bi (st_cons (sv_idxT rfl rfl idxL_1) rfl rfl) rfl hs) rfl rfl)) rfl) rfl rfl (if_pos hll))) rfl)).trans e⟩
theorem text_parts (Φ : Nat → List Val → Out Val) (x0 x3 : Val) : ∀ (l : List (Dat × List Nat)) (w : List (List Nat)) (y2 : Val), (∀ p ∈ l, PartOk p) → w.length + l.length ≤ 100 →
    ∃ z, forL (stepF Φ [2] b_l_text_2) (l.map (·.1)) [x0, .own (sDs w), y2, x3] = .ok (.next, [x0, .own (sDs (w ++ l.map (·.2))), z, x3])
  | [], w, y2, _, _ => ⟨y2, by rw [List.map_nil, List.map_nil, List.append_nil]; rfl⟩
  | p :: l, w, y2, hl, hlen => by
    have hp := hl p (List.mem_cons_self ..)
    have hw : w.length + (l.length + 1) ≤ 100 := hlen
    obtain ⟨z, e⟩ := text_parts Φ x0 x3 l (w ++ [p.2]) (.sh p.1) (fun x hx => hl x (List.mem_cons_of_mem _ hx)) (by rw [List.length_append]; show _ + 1 + _ ≤ _; lia)
    have hll : (sDs w).length < line := by rw [sDs_len]; exact lt_line (by lia)
    rw [← sDs_app w p.2, List.append_assoc] at e
    exact ⟨z, (forL_next (show ex Φ b_l_text_2 [x0, .own (sDs w), .sh p.1, x3] = _ from ex_next (sx_else (sv_isi rfl rfl hp.2) (ex_next (sx_app rfl (sv_bi rfl rfl hp.1) rfl hll) rfl)) rfl)).trans e⟩
theorem sp_text (h50 : fns[50]? = some f_l_text) (n : Nat) {ks : List Kind} (hk : KindsOk ks) (o : Off) (h : OffOk ks o) : callF fns (n + 1) 50 [.sh o.dat] = .ok (.sh (.str (textOf o))) := by
  rw [callF_succ h50, runFn_plain rfl rfl]
  generalize callF fns n = Φ
  obtain ⟨hw1, hw2⟩ := words_ok hk h
  have hj : joinD [32] (sDs (wordsOf o)) = .ok (.sh (.str (textOf o))) := join_ok hw1 hw2
  suffices R : ∃ ρ', ex Φ t_l_text [.sh o.dat, .un, .un, .un] = .ok (.ret (.sh (.str (textOf o))), ρ') by
    obtain ⟨ρ', R⟩ := R
    exact (congrArg (· >>= fun r => Out.ok (outOf r)) R).trans rfl
  cases hs : isSet o with
  | false =>
    obtain ⟨p1, p2, p3, p4, p5⟩ := plain_off h hs
    obtain ⟨z, e⟩ := text_parts Φ (.sh o.dat) .un (partsOf o) [tagOf o] .un p1 (by simp; lia)
    have e : forL (stepF Φ [2] b_l_text_2) ((partsOf o).map (·.1)) [.sh o.dat, .own [.str (tagOf o)], .un, .un] = .ok (.next, [.sh o.dat, .own (sDs (wordsOf o)), z, .un]) := by rw [p4]; exact e
    rw [p3] at e ⊢
    exact ex_step (sx_asgO (sv_lst (st_cons (sv_idxT rfl rfl idxL_0) rfl rfl) rfl)) (ex_step (sx_for (sv_slT rfl) e) (ex_ret1 (sx_ret (sv_meth rfl rfl rfl rfl rfl hj) rfl)))
  | true =>
    cases o with
    | set ws p =>
      obtain ⟨hw, h0, h1⟩ := h
      have h5 := hw.len5
      obtain ⟨z3, e⟩ := text_pairs Φ (.sh (Off.set ws p).dat) (.sh (.tup (ws.map kD))) ws [sSet] .un hw.rng (by simp; lia)
      have ew : wordsOf (.set ws p) = ([sSet] ++ ws.flatMap pairW) ++ [[97, 116], strOfInt p] := rfl
      rw [ew] at hj
      have hl1 : (sDs ([sSet] ++ ws.flatMap pairW)).length < line := by rw [sDs_len]; exact lt_line (by rw [List.length_append, flat_len]; show 1 + _ ≤ 2000; lia)
      have hl2 : (sDs (([sSet] ++ ws.flatMap pairW) ++ [[97, 116]])).length < line := by rw [sDs_len]; exact lt_line (by rw [List.length_append, List.length_append, flat_len]; show 1 + _ + 1 ≤ 2000; lia)
      have hs := str_i (i := p) (by lia) (by lia)
      have e : forL (stepF Φ [3] b_l_text_1) (ws.map kD) [.sh (.tup [.str sSet, .tup (ws.map kD), .int p]), .own [.str sSet], .sh (.tup (ws.map kD)), .un] = .ok (.next, [.sh (.tup [.str sSet, .tup (ws.map kD), .int p]), .own (sDs ([sSet] ++ ws.flatMap pairW)), .sh (.tup (ws.map kD)), z3]) := e
      generalize [sSet] ++ ws.flatMap pairW = w at *
      have hl2 : (sDs w ++ [Dat.str [97, 116]]).length < line := by rw [sDs_app]; exact hl2
      rw [show w ++ [[97, 116], strOfInt p] = w ++ [[97, 116]] ++ [strOfInt p] by rw [List.append_assoc]; rfl, ← sDs_app, ← sDs_app] at hj
      have s1 : stepF Φ [2] b_l_text_2 [.sh (.tup [.str sSet, .tup (ws.map kD), .int p]), .own [.str sSet], .un, .un] (.tup (ws.map kD)) = .ok (.next, [.sh (.tup [.str sSet, .tup (ws.map kD), .int p]), .own (sDs w ++ [.str [97, 116]]), .sh (.tup (ws.map kD)), z3]) :=
        show ex Φ b_l_text_2 [.sh (.tup [.str sSet, .tup (ws.map kD), .int p]), .own [.str sSet], .sh (.tup (ws.map kD)), .un] = _ from ex_next (sx_yes rfl (ex_next (sx_for rfl e) (ex_next (sx_app rfl rfl rfl hl1) rfl))) rfl
      have s2 := show stepF Φ [2] b_l_text_2 [.sh (.tup [.str sSet, .tup (ws.map kD), .int p]), .own (sDs w ++ [.str [97, 116]]), .sh (.tup (ws.map kD)), z3] (.int p) = .ok (.next, [.sh (.tup [.str sSet, .tup (ws.map kD), .int p]), .own (sDs w ++ [.str [97, 116]] ++ [.str (strOfInt p)]), .sh (.int p), z3]) from
        (show ex Φ b_l_text_2 [.sh (.tup [.str sSet, .tup (ws.map kD), .int p]), .own (sDs w ++ [.str [97, 116]]), .sh (.int p), z3] = _ from ex_next (sx_else rfl (ex_next (sx_app rfl (sv_bi rfl rfl hs) rfl hl2) rfl)) rfl)
      exact ex_step (sx_asgO (sv_lst (st_cons (sv_idxT rfl rfl idxL_0) rfl rfl) rfl)) (ex_step (sx_for (sv_slT rfl) ((forL_next s1).trans (forL_next s2))) (ex_ret1 (sx_ret (sv_meth rfl rfl rfl rfl rfl hj) rfl)))
    | _ => cases hs
noncomputable def Self (k : Nat) (d : Dat) : Prop := Dat.fine k d = true ∧ PySem.PyData.eqv (pyOf d) (pyOf d) = true
theorem selfs {k : Nat} {l : List Dat} (h : ∀ d ∈ l, Self k d) : l.all (Dat.fine k) = true ∧ PySem.PyData.eqvAll (pyOfs l) (pyOfs l) = true := by
  induction l with
  | nil => exact ⟨rfl, rfl⟩
  | cons d l ih =>
    have h1 := h d (List.mem_cons_self ..)
    have h2 := ih fun x hx => h x (List.mem_cons_of_mem _ hx)
    refine ⟨?_, ?_⟩
    · rw [List.all_cons, h1.1, h2.1]; rfl
    · show (PySem.PyData.eqv (pyOf d) (pyOf d) && PySem.PyData.eqvAll (pyOfs l) (pyOfs l)) = true
      rw [h1.2, h2.2]; rfl
theorem Self.lst {k : Nat} {l : List Dat} (h : ∀ d ∈ l, Self k d) : Self (k + 1) (.lst l) := selfs h
theorem Self.tup {k : Nat} {l : List Dat} (h : ∀ d ∈ l, Self k d) : Self (k + 1) (.tup l) := selfs h
theorem Self.int {k : Nat} (i : Int) : Self (k + 1) (.int i) := ⟨rfl, by show (i == i) = true; simp⟩
theorem Self.str {k : Nat} (x : List Nat) : Self (k + 1) (.str x) := ⟨rfl, by show (_ == _) = true; exact beq_self_eq_true _⟩
theorem Self.cmp {d : Dat} (h : Self 20 d) : cmpD .eq d d = .ok true ∧ cmpD .ne d d = .ok false := by
  have hf : (d.fine 20 && d.fine 20) = true := by rw [h.1]; rfl
  exact ⟨(if_pos hf).trans (congrArg Out.ok h.2), (if_pos hf).trans (congrArg (fun r => Out.ok (!r)) h.2)⟩
theorem mem_n {P : Dat → Prop} : ∀ x ∈ ([] : List Dat), P x := fun _ hx => nomatch hx
theorem mem_c {P : Dat → Prop} {a : Dat} {l : List Dat} (ha : P a) (h : ∀ x ∈ l, P x) : ∀ x ∈ a :: l, P x := fun x hx => (List.mem_cons.1 hx).elim (fun e => e ▸ ha) (h x)
theorem Self.kD {k : Nat} (x : Kind) : Self (k + 2) (kD x) := Self.tup (mem_c (Self.str _) (mem_c (Self.int _) mem_n))
theorem Self.ints {k : Nat} (l : List Int) : Self (k + 2) (.lst (iD l)) := Self.lst fun d hd => by
  obtain ⟨i, _, rfl⟩ := List.mem_map.1 hd
  exact Self.int i
theorem Self.off {k : Nat} (o : Off) : Self (k + 4) o.dat := by
  cases o with
  | more nm m c => exact Self.tup (mem_c (Self.str _) (mem_c (Self.str _) (mem_c (Self.int _) (mem_c (Self.int _) mem_n))))
  | share nm p => exact Self.tup (mem_c (Self.str _) (mem_c (Self.str _) (mem_c (Self.int _) mem_n)))
  | slip a b x => exact Self.tup (mem_c (Self.str _) (mem_c (Self.str _) (mem_c (Self.str _) (mem_c (Self.int _) mem_n))))
  | set ws p =>
    refine Self.tup (mem_c (Self.str _) (mem_c (Self.tup fun d hd => ?_) (mem_c (Self.int _) mem_n)))
    obtain ⟨w, _, rfl⟩ := List.mem_map.1 hd; exact Self.kD w
end Mine.PL
namespace Mine.PL
open Mine
structure Has11 (fns : List Fn) : Prop where
  h1 : Has01 fns
  h2 : Has2f fns
  h3 : Has3o fns
  b47 : fns[47]? = some f_shown
  b50 : fns[50]? = some f_l_text
  b63 : fns[63]? = some f_l_one_class
  b77 : fns[77]? = some f_number_in
  b78 : fns[78]? = some f_name_in
  b79 : fns[79]? = some f_set_in
  b80 : fns[80]? = some f_offer_in
  b81 : fns[81]? = some f_read
  b82 : fns[82]? = some f_l_changed_c
  b83 : fns[83]? = some f_l_name
  b84 : fns[84]? = some f_l_count
  b85 : fns[85]? = some f_l_set
  b86 : fns[86]? = some f_l_due_d
  b87 : fns[87]? = some f_l_kind
  b88 : fns[88]? = some f_l_told_c
  b89 : fns[89]? = some f_law11
variable {fns : List Fn}
noncomputable def figures : List Nat := [48, 49, 50, 51, 52, 53, 54, 55, 56, 57]
theorem fig_iff {c : Nat} : c ∈ figures ↔ 48 ≤ c ∧ c ≤ 57 := by
  unfold figures
  simp only [List.mem_cons, List.not_mem_nil, or_false]
  omega
theorem isFig_iff {c : Nat} : isFig c = true ↔ 48 ≤ c ∧ c ≤ 57 := by
  unfold isFig
  simp only [Bool.and_eq_true, Nat.ble_eq]
theorem isFig_eq (c : Nat) : isFig c = decide (c ∈ figures) := by
  rw [Bool.eq_iff_iff, isFig_iff, decide_eq_true_eq, fig_iff]
noncomputable def headZ (w : List Nat) : Bool := (w.headD 0 == 48) && decide ((1 : Int) < w.length)
noncomputable def lenW (w : List Nat) : Bool := decide ((1 : Int) ≤ w.length) && decide ((w.length : Int) ≤ 6)
noncomputable def numW (w : List Nat) : Option Int := if (lenW w && !headZ w && w.all isFig) = true then some (valOf w : Nat) else none
theorem figs_of {w : List Nat} (h : lenW w = true) (ha : w.all isFig = true) : figs w = true := by
  unfold lenW at h
  simp only [Bool.and_eq_true, decide_eq_true_eq] at h
  unfold figs
  simp only [Bool.and_eq_true, Nat.ble_eq, ha, true_and]
  refine ⟨?_, by lia⟩
  cases w with
  | nil => simp at h
  | cons _ _ => rfl
theorem int_w {w : List Nat} (h : figs w = true) : biD .int [.str w] = .ok (.int (valOf w : Nat)) := if_pos h
theorem for_figs (Φ) (X : Val) : ∀ (l : List Nat) (y : Val), ∃ ρ, forL (stepF Φ [1] b_number_in_1) (signs l) [X, y] = (if l.all isFig then .ok (.next, [X, ρ]) else .exn 10)
  | [], y => ⟨y, rfl⟩
  | c :: l, y => by
    obtain ⟨ρ, e⟩ := for_figs Φ X l (.sh (.str [c]))
    have hs : cmpD .notin (.str [c]) (.str figures) = .ok (!isFig c) := by rw [isFig_eq]; rfl
    refine ⟨ρ, ?_⟩
    rw [signs, List.map_cons, List.all_cons]
    cases hc : isFig c with
    | true =>
      rw [hc] at hs
      rw [Bool.true_and, ← e]
      exact forL_next (show ex Φ b_number_in_1 [X, .sh (.str [c])] = _ from ex_next (sx_no (sv_cmp rfl rfl rfl rfl hs)) rfl)
    | false =>
      rw [hc] at hs
      exact forL_exn (show ex Φ b_number_in_1 [X, .sh (.str [c])] = _ from ex_exn (sx_yes (sv_cmp rfl rfl rfl rfl hs) (ex_exn rfl)))
theorem num_test {Φ : Nat → List Val → Out Val} {w : List Nat} {y : Val} : ev Φ (.or (.not (.cmp2 .le .le (.cI 1) (.bi .len (.cons (.v 0) .nil)) (.gI 6))) (.and (.cmp .eq (.idx (.v 0) (.cI 0)) (.cS [48])) (.cmp .gt (.bi .len (.cons (.v 0) .nil)) (.cI 1)))) [.sh (.str w), y] = .ok (.sh (.bool (!(lenW w && !headZ w)))) := by
  have t1 := len_test (Φ := Φ) (ρ := [.sh (.str w), y]) (a := .v 0) (hi := .gI 6) (X := .sh (.str w)) rfl rfl rfl rfl (n := w.length) rfl
  have h1 : lenW w = (decide ((1 : Int) ≤ w.length) && decide ((w.length : Int) ≤ 6)) := rfl
  rw [← h1] at t1
  cases w with
  | nil => exact sv_or_t t1
  | cons c r =>
    have i0 : ev Φ (.idx (.v 0) (.cI 0)) [.sh (.str (c :: r)), y] = .ok (.sh (.str [c])) := sv_idx rfl rfl (idxS_at (by decide) rfl)
    have hz : headZ (c :: r) = (([c] == [48]) && decide ((1 : Int) < (c :: r).length)) := by
      unfold headZ
      congr 1
      rw [Bool.eq_iff_iff, beq_iff_eq, beq_iff_eq]; simp
    have t2 : ev Φ (.and (.cmp .eq (.idx (.v 0) (.cI 0)) (.cS [48])) (.cmp .gt (.bi .len (.cons (.v 0) .nil)) (.cI 1))) [.sh (.str (c :: r)), y] = .ok (.sh (.bool (headZ (c :: r)))) := by
      rw [hz]
      exact sv_andB (sv_cmp i0 rfl rfl rfl eq_s) fun _ => sv_cmp (sv_bi rfl rfl rfl) rfl rfl rfl gt_i
    have := sv_orB t1 fun _ => t2
    rw [this]
    cases lenW (c :: r) <;> cases headZ (c :: r) <;> rfl
theorem sp_number_in (H : Has11 fns) (n : Nat) (w : List Nat) : callF fns (n + 1) 77 [.sh (.str w)] = match numW w with | some i => .ok (.sh (.int i)) | none => .exn 10 := by
  rw [callF_succ H.b77, runFn_plain rfl rfl]
  obtain ⟨ρ, e⟩ := for_figs (callF fns n) (.sh (.str w)) w .un
  have t := num_test (Φ := callF fns n) (w := w) (y := .un)
  have hn : ex (callF fns n) t_number_in [.sh (.str w), .un] = .exn 10 → numW w = none → (ex (callF fns n) t_number_in [.sh (.str w), .un] >>= fun r => Out.ok (outOf r)) = (match numW w with | some i => .ok (.sh (.int i)) | none => .exn 10) := fun h1 h2 => by rw [h1, h2]; rfl
  cases h1 : (lenW w && !headZ w) with
  | false =>
    rw [h1] at t
    exact hn (ex_exn (sx_yes t (ex_exn rfl))) (by unfold numW; rw [h1]; rfl)
  | true =>
    rw [h1] at t
    cases h2 : w.all isFig with
    | false =>
      rw [h2] at e
      exact hn (ex_next (sx_no t) (ex_exn (sx_for rfl e))) (by unfold numW; rw [h1, h2]; rfl)
    | true =>
      rw [h2] at e
      have hv : numW w = some (valOf w : Nat) := by unfold numW; rw [h1, h2]; rfl
      rw [hv]
      exact run_ret (ex_step (sx_no t) (ex_step (sx_for rfl e) (ex_ret1 (sx_ret (sv_bi rfl rfl (int_w (figs_of (Bool.and_eq_true_iff.mp h1).1 h2))) rfl))))
noncomputable def nameW (w : List Nat) : Bool := nameD (.str w)
theorem sp_name_in (H : Has11 fns) (n : Nat) (w : List Nat) : callF fns (n + 2) 78 [.sh (.str w)] = if nameW w then .ok (.sh (.str w)) else .exn 10 := by
  have hn := sp_nameD H.h1 n (.str w) nofun
  rw [callF_succ H.b78, runFn_plain rfl rfl]
  have t := sv_not (Φ := callF fns (n + 1)) (ρ := [.sh (.str w)]) (a := .call 1 (.cons (.v 0) .nil)) (sv_call rfl hn)
  cases h : nameW w with
  | true =>
    have h : nameD (.str w) = true := h
    rw [h] at t
    exact run_ret (ex_step (sx_no t) (ex_ret1 (sx_ret rfl rfl)))
  | false =>
    have h : nameD (.str w) = false := h
    rw [h] at t
    show (ex (callF fns (n + 1)) t_name_in [.sh (.str w)] >>= _) = _
    rw [show ex (callF fns (n + 1)) t_name_in [.sh (.str w)] = .exn 10 from ex_exn (sx_yes t (ex_exn rfl))]; rfl
theorem filterMap_if {p : Nat → Bool} {f : Nat → Dat} : ∀ l : List Nat, l.filterMap (fun c => if p c then some (f c) else none) = (l.filter p).map f
  | [] => rfl
  | c :: l => by
    rw [List.filterMap_cons, List.filter_cons]
    cases p c with
    | true => exact congrArg (f c :: ·) (filterMap_if l)
    | false => exact filterMap_if l
theorem comp_not {Φ : Nat → List Val → Out Val} {ρ : List Val} {i : Nat} {b : List Nat} (hρ : ∀ d, (ρ.set i (.sh d)).getD i .un = .sh d) (l : List Nat) : compL (compF Φ (.v i) [i] (.cmp .notin (.v i) (.cS b)) ρ) (signs l) = .ok (signs (l.filter fun c => !decide (c ∈ b))) := by
  have := compL_mapO (f := compF Φ (.v i) [i] (.cmp .notin (.v i) (.cS b)) ρ) (e := fun c => Dat.str [c]) (g := fun c => if !decide (c ∈ b) then some (Dat.str [c]) else none) (l := l) fun c _ => by
    have hb : bindT [i] (.str [c]) ρ = .ok (ρ.set i (.sh (.str [c]))) := rfl
    have e := ev_at (Φ := Φ) (hρ (.str [c]))
    have t : ev Φ (.cmp .notin (.v i) (.cS b)) (ρ.set i (.sh (.str [c]))) = .ok (.sh (.bool (!decide (c ∈ b)))) := sv_cmp e rfl rfl rfl notin_c
    cases h : (!decide (c ∈ b)) with
    | true => rw [h] at t; exact cf_yes rfl hb t e rfl
    | false => rw [h] at t; exact cf_no rfl hb t
  unfold signs
  rw [this, filterMap_if]
theorem sp_l_name (H : Has11 fns) (n : Nat) (w : List Nat) : callF fns (n + 1) 83 [.sh (.str w)] = .ok (.sh (.bool (nameW w))) := by
  rw [callF_succ H.b83, runFn_plain rfl rfl]
  have hc := comp_not (Φ := callF fns n) (ρ := [.sh (.str w), .un, .un]) (i := 2) (b := letters) (fun _ => rfl) w
  have hl : (([] : List Nat).length == 0) = true := rfl
  have e2 : ((((signs (w.filter fun c => !decide (c ∈ letters))).length : Nat) : Int) == 0) = w.all fun c => decide (c ∈ letters) := by
    rw [Bool.eq_iff_iff, beq_iff_eq]
    unfold signs
    rw [List.length_map]
    constructor
    · intro h
      have h0 : w.filter (fun c => !decide (c ∈ letters)) = [] := List.eq_nil_of_length_eq_zero (by lia)
      exact List.all_eq_true.mpr fun c hc => by
        have := List.filter_eq_nil_iff.mp h0 c hc
        simpa using this
    · intro h
      have h0 : w.filter (fun c => !decide (c ∈ letters)) = [] := List.filter_eq_nil_iff.mpr fun c hc => by
        have := List.all_eq_true.mp h c hc
        simpa using this
      rw [h0]; rfl
  have hd : nameW w = ((decide ((1 : Int) ≤ w.length) && decide ((w.length : Int) ≤ 8)) && w.all fun c => decide (c ∈ letters)) := by
    show (decide (1 ≤ w.length) && decide (w.length ≤ 8) && _) = _
    congr 2
    · exact decide_eq_decide.mpr (by lia)
    · exact decide_eq_decide.mpr (by lia)
  rw [hd, ← e2]
  exact run_ret (ex_step (sx_asg (sv_comp rfl hc) rfl) (ex_ret1 (sx_ret (sv_andB (sv_cmp2 rfl (sv_bi rfl rfl rfl) rfl rfl rfl rfl rfl rfl) fun _ => sv_cmp (sv_bi rfl rfl rfl) rfl rfl rfl eq_i) rfl)))
end Mine.PL
namespace Mine.PL
open Mine
variable {fns : List Fn}
theorem strOf_nat (m : Nat) : strOfInt (m : Nat) = (Nat.toDigits 10 m).map Char.toNat := by
  show (m.repr.toList.map Char.toNat) = _
  rw [Nat.toList_repr]
theorem char_back : ∀ c : Nat, c < 58 → (Char.ofNat c).toNat = c := by decide
theorem map_back {l : List Nat} (h : l.all isFig = true) : (l.map Char.ofNat).map Char.toNat = l := by
  induction l with
  | nil => rfl
  | cons c l ih =>
    rw [List.all_cons] at h
    obtain ⟨h1, h2⟩ := Bool.and_eq_true_iff.mp h
    rw [List.map_cons, List.map_cons, ih h2, char_back c (by have := isFig_iff.mp h1; lia)]
theorem str_val {w : List Nat} (h : lenW w = true) (ha : w.all isFig = true) : (strOfInt (valOf w : Nat) == w) = !headZ w := by
  have hd : PySem.NumText.AllDigits w := fun c hc => isFig_iff.mp (List.all_eq_true.mp ha c hc)
  rw [strOf_nat, show valOf w = PySem.NumText.digitsVal w from rfl, PySem.NumText.toDigits_all w hd]
  cases w with
  | nil => exact absurd h (by decide)
  | cons c r =>
    by_cases hc : c = 48
    · subst hc
      rw [List.dropWhile_cons, if_pos (beq_self_eq_true 48)]
      have hr : headZ (48 :: r) = decide ((1 : Int) < (48 :: r).length) := rfl
      rw [hr]
      cases r with
      | nil => rfl
      | cons d r =>
        have h1 : decide ((1 : Int) < (48 :: d :: r).length) = true := decide_eq_true (by simp only [List.length_cons]; lia)
        rw [h1]
        refine beq_eq_false_iff_ne.mpr fun e => ?_
        have hl := (d :: r).dropWhile_sublist (fun x => x == 48) |>.length_le
        cases hq : (d :: r).dropWhile (fun x => x == 48) with
        | nil => rw [hq] at e; cases e
        | cons a b =>
          rw [hq] at e hl
          have := congrArg List.length e
          simp only [List.length_map, List.length_cons] at this hl
          lia
    · rw [List.dropWhile_cons, if_neg (by simpa using hc)]
      have hz : headZ (c :: r) = false := by
        unfold headZ
        rw [show ((c :: r).headD 0 == 48) = false from beq_eq_false_iff_ne.mpr hc]; rfl
      rw [hz]
      show (((c :: r).map Char.ofNat).map Char.toNat == c :: r) = true
      rw [map_back ha]
      exact beq_self_eq_true _
noncomputable def countW (w : List Nat) (lo hi : Int) : Bool := match numW w with
  | some i => decide (lo ≤ i) && decide (i ≤ hi)
  | none => false
theorem val_lt {w : List Nat} (h : lenW w = true) (ha : w.all isFig = true) : (valOf w : Int) < 10 ^ 12 := by
  have hl : w.length ≤ 6 := by
    unfold lenW at h
    simp only [Bool.and_eq_true, decide_eq_true_eq] at h
    lia
  have key : ∀ (l : List Nat) (a : Nat), l.all isFig = true → l.foldl (fun acc c => acc * 10 + (c - 48)) a + 1 ≤ (a + 1) * 10 ^ l.length := by
    intro l
    induction l with
    | nil => intro a _; simp
    | cons c l ih =>
      intro a hl
      rw [List.all_cons] at hl
      obtain ⟨h1, h2⟩ := Bool.and_eq_true_iff.mp hl
      have hc := isFig_iff.mp h1
      refine Nat.le_trans (ih _ h2) ?_
      rw [List.length_cons, Nat.pow_succ, Nat.mul_comm (10 ^ l.length) 10, ← Nat.mul_assoc]
      exact Nat.mul_le_mul_right _ (by lia)
  have := key w 0 ha
  have h6 : 10 ^ w.length ≤ 10 ^ 6 := Nat.pow_le_pow_right (by decide) hl
  have : valOf w + 1 ≤ 10 ^ 6 := Nat.le_trans this (by rw [Nat.zero_add, Nat.one_mul]; exact h6)
  lia
theorem sp_l_count (H : Has11 fns) (n : Nat) (w : List Nat) (lo hi : Int) : callF fns (n + 1) 84 [.sh (.str w), .sh (.int lo), .sh (.int hi)] = .ok (.sh (.bool (countW w lo hi))) := by
  rw [callF_succ H.b84, runFn_plain rfl rfl]
  have hc := comp_not (Φ := callF fns n) (ρ := [.sh (.str w), .sh (.int lo), .sh (.int hi), .un]) (i := 3) (b := figures) (fun _ => rfl) w
  have t1 := len_test (Φ := callF fns n) (ρ := [.sh (.str w), .sh (.int lo), .sh (.int hi), .un]) (a := .v 0) (hi := .cI 6) (X := .sh (.str w)) rfl rfl rfl rfl (n := w.length) rfl
  have h1 : lenW w = (decide ((1 : Int) ≤ w.length) && decide ((w.length : Int) ≤ 6)) := rfl
  rw [← h1] at t1
  have e2 : decide ((0 : Int) < ((signs (w.filter fun c => !decide (c ∈ figures))).length : Int)) = !w.all isFig := by
    rw [Bool.eq_iff_iff, decide_eq_true_eq]
    unfold signs
    rw [List.length_map]
    constructor
    · intro h
      obtain ⟨x, hx⟩ := List.exists_mem_of_length_pos (show 0 < (w.filter fun c => !decide (c ∈ figures)).length by lia)
      obtain ⟨hx1, hx2⟩ := List.mem_filter.1 hx
      rw [← isFig_eq] at hx2
      rw [Bool.not_eq_true', List.all_eq_false]
      exact ⟨x, hx1, by simpa using hx2⟩
    · intro h
      rw [Bool.not_eq_true', List.all_eq_false] at h
      obtain ⟨x, hx, hp⟩ := h
      have := List.length_pos_of_mem (l := w.filter fun c => !decide (c ∈ figures)) (List.mem_filter.2 ⟨hx, by rw [← isFig_eq]; simpa using hp⟩)
      lia
  have t2 : ev (callF fns n) (.cmp .gt (.bi .len (.cons (.comp (.v 3) [3] (.v 0) (.cmp .notin (.v 3) (.cS [48, 49, 50, 51, 52, 53, 54, 55, 56, 57]))) .nil)) (.cI 0)) [.sh (.str w), .sh (.int lo), .sh (.int hi), .un] = .ok (.sh (.bool (!w.all isFig))) := by
    rw [← e2]
    exact sv_cmp (sv_bi (st_cons (sv_comp rfl hc) rfl rfl) rfl rfl) rfl rfl rfl gt_i
  have t := sv_orB t1 fun _ => t2
  refine run_ret ?_
  cases hl : lenW w with
  | false =>
    rw [hl] at t
    have : countW w lo hi = false := by unfold countW numW; rw [hl]; rfl
    rw [this]
    exact ex_ret1 (sx_yes t (sx_cret rfl rfl))
  | true =>
    cases ha : w.all isFig with
    | false =>
      rw [hl, ha] at t
      have : countW w lo hi = false := by unfold countW numW; rw [hl, ha, Bool.and_false]; rfl
      rw [this]
      exact ex_ret1 (sx_yes t (sx_cret rfl rfl))
    | true =>
      rw [hl, ha] at t
      have hi0 := int_w (figs_of hl ha)
      have hs := str_i (i := (valOf w : Nat)) (Int.natCast_nonneg _) (val_lt hl ha)
      have hz := str_val hl ha
      have : countW w lo hi = ((strOfInt (valOf w : Nat) == w) && (decide (lo ≤ (valOf w : Int)) && decide ((valOf w : Int) ≤ hi))) := by
        unfold countW numW
        rw [hz, hl, ha]
        cases headZ w <;> rfl
      rw [this]
      have ei : ev (callF fns n) (.bi .int (.cons (.v 0) .nil)) [.sh (.str w), .sh (.int lo), .sh (.int hi), .un] = .ok (.sh (.int (valOf w : Nat))) := sv_bi rfl rfl hi0
      exact ex_step (sx_no t) (ex_ret1 (sx_ret (sv_andB (sv_cmp (sv_bi (st_cons ei rfl rfl) rfl hs) rfl rfl rfl eq_s) fun _ => sv_cmp2 rfl ei rfl rfl rfl rfl rfl rfl) rfl))
end Mine.PL
namespace Mine.PL
open Mine
variable {fns : List Fn}
noncomputable abbrev PW2 := List Nat × List Nat
noncomputable def sAt : List Nat := [97, 116]
noncomputable def flatP (ps : List PW2) : List (List Nat) := ps.flatMap fun q => [q.1, q.2]
noncomputable def pairsW : List (List Nat) → Option (List PW2 × List Nat)
  | [] => none
  | [_] => none
  | [x, p] => if x = sAt then some ([], p) else none
  | a :: b :: c :: r => (pairsW (c :: r)).map fun q => ((a, b) :: q.1, q.2)
theorem pairsW_some : ∀ {r : List (List Nat)} {ps : List PW2} {p : List Nat}, pairsW r = some (ps, p) → r = flatP ps ++ [sAt, p]
  | [], _, _, h => by cases h
  | [_], _, _, h => by cases h
  | [x, p'], ps, p, h => by
    unfold pairsW at h
    by_cases e : x = sAt
    · rw [if_pos e] at h; cases h; rw [e]; rfl
    · rw [if_neg e] at h; cases h
  | a :: b :: c :: r, ps, p, h => by
    unfold pairsW at h
    cases q : pairsW (c :: r) with
    | none => rw [q] at h; cases h
    | some x =>
      rw [q] at h; cases h
      rw [pairsW_some (r := c :: r) (ps := x.1) (p := x.2) q]; rfl
theorem pairsW_none : ∀ {r : List (List Nat)}, pairsW r = none → r.length < 2 ∨ r.length % 2 = 1 ∨ ∃ x, r[r.length - 2]? = some x ∧ x ≠ sAt
  | [], _ => .inl (by decide)
  | [_], _ => .inl (by show 1 < 2; decide)
  | [x, p'], h => by
    unfold pairsW at h
    by_cases e : x = sAt
    · rw [if_pos e] at h; cases h
    · exact .inr (.inr ⟨x, rfl, e⟩)
  | a :: b :: c :: r, h => by
    unfold pairsW at h
    have ih := pairsW_none (r := c :: r) (Option.map_eq_none_iff.mp h)
    simp only [List.length_cons] at ih ⊢
    rcases ih with ih | ih | ⟨x, hx, hn⟩
    · exact .inr (.inl (by have : r.length = 0 := by lia
                           rw [this]))
    · exact .inr (.inl (by lia))
    · cases r with
      | nil => exact .inr (.inl rfl)
      | cons d r =>
        refine .inr (.inr ⟨x, ?_, hn⟩)
        simp only [List.length_cons] at hx ⊢
        rw [show r.length + 1 + 1 + 1 + 1 - 2 = (r.length + 1 + 1 - 2) + 1 + 1 by lia, List.getElem?_cons_succ, List.getElem?_cons_succ]
        exact hx
theorem pairsW_flat : ∀ (ps : List PW2) (p : List Nat), pairsW (flatP ps ++ [sAt, p]) = some (ps, p)
  | [], p => rfl
  | (a, b) :: ps, p => by
    have ih := pairsW_flat ps p
    cases ps with
    | nil => rfl
    | cons q ps =>
      show (pairsW (flatP (q :: ps) ++ [sAt, p])).map _ = _
      rw [ih]; rfl
theorem flatP_len (ps : List PW2) : (flatP ps).length = 2 * ps.length := by
  induction ps with
  | nil => rfl
  | cons q ps ih => show (q.1 :: q.2 :: flatP ps).length = _; simp only [List.length_cons, ih]; lia
theorem numW_val {w : List Nat} {i : Int} (h : numW w = some i) : i = (valOf w : Nat) := by
  unfold numW at h
  split at h
  · exact (Option.some.inj h).symm
  · cases h
noncomputable def wantL : List PW2 → Option (List Kind)
  | [] => some []
  | q :: r => if nameW q.1 then (match numW q.2 with | some i => (wantL r).map ((q.1, i) :: ·) | none => none) else none
noncomputable def lawL (names : List Dat) : List PW2 → Option (List Kind)
  | [] => some []
  | q :: r => if (nameW q.1 && countW q.2 1 9 && !(names.any fun y => Dat.eq y (.str q.1))) = true then (lawL (names ++ [.str q.1]) r).map ((q.1, (valOf q.2 : Int)) :: ·) else none
theorem lawL_eq : ∀ (ps : List PW2) (names : List Dat), lawL names ps = match wantL ps with | some ws => if setL names (ws.map kD) then some ws else none | none => none
  | [], names => rfl
  | q :: r, names => by
    have ih := lawL_eq r (names ++ [.str q.1])
    unfold lawL wantL
    cases h1 : nameW q.1 with
    | false => rfl
    | true =>
      unfold countW
      cases h2 : numW q.2 with
      | none => rfl
      | some i =>
        rw [← numW_val h2]
        have hs : ∀ ws : List Kind, setL names ((((q.1, i) :: ws) : List Kind).map kD) = ((!(names.any fun y => Dat.eq y (.str q.1)) && (decide ((1 : Int) ≤ i) && decide (i ≤ 9))) && setL (names ++ [.str q.1]) (ws.map kD)) := fun _ => rfl
        simp only [Bool.true_and, if_true]
        rw [ih]
        cases h3 : (decide ((1 : Int) ≤ i) && decide (i ≤ 9)) with
        | false =>
          cases h4 : wantL r with
          | none => rfl
          | some ws => simp only [Option.map_some, hs, h3, Bool.and_false, Bool.false_and, Bool.false_eq_true, if_false]
        | true =>
          cases h5 : names.any fun y => Dat.eq y (.str q.1) with
          | true =>
            cases h4 : wantL r with
            | none => rfl
            | some ws => simp only [Option.map_some, hs, h3, h5, Bool.not_true, Bool.and_false, Bool.and_true, Bool.false_and, Bool.false_eq_true, if_false]
          | false =>
            cases h4 : wantL r with
            | none => rfl
            | some ws =>
              simp only [Option.map_some, hs, h3, h5, Bool.not_false, Bool.and_self, Bool.true_and, if_true]
              cases setL (names ++ [.str q.1]) (ws.map kD) <;> rfl
noncomputable def dueSet (r : List (List Nat)) : Option Dat := match pairsW r with
  | none => none
  | some (ps, p) => if (decide (1 ≤ ps.length) && decide (ps.length ≤ 5) && countW p 0 100000) = true then (lawL [] ps).map fun ws => .tup [.str sSet, .tup (ws.map kD), .int (valOf p : Nat)] else none
noncomputable def dueShare (a b : List Nat) : Option Dat := if (nameW a && countW b 1 100) = true then some (.tup [.str sShare, .str a, .int (valOf b : Nat)]) else none
noncomputable def dueMore (a b c : List Nat) : Option Dat := if (nameW a && countW b 2 9 && countW c 1 ((valOf b : Int) - 1)) = true then some (.tup [.str sMore, .str a, .int (valOf b : Nat), .int (valOf c : Nat)]) else none
noncomputable def dueSlip (a b c : List Nat) : Option Dat := if (nameW a && nameW b && !(a == b) && countW c 1 100000) = true then some (.tup [.str sSlip, .str a, .str b, .int (valOf c : Nat)]) else none
noncomputable def due3 (w a b : List Nat) : Option Dat := if w = sShare then dueShare a b else none
noncomputable def due4 (w a b c : List Nat) : Option Dat := if w = sMore then dueMore a b c else if w = sSlip then dueSlip a b c else none
noncomputable def dueN (w : List Nat) : List (List Nat) → Option Dat
  | [a, b] => due3 w a b
  | [a, b, c] => due4 w a b c
  | _ => none
noncomputable def dueW : List (List Nat) → Option Dat
  | [] => none
  | w :: r => if w = sSet then dueSet r else dueN w r
noncomputable def toldR (q : Option Dat) : Out Val := match q with
  | some d => .ok (.sh d)
  | none => .exn 10
end Mine.PL
namespace Mine.PL
open Mine
variable {fns : List Fn}
section
variable {Φ : Nat → List Val → Out Val} {ρ : List Val} {a b t e : T} {v x : Val} {c i f : Nat} {as : List Val} {l r : List Dat} {d d' : Dat}
theorem st_exn1 (h : ev Φ a ρ = .exn c) : evT Φ (.cons a b) ρ = .exn c := by
  show (ev Φ a ρ >>= argV >>= fun x => evT Φ b ρ >>= fun y => Out.ok (x :: y)) = _
  rw [h]; rfl
theorem st_exn2 (ha : ev Φ a ρ = .ok v) (hx : argV v = .ok x) (h : evT Φ b ρ = .exn c) : evT Φ (.cons a b) ρ = .exn c := by
  show (ev Φ a ρ >>= argV >>= fun x => evT Φ b ρ >>= fun y => Out.ok (x :: y)) = _
  rw [ha]
  show (argV v >>= fun x => evT Φ b ρ >>= fun y => Out.ok (x :: y)) = _
  rw [hx]
  show (evT Φ b ρ >>= fun y => Out.ok (x :: y)) = _
  rw [h]; rfl
theorem sv_tupX (h : evT Φ t ρ = .exn c) : ev Φ (.tup t) ρ = .exn c := by rw [ev_tup, h]; rfl
theorem sv_callX (h1 : evT Φ t ρ = .ok as) (h2 : Φ f as = .exn c) : ev Φ (.call f t) ρ = .exn c := by rw [ev_call, h1]; exact h2
theorem sx_appX (hl : ρ.getD i .un = .own l) (h : ev Φ e ρ = .exn c) : ex Φ (.app i e) ρ = .exn c := by rw [ex_app, hl, ownX_own, h]; rfl
theorem run_exn (h : ex Φ t ρ = .exn c) : (ex Φ t ρ >>= fun r => Out.ok (outOf r)) = .exn c := by rw [h]; rfl
theorem idx_mid : idxL (l ++ d :: r) (l.length : Int) = .ok (.sh d) := idxL_at (Int.natCast_nonneg _) (by rw [Int.toNat_natCast, List.getElem?_append_right (Nat.le_refl _), Nat.sub_self]; rfl)
theorem idx_mid1 : idxL (l ++ d :: d' :: r) ((l.length : Int) + 1) = .ok (.sh d') := by
  have := idx_mid (l := l ++ [d]) (d := d') (r := r)
  rw [List.append_assoc, List.length_append] at this
  exact this
theorem idx_neg2 : idxL (l ++ [d, d']) (-2) = .ok (.sh d) := by
  have e : posOf (-2) (l ++ [d, d']).length = some l.length := by
    unfold posOf
    rw [if_neg (by decide), List.length_append, show [d, d'].length = 2 from rfl, if_pos (by lia)]
    congr 1; lia
  unfold idxL
  rw [e]
  show (match (l ++ [d, d'])[l.length]? with | some d => Out.ok (Val.sh d) | Option.none => .bad) = _
  rw [List.getElem?_append_right (Nat.le_refl _), Nat.sub_self]; rfl
theorem idx_neg1 : idxL (l ++ [d, d']) (-1) = .ok (.sh d') := by
  rw [show l ++ [d, d'] = (l ++ [d]) ++ [d'] by rw [List.append_assoc]; rfl]
  exact idxL_last
end
noncomputable def flatD (ps : List PW2) : List Dat := ps.flatMap fun q => [.str q.1, .str q.2]
theorem sDs_flat (ps : List PW2) : sDs (flatP ps) = flatD ps := by
  induction ps with
  | nil => rfl
  | cons q ps ih => show Dat.str q.1 :: Dat.str q.2 :: sDs (flatP ps) = _; rw [ih]; rfl
theorem flatD_len (ps : List PW2) : (flatD ps).length = 2 * ps.length := by rw [← sDs_flat, sDs_len, flatP_len]
theorem rangeL2 (a : Int) (k : Nat) : rangeL a 2 (k + 1) = .int a :: rangeL (a + 2) 2 k := rfl
theorem flat_shift (pre tail : List Dat) (q : PW2) (ps : List PW2) : pre ++ flatD (q :: ps) ++ tail = (pre ++ [.str q.1, .str q.2]) ++ flatD ps ++ tail := by
  show pre ++ ([.str q.1, .str q.2] ++ flatD ps) ++ tail = _
  rw [← List.append_assoc pre]
theorem set_in_loop (H : Has11 fns) (n : Nat) (tail : List Dat) : ∀ (ps : List PW2) (pre acc : List Dat) (y : Val), acc.length + ps.length ≤ 100000 →
    ∃ z, forL (stepF (callF fns (n + 2)) [2] b_set_in_1) (rangeL (pre.length : Int) 2 ps.length) [.sh (.lst (pre ++ flatD ps ++ tail)), .own acc, y] =
      (match wantL ps with | some ws => .ok (.next, [.sh (.lst (pre ++ flatD ps ++ tail)), .own (acc ++ ws.map kD), z]) | none => .exn 10)
  | [], pre, acc, y, _ => ⟨y, by show Out.ok _ = Out.ok _; rw [List.map_nil, List.append_nil]⟩
  | q :: ps, pre, acc, y, hl => by
    rw [List.length_cons] at hl
    rw [List.length_cons, rangeL2]
    have es : pre ++ flatD (q :: ps) ++ tail = pre ++ .str q.1 :: .str q.2 :: (flatD ps ++ tail) := by
      rw [List.append_assoc]; rfl
    have i1 : ev (callF fns (n + 2)) (.idx (.v 0) (.v 2)) [.sh (.lst (pre ++ flatD (q :: ps) ++ tail)), .own acc, .sh (.int pre.length)] = .ok (.sh (.str q.1)) := sv_idxL rfl rfl (by rw [es]; exact idx_mid)
    have i2 : ev (callF fns (n + 2)) (.idx (.v 0) (.bin .add (.v 2) (.cI 1))) [.sh (.lst (pre ++ flatD (q :: ps) ++ tail)), .own acc, .sh (.int pre.length)] = .ok (.sh (.str q.2)) := sv_idxL rfl (sb rfl rfl add_i) (by rw [es]; exact idx_mid1)
    have c1 := sp_name_in H n q.1
    have c2 := sp_number_in H (n + 1) q.2
    unfold wantL
    cases h1 : nameW q.1 with
    | false =>
      rw [h1] at c1
      exact ⟨y, forL_exn (show ex (callF fns (n + 2)) b_set_in_1 [.sh (.lst (pre ++ flatD (q :: ps) ++ tail)), .own acc, .sh (.int pre.length)] = _ from ex_exn (sx_appX rfl (sv_tupX (st_exn1 (sv_callX (st_cons i1 rfl rfl) c1)))))⟩
    | true =>
      rw [h1] at c1
      have e1 := sv_call (f := 78) (t := .cons (.idx (.v 0) (.v 2)) .nil) (st_cons i1 rfl rfl) c1
      cases h2 : numW q.2 with
      | none =>
        rw [h2] at c2
        exact ⟨y, forL_exn (show ex (callF fns (n + 2)) b_set_in_1 [.sh (.lst (pre ++ flatD (q :: ps) ++ tail)), .own acc, .sh (.int pre.length)] = _ from ex_exn (sx_appX rfl (sv_tupX (st_exn2 e1 rfl (st_exn1 (sv_callX (st_cons i2 rfl rfl) c2))))))⟩
      | some i =>
        rw [h2] at c2
        have e2 := sv_call (f := 77) (t := .cons (.idx (.v 0) (.bin .add (.v 2) (.cI 1))) .nil) (st_cons i2 rfl rfl) c2
        obtain ⟨z, ih⟩ := set_in_loop H n tail ps (pre ++ [.str q.1, .str q.2]) (acc ++ [kD (q.1, i)]) (.sh (.int pre.length)) (by rw [List.length_append]; show acc.length + 1 + _ ≤ _; lia)
        rw [← flat_shift, List.length_append, show (([Dat.str q.1, .str q.2].length : Nat)) = 2 from rfl, Int.natCast_add] at ih
        refine ⟨z, (forL_next (show ex (callF fns (n + 2)) b_set_in_1 [.sh (.lst (pre ++ flatD (q :: ps) ++ tail)), .own acc, .sh (.int pre.length)] = _ from ex_next (sx_app rfl (sv_tup (st_cons e1 rfl (st_cons e2 rfl rfl)) rfl) rfl (Nat.lt_of_le_of_lt (show acc.length ≤ 100000 by lia) (by decide))) rfl)).trans (ih.trans ?_)⟩
        cases wantL ps with
        | none => rfl
        | some ws =>
          show Out.ok (Fl.next, [_, Val.own (acc ++ [kD (q.1, i)] ++ ws.map kD), z]) = Out.ok (Fl.next, [_, Val.own (acc ++ kD (q.1, i) :: ws.map kD), z])
          rw [List.append_assoc acc]; rfl
noncomputable def setIn (r : List (List Nat)) : Option Dat := match pairsW r with
  | none => none
  | some (ps, p) => if ps.length = 0 then none else match wantL ps with
    | none => none
    | some ws => (numW p).map fun q => .tup [.str sSet, .tup (ws.map kD), .int q]
theorem setIn_none {r : List (List Nat)} (h : pairsW r = none) : setIn r = none := by unfold setIn; rw [h]
theorem sp_set_in (H : Has11 fns) (n : Nat) (r : List (List Nat)) (hr : r.length ≤ 100000) : callF fns (n + 3) 79 [.sh (.lst (sDs (sSet :: r)))] = toldR (setIn r) := by
  rw [callF_succ H.b79, runFn_plain rfl rfl]
  have hlen : (sDs (sSet :: r)).length = r.length + 1 := by rw [sDs_len]; rfl
  have el : ev (callF fns (n + 2)) (.bi .len (.cons (.v 0) .nil)) [.sh (.lst (sDs (sSet :: r))), .un, .un] = .ok (.sh (.int ((r.length : Int) + 1))) := sv_bi rfl rfl (by rw [len_l, hlen]; rfl)
  have t1 : ev (callF fns (n + 2)) (.cmp .lt (.bi .len (.cons (.v 0) .nil)) (.cI 5)) [.sh (.lst (sDs (sSet :: r))), .un, .un] = .ok (.sh (.bool (decide ((r.length : Int) + 1 < 5)))) := sv_cmp el rfl rfl rfl lt_i
  have t2 : ev (callF fns (n + 2)) (.cmp .eq (.bin .mod (.bi .len (.cons (.v 0) .nil)) (.cI 2)) (.cI 0)) [.sh (.lst (sDs (sSet :: r))), .un, .un] = .ok (.sh (.bool (((r.length : Int) + 1) % 2 == 0))) := sv_cmp (sb el rfl (mod_i (by decide))) rfl rfl rfl eq_i
  have bad : ev (callF fns (n + 2)) (.or (.cmp .lt (.bi .len (.cons (.v 0) .nil)) (.cI 5)) (.or (.cmp .eq (.bin .mod (.bi .len (.cons (.v 0) .nil)) (.cI 2)) (.cI 0)) (.cmp .ne (.idx (.v 0) (.neg (.cI 2))) (.cS [97, 116])))) [.sh (.lst (sDs (sSet :: r))), .un, .un] = .ok (.sh (.bool true)) → setIn r = none → (ex (callF fns (n + 2)) t_set_in [.sh (.lst (sDs (sSet :: r))), .un, .un] >>= fun r => Out.ok (outOf r)) = toldR (setIn r) := fun h h0 => by
    rw [h0]; exact run_exn (ex_exn (sx_yes h (ex_exn rfl)))
  by_cases h5 : r.length < 4
  · rw [decide_eq_true (by lia : (r.length : Int) + 1 < 5)] at t1
    refine bad (sv_or_t t1) ?_
    unfold setIn
    cases hq : pairsW r with
    | none => rfl
    | some q =>
      obtain ⟨ps, p⟩ := q
      have := congrArg List.length (pairsW_some hq)
      rw [List.length_append, flatP_len] at this
      have h2 : ([sAt, p] : List (List Nat)).length = 2 := rfl
      exact if_pos (show ps.length = 0 by lia)
  · rw [decide_eq_false (by lia : ¬ (r.length : Int) + 1 < 5)] at t1
    cases hq : pairsW r with
    | none =>
      have hb := setIn_none hq
      rcases pairsW_none hq with q | q | ⟨x, hx, hn⟩
      · lia
      · rw [show ((((r.length : Int) + 1) % 2) == 0) = true from beq_iff_eq.mpr (by lia)] at t2
        exact bad (sv_or t1 (sv_or_t t2)) hb
      · cases he : ((((r.length : Int) + 1) % 2) == 0) with
        | true => rw [he] at t2; exact bad (sv_or t1 (sv_or_t t2)) hb
        | false =>
          rw [he] at t2
          have hi : idxL (sDs (sSet :: r)) (-2) = .ok (.sh (.str x)) := by
            have e : posOf (-2) (sDs (sSet :: r)).length = some (r.length - 2 + 1) := by
              unfold posOf
              rw [if_neg (by decide), hlen, if_pos (by lia)]
              congr 1; lia
            unfold idxL
            rw [e]
            show (match (sDs (sSet :: r))[r.length - 2 + 1]? with | some d => Out.ok (Val.sh d) | Option.none => .bad) = _
            rw [show (sDs (sSet :: r))[r.length - 2 + 1]? = some (.str x) by
              show (Dat.str sSet :: sDs r)[r.length - 2 + 1]? = _
              rw [List.getElem?_cons_succ]
              unfold sDs
              rw [List.getElem?_map, hx]; rfl]
          have t3 : ev (callF fns (n + 2)) (.cmp .ne (.idx (.v 0) (.neg (.cI 2))) (.cS [97, 116])) [.sh (.lst (sDs (sSet :: r))), .un, .un] = .ok (.sh (.bool (!(x == sAt)))) := sv_cmp (sv_idxL rfl rfl hi) rfl rfl rfl ne_s
          rw [show (x == sAt) = false from beq_eq_false_iff_ne.mpr hn] at t3
          exact bad (sv_or t1 (sv_or t2 t3)) hb
    | some q =>
      obtain ⟨ps, p⟩ := q
      have er := pairsW_some hq
      have hl := congrArg List.length er
      rw [List.length_append, flatP_len] at hl
      have h2 : ([sAt, p] : List (List Nat)).length = 2 := rfl
      have es : sDs (sSet :: r) = [.str sSet] ++ flatD ps ++ [.str sAt, .str p] := by
        rw [er, ← sDs_flat]
        show Dat.str sSet :: sDs (flatP ps ++ [sAt, p]) = _
        unfold sDs
        rw [List.map_append]; rfl
      rw [show ((((r.length : Int) + 1) % 2) == 0) = false from beq_eq_false_iff_ne.mpr (by lia)] at t2
      have t3 : ev (callF fns (n + 2)) (.cmp .ne (.idx (.v 0) (.neg (.cI 2))) (.cS [97, 116])) [.sh (.lst (sDs (sSet :: r))), .un, .un] = .ok (.sh (.bool false)) := sv_cmp (sv_idxL rfl rfl (by rw [es]; exact idx_neg2)) rfl rfl rfl rfl
      have hs : setIn r = (match wantL ps with | none => none | some ws => (numW p).map fun q => .tup [.str sSet, .tup (ws.map kD), .int q]) := by
        unfold setIn
        rw [hq]
        exact if_neg (show ¬ ps.length = 0 by lia)
      have hr3 : itsF (callF fns (n + 2)) (.rng (.cI 1) (.bin .sub (.bi .len (.cons (.v 0) .nil)) (.cI 2)) (.cI 2)) [.sh (.lst (sDs (sSet :: r))), .own [], .un] = .ok (rangeL 1 2 ps.length) := by
        have e1 : ev (callF fns (n + 2)) (.bin .sub (.bi .len (.cons (.v 0) .nil)) (.cI 2)) [.sh (.lst (sDs (sSet :: r))), .own [], .un] = .ok (.sh (.int ((r.length : Int) + 1 - 2))) := sb (sv_bi rfl rfl (by rw [len_l, hlen]; rfl)) rfl sub_i
        show (ev (callF fns (n + 2)) (.bin .sub (.bi .len (.cons (.v 0) .nil)) (.cI 2)) [.sh (.lst (sDs (sSet :: r))), .own [], .un] >>= intD >>= fun y => rngD3 1 y 2) = _
        rw [e1]
        show rngD3 1 ((r.length : Int) + 1 - 2) 2 = _
        rw [rngD3_eq, if_pos (by lia), show (((r.length : Int) + 1 - 2 - 1 + 1) / 2).toNat = ps.length by lia]
      rw [hs]
      obtain ⟨z, lp⟩ := set_in_loop H n [.str sAt, .str p] ps [.str sSet] [] .un (show 0 + ps.length ≤ 100000 by lia)
      rw [← es] at lp
      have c2 := sp_number_in H (n + 1) p
      cases hw : wantL ps with
      | none =>
        rw [hw] at lp
        exact run_exn (ex_next (sx_no (sv_or t1 (sv_or t2 t3))) (ex_next (sx_asgO rfl) (ex_exn (sx_for hr3 lp))))
      | some ws =>
        rw [hw] at lp
        have ip : ev (callF fns (n + 2)) (.idx (.v 0) (.neg (.cI 1))) [.sh (.lst (sDs (sSet :: r))), .own ([] ++ ws.map kD), z] = .ok (.sh (.str p)) := sv_idxL rfl rfl (by rw [es]; exact idx_neg1)
        cases hp : numW p with
        | none =>
          rw [hp] at c2
          exact run_exn (ex_next (sx_no (sv_or t1 (sv_or t2 t3))) (ex_next (sx_asgO rfl) (ex_next (sx_for hr3 lp) (ex_exn (sx_retX (sv_tupX (st_exn2 rfl rfl (st_exn2 (sv_mkT rfl rfl) rfl (st_exn1 (sv_callX (st_cons ip rfl rfl) c2))))))))))
        | some i =>
          rw [hp] at c2
          exact run_ret (ex_step (sx_no (sv_or t1 (sv_or t2 t3))) (ex_step (sx_asgO rfl) (ex_step (sx_for hr3 lp) (ex_ret1 (sx_ret (sv_tup (st_cons rfl rfl (st_cons (sv_mkT rfl rfl) rfl (st_cons (sv_call (st_cons ip rfl rfl) c2) rfl rfl))) rfl) rfl)))))
end Mine.PL
namespace Mine.PL
open Mine
variable {fns : List Fn}
noncomputable def offMore (a b c : List Nat) : Option Dat := if nameW a then (match numW b with | none => none | some i => (numW c).map fun j => .tup [.str sMore, .str a, .int i, .int j]) else none
noncomputable def offShare (a b : List Nat) : Option Dat := if nameW a then (numW b).map fun i => .tup [.str sShare, .str a, .int i] else none
noncomputable def offSlip (a b c : List Nat) : Option Dat := if nameW a then (if nameW b then (numW c).map fun j => .tup [.str sSlip, .str a, .str b, .int j] else none) else none
section
variable {Φ : Nat → List Val → Out Val} {ρ : List Val} {t : T} {X : T} {w : List Nat}
theorem name_arg (h : Φ 78 [.sh (.str w)] = if nameW w then .ok (.sh (.str w)) else .exn 10) (hx : ev Φ X ρ = .ok (.sh (.str w))) : ev Φ (.call 78 (.cons X .nil)) ρ = if nameW w then .ok (.sh (.str w)) else .exn 10 := by
  rw [← h, ev_call, st_cons (b := .nil) (as := []) hx rfl rfl]; rfl
theorem num_arg (h : Φ 77 [.sh (.str w)] = match numW w with | some i => .ok (.sh (.int i)) | none => .exn 10) (hx : ev Φ X ρ = .ok (.sh (.str w))) : ev Φ (.call 77 (.cons X .nil)) ρ = match numW w with | some i => .ok (.sh (.int i)) | none => .exn 10 := by
  rw [← h, ev_call, st_cons (b := .nil) (as := []) hx rfl rfl]; rfl
end
noncomputable def offIn (w : List Nat) (r : List (List Nat)) : Option Dat := match r with
  | [a, b] => if w = sShare then offShare a b else none
  | [a, b, c] => if w = sMore then offMore a b c else if w = sSlip then offSlip a b c else none
  | _ => none
theorem len_ne {w : List Nat} {r : List (List Nat)} {k : Nat} (hk : r.length ≠ k) : ((((w :: r).length : Nat) : Int) == ((k + 1 : Nat) : Int)) = false := beq_eq_false_iff_ne.mpr fun e => hk (Nat.succ.inj (Int.ofNat.inj e))
theorem sp_offer_in (H : Has11 fns) (n : Nat) (w : List Nat) (r : List (List Nat)) (hr : r.length ≤ 100000) : callF fns (n + 4) 80 [.sh (.lst (sDs (w :: r)))] = toldR (if w = sSet then setIn r else offIn w r) := by
  rw [callF_succ H.b80, runFn_plain rfl rfl]
  have cs := sp_set_in H n r hr
  have cn := fun w => sp_name_in H (n + 1) w
  have cm := fun w => sp_number_in H (n + 2) w
  generalize callF fns (n + 3) = Φ at cs cn cm
  have i0 : ev Φ (.idx (.v 0) (.cI 0)) [.sh (.lst (sDs (w :: r)))] = .ok (.sh (.str w)) := sv_idxL rfl rfl idxL_0
  have tw : ∀ s, ev Φ (.cmp .eq (.idx (.v 0) (.cI 0)) (.cS s)) [.sh (.lst (sDs (w :: r)))] = .ok (.sh (.bool (w == s))) := fun s => sv_cmp i0 rfl rfl rfl eq_s
  have tl : ∀ k : Int, ev Φ (.cmp .eq (.bi .len (.cons (.v 0) .nil)) (.cI k)) [.sh (.lst (sDs (w :: r)))] = .ok (.sh (.bool ((((w :: r).length : Nat) : Int) == k))) := fun k => sv_cmp (sv_bi rfl rfl (by rw [len_l, sDs_len])) rfl rfl rfl eq_i
  by_cases h0 : w = sSet
  · rw [if_pos h0]
    subst h0
    cases hs : setIn r with
    | none =>
      rw [hs] at cs
      exact run_exn (ex_exn (sx_yes (tw sSet) (ex_exn (sx_retX (sv_callX (f := 79) rfl cs)))))
    | some d =>
      rw [hs] at cs
      exact run_ret (ex_ret1 (sx_yes (tw sSet) (sx_cret (sv_call (f := 79) rfl cs) rfl)))
  · rw [if_neg h0]
    have t0 : ev Φ (.cmp .eq (.idx (.v 0) (.cI 0)) (.cS [115, 101, 116])) [.sh (.lst (sDs (w :: r)))] = .ok (.sh (.bool false)) := (tw sSet).trans (by rw [beq_eq_false_iff_ne.mpr h0])
    have t2 := sv_andB (tw sMore) fun _ => tl 4
    have t3 := sv_andB (tw sShare) fun _ => tl 3
    have t4 := sv_andB (tw sSlip) fun _ => tl 4
    have no : (w == sMore && (((w :: r).length : Nat) : Int) == 4) = false → (w == sShare && (((w :: r).length : Nat) : Int) == 3) = false → (w == sSlip && (((w :: r).length : Nat) : Int) == 4) = false → (ex Φ t_offer_in [.sh (.lst (sDs (w :: r)))] >>= fun r => Out.ok (outOf r)) = .exn 10 := fun a b c => by
      rw [a] at t2; rw [b] at t3; rw [c] at t4
      exact run_exn (ex_next (sx_no t0) (ex_next (sx_no t2) (ex_next (sx_no t3) (ex_next (sx_no t4) (ex_exn rfl)))))
    have len4 : r.length ≠ 3 → ((((w :: r).length : Nat) : Int) == 4) = false := fun h => len_ne (k := 3) h
    have len3 : r.length ≠ 2 → ((((w :: r).length : Nat) : Int) == 3) = false := fun h => len_ne (k := 2) h
    by_cases l2 : r.length = 2
    · obtain ⟨a, b, rfl⟩ : ∃ a b, r = [a, b] := by
        match r, l2 with
        | [a, b], _ => exact ⟨a, b, rfl⟩
      by_cases h1 : w = sShare
      · subst h1
        show _ = toldR (if sShare = sShare then offShare a b else none)
        rw [if_pos rfl]
        have ca := name_arg (cn a) (X := .idx (.v 0) (.cI 1)) (ρ := [.sh (.lst (sDs [sShare, a, b]))]) (sv_idxL rfl rfl idxL_1)
        have cb := num_arg (cm b) (X := .idx (.v 0) (.cI 2)) (ρ := [.sh (.lst (sDs [sShare, a, b]))]) (sv_idxL rfl rfl idxL_2)
        unfold offShare
        cases hn : nameW a with
        | false => rw [hn] at ca; exact run_exn (ex_next (sx_no t0) (ex_next (sx_no t2) (ex_exn (sx_yes t3 (ex_exn (sx_retX (sv_tupX (st_exn2 rfl rfl (st_exn1 ca)))))))))
        | true =>
          rw [hn] at ca
          cases hb : numW b with
          | none => rw [hb] at cb; exact run_exn (ex_next (sx_no t0) (ex_next (sx_no t2) (ex_exn (sx_yes t3 (ex_exn (sx_retX (sv_tupX (st_exn2 rfl rfl (st_exn2 ca rfl (st_exn1 cb))))))))))
          | some i => rw [hb] at cb; exact run_ret (ex_step (sx_no t0) (ex_step (sx_no t2) (ex_ret1 (sx_yes t3 (sx_cret (sv_tup (st_cons rfl rfl (st_cons ca rfl (st_cons cb rfl rfl))) rfl) rfl)))))
      · show _ = toldR (if w = sShare then offShare a b else none)
        rw [if_neg h1]
        exact no (by rw [len4 (by rw [l2]; decide), Bool.and_false]) (by rw [beq_eq_false_iff_ne.mpr h1]; rfl) (by rw [len4 (by rw [l2]; decide), Bool.and_false])
    · by_cases l3 : r.length = 3
      · obtain ⟨a, b, c, rfl⟩ : ∃ a b c, r = [a, b, c] := by
          match r, l3 with
          | [a, b, c], _ => exact ⟨a, b, c, rfl⟩
        show _ = toldR (if w = sMore then offMore a b c else if w = sSlip then offSlip a b c else none)
        by_cases h1 : w = sMore
        · subst h1
          rw [if_pos rfl]
          have ca := name_arg (cn a) (X := .idx (.v 0) (.cI 1)) (ρ := [.sh (.lst (sDs [sMore, a, b, c]))]) (sv_idxL rfl rfl idxL_1)
          have cb := num_arg (cm b) (X := .idx (.v 0) (.cI 2)) (ρ := [.sh (.lst (sDs [sMore, a, b, c]))]) (sv_idxL rfl rfl idxL_2)
          have cc := num_arg (cm c) (X := .idx (.v 0) (.cI 3)) (ρ := [.sh (.lst (sDs [sMore, a, b, c]))]) (sv_idxL rfl rfl idxL_3)
          unfold offMore
          cases hn : nameW a with
          | false => rw [hn] at ca; exact run_exn (ex_next (sx_no t0) (ex_exn (sx_yes t2 (ex_exn (sx_retX (sv_tupX (st_exn2 rfl rfl (st_exn1 ca))))))))
          | true =>
            rw [hn] at ca
            cases hb : numW b with
            | none => rw [hb] at cb; exact run_exn (ex_next (sx_no t0) (ex_exn (sx_yes t2 (ex_exn (sx_retX (sv_tupX (st_exn2 rfl rfl (st_exn2 ca rfl (st_exn1 cb)))))))))
            | some i =>
              rw [hb] at cb
              cases hc : numW c with
              | none => rw [hc] at cc; exact run_exn (ex_next (sx_no t0) (ex_exn (sx_yes t2 (ex_exn (sx_retX (sv_tupX (st_exn2 rfl rfl (st_exn2 ca rfl (st_exn2 cb rfl (st_exn1 cc))))))))))
              | some j => rw [hc] at cc; exact run_ret (ex_step (sx_no t0) (ex_ret1 (sx_yes t2 (sx_cret (sv_tup (st_cons rfl rfl (st_cons ca rfl (st_cons cb rfl (st_cons cc rfl rfl)))) rfl) rfl))))
        · rw [if_neg h1]
          have t2 : ev Φ (.and (.cmp .eq (.idx (.v 0) (.cI 0)) (.cS [109, 111, 114, 101])) (.cmp .eq (.bi .len (.cons (.v 0) .nil)) (.cI 4))) [.sh (.lst (sDs [w, a, b, c]))] = .ok (.sh (.bool false)) := t2.trans (by rw [beq_eq_false_iff_ne.mpr h1]; rfl)
          have t3 : ev Φ (.and (.cmp .eq (.idx (.v 0) (.cI 0)) (.cS [115, 104, 97, 114, 101])) (.cmp .eq (.bi .len (.cons (.v 0) .nil)) (.cI 3))) [.sh (.lst (sDs [w, a, b, c]))] = .ok (.sh (.bool false)) := t3.trans (by rw [show ((([w, a, b, c].length : Nat) : Int) == 3) = false from rfl, Bool.and_false])
          by_cases h2 : w = sSlip
          · subst h2
            rw [if_pos rfl]
            have ca := name_arg (cn a) (X := .idx (.v 0) (.cI 1)) (ρ := [.sh (.lst (sDs [sSlip, a, b, c]))]) (sv_idxL rfl rfl idxL_1)
            have cb := name_arg (cn b) (X := .idx (.v 0) (.cI 2)) (ρ := [.sh (.lst (sDs [sSlip, a, b, c]))]) (sv_idxL rfl rfl idxL_2)
            have cc := num_arg (cm c) (X := .idx (.v 0) (.cI 3)) (ρ := [.sh (.lst (sDs [sSlip, a, b, c]))]) (sv_idxL rfl rfl idxL_3)
            unfold offSlip
            cases hn : nameW a with
            | false => rw [hn] at ca; exact run_exn (ex_next (sx_no t0) (ex_next (sx_no t2) (ex_next (sx_no t3) (ex_exn (sx_yes t4 (ex_exn (sx_retX (sv_tupX (st_exn2 rfl rfl (st_exn1 ca))))))))))
            | true =>
              rw [hn] at ca
              cases hb : nameW b with
              | false => rw [hb] at cb; exact run_exn (ex_next (sx_no t0) (ex_next (sx_no t2) (ex_next (sx_no t3) (ex_exn (sx_yes t4 (ex_exn (sx_retX (sv_tupX (st_exn2 rfl rfl (st_exn2 ca rfl (st_exn1 cb)))))))))))
              | true =>
                rw [hb] at cb
                cases hc : numW c with
                | none => rw [hc] at cc; exact run_exn (ex_next (sx_no t0) (ex_next (sx_no t2) (ex_next (sx_no t3) (ex_exn (sx_yes t4 (ex_exn (sx_retX (sv_tupX (st_exn2 rfl rfl (st_exn2 ca rfl (st_exn2 cb rfl (st_exn1 cc))))))))))))
                | some j => rw [hc] at cc; exact run_ret (ex_step (sx_no t0) (ex_step (sx_no t2) (ex_step (sx_no t3) (ex_ret1 (sx_yes t4 (sx_cret (sv_tup (st_cons rfl rfl (st_cons ca rfl (st_cons cb rfl (st_cons cc rfl rfl)))) rfl) rfl))))))
          · rw [if_neg h2]
            exact no (by rw [beq_eq_false_iff_ne.mpr h1]; rfl) (by rw [len3 l2, Bool.and_false]) (by rw [beq_eq_false_iff_ne.mpr h2]; rfl)
      · have : offIn w r = none := by
          unfold offIn
          match r, l2, l3 with
          | [], _, _ => rfl
          | [_], _, _ => rfl
          | _ :: _ :: _ :: _ :: _, _, _ => rfl
        rw [this]
        exact no (by rw [len4 l3, Bool.and_false]) (by rw [len3 l2, Bool.and_false]) (by rw [len4 l3, Bool.and_false])
end Mine.PL
namespace Mine.PL
open Mine
variable {fns : List Fn}
theorem wantL_len : ∀ {ps : List PW2} {ws : List Kind}, wantL ps = some ws → ws.length = ps.length
  | [], ws, h => by cases h; rfl
  | q :: r, ws, h => by
    unfold wantL at h
    cases h1 : nameW q.1 with
    | false => rw [h1] at h; cases h
    | true =>
      rw [h1] at h
      cases h2 : numW q.2 with
      | none => rw [h2] at h; cases h
      | some i =>
        rw [h2] at h
        cases h3 : wantL r with
        | none => rw [h3] at h; cases h
        | some x => rw [h3] at h; cases h; rw [List.length_cons, List.length_cons, wantL_len h3]
theorem pairs_kD (ws : List Kind) : pairsD (.tup (ws.map kD)) = true := List.all_eq_true.mpr fun d hd => by obtain ⟨k, _, rfl⟩ := List.mem_map.1 hd; rfl
structure OffDue (w : List Nat) (r : List (List Nat)) (d : Dat) : Prop where
  self : Self 10 d
  snd : ∃ q, SoundIs d q ∧ dueW (w :: r) = if q then some d else none
theorem count_eq {w : List Nat} {i : Int} (h : numW w = some i) (lo hi : Int) : countW w lo hi = rangeD (.int i) lo hi := by unfold countW; rw [h]; rfl
theorem count_no {w : List Nat} (h : numW w = none) (lo hi : Int) : countW w lo hi = false := by unfold countW; rw [h]
theorem off_due (w : List Nat) (r : List (List Nat)) : match (if w = sSet then setIn r else offIn w r) with | none => dueW (w :: r) = none | some d => OffDue w r d := by
  by_cases h0 : w = sSet
  · subst h0
    rw [if_pos rfl]
    have hd : dueW (sSet :: r) = dueSet r := by unfold dueW; exact if_pos rfl
    unfold setIn
    cases hq : pairsW r with
    | none => show dueW _ = none; rw [hd]; unfold dueSet; rw [hq]
    | some q =>
      obtain ⟨ps, p⟩ := q
      have hd : dueW (sSet :: r) = if (decide (1 ≤ ps.length) && decide (ps.length ≤ 5) && countW p 0 100000) = true then (lawL [] ps).map fun ws => .tup [.str sSet, .tup (ws.map kD), .int (valOf p : Nat)] else none := by rw [hd]; unfold dueSet; rw [hq]
      show match (if ps.length = 0 then none else _) with | none => dueW _ = none | some d => OffDue _ _ d
      by_cases hl : ps.length = 0
      · rw [if_pos hl]
        show dueW _ = none
        rw [hd, hl]; rfl
      · rw [if_neg hl]
        have hlaw := lawL_eq ps []
        cases hw : wantL ps with
        | none =>
          show dueW _ = none
          rw [hw] at hlaw
          rw [hd, show lawL [] ps = none from hlaw]
          split <;> rfl
        | some ws =>
          rw [hw] at hlaw
          cases hp : numW p with
          | none =>
            show dueW _ = none
            rw [hd, count_no hp, Bool.and_false]; rfl
          | some i =>
            refine ⟨Self.tup (mem_c (Self.str _) (mem_c (Self.tup fun d hd => ?_) (mem_c (Self.int _) mem_n))), _, .set _ _, ?_⟩
            · obtain ⟨k, _, rfl⟩ := List.mem_map.1 hd; exact Self.kD k
            · have hn := numW_val hp
              have hlen := wantL_len hw
              rw [hd, count_eq hp, ← hn, show lawL [] ps = if setL [] (ws.map kD) then some ws else none from hlaw]
              unfold setD
              rw [pairs_kD]
              show _ = if (true && ((decide ((1 : Int) ≤ (ws.map kD).length) && decide (((ws.map kD).length : Int) ≤ 5)) && (rangeD (.int i) 0 100000 && setL [] (ws.map kD)))) = true then _ else _
              rw [List.length_map, hlen, show decide ((1 : Int) ≤ ps.length) = decide (1 ≤ ps.length) from decide_eq_decide.mpr (by lia), show decide ((ps.length : Int) ≤ 5) = decide (ps.length ≤ 5) from decide_eq_decide.mpr (by lia), Bool.true_and]
              cases decide (1 ≤ ps.length) <;> cases decide (ps.length ≤ 5) <;> cases rangeD (.int i) 0 100000 <;> cases setL [] (ws.map kD) <;> rfl
  · rw [if_neg h0]
    have hd : dueW (w :: r) = dueN w r := if_neg h0
    unfold offIn
    match r, hd with
    | [], hd => exact hd
    | [_], hd => exact hd
    | [a, b], hd =>
      have hd : dueW [w, a, b] = due3 w a b := hd
      show match (if w = sShare then offShare a b else none) with | none => dueW _ = none | some d => OffDue _ _ d
      by_cases h1 : w = sShare
      · rw [if_pos h1]
        have hd : dueW [w, a, b] = dueShare a b := hd.trans (if_pos h1)
        unfold offShare
        unfold dueShare at hd
        cases hn : nameW a with
        | false => rw [hn] at hd; exact hd
        | true =>
          cases hb : numW b with
          | none => rw [count_no hb, Bool.and_false] at hd; exact hd
          | some i =>
            refine ⟨Self.tup (mem_c (Self.str _) (mem_c (Self.str _) (mem_c (Self.int _) mem_n))), _, .share _ _, ?_⟩
            rw [hn, count_eq hb, ← numW_val hb, Bool.true_and] at hd
            exact hd
      · rw [if_neg h1]
        exact hd.trans (if_neg h1)
    | [a, b, c], hd =>
      have hd : dueW [w, a, b, c] = due4 w a b c := hd
      show match (if w = sMore then offMore a b c else if w = sSlip then offSlip a b c else none) with | none => dueW _ = none | some d => OffDue _ _ d
      by_cases h1 : w = sMore
      · rw [if_pos h1]
        have hd : dueW [w, a, b, c] = dueMore a b c := hd.trans (if_pos h1)
        unfold offMore
        unfold dueMore at hd
        cases hn : nameW a with
        | false => rw [hn] at hd; exact hd
        | true =>
          cases hb : numW b with
          | none => rw [count_no hb, Bool.and_false] at hd; exact hd
          | some i =>
            cases hc : numW c with
            | none => rw [count_no hc, Bool.and_false] at hd; exact hd
            | some j =>
              refine ⟨Self.tup (mem_c (Self.str _) (mem_c (Self.str _) (mem_c (Self.int _) (mem_c (Self.int _) mem_n)))), _, .more _ _ _, ?_⟩
              rw [hn, count_eq hb, count_eq hc, ← numW_val hb, ← numW_val hc, Bool.true_and] at hd
              exact hd
      · rw [if_neg h1]
        have hd : dueW [w, a, b, c] = if w = sSlip then dueSlip a b c else none := hd.trans (if_neg h1)
        by_cases h2 : w = sSlip
        · rw [if_pos h2]
          have hd : dueW [w, a, b, c] = dueSlip a b c := hd.trans (if_pos h2)
          unfold offSlip
          unfold dueSlip at hd
          cases hn : nameW a with
          | false => rw [hn] at hd; exact hd
          | true =>
            cases hb : nameW b with
            | false => rw [hn, hb] at hd; exact hd
            | true =>
              cases hc : numW c with
              | none => rw [count_no hc, Bool.and_false] at hd; exact hd
              | some j =>
                refine ⟨Self.tup (mem_c (Self.str _) (mem_c (Self.str _) (mem_c (Self.str _) (mem_c (Self.int _) mem_n)))), _, .slip _ _ _, ?_⟩
                rw [hn, hb, count_eq hc, ← numW_val hc, Bool.true_and, Bool.true_and] at hd
                rw [deq_str]
                exact hd
        · rw [if_neg h2]
          exact hd.trans (if_neg h2)
    | _ :: _ :: _ :: _ :: _, hd => exact hd
theorem split_cons : ∀ t : List Nat, ∃ w r, splitOn 32 t = w :: r ∧ r.length ≤ t.length
  | [] => ⟨[], [], rfl, Nat.le_refl _⟩
  | c :: t => by
    obtain ⟨w, r, e, h⟩ := split_cons t
    by_cases hc : c = 32
    · exact ⟨[], w :: r, (if_pos hc).trans (by rw [e]), by rw [List.length_cons, List.length_cons]; lia⟩
    · refine ⟨c :: w, r, (if_neg hc).trans (by rw [e]), by rw [List.length_cons]; lia⟩
theorem split_ok {Φ : Nat → List Val → Out Val} {ρ : List Val} {i : Nat} {t : List Nat} (hv : ρ.getD i .un = .sh (.str t)) (h : t.length ≤ 10000) : ev Φ (.meth .split (.v i) (.cons (.cS [32]) .nil)) ρ = .ok (.own (sDs (splitOn 32 t))) :=
  sv_meth (ev_at hv) rfl rfl rfl rfl (if_pos ⟨rfl, by lia⟩)
theorem sp_read (H : Has11 fns) (n : Nat) {t : List Nat} (ht : t.length ≤ 10000) : callF fns (n + 5) 81 [.sh (.str t)] = toldR (dueW (splitOn 32 t)) := by
  obtain ⟨w, r, e, hr⟩ := split_cons t
  have hs := split_ok (Φ := callF fns (n + 4)) (ρ := [.sh (.str t), .un]) (i := 0) rfl ht
  have ho := sp_offer_in H n w r (by lia)
  have hf := fun {d : Dat} {q : Bool} S f => sp_fitsD H.h1 H.h2 (n + 1) (o := d) (q := q) S f
  have key := off_due w r
  rw [callF_succ H.b81, runFn_plain rfl rfl]
  rw [e] at hs ⊢
  cases h : (if w = sSet then setIn r else offIn w r) with
  | none =>
    rw [h] at ho key
    rw [show dueW (w :: r) = none from key]
    exact run_exn (ex_next (sx_no rfl) (ex_exn (sx_asgX (sv_callX (f := 80) (st_cons hs rfl rfl) ho))))
  | some d =>
    rw [h] at ho key
    obtain ⟨⟨f, _⟩, q, S, ed⟩ : OffDue w r d := key
    have f20 : Dat.fine 20 d = true := fine_up (fine_up (fine_up (fine_up (fine_up (fine_up (fine_up (fine_up (fine_up (fine_up f)))))))))
    have e1 := sv_call (f := 80) (st_cons (b := .nil) hs rfl rfl) ho
    rw [ed]
    have e2 := sv_not (Φ := callF fns (n + 4)) (ρ := [.sh (.str t), .sh d]) (a := .call 11 (.cons (.v 1) .nil)) (sv_call rfl (hf S f20))
    cases q with
    | true => exact run_ret (ex_step (sx_no rfl) (ex_step (sx_asg e1 rfl) (ex_step (sx_no e2) (ex_ret1 (sx_ret rfl rfl)))))
    | false => exact run_exn (ex_next (sx_no rfl) (ex_next (sx_asg e1 rfl) (ex_exn (sx_yes e2 (ex_exn rfl)))))
theorem due_self {ws : List (List Nat)} {d : Dat} (h : dueW ws = some d) : Self 10 d := by
  cases ws with
  | nil => cases h
  | cons w r =>
    have key := off_due w r
    cases ho : (if w = sSet then setIn r else offIn w r) with
    | none => rw [ho] at key; rw [show dueW (w :: r) = none from key] at h; cases h
    | some d' =>
      rw [ho] at key
      obtain ⟨f, q, S, ed⟩ : OffDue w r d' := key
      rw [ed] at h
      cases q with
      | true => cases h; exact f
      | false => cases h
end Mine.PL
namespace Mine.PL
open Mine
variable {fns : List Fn}
theorem num_figs {w : List Nat} {i : Int} (h : numW w = some i) : biD .int [.str w] = .ok (.int (valOf w : Nat)) := by
  unfold numW at h
  split at h
  · rename_i hh
    obtain ⟨ha, hb⟩ := Bool.and_eq_true_iff.mp hh
    exact int_w (figs_of (Bool.and_eq_true_iff.mp ha).1 hb)
  · cases h
theorem count_figs {w : List Nat} {lo hi : Int} (h : countW w lo hi = true) : biD .int [.str w] = .ok (.int (valOf w : Nat)) := by
  cases hn : numW w with
  | some i => exact num_figs hn
  | none => rw [count_no hn] at h; cases h
theorem fst_map (ks : List Kind) : (ks.map kD).map fstD = nD ks := by
  unfold nD
  rw [List.map_map]; rfl
theorem isin_n {s : List Nat} (ks : List Kind) : cmpD .isin (.str s) (.lst (nD ks)) = .ok ((nD ks).any fun y => Dat.eq y (.str s)) := by
  show (if Dat.fine 20 (.str s) && (nD ks).all (Dat.fine 20) then Out.ok _ else .bad) = _
  rw [fine_names]; rfl
theorem l_set_loop (H : Has11 fns) (n : Nat) (tail : List Dat) : ∀ (ps : List PW2) (pre : List Dat) (ks : List Kind) (y : Val), ks.length + ps.length ≤ 100000 →
    ∃ z ρ, forL (stepF (callF fns (n + 1)) [2] b_l_set_1) (rangeL (pre.length : Int) 2 ps.length) [.sh (.lst (pre ++ flatD ps ++ tail)), .own (ks.map kD), y, .un] =
      (match lawL (nD ks) ps with | some ws => .ok (.next, [.sh (.lst (pre ++ flatD ps ++ tail)), .own ((ks ++ ws).map kD), z, .un]) | none => .ok (.ret (.sh .none), ρ))
  | [], pre, ks, y, _ => ⟨y, [], by show Out.ok _ = Out.ok _; rw [List.append_nil]⟩
  | q :: ps, pre, ks, y, hl => by
    rw [List.length_cons] at hl
    rw [List.length_cons, rangeL2]
    have es : pre ++ flatD (q :: ps) ++ tail = pre ++ .str q.1 :: .str q.2 :: (flatD ps ++ tail) := by
      rw [List.append_assoc]; rfl
    have i1 : ev (callF fns (n + 1)) (.idx (.v 0) (.v 2)) [.sh (.lst (pre ++ flatD (q :: ps) ++ tail)), .own (ks.map kD), .sh (.int pre.length), .un] = .ok (.sh (.str q.1)) := sv_idxL rfl rfl (by rw [es]; exact idx_mid)
    have i2 : ev (callF fns (n + 1)) (.idx (.v 0) (.bin .add (.v 2) (.cI 1))) [.sh (.lst (pre ++ flatD (q :: ps) ++ tail)), .own (ks.map kD), .sh (.int pre.length), .un] = .ok (.sh (.str q.2)) := sv_idxL rfl (sb rfl rfl add_i) (by rw [es]; exact idx_mid1)
    have c1 := sp_l_name H n q.1
    have c2 := sp_l_count H n q.2 1 9
    have t1 : ev (callF fns (n + 1)) (.or (.not (.call 83 (.cons (.idx (.v 0) (.v 2)) .nil))) (.not (.call 84 (.cons (.idx (.v 0) (.bin .add (.v 2) (.cI 1))) (.cons (.cI 1) (.cons (.cI 9) .nil)))))) [.sh (.lst (pre ++ flatD (q :: ps) ++ tail)), .own (ks.map kD), .sh (.int pre.length), .un] = .ok (.sh (.bool (!nameW q.1 || !countW q.2 1 9))) :=
      sv_orB (sv_not (sv_call (st_cons i1 rfl rfl) c1)) fun _ => sv_not (sv_call (st_cons i2 rfl rfl) c2)
    have hc := comp_fst (Φ := callF fns (n + 1)) (ρ := [.sh (.lst (pre ++ flatD (q :: ps) ++ tail)), .own (ks.map kD), .sh (.int pre.length), .un]) (i := 3) (fun _ => rfl) (l := ks.map kD) (fun d hd => by obtain ⟨k, _, rfl⟩ := List.mem_map.1 hd; rfl)
    rw [fst_map] at hc
    have t2 : ev (callF fns (n + 1)) (.cmp .isin (.idx (.v 0) (.v 2)) (.comp (.idx (.v 3) (.cI 0)) [3] (.v 1) .nil)) [.sh (.lst (pre ++ flatD (q :: ps) ++ tail)), .own (ks.map kD), .sh (.int pre.length), .un] = .ok (.sh (.bool ((nD ks).any fun y => Dat.eq y (.str q.1)))) := sv_cmp i1 (sv_comp rfl hc) rfl rfl (isin_n ks)
    have hlaw : lawL (nD ks) (q :: ps) = if (nameW q.1 && countW q.2 1 9 && !((nD ks).any fun y => Dat.eq y (.str q.1))) = true then (lawL (nD ks ++ [.str q.1]) ps).map ((q.1, (valOf q.2 : Int)) :: ·) else none := rfl
    rw [hlaw]
    cases h1 : (nameW q.1 && countW q.2 1 9) with
    | false =>
      rw [show (!nameW q.1 || !countW q.2 1 9) = true by rw [← Bool.not_and, h1]; rfl] at t1
      exact ⟨y, _, forL_ret (show ex (callF fns (n + 1)) b_l_set_1 [.sh (.lst (pre ++ flatD (q :: ps) ++ tail)), .own (ks.map kD), .sh (.int pre.length), .un] = _ from sx_stop (sx_yes t1 (sx_cret rfl rfl)))⟩
    | true =>
      rw [show (!nameW q.1 || !countW q.2 1 9) = false by rw [← Bool.not_and, h1]; rfl] at t1
      cases h2 : (nD ks).any fun y => Dat.eq y (.str q.1) with
      | true =>
        rw [h2] at t2
        exact ⟨y, _, forL_ret (show ex (callF fns (n + 1)) b_l_set_1 [.sh (.lst (pre ++ flatD (q :: ps) ++ tail)), .own (ks.map kD), .sh (.int pre.length), .un] = _ from ex_next (sx_no t1) (sx_stop (sx_yes t2 (sx_cret rfl rfl))))⟩
      | false =>
        rw [h2] at t2
        have hfig := count_figs (Bool.and_eq_true_iff.mp h1).2
        have ei := sv_bi (Φ := callF fns (n + 1)) (o := .int) (st_cons (b := .nil) i2 rfl rfl) rfl hfig
        obtain ⟨z, ρ, ih⟩ := l_set_loop H n tail ps (pre ++ [.str q.1, .str q.2]) (ks ++ [(q.1, (valOf q.2 : Int))]) (.sh (.int pre.length)) (by rw [List.length_append]; show ks.length + 1 + _ ≤ _; lia)
        rw [← flat_shift, List.length_append, show (([Dat.str q.1, .str q.2].length : Nat)) = 2 from rfl, Int.natCast_add, List.map_append, show nD (ks ++ [(q.1, (valOf q.2 : Int))]) = nD ks ++ [.str q.1] from List.map_append] at ih
        refine ⟨z, ρ, (forL_next (show ex (callF fns (n + 1)) b_l_set_1 [.sh (.lst (pre ++ flatD (q :: ps) ++ tail)), .own (ks.map kD), .sh (.int pre.length), .un] = _ from ex_next (sx_no t1) (ex_next (sx_no t2) (ex_next (sx_app rfl (sv_tup (st_cons i1 rfl (st_cons ei rfl rfl)) rfl) rfl (Nat.lt_of_le_of_lt (show (ks.map kD).length ≤ 100000 by rw [List.length_map]; lia) (by decide))) rfl)))).trans (ih.trans ?_)⟩
        cases lawL (nD ks ++ [.str q.1]) ps with
        | none => rfl
        | some ws =>
          show Out.ok (Fl.next, [_, Val.own ((ks ++ [(q.1, (valOf q.2 : Int))] ++ ws).map kD), z, Val.un]) = Out.ok (Fl.next, [_, Val.own ((ks ++ (q.1, (valOf q.2 : Int)) :: ws).map kD), z, Val.un])
          rw [List.append_assoc ks]; rfl
theorem sp_l_set (H : Has11 fns) (n : Nat) (r : List (List Nat)) (hr : r.length ≤ 100000) : callF fns (n + 2) 85 [.sh (.lst (sDs (sSet :: r)))] = .ok (.sh ((dueSet r).getD .none)) := by
  rw [callF_succ H.b85, runFn_plain rfl rfl]
  have hlen : (sDs (sSet :: r)).length = r.length + 1 := by rw [sDs_len]; rfl
  have el : ∀ x y z, ev (callF fns (n + 1)) (.bi .len (.cons (.v 0) .nil)) [.sh (.lst (sDs (sSet :: r))), x, y, z] = .ok (.sh (.int ((r.length : Int) + 1))) := fun _ _ _ => sv_bi rfl rfl (by rw [len_l, hlen]; rfl)
  have t1 : ev (callF fns (n + 1)) (.or (.cmp .lt (.bi .len (.cons (.v 0) .nil)) (.cI 5)) (.or (.cmp .gt (.bi .len (.cons (.v 0) .nil)) (.cI 13)) (.cmp .eq (.bin .mul (.bin .fdiv (.bi .len (.cons (.v 0) .nil)) (.cI 2)) (.cI 2)) (.bi .len (.cons (.v 0) .nil))))) [.sh (.lst (sDs (sSet :: r))), .un, .un, .un] = .ok (.sh (.bool (decide ((r.length : Int) + 1 < 5) || (decide ((13 : Int) < (r.length : Int) + 1) || (((r.length : Int) + 1) / 2 * 2 == (r.length : Int) + 1))))) :=
    sv_orB (sv_cmp (el _ _ _) rfl rfl rfl lt_i) fun _ => sv_orB (sv_cmp (el _ _ _) rfl rfl rfl gt_i) fun _ => sv_cmp (sb (sb (el _ _ _) rfl (fdiv_i (by decide) (by decide))) rfl (mul_i (by right; decide))) (el _ _ _) rfl rfl eq_i
  refine run_ret ?_
  have out : (decide ((r.length : Int) + 1 < 5) || (decide ((13 : Int) < (r.length : Int) + 1) || (((r.length : Int) + 1) / 2 * 2 == (r.length : Int) + 1))) = true → dueSet r = none → ∃ ρ2, ex (callF fns (n + 1)) t_l_set [.sh (.lst (sDs (sSet :: r))), .un, .un, .un] = .ok (.ret (.sh ((dueSet r).getD .none)), ρ2) := fun h h0 => by
    rw [h] at t1; rw [h0]
    exact ex_ret1 (sx_yes t1 (sx_cret rfl rfl))
  cases hq : pairsW r with
  | none =>
    have hd : dueSet r = none := by unfold dueSet; rw [hq]
    cases h1 : (decide ((r.length : Int) + 1 < 5) || (decide ((13 : Int) < (r.length : Int) + 1) || (((r.length : Int) + 1) / 2 * 2 == (r.length : Int) + 1))) with
    | true => exact out h1 hd
    | false =>
      rw [h1] at t1
      simp only [Bool.or_eq_false_iff, decide_eq_false_iff_not, beq_eq_false_iff_ne] at h1
      rcases pairsW_none hq with q | q | ⟨x, hx, hn⟩
      · lia
      · lia
      · have hi : idxL (sDs (sSet :: r)) ((r.length : Int) + 1 - 2) = .ok (.sh (.str x)) := by
          refine idxL_at (by lia) ?_
          rw [show ((r.length : Int) + 1 - 2).toNat = r.length - 2 + 1 by lia]
          show (Dat.str sSet :: sDs r)[r.length - 2 + 1]? = _
          rw [List.getElem?_cons_succ]
          unfold sDs
          rw [List.getElem?_map, hx]; rfl
        have t3 : ev (callF fns (n + 1)) (.cmp .ne (.idx (.v 0) (.bin .sub (.bi .len (.cons (.v 0) .nil)) (.cI 2))) (.cS [97, 116])) [.sh (.lst (sDs (sSet :: r))), .un, .un, .un] = .ok (.sh (.bool (!(x == sAt)))) := sv_cmp (sv_idxL rfl (sb (el _ _ _) rfl sub_i) hi) rfl rfl rfl ne_s
        rw [show (x == sAt) = false from beq_eq_false_iff_ne.mpr hn] at t3
        rw [hd]
        exact ex_step (sx_no t1) (ex_ret1 (sx_yes t3 (sx_cret rfl rfl)))
  | some q =>
    obtain ⟨ps, p⟩ := q
    have er := pairsW_some hq
    have hl := congrArg List.length er
    rw [List.length_append, flatP_len] at hl
    have h2 : ([sAt, p] : List (List Nat)).length = 2 := rfl
    have es : sDs (sSet :: r) = [.str sSet] ++ flatD ps ++ [.str sAt, .str p] := by
      rw [er, ← sDs_flat]
      show Dat.str sSet :: sDs (flatP ps ++ [sAt, p]) = _
      unfold sDs
      rw [List.map_append]; rfl
    have hd : dueSet r = if (decide (1 ≤ ps.length) && decide (ps.length ≤ 5) && countW p 0 100000) = true then (lawL [] ps).map fun ws => .tup [.str sSet, .tup (ws.map kD), .int (valOf p : Nat)] else none := by unfold dueSet; rw [hq]
    have elen : (([Dat.str sSet] ++ flatD ps).length : Int) = (r.length : Int) + 1 - 2 := by rw [List.length_append, flatD_len]; show ((1 + 2 * ps.length : Nat) : Int) = _; lia
    cases h1 : (decide ((r.length : Int) + 1 < 5) || (decide ((13 : Int) < (r.length : Int) + 1) || (((r.length : Int) + 1) / 2 * 2 == (r.length : Int) + 1))) with
    | true =>
      refine out h1 ?_
      rw [hd]
      simp only [Bool.or_eq_true, decide_eq_true_eq, beq_iff_eq] at h1
      have : (decide (1 ≤ ps.length) && decide (ps.length ≤ 5)) = false := by
        rw [Bool.and_eq_false_iff, decide_eq_false_iff_not, decide_eq_false_iff_not]; lia
      rw [this]; rfl
    | false =>
      rw [h1] at t1
      simp only [Bool.or_eq_false_iff, decide_eq_false_iff_not, beq_eq_false_iff_ne] at h1
      have hk : (decide (1 ≤ ps.length) && decide (ps.length ≤ 5)) = true := by
        rw [Bool.and_eq_true, decide_eq_true_eq, decide_eq_true_eq]; lia
      rw [hk, Bool.true_and] at hd
      have hi : idxL (sDs (sSet :: r)) ((r.length : Int) + 1 - 2) = .ok (.sh (.str sAt)) := by rw [es, ← elen]; exact idx_mid
      have t3 : ev (callF fns (n + 1)) (.cmp .ne (.idx (.v 0) (.bin .sub (.bi .len (.cons (.v 0) .nil)) (.cI 2))) (.cS [97, 116])) [.sh (.lst (sDs (sSet :: r))), .un, .un, .un] = .ok (.sh (.bool false)) := sv_cmp (sv_idxL rfl (sb (el _ _ _) rfl sub_i) hi) rfl rfl rfl rfl
      have hr3 : itsF (callF fns (n + 1)) (.rng (.cI 1) (.bin .sub (.bi .len (.cons (.v 0) .nil)) (.cI 2)) (.cI 2)) [.sh (.lst (sDs (sSet :: r))), .own [], .un, .un] = .ok (rangeL 1 2 ps.length) := by
        have e1 : ev (callF fns (n + 1)) (.bin .sub (.bi .len (.cons (.v 0) .nil)) (.cI 2)) [.sh (.lst (sDs (sSet :: r))), .own [], .un, .un] = .ok (.sh (.int ((r.length : Int) + 1 - 2))) := sb (el _ _ _) rfl sub_i
        show (ev (callF fns (n + 1)) (.bin .sub (.bi .len (.cons (.v 0) .nil)) (.cI 2)) [.sh (.lst (sDs (sSet :: r))), .own [], .un, .un] >>= intD >>= fun y => rngD3 1 y 2) = _
        rw [e1]
        show rngD3 1 ((r.length : Int) + 1 - 2) 2 = _
        rw [rngD3_eq, if_pos (by lia), show (((r.length : Int) + 1 - 2 - 1 + 1) / 2).toNat = ps.length by lia]
      obtain ⟨z, ρ, lp⟩ := l_set_loop H n [.str sAt, .str p] ps [.str sSet] [] .un (show 0 + ps.length ≤ 100000 by lia)
      rw [← es] at lp
      have lp : forL (stepF (callF fns (n + 1)) [2] b_l_set_1) (rangeL 1 2 ps.length) [.sh (.lst (sDs (sSet :: r))), .own [], .un, .un] = (match lawL [] ps with | some ws => .ok (.next, [.sh (.lst (sDs (sSet :: r))), .own (ws.map kD), z, .un]) | none => .ok (.ret (.sh .none), ρ)) := lp
      have hip : idxL (sDs (sSet :: r)) ((r.length : Int) + 1 - 1) = .ok (.sh (.str p)) := by
        rw [es, show (r.length : Int) + 1 - 1 = (([Dat.str sSet] ++ flatD ps).length : Int) + 1 by rw [elen]; lia]; exact idx_mid1
      cases hw : lawL [] ps with
      | none =>
        rw [hw] at lp
        have : dueSet r = none := by rw [hd, hw]; split <;> rfl
        rw [this]
        exact ex_step (sx_no t1) (ex_step (sx_no t3) (ex_step (sx_asgO rfl) (ex_ret1 (sx_for hr3 lp))))
      | some ws =>
        rw [hw] at lp
        have ip : ev (callF fns (n + 1)) (.idx (.v 0) (.bin .sub (.bi .len (.cons (.v 0) .nil)) (.cI 1))) [.sh (.lst (sDs (sSet :: r))), .own (ws.map kD), z, .un] = .ok (.sh (.str p)) := sv_idxL rfl (sb (el _ _ _) rfl sub_i) hip
        have c2 := sp_l_count H n p 0 100000
        have t4 := sv_not (sv_call (f := 84) (st_cons ip rfl (st_cons (a := .cI 0) (b := .cons (.cI 100000) .nil) rfl rfl rfl)) c2)
        cases hp : countW p 0 100000 with
        | false =>
          rw [hp] at t4
          have : dueSet r = none := by rw [hd, hp]; rfl
          rw [this]
          exact ex_step (sx_no t1) (ex_step (sx_no t3) (ex_step (sx_asgO rfl) (ex_step (sx_for hr3 lp) (ex_ret1 (sx_yes t4 (sx_cret rfl rfl))))))
        | true =>
          rw [hp] at t4
          have : dueSet r = some (.tup [.str sSet, .tup (ws.map kD), .int (valOf p : Nat)]) := by rw [hd, hp, hw]; rfl
          rw [this]
          have hfig := count_figs hp
          exact ex_step (sx_no t1) (ex_step (sx_no t3) (ex_step (sx_asgO rfl) (ex_step (sx_for hr3 lp) (ex_step (sx_no t4) (ex_ret1 (sx_ret (sv_tup (st_cons rfl rfl (st_cons (sv_mkT rfl rfl) rfl (st_cons (sv_bi (st_cons ip rfl rfl) rfl hfig) rfl rfl))) rfl) rfl))))))
end Mine.PL
namespace Mine.PL
open Mine
variable {fns : List Fn}
theorem sp_due11 (H : Has11 fns) (n : Nat) {t : List Nat} (ht : t.length ≤ 10000) : callF fns (n + 3) 86 [.sh (.str t)] = .ok (.sh ((dueW (splitOn 32 t)).getD .none)) := by
  obtain ⟨w, r, e, hr⟩ := split_cons t
  have hs := split_ok (Φ := callF fns (n + 2)) (ρ := [.sh (.str t), .un]) (i := 0) rfl ht
  have cs := sp_l_set H n r (by lia)
  have cn := fun w => sp_l_name H (n + 1) w
  have cc := fun w lo hi => sp_l_count H (n + 1) w lo hi
  rw [callF_succ H.b86, runFn_plain rfl rfl]
  rw [e] at hs ⊢
  generalize callF fns (n + 2) = Φ at hs cs cn cc
  refine run_ret (ex_step (sx_asg hs rfl) ?_)
  show ∃ ρ2, ex Φ _ [.sh (.str t), .sh (.lst (sDs (w :: r)))] = _
  have i0 : ev Φ (.idx (.v 1) (.cI 0)) [.sh (.str t), .sh (.lst (sDs (w :: r)))] = .ok (.sh (.str w)) := sv_idxL rfl rfl idxL_0
  have tw : ∀ s, ev Φ (.cmp .eq (.idx (.v 1) (.cI 0)) (.cS s)) [.sh (.str t), .sh (.lst (sDs (w :: r)))] = .ok (.sh (.bool (w == s))) := fun s => sv_cmp i0 rfl rfl rfl eq_s
  have tl : ∀ k : Int, ev Φ (.cmp .eq (.bi .len (.cons (.v 1) .nil)) (.cI k)) [.sh (.str t), .sh (.lst (sDs (w :: r)))] = .ok (.sh (.bool ((((w :: r).length : Nat) : Int) == k))) := fun k => sv_cmp (sv_bi rfl rfl (by rw [len_l, sDs_len])) rfl rfl rfl eq_i
  have t3 : ev Φ (.cmp .lt (.bi .len (.cons (.v 1) .nil)) (.cI 3)) [.sh (.str t), .sh (.lst (sDs (w :: r)))] = .ok (.sh (.bool (decide ((((w :: r).length : Nat) : Int) < 3)))) := sv_cmp (sv_bi rfl rfl (by rw [len_l, sDs_len])) rfl rfl rfl lt_i
  by_cases h0 : w = sSet
  · subst h0
    rw [show dueW (sSet :: r) = dueSet r by unfold dueW; exact if_pos rfl]
    exact ex_ret1 (sx_yes (tw sSet) (sx_cret (sv_call (f := 85) rfl cs) rfl))
  · have t0 : ev Φ (.cmp .eq (.idx (.v 1) (.cI 0)) (.cS [115, 101, 116])) [.sh (.str t), .sh (.lst (sDs (w :: r)))] = .ok (.sh (.bool false)) := (tw sSet).trans (by rw [beq_eq_false_iff_ne.mpr h0])
    refine ex_step (sx_no t0) ?_
    have hd : dueW (w :: r) = dueN w r := if_neg h0
    clear e hr hs cs t0
    match r, hd, tw, tl, t3, i0 with
    | [], hd, tw, tl, t3, i0 => rw [show dueW [w] = none from hd]; exact ex_ret1 (sx_yes (sv_or_t t3) (sx_cret rfl rfl))
    | [_], hd, tw, tl, t3, i0 => rw [show dueW [w, _] = none from hd]; exact ex_ret1 (sx_yes (sv_or_t t3) (sx_cret rfl rfl))
    | a :: b :: r, hd, tw, tl, t3, i0 =>
      have i1 : ev Φ (.idx (.v 1) (.cI 1)) [.sh (.str t), .sh (.lst (sDs (w :: a :: b :: r)))] = .ok (.sh (.str a)) := sv_idxL rfl rfl idxL_1
      have i2 : ev Φ (.idx (.v 1) (.cI 2)) [.sh (.str t), .sh (.lst (sDs (w :: a :: b :: r)))] = .ok (.sh (.str b)) := sv_idxL rfl rfl idxL_2
      have t3 : ev Φ (.cmp .lt (.bi .len (.cons (.v 1) .nil)) (.cI 3)) [.sh (.str t), .sh (.lst (sDs (w :: a :: b :: r)))] = .ok (.sh (.bool false)) := t3.trans (by rw [decide_eq_false (by simp only [List.length_cons]; lia)])
      have tn := sv_or t3 (sv_not (sv_call (f := 83) (st_cons (b := .nil) i1 rfl rfl) (cn a)))
      have c2 := fun lo hi => sv_call (f := 84) (st_cons i2 rfl (st_cons (a := .cI lo) (b := .cons (.cI hi) .nil) rfl rfl rfl)) (cc b lo hi)
      cases hn : nameW a with
      | false =>
        rw [hn] at tn
        have : dueW (w :: a :: b :: r) = none := by
          rw [hd]
          match r with
          | [] => show due3 w a b = none; unfold due3 dueShare; rw [hn]; split <;> rfl
          | [c] => show due4 w a b c = none; unfold due4 dueMore dueSlip; rw [hn]; split <;> first | rfl | (split <;> rfl)
          | _ :: _ :: _ => rfl
        rw [this]
        exact ex_ret1 (sx_yes tn (sx_cret rfl rfl))
      | true =>
        rw [hn] at tn
        refine ex_step (sx_no tn) ?_
        match r, hd, tw, tl, i0, i1, i2, c2 with
        | [], hd, tw, tl, i0, i1, i2, c2 =>
          have hd : dueW [w, a, b] = due3 w a b := hd
          have no4 : ev Φ (.cmp .eq (.bi .len (.cons (.v 1) .nil)) (.cI 4)) [.sh (.str t), .sh (.lst (sDs [w, a, b]))] = .ok (.sh (.bool false)) := tl 4
          have s1 := sv_andB (tw sShare) fun _ => sv_andB (tl 3) fun _ => c2 1 100
          have s2 := sv_andB (b := .and (.cmp .eq (.bi .len (.cons (.v 1) .nil)) (.cI 4)) (.call 84 (.cons (.idx (.v 1) (.cI 2)) (.cons (.cI 2) (.cons (.cI 9) .nil))))) (tw sMore) fun _ => sv_and_f no4
          have s3 := sv_andB (b := .and (.cmp .eq (.bi .len (.cons (.v 1) .nil)) (.cI 4)) (.and (.call 83 (.cons (.idx (.v 1) (.cI 2)) .nil)) (.cmp .ne (.idx (.v 1) (.cI 1)) (.idx (.v 1) (.cI 2))))) (tw sSlip) fun _ => sv_and_f no4
          rw [Bool.and_false] at s2 s3
          unfold due3 dueShare at hd
          rw [hn] at hd
          cases hw : (w == sShare && ((((([w, a, b] : List (List Nat)).length : Nat) : Int) == 3) && countW b 1 100)) with
          | false =>
            rw [hw] at s1
            have : dueW [w, a, b] = none := by
              rw [hd]
              by_cases h1 : w = sShare
              · have hw : ((w == sShare) && (true && countW b 1 100)) = false := hw
                rw [h1, beq_self_eq_true, Bool.true_and, Bool.true_and] at hw
                rw [if_pos h1, hw]; rfl
              · exact if_neg h1
            rw [this]
            exact ex_step (sx_no s1) (ex_step (sx_no s2) (ex_step (sx_no s3) (ex_ret1 (sx_ret rfl rfl))))
          | true =>
            rw [hw] at s1
            have hw : ((w == sShare) && (true && countW b 1 100)) = true := hw
            obtain ⟨q1, q2⟩ := Bool.and_eq_true_iff.mp hw
            rw [Bool.true_and] at q2
            rw [if_pos (beq_iff_eq.mp q1), q2] at hd
            rw [hd]
            exact ex_ret1 (sx_yes s1 (sx_cret (sv_tup (st_cons rfl rfl (st_cons i1 rfl (st_cons (sv_bi (st_cons i2 rfl rfl) rfl (count_figs q2)) rfl rfl))) rfl) rfl))
        | [c], hd, tw, tl, i0, i1, i2, c2 =>
          have hd : dueW [w, a, b, c] = due4 w a b c := hd
          have i3 : ev Φ (.idx (.v 1) (.cI 3)) [.sh (.str t), .sh (.lst (sDs [w, a, b, c]))] = .ok (.sh (.str c)) := sv_idxL rfl rfl idxL_3
          have no3 : ev Φ (.cmp .eq (.bi .len (.cons (.v 1) .nil)) (.cI 3)) [.sh (.str t), .sh (.lst (sDs [w, a, b, c]))] = .ok (.sh (.bool false)) := tl 3
          have s1 := sv_andB (b := .and (.cmp .eq (.bi .len (.cons (.v 1) .nil)) (.cI 3)) (.call 84 (.cons (.idx (.v 1) (.cI 2)) (.cons (.cI 1) (.cons (.cI 100) .nil))))) (tw sShare) fun _ => sv_and_f no3
          rw [Bool.and_false] at s1
          have yes4 : ev Φ (.cmp .eq (.bi .len (.cons (.v 1) .nil)) (.cI 4)) [.sh (.str t), .sh (.lst (sDs [w, a, b, c]))] = .ok (.sh (.bool true)) := tl 4
          have s2 := sv_andB (tw sMore) fun _ => sv_and yes4 (c2 2 9)
          have cb := sv_call (f := 83) (st_cons (b := .nil) i2 rfl rfl) (cn b)
          have s3 := sv_andB (tw sSlip) fun _ => sv_and yes4 (sv_andB cb fun _ => sv_cmp i1 i2 rfl rfl ne_s)
          have c3 := sv_call (f := 84) (st_cons i3 rfl (st_cons (a := .cI 1) (b := .cons (.cI 100000) .nil) rfl rfl rfl)) (cc c 1 100000)
          refine ex_step (sx_no s1) ?_
          by_cases h1 : w = sMore
          · have hd : dueW [w, a, b, c] = dueMore a b c := hd.trans (if_pos h1)
            have n3 : (w == sSlip && (nameW b && !(a == b))) = false := by rw [h1]; rfl
            rw [n3] at s3
            rw [show (w == sMore) = true from beq_iff_eq.mpr h1, Bool.true_and] at s2
            unfold dueMore at hd
            rw [hn, Bool.true_and] at hd
            cases h2 : countW b 2 9 with
            | false =>
              rw [h2] at s2 hd
              rw [hd]
              exact ex_step (sx_no s2) (ex_step (sx_no s3) (ex_ret1 (sx_ret rfl rfl)))
            | true =>
              rw [h2, Bool.true_and] at hd
              rw [h2] at s2
              have ib := sv_bi (o := .int) (st_cons (b := .nil) i2 rfl rfl) rfl (count_figs h2)
              have c4 := sv_call (f := 84) (st_cons i3 rfl (st_cons (a := .cI 1) (b := .cons (.bin .sub (.bi .int (.cons (.idx (.v 1) (.cI 2)) .nil)) (.cI 1)) .nil) rfl rfl (st_cons (sb ib rfl sub_i) rfl rfl))) (cc c 1 ((valOf b : Int) - 1))
              cases h3 : countW c 1 ((valOf b : Int) - 1) with
              | false =>
                rw [h3] at c4 hd
                rw [hd]
                exact ex_step (sx_yes s2 (ex_next (sx_no c4) rfl)) (ex_step (sx_no s3) (ex_ret1 (sx_ret rfl rfl)))
              | true =>
                rw [h3] at c4 hd
                rw [hd]
                exact ex_ret1 (sx_yes s2 (sx_stop (sx_yes c4 (sx_cret (sv_tup (st_cons rfl rfl (st_cons i1 rfl (st_cons ib rfl (st_cons (sv_bi (st_cons i3 rfl rfl) rfl (count_figs h3)) rfl rfl)))) rfl) rfl))))
          · have hd : dueW [w, a, b, c] = if w = sSlip then dueSlip a b c else none := hd.trans (if_neg h1)
            rw [show (w == sMore) = false from beq_eq_false_iff_ne.mpr h1, Bool.false_and] at s2
            refine ex_step (sx_no s2) ?_
            by_cases h2 : w = sSlip
            · have hd : dueW [w, a, b, c] = dueSlip a b c := hd.trans (if_pos h2)
              rw [show (w == sSlip) = true from beq_iff_eq.mpr h2, Bool.true_and] at s3
              unfold dueSlip at hd
              rw [hn, Bool.true_and] at hd
              cases h3 : (nameW b && !(a == b)) with
              | false =>
                rw [h3] at s3 hd
                rw [hd]
                exact ex_step (sx_no s3) (ex_ret1 (sx_ret rfl rfl))
              | true =>
                rw [h3] at s3
                rw [h3, Bool.true_and] at hd
                cases h4 : countW c 1 100000 with
                | false =>
                  rw [h4] at c3 hd
                  rw [hd]
                  exact ex_step (sx_yes s3 (ex_next (sx_no c3) rfl)) (ex_ret1 (sx_ret rfl rfl))
                | true =>
                  rw [h4] at c3 hd
                  rw [hd]
                  exact ex_ret1 (sx_yes s3 (sx_stop (sx_yes c3 (sx_cret (sv_tup (st_cons rfl rfl (st_cons i1 rfl (st_cons i2 rfl (st_cons (sv_bi (st_cons i3 rfl rfl) rfl (count_figs h4)) rfl rfl)))) rfl) rfl))))
            · rw [show (w == sSlip) = false from beq_eq_false_iff_ne.mpr h2, Bool.false_and] at s3
              rw [hd, if_neg h2]
              exact ex_step (sx_no s3) (ex_ret1 (sx_ret rfl rfl))
        | c :: d :: r, hd, tw, tl, i0, i1, i2, c2 =>
          rw [show dueW (w :: a :: b :: c :: d :: r) = none from hd]
          have no3 : ev Φ (.cmp .eq (.bi .len (.cons (.v 1) .nil)) (.cI 3)) [.sh (.str t), .sh (.lst (sDs (w :: a :: b :: c :: d :: r)))] = .ok (.sh (.bool false)) := (tl 3).trans (by rw [beq_eq_false_iff_ne.mpr (by simp only [List.length_cons]; lia)])
          have no4 : ev Φ (.cmp .eq (.bi .len (.cons (.v 1) .nil)) (.cI 4)) [.sh (.str t), .sh (.lst (sDs (w :: a :: b :: c :: d :: r)))] = .ok (.sh (.bool false)) := (tl 4).trans (by rw [beq_eq_false_iff_ne.mpr (by simp only [List.length_cons]; lia)])
          have s1 := sv_andB (b := .and (.cmp .eq (.bi .len (.cons (.v 1) .nil)) (.cI 3)) (.call 84 (.cons (.idx (.v 1) (.cI 2)) (.cons (.cI 1) (.cons (.cI 100) .nil))))) (tw sShare) fun _ => sv_and_f no3
          have s2 := sv_andB (b := .and (.cmp .eq (.bi .len (.cons (.v 1) .nil)) (.cI 4)) (.call 84 (.cons (.idx (.v 1) (.cI 2)) (.cons (.cI 2) (.cons (.cI 9) .nil))))) (tw sMore) fun _ => sv_and_f no4
          have s3 := sv_andB (b := .and (.cmp .eq (.bi .len (.cons (.v 1) .nil)) (.cI 4)) (.and (.call 83 (.cons (.idx (.v 1) (.cI 2)) .nil)) (.cmp .ne (.idx (.v 1) (.cI 1)) (.idx (.v 1) (.cI 2))))) (tw sSlip) fun _ => sv_and_f no4
          rw [Bool.and_false] at s1 s2 s3
          exact ex_step (sx_no s1) (ex_step (sx_no s2) (ex_step (sx_no s3) (ex_ret1 (sx_ret rfl rfl))))
end Mine.PL
namespace Mine.PL
open Mine
variable {fns : List Fn}
theorem sp_class11 (H : Has11 fns) (n : Nat) : callF fns (n + 1) 63 [.exc 10] = .ok (.sh (.bool true)) := by
  rw [callF_succ H.b63, runFn_plain rfl rfl]; rfl
theorem sv_iteT {Φ : Nat → List Val → Out Val} {ρ : List Val} {c x y : T} {v : Val} (hc : ev Φ c ρ = .ok (.sh (.bool true))) (h : ev Φ x ρ = .ok v) : ev Φ (.ite c x y) ρ = .ok v := by rw [ev_ite, hc]; exact h
theorem told_exn (H : Has11 fns) (n : Nat) {d : Dat} (h : callF fns (n + 5) 81 [.sh d] = .exn 10) : callF fns (n + 6) 88 [.sh d] = .ok (.sh .none) := by
  have cl := sp_class11 H (n + 4)
  rw [callF_succ H.b88, runFn_plain rfl rfl]
  exact run_ret (ex_ret1 (sx_try (c := 10) (ex_exn (sx_retX (sv_callX (f := 81) rfl h))) (sx_cret (sv_iteT (sv_and rfl (sv_call rfl cl)) rfl) rfl)))
theorem sp_told11 (H : Has11 fns) (n : Nat) {t : List Nat} (ht : t.length ≤ 10000) : callF fns (n + 6) 88 [.sh (.str t)] = .ok (.sh ((dueW (splitOn 32 t)).getD .none)) := by
  have h := sp_read H n ht
  cases hd : dueW (splitOn 32 t) with
  | none => rw [hd] at h; exact told_exn H n h
  | some d =>
    rw [hd] at h
    rw [callF_succ H.b88, runFn_plain rfl rfl]
    exact run_ret (ex_ret1 (sx_tryN (sx_cret (sv_call (f := 81) rfl h) rfl)))
theorem told_no (H : Has11 fns) (n : Nat) {d : Dat} (h : isiD .str d = .ok false) : callF fns (n + 6) 88 [.sh d] = .ok (.sh .none) := by
  refine told_exn H n ?_
  rw [callF_succ H.b81, runFn_plain rfl rfl]
  exact run_exn (ex_exn (sx_yes (sv_not (sv_isi rfl rfl h)) (ex_exn rfl)))
inductive KindOf (k : Nat) (r : Out Val) : Prop
  | mk (x : Val) (e : Dat) : r = .ok x → needD x = .ok e → needB x = .ok e → argV x = .ok (.sh e) → Self (k + 2) e → KindOf k r
theorem compL_ex {f : Dat → Out (Option Dat)} {P : Dat → Prop} : ∀ {l : List Dat}, (∀ d ∈ l, ∃ e, f d = .ok (some e) ∧ P e) → ∃ es, compL f l = .ok es ∧ ∀ e ∈ es, P e
  | [], _ => ⟨[], rfl, fun _ h => nomatch h⟩
  | d :: l, h => by
    obtain ⟨e, h1, h2⟩ := h d (List.mem_cons_self ..)
    obtain ⟨es, h3, h4⟩ := compL_ex (l := l) fun x hx => h x (List.mem_cons_of_mem _ hx)
    refine ⟨e :: es, ?_, fun x hx => (List.mem_cons.1 hx).elim (fun q => q ▸ h2) (h4 x)⟩
    simp only [compL, h1, Out.bind_ok, h3]
theorem sp_kind (H : Has11 fns) (n : Nat) : ∀ (k : Nat) (d : Dat), Dat.fine k d = true → KindOf k (callF fns (n + k + 1) 87 [.sh d]) := by
  intro k
  have leaf : ∀ (k : Nat) (d : Dat) (w : List Nat), (∃ ρ2, ex (callF fns (n + k)) t_l_kind [.sh d, .un] = .ok (.ret (.sh (.str w)), ρ2)) → KindOf k (callF fns (n + k + 1) 87 [.sh d]) := fun k d w h => by
    rw [callF_succ H.b87, runFn_plain rfl rfl]
    exact ⟨_, .str w, run_ret h, rfl, rfl, rfl, Self.str w⟩
  induction k with
  | zero =>
    intro d fd
    cases d with
    | tup l => cases fd
    | lst l => cases fd
    | dic => cases fd
    | bool b => exact leaf 0 _ _ (ex_step (sx_no rfl) (ex_ret1 (sx_yes rfl (sx_cret rfl rfl))))
    | _ => exact leaf 0 _ _ (ex_step (sx_no rfl) (ex_step (sx_no rfl) (ex_ret1 (sx_ret rfl rfl))))
  | succ k ih =>
    intro d fd
    cases d with
    | dic => cases fd
    | tup l =>
      have hl : ∀ x ∈ l, Dat.fine k x = true := fine_tup fd
      obtain ⟨es, h1, h2⟩ := compL_ex (f := compF (callF fns (n + (k + 1))) (.call 87 (.cons (.v 1) .nil)) [1] .nil [.sh (.tup l), .un]) (P := Self (k + 2)) (l := l) fun x hx => by
        obtain ⟨v, e, c1, c2, c3, c4, c5⟩ := ih x (hl x hx)
        exact ⟨e, cf_nil (ρ' := [.sh (.tup l), .sh x]) rfl (sv_call rfl c1) c2, c5⟩
      rw [callF_succ H.b87, runFn_plain rfl rfl]
      exact ⟨.own es, .lst es, run_ret (ex_ret1 (sx_yes rfl (sx_cret (sv_comp rfl h1) rfl))), rfl, rfl, rfl, Self.lst h2⟩
    | bool b => exact leaf (k + 1) _ _ (ex_step (sx_no rfl) (ex_ret1 (sx_yes rfl (sx_cret rfl rfl))))
    | _ => exact leaf (k + 1) _ _ (ex_step (sx_no rfl) (ex_step (sx_no rfl) (ex_ret1 (sx_ret rfl rfl))))
theorem cut_map {α β : Type} (f : α → β) (lo hi : Option Int) (l : List α) : cut lo hi (l.map f) = (cut lo hi l).map f := by
  unfold cut
  rw [List.length_map, List.map_take, List.map_drop]
noncomputable def total (ws : List (List Nat)) : Nat := (ws.map List.length).sum + ws.length
theorem total_app (a b : List (List Nat)) : total (a ++ b) = total a + total b := by
  unfold total
  rw [List.map_append, List.sum_append, List.length_append]; lia
theorem total_cons (w : List Nat) (b : List (List Nat)) : total (w :: b) = w.length + 1 + total b := by
  unfold total
  rw [List.map_cons, List.sum_cons, List.length_cons]; lia
theorem total_drop : ∀ (k : Nat) (l : List (List Nat)), total (l.drop k) ≤ total l
  | 0, l => Nat.le_refl _
  | k + 1, [] => Nat.le_refl _
  | k + 1, w :: l => Nat.le_trans (total_drop k l) (by rw [total_cons]; lia)
theorem total_take : ∀ (k : Nat) (l : List (List Nat)), total (l.take k) ≤ total l
  | 0, l => Nat.zero_le _
  | k + 1, [] => Nat.le_refl _
  | k + 1, w :: l => by rw [List.take_succ_cons, total_cons, total_cons]; have := total_take k l; lia
theorem total_cut (lo hi : Option Int) (l : List (List Nat)) : total (cut lo hi l) ≤ total l := Nat.le_trans (total_take _ _) (total_drop _ _)
theorem total_rev (l : List (List Nat)) : total l.reverse = total l := by
  unfold total
  rw [List.map_reverse, List.sum_reverse, List.length_reverse]
theorem total_mem : ∀ {l : List (List Nat)} {w : List Nat}, w ∈ l → w.length ≤ total l
  | x :: l, w, h => by
    rw [total_cons]
    rcases List.mem_cons.1 h with rfl | h
    · lia
    · have := total_mem h; lia
theorem total_split : ∀ t : List Nat, total (splitOn 32 t) = t.length + 1
  | [] => rfl
  | c :: t => by
    have ih := total_split t
    obtain ⟨w, r, e, _⟩ := split_cons t
    rw [e, total_cons] at ih
    by_cases hc : c = 32
    · rw [show splitOn 32 (c :: t) = [] :: splitOn 32 t from if_pos hc, e, total_cons, total_cons, List.length_cons, List.length_nil]; lia
    · rw [show splitOn 32 (c :: t) = (c :: w) :: r from (if_neg hc).trans (by rw [e]), total_cons, List.length_cons, List.length_cons]; lia
theorem join_any {ws : List (List Nat)} (h : total ws ≤ 100000) : joinD [32] (sDs ws) = .ok (.sh (.str (joinW [32] ws))) := by
  unfold joinD
  rw [strsOf_sDs]
  refine if_pos (Nat.le_trans (m := 100000) ?_ (by decide))
  unfold total at h
  simp only [List.length_cons, List.length_nil]; lia
theorem cut_sDs (lo hi : Option Int) (ws : List (List Nat)) : cut lo hi (sDs ws) = sDs (cut lo hi ws) := cut_map _ _ _ _
theorem sDs_append (a b : List (List Nat)) : sDs a ++ sDs b = sDs (a ++ b) := List.map_append.symm
theorem sDs_rev (a : List (List Nat)) : (sDs a).reverse = sDs a.reverse := List.map_reverse.symm
inductive TextIs (B : Nat) (v : Val) : Prop
  | mk (t : List Nat) : v = .sh (.str t) → t.length ≤ B → TextIs B v
section
variable {Φ : Nat → List Val → Out Val} {ρ : List Val} {X Y a lo hi : T} {ws vs : List (List Nat)} {x y : Option Int} {v : Val}
theorem w_join (h : ev Φ X ρ = .ok (.own (sDs ws))) (ht : total ws ≤ 100000) : ev Φ (.meth .join (.cS [32]) (.cons X .nil)) ρ = .ok (.sh (.str (joinW [32] ws))) := sv_meth rfl rfl rfl (st_cons h rfl rfl) rfl (join_any ht)
theorem w_sl (h : ev Φ a ρ = .ok (.sh (.lst (sDs ws)))) (h1 : evO Φ lo ρ = .ok x) (h2 : evO Φ hi ρ = .ok y) : ev Φ (.sl a lo hi) ρ = .ok (.own (sDs (cut x y ws))) := by
  rw [← cut_sDs, ev_sl, h]
  show (evO Φ lo ρ >>= fun q => evO Φ hi ρ >>= fun h => sl2 (.lst (sDs ws)) q h) = _
  rw [h1]
  show (evO Φ hi ρ >>= fun h => sl2 (.lst (sDs ws)) x h) = _
  rw [h2]; rfl
theorem total_len (ws : List (List Nat)) : ws.length ≤ total ws := Nat.le_add_left ..
theorem w_add {u : Val} (h : ev Φ X ρ = .ok (.own (sDs ws))) (k : ev Φ Y ρ = .ok u) (hu : needB u = .ok (.lst (sDs vs))) (ht : total ws + total vs ≤ 100000) : ev Φ (.bin .add X Y) ρ = .ok (.own (sDs (ws ++ vs))) := by
  rw [← sDs_append]
  refine sv_addL h k rfl hu (Nat.le_trans (m := 100000) ?_ (by decide))
  rw [sDs_len, sDs_len]
  have h1 := total_len ws
  have h2 := total_len vs
  lia
end
end Mine.PL
namespace Mine.PL
open Mine
variable {fns : List Fn}
noncomputable def someS : List Nat := [32, 33, 34, 35, 36, 38, 39, 40, 41, 42, 43, 44, 45, 46, 47, 48, 49, 50, 51, 52, 53, 54, 55, 56, 57, 58, 59, 60, 61, 62, 63, 64, 65, 66, 67, 68, 69, 70, 71, 72, 73, 74, 75, 76, 77, 78, 79, 80, 81, 82, 83, 84, 85, 86, 87, 88, 89, 90, 91, 92, 93, 94, 95, 96, 97, 98, 99, 100, 101, 102, 103, 104, 105, 106, 107, 108, 109, 110, 111, 112, 113, 114, 115, 116, 117, 118, 119, 120, 121, 122, 123, 124, 125, 126, 10, 9]
theorem idxS_get {l : List Nat} {k : Int} (h0 : 0 ≤ k) (h : k < l.length) : ∃ c, idxS l k = .ok (.sh (.str [c])) := by
  have hk : k.toNat < l.length := by lia
  exact ⟨_, idxS_at h0 (List.getElem?_eq_getElem hk)⟩
theorem ev_mkL_rev {Φ : Nat → List Val → Out Val} {ρ : List Val} {a : T} {l : List Dat} (h : ev Φ a ρ = .ok (.own l)) : ev Φ (.mkL (.rev a)) ρ = .ok (.own l.reverse) := by
  show ((ev Φ a ρ >>= itemsL >>= fun x => Out.ok x.reverse) >>= fun ds => Out.ok (Val.own ds)) = _
  rw [h]; rfl
theorem text_join {B : Nat} {ws : List (List Nat)} (h : total ws ≤ B) : TextIs B (.sh (.str (joinW [32] ws))) := ⟨_, rfl, Nat.le_trans joinW_len h⟩
theorem le5 {n : Nat} (h : n ≤ 100000) : n ≤ line := Nat.le_trans h (by decide)
set_option maxHeartbeats 2000000 in
theorem sp_changed11 (H : Has11 fns) (n : Nat) {t : List Nat} (k m : Int) (hk0 : 0 ≤ k) (hk : k < 7) (hm : 0 ≤ m) (ht : t.length ≤ 3000) : ∃ t', callF fns (n + 1) 82 [.sh (.str t), .sh (.int k), .sh (.int m)] = .ok (.sh (.str t')) ∧ t'.length ≤ 3 * t.length + 10 := by
  rw [callF_succ H.b82, runFn_plain rfl rfl]
  generalize callF fns n = Φ
  suffices R : ∃ v, TextIs (3 * t.length + 10) v ∧ ∃ ρ2, ex Φ t_l_changed_c [.sh (.str t), .sh (.int k), .sh (.int m), .un, .un, .un, .un, .un, .un] = .ok (.ret v, ρ2) by
    obtain ⟨v, ⟨t', rfl, h⟩, R⟩ := R
    exact ⟨t', run_ret R, h⟩
  have hs := split_ok (Φ := Φ) (ρ := [.sh (.str t), .sh (.int k), .sh (.int m), .sh (.str someS), .un, .un, .un, .un, .un]) (i := 0) rfl (by lia)
  have htot := total_split t
  obtain ⟨w0, r0, e0, hr0⟩ := split_cons t
  have hW : 1 ≤ (splitOn 32 t).length := by rw [e0, List.length_cons]; lia
  have hWl := total_len (splitOn 32 t)
  generalize splitOn 32 t = W at hs htot hW hWl
  have m1 := mod_i (a := m) (b := (t.length : Int) + 1) (by lia)
  have m2 := mod_i (a := m) (b := (W.length : Int)) (by lia)
  have d1 := fdiv_i (a := m) (b := 101) (by decide) (by decide)
  have m3 := mod_i (a := m / 101) (b := (someS.length : Int)) (by decide)
  obtain ⟨sg, hsg⟩ := idxS_get (l := someS) (k := m / 101 % (someS.length : Int)) (Int.emod_nonneg _ (by decide)) (Int.emod_lt_of_pos _ (by decide))
  generalize hat : m % ((t.length : Int) + 1) = at_ at m1
  generalize hpl : m % (W.length : Int) = pl at m2
  have hpl0 : 0 ≤ pl := by rw [← hpl]; exact Int.emod_nonneg _ (by lia)
  have hpl1 : pl < W.length := by rw [← hpl]; exact Int.emod_lt_of_pos _ (by lia)
  refine ex_stepP (sx_asg rfl rfl) (ex_stepP (sx_asg hs rfl) (ex_stepP (sx_asg (sb rfl (sb (sv_bi rfl rfl rfl) rfl add_i) m1) rfl) (ex_stepP (sx_asg (sb rfl (sv_bi rfl rfl (by rw [len_l, sDs_len])) m2) rfl) (ex_stepP (sx_asg (sv_idx rfl (sb (sb rfl rfl d1) (sv_bi rfl rfl rfl) m3) hsg) rfl) ?_))))
  show ∃ v, TextIs _ v ∧ ∃ ρ2, ex Φ _ [.sh (.str t), .sh (.int k), .sh (.int m), .sh (.str someS), .sh (.lst (sDs W)), .sh (.int at_), .sh (.int pl), .sh (.str [sg]), .un] = _
  have c1 : ∀ lo hi, (cut lo hi t).length ≤ t.length := fun _ _ => len_cut
  have tc : ∀ lo hi, total (cut lo hi W) ≤ t.length + 1 := fun lo hi => by rw [← htot]; exact total_cut _ _ _
  have w4 : ev Φ (.v 4) [.sh (.str t), .sh (.int k), .sh (.int m), .sh (.str someS), .sh (.lst (sDs W)), .sh (.int at_), .sh (.int pl), .sh (.str [sg]), .un] = .ok (.sh (.lst (sDs W))) := rfl
  have sA := w_sl (lo := .nil) (hi := .v 6) w4 rfl rfl
  have sD := w_sl (lo := .v 6) (hi := .nil) w4 rfl rfl
  have sC := w_sl (lo := .v 6) (hi := .bin .add (.v 6) (.cI 1)) w4 rfl rfl
  have sE := w_sl (lo := .bin .add (.v 6) (.cI 1)) (hi := .nil) w4 rfl rfl
  have sF := w_sl (lo := .v 6) (hi := .bin .add (.v 6) (.cI 2)) w4 rfl rfl
  have kk : ∀ c : Int, ev Φ (.cmp .eq (.v 1) (.cI c)) [.sh (.str t), .sh (.int k), .sh (.int m), .sh (.str someS), .sh (.lst (sDs W)), .sh (.int at_), .sh (.int pl), .sh (.str [sg]), .un] = .ok (.sh (.bool (k == c))) := fun c => sv_cmp rfl rfl rfl rfl eq_i
  have k2 : ev Φ (.cmp .lt (.v 1) (.cI 2)) [.sh (.str t), .sh (.int k), .sh (.int m), .sh (.str someS), .sh (.lst (sDs W)), .sh (.int at_), .sh (.int pl), .sh (.str [sg]), .un] = .ok (.sh (.bool (decide (k < 2)))) := sv_cmp rfl rfl rfl rfl lt_i
  cases q2 : decide (k < 2) with
  | true =>
    rw [q2] at k2
    have l1 := c1 none (some at_)
    have l2 := c1 (some (at_ + k)) none
    refine ex_retsP (sx_yes k2 (sx_cret (sv_addS (sv_addS (sv_slS rfl rfl rfl) rfl (le5 ?_)) (sv_slS rfl rfl rfl) (le5 ?_)) rfl)) ⟨_, rfl, ?_⟩
    · show _ + 1 ≤ _; lia
    · rw [List.length_append]; show _ + 1 + _ ≤ _; lia
    · rw [List.length_append, List.length_append]; show _ + 1 + _ ≤ _; lia
  | false =>
  rw [q2] at k2
  refine ex_stepP (sx_no k2) ?_
  have e2 := kk 2
  cases q : (k == 2) with
  | true =>
    rw [q] at e2
    have l1 := c1 none (some at_)
    have l2 := c1 (some (at_ + 1)) none
    refine ex_retsP (sx_yes e2 (sx_cret (sv_addS (sv_slS rfl rfl rfl) (sv_slS rfl rfl rfl) (le5 ?_)) rfl)) ⟨_, rfl, ?_⟩
    · lia
    · rw [List.length_append]; lia
  | false =>
  rw [q] at e2
  refine ex_stepP (sx_no e2) ?_
  have e3 := kk 3
  have a1 := tc none (some pl)
  have a2 := tc (some pl) none
  have a3 := tc (some pl) (some (pl + 1))
  have a4 := tc (some (pl + 1)) none
  have a5 := tc (some pl) (some (pl + 2))
  have a6 := tc (some (pl + 2)) none
  cases q : (k == 3) with
  | true =>
    rw [q] at e3
    refine ex_retsP (sx_yes e3 (sx_cret (w_join (w_add (w_add sA sC rfl ?_) sD rfl ?_) ?_) rfl)) (text_join ?_)
    · lia
    · rw [total_app]; lia
    · rw [total_app, total_app]; lia
    · rw [total_app, total_app]; lia
  | false =>
  rw [q] at e3
  refine ex_stepP (sx_no e3) ?_
  have e5 := kk 5
  cases q : (k == 5) with
  | true =>
    rw [q] at e5
    have hpn : pl.toNat < W.length := by lia
    have hmem := total_mem (List.getElem_mem hpn)
    have iw : ev Φ (.idx (.v 4) (.v 6)) [.sh (.str t), .sh (.int k), .sh (.int m), .sh (.str someS), .sh (.lst (sDs W)), .sh (.int at_), .sh (.int pl), .sh (.str [sg]), .un] = .ok (.sh (.str W[pl.toNat])) := sv_idxL rfl rfl (idxL_at hpl0 (by unfold sDs; rw [List.getElem?_map, List.getElem?_eq_getElem hpn]; rfl))
    have tz : total [[48] ++ W[pl.toNat]] ≤ t.length + 3 := by rw [total_cons, List.length_append]; show 1 + _ + 1 + 0 ≤ _; lia
    refine ex_retsP (sx_yes e5 (sx_cret (w_join (w_add (w_add sA (sv_lst (st_cons (sv_addS rfl iw (le5 ?_)) rfl rfl) rfl) (vs := [[48] ++ W[pl.toNat]]) rfl ?_) sE rfl ?_) ?_) rfl)) (text_join ?_)
    · show 1 + _ ≤ _; lia
    · lia
    · rw [total_app]; lia
    · rw [total_app, total_app]; lia
    · rw [total_app, total_app]; lia
  | false =>
  rw [q] at e5
  refine ex_stepP (sx_no e5) ?_
  have e4 := kk 4
  cases q : (k == 4) with
  | true =>
    rw [q] at e4
    have hrev := ev_mkL_rev sF
    rw [sDs_rev] at hrev
    have tr : total (cut (some pl) (some (pl + 2)) W).reverse ≤ t.length + 1 := by rw [total_rev]; exact a5
    have w4' : ev Φ (.v 4) [.sh (.str t), .sh (.int k), .sh (.int m), .sh (.str someS), .sh (.lst (sDs W)), .sh (.int at_), .sh (.int pl), .sh (.str [sg]), .sh (.lst (sDs (cut (some pl) (some (pl + 2)) W).reverse))] = .ok (.sh (.lst (sDs W))) := rfl
    have sA' := w_sl (lo := .nil) (hi := .v 6) w4' rfl rfl
    have sG' := w_sl (lo := .bin .add (.v 6) (.cI 2)) (hi := .nil) w4' rfl rfl
    refine ex_retsP (sx_yes e4 (ex_next (sx_asg hrev rfl) (sx_cret (w_join (w_add (w_add sA' rfl rfl ?_) sG' rfl ?_) ?_) rfl))) (text_join ?_)
    · lia
    · rw [total_app]; lia
    · rw [total_app, total_app]; lia
    · rw [total_app, total_app]; lia
  | false =>
  rw [q] at e4
  refine ex_stepP (sx_no e4) (ex_retsP (sx_ret (w_join (w_add sA sE rfl ?_) ?_) rfl) (text_join ?_))
  · lia
  · rw [total_app]; lia
  · rw [total_app]; lia
end Mine.PL
namespace Mine.PL
open Mine
variable {fns : List Fn}
theorem str_figs (m : Nat) : (strOfInt (m : Nat)).all isFig = true := by
  rw [strOf_nat]
  refine List.all_eq_true.mpr fun c hc => ?_
  obtain ⟨ch, hch, rfl⟩ := List.mem_map.1 hc
  have h := Nat.isDigit_of_mem_toDigits (by decide) (by decide) hch
  unfold Char.isDigit at h
  simp only [Bool.and_eq_true, decide_eq_true_eq] at h
  exact isFig_iff.mpr ⟨UInt32.le_iff_toNat_le.mp h.1, UInt32.le_iff_toNat_le.mp h.2⟩
theorem val_str (m : Nat) : valOf (strOfInt (m : Nat)) = m := by
  rw [strOf_nat]; exact PySem.W.KIN.val_back m
theorem num_str {i : Int} (h0 : 0 ≤ i) (h : i < 10 ^ 6) : numW (strOfInt i) = some i := by
  obtain ⟨m, rfl⟩ := Int.eq_ofNat_of_zero_le h0
  have hl : lenW (strOfInt (m : Nat)) = true := by
    have h1 : 1 ≤ (strOfInt (m : Nat)).length := by rw [strOf_nat, List.length_map]; exact PySem.toDigits_len_ge 10 m
    have h2 : (strOfInt (m : Nat)).length ≤ 6 := by rw [strOf_nat, List.length_map, Nat.length_toDigits_le_iff (by decide) (by decide)]; lia
    unfold lenW
    rw [decide_eq_true (by lia), decide_eq_true (by lia)]; rfl
  have hz := str_val hl (str_figs m)
  rw [val_str, beq_self_eq_true] at hz
  unfold numW
  rw [hl, ← hz, str_figs, val_str]; rfl
theorem count_str {i : Int} (h0 : 0 ≤ i) (h : i < 10 ^ 6) (lo hi : Int) (h1 : lo ≤ i) (h2 : i ≤ hi) : countW (strOfInt i) lo hi = true := by
  rw [count_eq (num_str h0 h)]
  show (decide (lo ≤ i) && decide (i ≤ hi)) = true
  rw [decide_eq_true h1, decide_eq_true h2]; rfl
theorem val_strI {i : Int} (h0 : 0 ≤ i) (h : i < 10 ^ 6) : (valOf (strOfInt i) : Int) = i := (numW_val (num_str h0 h)).symm
theorem name_ok {s : List Nat} (h : NameOk s) : nameW s = true := by
  show (decide (1 ≤ s.length) && decide (s.length ≤ 8) && s.all fun c => decide (c ∈ letters)) = true
  rw [decide_eq_true h.1, decide_eq_true h.2.1, List.all_eq_true.mpr fun c hc => decide_eq_true (h.2.2 c hc)]; rfl
theorem name_in_ks {ks : List Kind} (hk : KindsOk ks) {nm : List Nat} (h : nm ∈ ks.map (·.1)) : NameOk nm := by
  obtain ⟨k, hk1, rfl⟩ := List.mem_map.1 h
  exact hk.names k hk1
theorem setL_ok : ∀ {ws : List Kind} (pre : List Kind), ((pre ++ ws).map (·.1)).Nodup → (∀ w ∈ ws, 1 ≤ w.2 ∧ w.2 ≤ 9) → setL (nD pre) (ws.map kD) = true
  | [], pre, _, _ => rfl
  | w :: ws, pre, hn, hr => by
    have h1 : ((nD pre).any fun y => Dat.eq y (.str w.1)) = false := by
      rw [any_names]
      refine decide_eq_false fun hin => ?_
      rw [List.map_append, List.nodup_append] at hn
      exact hn.2.2 _ hin _ (List.mem_cons_self ..) rfl
    have h2 := hr w (List.mem_cons_self ..)
    have ih := setL_ok (ws := ws) (pre ++ [w]) (by rw [List.append_assoc]; exact hn) fun x hx => hr x (List.mem_cons_of_mem _ hx)
    show ((!((nD pre).any fun y => Dat.eq y (.str w.1)) && (decide ((1 : Int) ≤ w.2) && decide (w.2 ≤ 9))) && setL (nD pre ++ [.str w.1]) (ws.map kD)) = true
    rw [h1, decide_eq_true h2.1, decide_eq_true h2.2, show nD pre ++ [Dat.str w.1] = nD (pre ++ [w]) from (List.map_append (l₂ := [w])).symm, ih]; rfl
theorem want_ok : ∀ {ws : List Kind}, (∀ w ∈ ws, NameOk w.1 ∧ 1 ≤ w.2 ∧ w.2 ≤ 9) → wantL (ws.map fun k => (k.1, strOfInt k.2)) = some ws
  | [], _ => rfl
  | w :: ws, h => by
    obtain ⟨h1, h2, h3⟩ := h w (List.mem_cons_self ..)
    have ih := want_ok (ws := ws) fun x hx => h x (List.mem_cons_of_mem _ hx)
    show (if nameW w.1 then (match numW (strOfInt w.2) with | some i => (wantL (ws.map fun k => (k.1, strOfInt k.2))).map ((w.1, i) :: ·) | none => none) else none) = _
    rw [name_ok h1, num_str (by lia) (by lia), ih]; rfl
theorem flat_pairs (ws : List Kind) : ws.flatMap pairW = flatP (ws.map fun k => (k.1, strOfInt k.2)) := by
  induction ws with
  | nil => rfl
  | cons w ws ih =>
    show pairW w ++ ws.flatMap pairW = _
    rw [ih]; rfl
theorem due_text {ks : List Kind} (hk : KindsOk ks) {o : Off} (h : OffOk ks o) : dueW (wordsOf o) = some o.dat := by
  cases o with
  | more nm m c =>
    obtain ⟨h1, h2, h3, h4, h5⟩ := h
    show dueMore nm (strOfInt m) (strOfInt c) = _
    unfold dueMore
    rw [name_ok (name_in_ks hk h1), count_str (by lia) (by lia) 2 9 h2 h3, val_strI (i := m) (by lia) (by lia), count_str (by lia) (by lia) 1 (m - 1) h4 h5, val_strI (i := c) (by lia) (by lia)]; rfl
  | share nm p =>
    obtain ⟨h1, h2, h3⟩ := h
    show dueShare nm (strOfInt p) = _
    unfold dueShare
    rw [name_ok (name_in_ks hk h1), count_str (by lia) (by lia) 1 100 h2 h3, val_strI (i := p) (by lia) (by lia)]; rfl
  | slip a b x =>
    obtain ⟨h1, h2, h3, h4, h5⟩ := h
    show dueSlip a b (strOfInt x) = _
    unfold dueSlip
    rw [name_ok (name_in_ks hk h1), name_ok (name_in_ks hk h2), beq_eq_false_iff_ne.mpr h3, count_str (by lia) (by lia) 1 100000 h4 h5, val_strI (i := x) (by lia) (by lia)]; rfl
  | set ws p =>
    obtain ⟨hw, h0, h1⟩ := h
    show dueSet (ws.flatMap pairW ++ [sAt, strOfInt p]) = _
    unfold dueSet
    rw [flat_pairs, pairsW_flat]
    have l1 := hw.len1
    have l5 := hw.len5
    show (if (decide (1 ≤ (ws.map fun k => (k.1, strOfInt k.2)).length) && decide ((ws.map fun k => (k.1, strOfInt k.2)).length ≤ 5) && countW (strOfInt p) 0 100000) = true then (lawL [] (ws.map fun k => (k.1, strOfInt k.2))).map fun ws => Dat.tup [.str sSet, .tup (ws.map kD), .int (valOf (strOfInt p) : Nat)] else none) = _
    rw [List.length_map, decide_eq_true l1, decide_eq_true l5, count_str h0 (by lia) 0 100000 h0 h1, lawL_eq, want_ok fun w hw' => ⟨name_in_ks hk (hw.sub w hw'), hw.rng w hw'⟩, val_strI (i := p) h0 (by lia)]
    show (if true then (if setL [] (ws.map kD) then some ws else none).map _ else none) = _
    rw [show setL [] (ws.map kD) = true from setL_ok (ws := ws) [] hw.nodup hw.rng]; rfl
theorem split_free {w : List Nat} (h : 32 ∉ w) : splitOn 32 w = [w] := by
  induction w with
  | nil => rfl
  | cons c w ih =>
    have h1 : ¬ c = 32 := fun e => h (e ▸ List.mem_cons_self ..)
    refine (if_neg h1).trans ?_
    rw [ih fun q => h (List.mem_cons_of_mem _ q)]
theorem split_app {w t : List Nat} (h : 32 ∉ w) : splitOn 32 (w ++ 32 :: t) = w :: splitOn 32 t := by
  induction w with
  | nil => exact if_pos rfl
  | cons c w ih =>
    have h1 : ¬ c = 32 := fun e => h (e ▸ List.mem_cons_self ..)
    refine (if_neg h1).trans ?_
    show (match splitOn 32 (w ++ 32 :: t) with | [] => [[c]] | w :: ws => (c :: w) :: ws) = _
    rw [ih fun q => h (List.mem_cons_of_mem _ q)]
theorem split_join : ∀ {ws : List (List Nat)}, ws ≠ [] → (∀ w ∈ ws, 32 ∉ w) → splitOn 32 (joinW [32] ws) = ws
  | [], h, _ => absurd rfl h
  | [w], _, h => split_free (h w (List.mem_cons_self ..))
  | w :: v :: ws, _, h => by
    show splitOn 32 (w ++ [32] ++ joinW [32] (v :: ws)) = _
    rw [List.append_assoc]
    refine (split_app (h w (List.mem_cons_self ..))).trans ?_
    show w :: splitOn 32 (joinW [32] (v :: ws)) = _
    rw [split_join (ws := v :: ws) nofun fun x hx => h x (List.mem_cons_of_mem _ hx)]
theorem free_str {i : Int} (h0 : 0 ≤ i) : 32 ∉ strOfInt i := fun hm => by
  obtain ⟨m, rfl⟩ := Int.eq_ofNat_of_zero_le h0
  have := isFig_iff.mp (List.all_eq_true.mp (str_figs m) 32 hm)
  lia
theorem free_name {s : List Nat} (h : NameOk s) : 32 ∉ s := fun hm => absurd (h.2.2 32 hm) (by decide)
theorem mem_w {P : List Nat → Prop} {a : List Nat} {l : List (List Nat)} (ha : P a) (h : ∀ x ∈ l, P x) : ∀ x ∈ a :: l, P x := fun x hx => (List.mem_cons.1 hx).elim (fun e => e ▸ ha) (h x)
theorem mem_w0 {P : List Nat → Prop} : ∀ x ∈ ([] : List (List Nat)), P x := fun _ hx => nomatch hx
theorem words_free {ks : List Kind} (hk : KindsOk ks) {o : Off} (h : OffOk ks o) : wordsOf o ≠ [] ∧ ∀ w ∈ wordsOf o, 32 ∉ w := by
  cases o with
  | more nm m c =>
    obtain ⟨h1, h2, h3, h4, h5⟩ := h
    exact ⟨nofun, mem_w (by decide) (mem_w (free_name (name_in_ks hk h1)) (mem_w (free_str (by lia)) (mem_w (free_str (by lia)) mem_w0)))⟩
  | share nm p =>
    obtain ⟨h1, h2, h3⟩ := h
    exact ⟨nofun, mem_w (by decide) (mem_w (free_name (name_in_ks hk h1)) (mem_w (free_str (by lia)) mem_w0))⟩
  | slip a b x =>
    obtain ⟨h1, h2, h3, h4, h5⟩ := h
    exact ⟨nofun, mem_w (by decide) (mem_w (free_name (name_in_ks hk h1)) (mem_w (free_name (name_in_ks hk h2)) (mem_w (free_str (by lia)) mem_w0)))⟩
  | set ws p =>
    obtain ⟨hw, h0, h1⟩ := h
    refine ⟨nofun, fun w hm => ?_⟩
    rcases List.mem_append.1 hm with hm | hm
    · refine mem_w (P := fun w => 32 ∉ w) (by decide) (fun x hx => ?_) w hm
      obtain ⟨k, hk1, hx⟩ := List.mem_flatMap.1 hx
      have hr := hw.rng k hk1
      exact mem_w (P := fun w => 32 ∉ w) (free_name (name_in_ks hk (hw.sub k hk1))) (mem_w (free_str (by lia)) mem_w0) x hx
    · exact mem_w (P := fun w => 32 ∉ w) (by decide) (mem_w (free_str h0) mem_w0) w hm
theorem split_text {ks : List Kind} (hk : KindsOk ks) {o : Off} (h : OffOk ks o) : splitOn 32 (textOf o) = wordsOf o := split_join (words_free hk h).1 (words_free hk h).2
end Mine.PL
namespace Mine.PL
open Mine
variable {fns : List Fn}
theorem round11 (H : Has11 fns) (n : Nat) {s : List Int} (hs : s.length ≤ 63) {t : List Nat} (ht : t.length ≤ 3000) (j : Int) (hj0 : 0 ≤ j) (hj : j ≤ 5) (x1 x2 x4 x5 y7 : Val) :
    ∃ t', ex (callF fns (n + 1)) b_law11_1 [.sh (.lst (iD s)), x1, x2, .sh (.str t), x4, x5, .sh (.int j), y7] = .ok (.next, [.sh (.lst (iD s)), x1, x2, .sh (.str t'), x4, x5, .sh (.int j), y7]) ∧ t'.length ≤ 3 * t.length + 10 := by
  have H3 := H.h3.toHas3
  obtain ⟨a, a0, a1, ea⟩ := sp_number H3 n s (50 + j) (by lia) hs (by lia)
  obtain ⟨b, b0, b1, eb⟩ := sp_number H3 n s (52 + j) (by lia) hs (by lia)
  have m7 := mod_i (a := a) (b := 7) (by decide)
  have d6 := fdiv_i (a := b) (b := 6) (by decide) (by decide)
  obtain ⟨t', et, hl⟩ := sp_changed11 H n (t := t) (a % 7) (b / 6) (Int.emod_nonneg _ (by decide)) (Int.emod_lt_of_pos _ (by decide)) (by lia) ht
  exact ⟨t', ex_next (sx_asg (sv_call (st_cons rfl rfl (st_cons (sb (sv_call (st_cons rfl rfl (st_cons (sb rfl rfl add_i) rfl rfl)) ea) rfl m7) rfl (st_cons (sb (sv_call (st_cons rfl rfl (st_cons (sb rfl rfl add_i) rfl rfl)) eb) rfl d6) rfl rfl))) et) rfl) rfl, hl⟩
theorem rounds11 (H : Has11 fns) (n : Nat) {s : List Int} (hs : s.length ≤ 63) {t : List Nat} (ht : t.length ≤ 300) (i : Int) (x1 x2 x4 x5 : Val) :
    ∃ ds t' z, rngD (i % 3) = .ok ds ∧ t'.length ≤ 10000 ∧ forL (stepF (callF fns (n + 1)) [6] b_law11_1) ds [.sh (.lst (iD s)), x1, x2, .sh (.str t), x4, x5, .un, .un] = .ok (.next, [.sh (.lst (iD s)), x1, x2, .sh (.str t'), x4, x5, z, .un]) := by
  have hr := rngOk_of (y := i % 3) (by lia) (by lia)
  rcases (show i % 3 = 0 ∨ i % 3 = 1 ∨ i % 3 = 2 by lia) with e | e | e
  · rw [e] at hr ⊢
    exact ⟨_, t, .un, hr, by lia, rfl⟩
  · rw [e] at hr ⊢
    obtain ⟨t1, s1, h1⟩ := round11 H n hs (t := t) (by lia) 0 (by decide) (by decide) x1 x2 x4 x5 .un
    exact ⟨_, t1, _, hr, by lia, (forL_next s1).trans rfl⟩
  · rw [e] at hr ⊢
    obtain ⟨t1, s1, h1⟩ := round11 H n hs (t := t) (by lia) 0 (by decide) (by decide) x1 x2 x4 x5 .un
    obtain ⟨t2, s2, h2⟩ := round11 H n hs (t := t1) (by lia) 1 (by decide) (by decide) x1 x2 x4 x5 .un
    exact ⟨_, t2, _, hr, by lia, (forL_next s1).trans ((forL_next s2).trans rfl)⟩
noncomputable def oddD : List Dat := [.none, .int 5, .tup [.str sMore, .str [97], .int 2, .int 1], .lst [.str [115, 104, 97, 114, 101, 32, 97, 32, 53]], .str []]
theorem odd_told (H : Has11 fns) (n : Nat) : ∀ d ∈ oddD, callF fns (n + 6) 88 [.sh d] = .ok (.sh .none) :=
  mem_c (told_no H n rfl) (mem_c (told_no H n rfl) (mem_c (told_no H n rfl) (mem_c (told_no H n rfl) (mem_c (sp_told11 H n (t := []) (by decide)) mem_n))))
theorem eq_due {q : Option Dat} (hs : ∀ d, q = some d → Self 10 d) : cmpD .ne (q.getD .none) (q.getD .none) = .ok false := by
  cases q with
  | none => rfl
  | some d =>
    have h := hs d rfl
    exact (Self.cmp (d := d) ⟨fine_up (fine_up (fine_up (fine_up (fine_up (fine_up (fine_up (fine_up (fine_up (fine_up h.1))))))))), h.2⟩).2
theorem kind_ne {Φ : Nat → List Val → Out Val} {ρ : List Val} {i j : Nat} {d : Dat} (hi : ρ.getD i .un = .sh d) (hj : ρ.getD j .un = .sh d) (h : KindOf 10 (Φ 87 [.sh d])) : ev Φ (.cmp .ne (.call 87 (.cons (.v i) .nil)) (.call 87 (.cons (.v j) .nil))) ρ = .ok (.sh (.bool false)) := by
  obtain ⟨x, e, c1, c2, c3, c4, c5⟩ := h
  exact sv_cmp (sv_call (st_cons (ev_at hi) rfl rfl) c1) (sv_call (st_cons (ev_at hj) rfl rfl) c1) c3 c3 (Self.cmp ⟨fine_up (fine_up (fine_up (fine_up (fine_up (fine_up (fine_up (fine_up c5.1))))))), c5.2⟩).2
theorem law11 (H : Has11 fns) (n : Nat) (s : List Int) (hs : s.length ≤ 63) : callF fns (n + 13) 89 [.sh (.lst (iD s))] = .ok (.sh (.bool true)) := by
  rw [callF_succ H.b89, runFn_plain rfl rfl]
  refine run_ret ?_
  have H3 := H.h3.toHas3
  obtain ⟨ks, hk, ek⟩ := sp_kinds H3 (n + 9) s hs
  obtain ⟨m, _, _, em⟩ := sp_number H3 (n + 11) s 41 (by decide) hs (by decide)
  obtain ⟨o, ho, eo⟩ := sp_offer H.h3 (n + 11) ks hk m
  have et := sp_text H.b50 (n + 11) hk o ho
  have esh := sp_shown H.b47 (n + 11) hk o ho
  have hlen := text_len hk ho
  have told := fun {t : List Nat} (ht : t.length ≤ 10000) => sp_told11 H (n + 6) ht
  have due := fun {t : List Nat} (ht : t.length ≤ 10000) => sp_due11 H (n + 9) ht
  have kind := fun d fd => sp_kind H (n + 1) 10 d fd
  have odd := odd_told H (n + 6)
  obtain ⟨i3, e3⟩ := sp_cell H3 (n + 11) s 3 (by decide)
  obtain ⟨i4, e4⟩ := sp_cell H3 (n + 11) s 4 (by decide)
  have rows := fun x1 x2 x4 x5 => rounds11 H (n + 11) hs (t := textOf o) hlen i3 x1 x2 x4 x5
  generalize callF fns (n + 12) = Φ at *
  have told0 := told (t := textOf o) (by lia)
  rw [split_text hk ho, due_text hk ho] at told0
  have so : Self 10 o.dat := due_self (due_text hk ho)
  have so20 : Self 20 o.dat := ⟨fine_up (fine_up (fine_up (fine_up (fine_up (fine_up (fine_up (fine_up (fine_up (fine_up so.1))))))))), so.2⟩
  refine ex_step (sx_asg (sv_call rfl ek) rfl) (ex_step (sx_asg (sv_call (st_cons rfl rfl (st_cons (sv_call rfl em) rfl rfl)) eo) rfl) (ex_step (sx_asg (sv_call rfl et) rfl) (ex_step (sx_asg (sv_call rfl esh) rfl) (ex_step (sx_asg (sv_call rfl told0) rfl) ?_))))
  show ∃ ρ2, ex Φ _ [.sh (.lst (iD s)), .sh (.lst (ks.map kD)), .sh o.dat, .sh (.str (textOf o)), .sh (.str (textOf o)), .sh o.dat, .un, .un] = _
  have n1 : cmpD .ne (.str (textOf o)) (.str (textOf o)) = .ok false := by rw [ne_s, beq_self_eq_true]; rfl
  refine ex_step (sx_no (sv_or (sv_not (p := true) rfl) (sv_or (sv_cmp rfl rfl rfl rfl n1) (sv_or (sv_cmp rfl rfl rfl rfl (Self.cmp so20).2) (kind_ne (d := o.dat) rfl rfl (kind _ so.1)))))) ?_
  obtain ⟨ds, t', z, hr, hl, lp⟩ := rows (.sh (.lst (ks.map kD))) (.sh o.dat) (.sh (.str (textOf o))) (.sh o.dat)
  have m3 := mod_i (a := i3) (b := 3) (by decide)
  have m5 := mod_i (a := i4) (b := 5) (by decide)
  refine ex_step (sx_for (sv_rng (sb (sv_call rfl e3) rfl m3) hr) lp) ?_
  have told1 := told hl
  have due1 := due hl
  refine ex_step (sx_asg (sv_call rfl told1) rfl) (ex_step (sx_asg (sv_call rfl due1) rfl) ?_)
  have hself : ∀ d, dueW (splitOn 32 t') = some d → Self 10 d := fun d h => due_self h
  generalize dueW (splitOn 32 t') = q at *
  show ∃ ρ2, ex Φ _ [.sh (.lst (iD s)), .sh (.lst (ks.map kD)), .sh o.dat, .sh (.str t'), .sh (.str (textOf o)), .sh (q.getD .none), z, .sh (q.getD .none)] = _
  have t1 : ev Φ (.or (.cmp .ne (.v 5) (.v 7)) (.and (.isN true (.v 7)) (.cmp .ne (.call 87 (.cons (.v 5) .nil)) (.call 87 (.cons (.v 7) .nil))))) [.sh (.lst (iD s)), .sh (.lst (ks.map kD)), .sh o.dat, .sh (.str t'), .sh (.str (textOf o)), .sh (q.getD .none), z, .sh (q.getD .none)] = .ok (.sh (.bool false)) := by
    refine sv_or (sv_cmp rfl rfl rfl rfl (eq_due hself)) ?_
    cases q with
    | none => exact sv_and_f rfl
    | some d =>
      have hd := hself d rfl
      have hk := kind_ne (Φ := Φ) (ρ := [.sh (.lst (iD s)), .sh (.lst (ks.map kD)), .sh o.dat, .sh (.str t'), .sh (.str (textOf o)), .sh d, z, .sh d]) (i := 5) (j := 7) (d := d) rfl rfl (kind _ hd.1)
      have hn : ev Φ (.isN true (.v 7)) [.sh (.lst (iD s)), .sh (.lst (ks.map kD)), .sh o.dat, .sh (.str t'), .sh (.str (textOf o)), .sh d, z, .sh d] = .ok (.sh (.bool true)) ∨ ev Φ (.isN true (.v 7)) [.sh (.lst (iD s)), .sh (.lst (ks.map kD)), .sh o.dat, .sh (.str t'), .sh (.str (textOf o)), .sh d, z, .sh d] = .ok (.sh (.bool false)) := by
        cases d with
        | none => exact .inr rfl
        | _ => exact .inl rfl
      rcases hn with hn | hn
      · exact sv_and hn hk
      · exact sv_and_f hn
  refine ex_step (sx_no t1) ?_
  obtain ⟨d, hd, ed⟩ := idx_get (l := oddD) (k := i4 % 5) (Int.emod_nonneg _ (by decide)) (Int.emod_lt_of_pos _ (by decide))
  have ei : ev Φ (.idx (.lst (.cons .cN (.cons (.cI 5) (.cons (.tup (.cons (.cS [109, 111, 114, 101]) (.cons (.cS [97]) (.cons (.cI 2) (.cons (.cI 1) .nil))))) (.cons (.lst (.cons (.cS [115, 104, 97, 114, 101, 32, 97, 32, 53]) .nil)) (.cons (.cS []) .nil)))))) (.bin .mod (.call 20 (.cons (.v 0) (.cons (.cI 4) .nil))) (.cI 5))) [.sh (.lst (iD s)), .sh (.lst (ks.map kD)), .sh o.dat, .sh (.str t'), .sh (.str (textOf o)), .sh (q.getD .none), z, .sh (q.getD .none)] = .ok (.sh d) := sv_idx (x := .own oddD) rfl (sb (sv_call rfl e4) rfl m5) ed
  have ek2 := sv_call (f := 88) (st_cons (b := .nil) ei rfl rfl) (odd d hd)
  exact ex_ret1 (sx_ret (v := .sh (.bool true)) (by rw [ev_isN, ek2]; rfl) rfl)
end Mine.PL
namespace Mine.L11
open Mine PySem PySem.W PyProof.Rows PySem.Challenge
noncomputable def n_between : Nm := [(Str.ofString "thing", 0), (Str.ofString "low", 1), (Str.ofString "high", 2)]
noncomputable def n_is_name : Nm := [(Str.ofString "thing", 0), (Str.ofString "sign", 1)]
noncomputable def n_wants_pairs : Nm := [(Str.ofString "wants", 0), (Str.ofString "pair", 1)]
noncomputable def n_set_fits : Nm := [(Str.ofString "wants", 0), (Str.ofString "price", 1), (Str.ofString "names", 2), (Str.ofString "pair", 3)]
noncomputable def n_fits : Nm := [(Str.ofString "offer", 0)]
noncomputable def n_shown : Nm := [(Str.ofString "offer", 0), (Str.ofString "words", 1), (Str.ofString "name", 2), (Str.ofString "many", 3), (Str.ofString "part", 4)]
noncomputable def n_number_in : Nm := [(Str.ofString "word", 0), (Str.ofString "sign", 1)]
noncomputable def n_name_in : Nm := [(Str.ofString "word", 0)]
noncomputable def n_set_in : Nm := [(Str.ofString "words", 0), (Str.ofString "wants", 1), (Str.ofString "at", 2)]
noncomputable def n_offer_in : Nm := [(Str.ofString "words", 0)]
noncomputable def n_read : Nm := [(Str.ofString "line", 0), (Str.ofString "offer", 1)]
noncomputable def n_l_cell_at : Nm := [(Str.ofString "_law_script", 0), (Str.ofString "_law_k", 1)]
noncomputable def n_l_number : Nm := [(Str.ofString "_law_script", 0), (Str.ofString "_law_k", 1), (Str.ofString "_law_base", 2)]
noncomputable def n_l_name_by : Nm := [(Str.ofString "_law_script", 0), (Str.ofString "_law_k", 1), (Str.ofString "_law_some", 2), (Str.ofString "_law_alike", 3), (Str.ofString "_law_number_here", 4), (Str.ofString "_law_step", 5), (Str.ofString "_law_name_here", 6), (Str.ofString "_law_j", 7), (Str.ofString "_law_place", 8), (Str.ofString "_law_sign", 9)]
noncomputable def n_l_kinds : Nm := [(Str.ofString "_law_script", 0), (Str.ofString "_law_kinds_here", 1), (Str.ofString "_law_names", 2), (Str.ofString "_law_k", 3), (Str.ofString "_law_number_here", 4), (Str.ofString "_law_name_here", 5), (Str.ofString "_law_price", 6)]
noncomputable def n_l_offer : Nm := [(Str.ofString "_law_kinds_here", 0), (Str.ofString "_law_number_here", 1), (Str.ofString "_law_name_here", 2), (Str.ofString "_law_other", 3), (Str.ofString "_law_more", 4), (Str.ofString "_law_many", 5), (Str.ofString "_law_wants", 6), (Str.ofString "_law_kind_here", 7)]
noncomputable def n_l_offers : Nm := [(Str.ofString "_law_script", 0), (Str.ofString "_law_kinds_here", 1), (Str.ofString "_law_start", 2), (Str.ofString "_law_many", 3)]
noncomputable def n_l_text : Nm := [(Str.ofString "_law_offer_here", 0), (Str.ofString "_law_words", 1), (Str.ofString "_law_part", 2), (Str.ofString "_law_pair", 3)]
noncomputable def n_l_changed_c : Nm := [(Str.ofString "_law_text_here", 0), (Str.ofString "_law_kind_here", 1), (Str.ofString "_law_number_here", 2), (Str.ofString "_law_some", 3), (Str.ofString "_law_words", 4), (Str.ofString "_law_at", 5), (Str.ofString "_law_place", 6), (Str.ofString "_law_sign", 7), (Str.ofString "_law_two", 8)]
noncomputable def n_l_name : Nm := [(Str.ofString "_law_word", 0), (Str.ofString "_law_bad", 1)]
noncomputable def n_l_count : Nm := [(Str.ofString "_law_word", 0), (Str.ofString "_law_least", 1), (Str.ofString "_law_most", 2)]
noncomputable def n_l_set : Nm := [(Str.ofString "_law_words", 0), (Str.ofString "_law_wants", 1), (Str.ofString "_law_k", 2)]
noncomputable def n_l_due_d : Nm := [(Str.ofString "_law_text_here", 0), (Str.ofString "_law_words", 1)]
noncomputable def n_l_kind : Nm := [(Str.ofString "_law_part", 0)]
noncomputable def n_l_one_class : Nm := [(Str.ofString "_law_e", 0), (Str.ofString "_law_told_here", 1), (Str.ofString "%quiet", 2)]
noncomputable def n_l_told_c : Nm := [(Str.ofString "_law_line", 0), (Str.ofString "_law_e", 1)]
noncomputable def n_law11 : Nm := [(Str.ofString "_law_script", 0), (Str.ofString "_law_kinds_here", 1), (Str.ofString "_law_offer_here", 2), (Str.ofString "_law_text_here", 3), (Str.ofString "_law_told_here", 4), (Str.ofString "_law_found", 5), (Str.ofString "_law_k", 6), (Str.ofString "_law_due_here", 7)]
noncomputable def gs : Gs := [(Str.ofString "between", G.fn 0), (Str.ofString "is_name", G.fn 1), (Str.ofString "wants_pairs", G.fn 8), (Str.ofString "set_fits", G.fn 10), (Str.ofString "fits", G.fn 11), (Str.ofString "shown", G.fn 47), (Str.ofString "number_in", G.fn 77), (Str.ofString "name_in", G.fn 78), (Str.ofString "set_in", G.fn 79), (Str.ofString "offer_in", G.fn 80), (Str.ofString "read", G.fn 81), (Str.ofString "_law_cell_at", G.fn 20), (Str.ofString "_law_number", G.fn 21), (Str.ofString "_law_name_by", G.fn 22), (Str.ofString "_law_kinds", G.fn 23), (Str.ofString "_law_offer", G.fn 24), (Str.ofString "_law_text", G.fn 50), (Str.ofString "_law_changed", G.fn 82), (Str.ofString "_law_name", G.fn 83), (Str.ofString "_law_count", G.fn 84), (Str.ofString "_law_set", G.fn 85), (Str.ofString "_law_due", G.fn 86), (Str.ofString "_law_kind", G.fn 87), (Str.ofString "_law_one_class", G.fn 63), (Str.ofString "_law_told", G.fn 88), (Str.ofString "law", G.fn 89), (Str.ofString "LETTERS", G.cS [97, 98, 99, 100, 101, 102, 103, 104, 105, 106, 107, 108, 109, 110, 111, 112, 113, 114, 115, 116, 117, 118, 119, 120, 121, 122]), (Str.ofString "LONGEST", G.cI 8), (Str.ofString "GREATEST", G.cI 100000), (Str.ofString "FIGURES", G.cS [48, 49, 50, 51, 52, 53, 54, 55, 56, 57]), (Str.ofString "MOST_FIGURES", G.cI 6), (Str.ofString "ValueError", G.exc 0), (Str.ofString "TillError", G.exc 1), (Str.ofString "BadKinds", G.exc 2), (Str.ofString "BadName", G.exc 3), (Str.ofString "Twice", G.exc 4), (Str.ofString "BadPrice", G.exc 5), (Str.ofString "BadBasket", G.exc 6), (Str.ofString "TooMany", G.exc 7), (Str.ofString "BadOffer", G.exc 8), (Str.ofString "NoKind", G.exc 9), (Str.ofString "NoOffer", G.exc 10), (Str.ofString "len", G.bi (.builtin "len")), (Str.ofString "min", G.bi (.builtin "min")), (Str.ofString "max", G.bi (.builtin "max")), (Str.ofString "sum", G.bi (.builtin "sum")), (Str.ofString "abs", G.bi (.builtin "abs")), (Str.ofString "isinstance", G.bi (.builtin "isinstance")), (Str.ofString "int", G.bi (.type "int")), (Str.ofString "str", G.bi (.type "str")), (Str.ofString "bool", G.bi (.type "bool")), (Str.ofString "list", G.bi (.type "list")), (Str.ofString "tuple", G.bi (.type "tuple")), (Str.ofString "range", G.bi (.type "range")), (Str.ofString "zip", G.bi (.type "zip")), (Str.ofString "reversed", G.bi (.type "reversed"))]
noncomputable def nmL : List (Nat × Nm) := [(0, n_between), (1, n_is_name), (8, n_wants_pairs), (10, n_set_fits), (11, n_fits), (47, n_shown), (77, n_number_in), (78, n_name_in), (79, n_set_in), (80, n_offer_in), (81, n_read), (20, n_l_cell_at), (21, n_l_number), (22, n_l_name_by), (23, n_l_kinds), (24, n_l_offer), (25, n_l_offers), (50, n_l_text), (82, n_l_changed_c), (83, n_l_name), (84, n_l_count), (85, n_l_set), (86, n_l_due_d), (87, n_l_kind), (63, n_l_one_class), (88, n_l_told_c), (89, n_law11)]
noncomputable def fns : List Fn := [f_between, f_is_name, f_none, f_none, f_none, f_none, f_none, f_none, f_wants_pairs, f_none, f_set_fits, f_fits, f_none, f_none, f_none, f_none, f_none, f_none, f_none, f_none, f_l_cell_at, f_l_number, f_l_name_by, f_l_kinds, f_l_offer, f_l_offers, f_none, f_none, f_none, f_none, f_none, f_none, f_none, f_none, f_none, f_none, f_none, f_none, f_none, f_none, f_none, f_none, f_none, f_none, f_none, f_none, f_none, f_shown, f_none, f_none, f_l_text, f_none, f_none, f_none, f_none, f_none, f_none, f_none, f_none, f_none, f_none, f_none, f_none, f_l_one_class, f_none, f_none, f_none, f_none, f_none, f_none, f_none, f_none, f_none, f_none, f_none, f_none, f_none, f_number_in, f_name_in, f_set_in, f_offer_in, f_read, f_l_changed_c, f_l_name, f_l_count, f_l_set, f_l_due_d, f_l_kind, f_l_told_c, f_law11]
noncomputable def nms (i : Nat) : Nm := (nmL.lookup i).getD []
theorem bi_all : biChk gs = true := by kernel_rfl
theorem dict_only : dictOnly gs (Str.ofString "PARTS") = true := by kernel_rfl
theorem law_at : gs.lookup (Str.ofString "law") = some (.fn 89) := by kernel_rfl
theorem plain (ns : List Int) (h : ns.length ≤ 63) : callF fns 40 89 [.sh (.lst (ns.map .int))] = .ok (.sh (.bool true)) :=
  PL.law11 (fns := fns) ⟨⟨rfl, rfl⟩, ⟨rfl, rfl, rfl⟩, ⟨⟨rfl, rfl, rfl, rfl⟩, rfl, rfl⟩, rfl, rfl, rfl, rfl, rfl, rfl, rfl, rfl, rfl, rfl, rfl, rfl, rfl, rfl, rfl, rfl⟩ 27 ns h
end Mine.L11
set_option maxHeartbeats 8000000
open PySem PySem.W PyProof.Rows Mine Mine.L11
namespace Mine.cw
theorem tw2245319242301140743 : True := trivial
theorem tw16759438911624739596 : True := trivial
theorem tw6619987024997979267 : True := trivial
theorem tw4984293869141996249 : True := trivial
theorem tw10836814977227583926 : True := trivial
theorem tw7209464811757235864 : True := trivial
theorem tw10642333452490522913 : True := trivial
theorem tw3358073120794002988 : True := trivial
theorem tw15035397054470534092 : True := trivial
theorem tw11260913956373821800 : True := trivial
theorem tw11940688272778093951 : True := trivial
theorem tw17729162322777953753 : True := trivial
theorem tw9262325061618202332 : True := trivial
theorem tw16166972867334128794 : True := trivial
theorem tw4754219302356205853 : True := trivial
theorem tw8108114381917806831 : True := trivial
theorem tw8654890065351889988 : True := trivial
theorem tw16529872585032380816 : True := trivial
theorem tw11928798751556335818 : True := trivial
theorem tw14788520036634372961 : True := trivial
theorem tw3604583642412339696 : True := trivial
theorem tw14708432069784124976 : True := trivial
theorem tw6649243955452880809 : True := trivial
theorem tw685565013211629092 : True := trivial
theorem tw12924146987078507549 : True := trivial
theorem tw12914080906435047031 : True := trivial
theorem tw13204498275336143057 : True := trivial
theorem tw1732343715881608574 : True := trivial
theorem tw15914432114400275016 : True := trivial
theorem tw3298955843360003133 : True := trivial
theorem tw14761310442516060954 : True := trivial
theorem tw3274165426250351427 : True := trivial
theorem tw12239477600099815877 : True := trivial
theorem tw3893269019679806780 : True := trivial
theorem tw17491939209671086633 : True := trivial
theorem tw3363377985580790232 : True := trivial
theorem tw9732783464176380561 : True := trivial
theorem tw4951841280732597803 : True := trivial
theorem tw10787246075982744711 : True := trivial
theorem tw16448210907181281830 : True := trivial
theorem tw9089546751780752331 : True := trivial
theorem tw1899915677272061241 : True := trivial
theorem tw10678013772527939569 : True := trivial
theorem tw5610338685648125367 : True := trivial
theorem tw13164890707912857118 : True := trivial
theorem tw10410563499097374197 : True := trivial
theorem tw16337725907850643880 : True := trivial
theorem tw4357126401250407683 : True := trivial
theorem tw18153323675266707290 : True := trivial
theorem tw14951641260305525846 : True := trivial
theorem tw7627799410307197 : True := trivial
theorem tw15098035983816873264 : True := trivial
theorem tw13741288145241353385 : True := trivial
theorem tw9122601410144511000 : True := trivial
theorem tw7593070186226503251 : True := trivial
theorem tw4769817257947663983 : True := trivial
theorem tw8240279851119034267 : True := trivial
theorem tw11375821190854673680 : True := trivial
theorem tw7333113482920346693 : True := trivial
theorem tw14200389297463377969 : True := trivial
theorem tw14294555197703138188 : True := trivial
theorem tw5960540646505071985 : True := trivial
theorem tw7021196676479962670 : True := trivial
theorem tw14255671406697997116 : True := trivial
theorem tw1827873298639845806 : True := trivial
theorem tw15940985733699833019 : True := trivial
theorem tw17387281983583371026 : True := trivial
theorem tw16042547877381480675 : True := trivial
theorem tw7778562511825277745 : True := trivial
theorem tw10001757822794293284 : True := trivial
theorem tw7384157455045015651 : True := trivial
theorem tw206839277710335438 : True := trivial
theorem tw12879298785024176671 : True := trivial
theorem tw6539419282294539521 : True := trivial
theorem tw2088735340262782289 : True := trivial
theorem tw10858871412793448962 : True := trivial
theorem tw9926899359172749013 : True := trivial
theorem tw4652533487383075113 : True := trivial
theorem tw478726648789714012 : True := trivial
theorem tw11835236348681913158 : True := trivial
theorem tw3681731177612470467 : True := trivial
theorem tw9702267900656169311 : True := trivial
theorem tw11754658650556267126 : True := trivial
theorem tw13536430150218294711 : True := trivial
theorem tw10537277779084631892 : True := trivial
theorem tw16482581780040293502 : True := trivial
theorem tw7716138712649031654 : True := trivial
theorem tw7201222511497468304 : True := trivial
theorem tw5680903237747551189 : True := trivial
theorem tw9461631633261132872 : True := trivial
theorem tw16892425095099944456 : True := trivial
theorem tw11875235385263808230 : True := trivial
theorem tw6403810052837582342 : True := trivial
theorem tw11781060877705872058 : True := trivial
theorem tw8235274700520875756 : True := trivial
theorem tw13875441437160936798 : True := trivial
theorem tw1061759024922983633 : True := trivial
theorem tw7114790414003337389 : True := trivial
theorem tw7456562622790031247 : True := trivial
theorem tw9270990383643273699 : True := trivial
theorem tw6910738804539150289 : True := trivial
theorem tw17262130787101969492 : True := trivial
theorem tw3408429918949976814 : True := trivial
theorem tw13427813068156967423 : True := trivial
theorem tw14438426639572044279 : True := trivial
theorem tw15840832473071999535 : True := trivial
theorem tw886166690863328485 : True := trivial
theorem tw6121131925498076511 : True := trivial
theorem tw13883313689258838075 : True := trivial
theorem tw3097201625896000712 : True := trivial
theorem tw3129355525941028504 : True := trivial
theorem tw5790161404388931817 : True := trivial
theorem tw1855280148956710301 : True := trivial
theorem tw602248898015639982 : True := trivial
theorem tw1545891049658077313 : True := trivial
theorem tw295466338093642964 : True := trivial
theorem tw10133593751813262031 : True := trivial
theorem tw1595741176964478890 : True := trivial
theorem tw11723249370181606347 : True := trivial
theorem tw13828229439554513783 : True := trivial
theorem tw7069858871986738619 : True := trivial
theorem tw7361954070945319235 : True := trivial
theorem tw5122744651824193062 : True := trivial
theorem tw15111483031490467662 : True := trivial
theorem tw17643807563322946168 : True := trivial
theorem tw15570454731259054930 : True := trivial
theorem tw15722916642263909808 : True := trivial
theorem tw5265537290224106599 : True := trivial
theorem tw8982647976793043411 : True := trivial
theorem tw6518825268287776730 : True := trivial
theorem tw4674000768699361083 : True := trivial
theorem tw10497245345112351037 : True := trivial
theorem tw9580786093286786816 : True := trivial
theorem tw13509015979295805570 : True := trivial
theorem tw1866788658771475695 : True := trivial
theorem tw13307330575346984341 : True := trivial
theorem tw16028573636967759883 : True := trivial
theorem tw10953123937275477394 : True := trivial
theorem tw4743089586618979064 : True := trivial
theorem tw13780061514556756106 : True := trivial
theorem tw12709157667166597622 : True := trivial
theorem tw5446289514955409386 : True := trivial
theorem tw7138865461323901148 : True := trivial
theorem tw10417276246721045325 : True := trivial
theorem tw2636425540172471175 : True := trivial
theorem tw2119496383272873293 : True := trivial
theorem tw18160478938398004615 : True := trivial
theorem tw16880979030118593267 : True := trivial
theorem tw15992819923508515479 : True := trivial
theorem tw12054122481165462934 : True := trivial
theorem tw8455966481309877803 : True := trivial
theorem tw10666049679076413966 : True := trivial
theorem tw8538403806035920175 : True := trivial
theorem tw17085326466948407615 : True := trivial
theorem tw5046806175524690527 : True := trivial
theorem tw5245493218853190803 : True := trivial
theorem tw11691526068082069982 : True := trivial
theorem tw6771049911761263549 : True := trivial
theorem tw8440572659557939377 : True := trivial
theorem tw11220621319726393749 : True := trivial
theorem tw9484423932939390980 : True := trivial
theorem tw13438360705153437068 : True := trivial
theorem tw15049123542625464071 : True := trivial
theorem tw2170339112981439272 : True := trivial
theorem tw13440761400709180564 : True := trivial
theorem tw11254835128405952838 : True := trivial
theorem tw2001829792024246339 : True := trivial
theorem tw6669705861437036512 : True := trivial
theorem tw1234362014024236558 : True := trivial
theorem tw2559185497009035100 : True := trivial
theorem tw3943993154990397314 : True := trivial
theorem tw10220390648087449953 : True := trivial
theorem tw10362361567543475196 : True := trivial
theorem tw7592274207237101366 : True := trivial
theorem tw8048641291553349087 : True := trivial
theorem tw7509873989339655443 : True := trivial
theorem tw3050485629901723413 : True := trivial
theorem tw13661436319821634661 : True := trivial
theorem tw1976542675867556708 : True := trivial
theorem tw16935115531500542280 : True := trivial
theorem tw16693563322189900785 : True := trivial
theorem tw14890220570659453997 : True := trivial
theorem tw14249023299064298872 : True := trivial
theorem tw2034847326169890389 : True := trivial
theorem tw2031960088512844715 : True := trivial
theorem tw12670489939187605533 : True := trivial
theorem tw150718097304624728 : True := trivial
theorem tw6799932458496700201 : True := trivial
theorem tw9095837090777478225 : True := trivial
theorem tw9214817609474835982 : True := trivial
theorem tw5010585969020163057 : True := trivial
theorem tw3560595304242491492 : True := trivial
theorem tw6368381345488123452 : True := trivial
theorem tw16034630539431576811 : True := trivial
theorem tw3614702511577044390 : True := trivial
theorem tw8886525709245039632 : True := trivial
theorem tw2011584700593955137 : True := trivial
theorem tw5975198326110587854 : True := trivial
theorem tw207604500973351841 : True := trivial
theorem tw7417615246134051412 : True := trivial
theorem tw6847272019824127103 : True := trivial
theorem tw16187185622519977335 : True := trivial
theorem tw3968715040575513520 : True := trivial
theorem tw9834586408147574216 : True := trivial
theorem tw10925982676703824585 : True := trivial
theorem tw1013543359794264780 : True := trivial
theorem tw4114331005866857182 : True := trivial
theorem tw2546800512522163093 : True := trivial
theorem tw7674018889070341683 : True := trivial
theorem tw9919525273966334950 : True := trivial
theorem tw10469622635208884771 : True := trivial
theorem tw14984256209660822020 : True := trivial
theorem tw4745555834983666509 : True := trivial
theorem tw12604581072356917665 : True := trivial
theorem tw15174872595650598156 : True := trivial
theorem tw214405211444757829 : True := trivial
theorem tw13765553124723890696 : True := trivial
theorem tw10894422157771956130 : True := trivial
theorem tw14339477176143079320 : True := trivial
theorem tw3614371357110042262 : True := trivial
theorem tw4319754535968967086 : True := trivial
theorem tw1760405048886711807 : True := trivial
theorem tw10582871820063533239 : True := trivial
theorem tw6625854827542380767 : True := trivial
theorem tw16824190548350425898 : True := trivial
theorem tw8384915272945194035 : True := trivial
theorem tw2165431362491003783 : True := trivial
theorem tw11744499077472433453 : True := trivial
theorem tw10429527013251239871 : True := trivial
theorem tw12460997675799849042 : True := trivial
theorem tw13038600260403951778 : True := trivial
theorem tw2582236779478434216 : True := trivial
theorem tw2139275235861925300 : True := trivial
theorem tw8404369427983028792 : True := trivial
theorem tw5344891932697001038 : True := trivial
theorem tw15377519182399367661 : True := trivial
theorem tw13718693542244978846 : True := trivial
theorem tw1119846097978458417 : True := trivial
theorem tw11381329923816113111 : True := trivial
theorem tw16438877246773014368 : True := trivial
theorem tw17395816810168964604 : True := trivial
theorem tw150055803531023912 : True := trivial
theorem tw18369400146589056343 : True := trivial
theorem tw13342451505449514251 : True := trivial
theorem tw2823607854020130885 : True := trivial
theorem tw2296967259863546239 : True := trivial
theorem tw13720027318834144188 : True := trivial
theorem tw7800144678589849697 : True := trivial
theorem tw8265391832754436437 : True := trivial
theorem tw11751998716075514716 : True := trivial
theorem tw15187549380642300617 : True := trivial
theorem tw5985121463359028297 : True := trivial
theorem tw15517905215004798913 : True := trivial
theorem tw15375457237347083154 : True := trivial
theorem tw15779534605396823208 : True := trivial
theorem tw17544317311361296971 : True := trivial
theorem tw4657666084184085436 : True := trivial
theorem tw17589651760236113906 : True := trivial
theorem tw3375556859353004718 : True := trivial
theorem tw2377609647856190301 : True := trivial
theorem tw15426301682104869479 : True := trivial
theorem tw8449473995245419038 : True := trivial
theorem tw9809503321613087508 : True := trivial
theorem tw12728222785577406730 : True := trivial
theorem tw14815655621447405532 : True := trivial
theorem tw541702200365555811 : True := trivial
theorem tw9713538816024611350 : True := trivial
theorem tw6737585914892897284 : True := trivial
theorem tw14240352255720746961 : True := trivial
theorem tw11337513309407294251 : True := trivial
theorem tw11474246971035347520 : True := trivial
theorem tw15738741339427707777 : True := trivial
theorem tw12196176389731286687 : True := trivial
theorem tw16807314847964708805 : True := trivial
theorem tw4175879605228117226 : True := trivial
theorem tw9688325189225346270 : True := trivial
theorem tw14452271069060164173 : True := trivial
theorem tw3022869472097559339 : True := trivial
theorem tw8209079187462578595 : True := trivial
theorem tw18130194285338661485 : True := trivial
theorem tw10881834249466746773 : True := trivial
theorem tw6253624821822146571 : True := trivial
theorem tw3023204895809439811 : True := trivial
theorem tw13987649963944064819 : True := trivial
theorem tw3664836258679660992 : True := trivial
theorem tw9459749993489986317 : True := trivial
theorem tw5743529906376584556 : True := trivial
theorem tw4921557877388104165 : True := trivial
theorem tw1295104794031784457 : True := trivial
theorem tw4486984800207835088 : True := trivial
theorem tw308970408450293369 : True := trivial
theorem tw1753351074557523059 : True := trivial
theorem tw10085818013370136085 : True := trivial
theorem tw1439106546105372835 : True := trivial
theorem tw2714916262292573155 : True := trivial
theorem tw3459936446253236937 : True := trivial
theorem tw13101704718675416334 : True := trivial
theorem tw11961237888325340695 : True := trivial
theorem tw8042496257394154199 : True := trivial
theorem tw3168819232203767724 : True := trivial
theorem tw15759073248670287780 : True := trivial
theorem tw17788867100912671519 : True := trivial
theorem tw9036864618746112827 : True := trivial
theorem tw68855574625089363 : True := trivial
theorem tw16225993790663994938 : True := trivial
theorem tw13747900882118374933 : True := trivial
theorem tw16198640964549459898 : True := trivial
theorem tw1623917768833970087 : True := trivial
theorem tw11905782810705850828 : True := trivial
theorem tw14289734765686230283 : True := trivial
theorem tw16731437187866489228 : True := trivial
theorem tw13630375179674840580 : True := trivial
theorem tw5873590440581843887 : True := trivial
theorem tw152319972654231069 : True := trivial
theorem tw2041038859986201105 : True := trivial
theorem tw11102717120873989422 : True := trivial
theorem tw9819567901576955970 : True := trivial
theorem tw3100444119966152113 : True := trivial
theorem tw2492944627912260907 : True := trivial
end Mine.cw
set_option Elab.async true
theorem Mine.cw : PySem.Challenge.rw_uf030032_11.Holds := by
  w_on
  o_law
  k_head
  (case hw => w_witness2)
  k_fill
  intro w s₀ s₁ mg mb G Y fa o pm cd doc dV kV ho hd hcd hD hmg hg args vals as hpre hlay hrd hwl hlo
  have KX := kIn_of Y
  refine Ground.open G ?_
  intro T B D TE TW
  clear hd hcd hD
  wrow_args hpre hlay hrd hwl hlo
  rename_i ns hs hlay0 hL1 hr1 hl2 as1 as2 l vs as3 hLst ra w1 r0 hI hr hc1 hc2
  have CN := cx_all (prog := PySem.Challenge.rw_uf030032_11.row.prog) (w := w) (fns := fns) (gs := gs) (nms := nms) (shopC := 0) (dx := Str.ofString "PARTS") (xs := [(1, 24), (2, 37), (3, 49), (4, 61), (5, 73), (6, 85), (7, 97), (8, 109), (9, 121), (10, 133)]) KX (PySem.W.topRead_of T) bi_all dict_only (by kernel_rfl) (by kernel_rfl) (by kernel_rfl)
  obtain ⟨f, hf, ⟨F⟩⟩ := CN.gl _ _ law_at
  have hmg' : mg (Str.ofString "law") = some (.ref fa) := hmg
  have hf' : mg (Str.ofString "law") = some (.ref f) := hf
  rw [hmg'] at hf'
  cases hf'
  have hlen : ns.length ≤ 63 := by omega
  have hl : s₁.heap.get? l = some { cls := .type "list", data := .seq vs.toArray } := by
    have w1' : Well w.params s₁.heap (Value.ref l) (.list (ofPys (List.map PyData.int ns))) := w1
    cases w1' with
    | list e _ =>
      obtain ⟨o', ho', _, n', hd'⟩ := hLst
      rw [e] at ho'
      cases ho'
      cases hd'
      exact e
  refine law_run rfl CN F s₁ rfl hl hI hlen 40 (by decide) (Mine.L11.plain ns hlen) fun h' tk keep => ?_
  refine ⟨.inl ⟨.bool true, .bool true, [], rfl, fun cls => rfl, .bool true, ?_, fun _ => ⟨List.nodup_nil, fun a ha => by cases ha⟩⟩, .of_keep keep, rfl, ?_⟩
  · kernel_rfl
  · show AllBare s₁.gens
    exact .of_eq hg
theorem PySem.Challenge.cw_uf030032_11_holds : PySem.Challenge.rw_uf030032_11.Holds :=
  Mine.cw
