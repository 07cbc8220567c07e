import PyProof.Rows.All
import Wide.All
import OpenK.AllK
import KE.FramesApart
import KE.KTryMore
import KE.KTurns
import KE.KRevIter
import KE.KEqDict
import Lean
import PySem.Challenge.RW_uf030032_04
set_option Elab.async false
set_option linter.unusedVariables false
set_option linter.unusedSimpArgs false
set_option linter.unnecessarySimpa false
set_option maxRecDepth 100000
namespace Mine
inductive Dat where
  | none
  | bool (b : Bool)
  | int (i : Int)
  | str (s : List Nat)
  | tup (ds : List Dat)
  | lst (ds : List Dat)
  | dic
mutual
noncomputable def pyOf : Dat → PySem.PyData
  | .none => .none
  | .bool b => .bool b
  | .int i => .int i
  | .str s => .str ⟨s.toArray⟩
  | .tup ds => .tuple (pyOfs ds)
  | .lst ds => .list (pyOfs ds)
  | .dic => .dict []
noncomputable def pyOfs : List Dat → List PySem.PyData
  | [] => []
  | d :: r => pyOf d :: pyOfs r
end
noncomputable def Dat.eq (a b : Dat) : Bool := PySem.PyData.eqv (pyOf a) (pyOf b)
noncomputable def Dat.fineS (f : List Dat → Bool) : Dat → Bool
  | .none => true
  | .bool _ => true
  | .int _ => true
  | .str _ => true
  | .tup ds => f ds
  | .lst ds => f ds
  | .dic => false
noncomputable def Dat.fine : Nat → Dat → Bool
  | 0 => Dat.fineS fun _ => false
  | n + 1 => Dat.fineS fun ds => ds.all (Dat.fine n)
inductive Val where
  | un
  | sh (d : Dat)
  | own (ds : List Dat)
  | bor (ds : List Dat)
  | shop (ns ps : List Dat)
  | exc (c : Nat)
  | pr (d : Dat) (ds : List Dat)
inductive Out (α : Type) where
  | ok (a : α)
  | exn (c : Nat)
  | bad
namespace Out
@[simp] noncomputable def bind {α β : Type} : Out α → (α → Out β) → Out β
  | .ok a,f => f a
  | .exn c,_ => .exn c
  | .bad,_ => .bad
noncomputable instance : Monad Out where
  pure := .ok
  bind := bind
@[simp] theorem pure_eq {α : Type} (a : α) : (pure a : Out α) = .ok a := rfl
@[simp] theorem bind_ok {α β : Type} (a : α) (f : α → Out β) : (Out.ok a >>= f) = f a := rfl
@[simp] theorem bind_exn {α β : Type} (c : Nat) (f : α → Out β) : ((Out.exn c : Out α) >>= f) = .exn c := rfl
@[simp] theorem bind_bad {α β : Type} (f : α → Out β) : ((Out.bad : Out α) >>= f) = .bad := rfl
end Out
set_option genSizeOf false in
set_option genInjectivity false in
inductive BOp where | add | sub | mul | fdiv | mod | pow
set_option genSizeOf false in
set_option genInjectivity false in
inductive COp where | eq | ne | lt | le | gt | ge | isin | notin
set_option genSizeOf false in
set_option genInjectivity false in
inductive BI where | len | int | str | min | max | sum | abs
set_option genSizeOf false in
set_option genInjectivity false in
inductive Ty where | int | bool | str | list | tuple | shop | exc (c : Nat)
set_option genSizeOf false in
set_option genInjectivity false in
inductive Me where | index | join | split | upper | count
set_option genSizeOf false in
set_option genInjectivity false in
inductive T where
  | nil
  | cons (a b : T)
  | cN
  | cB (b : Bool)
  | cI (i : Int)
  | cS (s : List Nat)
  | gI (i : Int)
  | gS (s : List Nat)
  | v (i : Nat)
  | neg (a : T)
  | bin (o : BOp) (a b : T)
  | cmp (o : COp) (a b : T)
  | cmp2 (o p : COp) (a b c : T)
  | isN (n : Bool) (a : T)
  | not (a : T)
  | and (a b : T)
  | or (a b : T)
  | ite (c a b : T)
  | tup (ts : T)
  | lst (ts : T)
  | idx (a i : T)
  | sl (a lo hi : T)
  | dget (k : List (List Nat × Int)) (a : T)
  | din (k : List (List Nat × Int)) (n : Bool) (a : T)
  | dic
  | call (f : Nat) (ts : T)
  | bi (b : BI) (ts : T)
  | isi (t : Ty) (a : T)
  | mkL (it : T)
  | mkT (it : T)
  | rng (a b c : T)
  | zip (a b : T)
  | rev (a : T)
  | meth (m : Me) (a ts : T)
  | attr (k : Bool) (a : T)
  | mcall (f : Nat) (a ts : T)
  | new (f : Nat) (ts : T)
  | comp (elt : T) (tg : List Nat) (it c : T)
  | asg (i : Nat) (e : T)
  | asgO (i : Nat) (e : T)
  | asgT (is : List Nat) (e : T)
  | seti (i : Nat) (k e : T)
  | app (i : Nat) (e : T)
  | rvs (i : Nat)
  | clr (i : Nat)
  | ex (e : T)
  | iff (c a b : T)
  | for_ (tg : List Nat) (it b : T)
  | whl (c b : T)
  | ret (e : T)
  | retO (i : Nat)
  | retP (e : T) (i : Nat)
  | frz (i : Nat)
  | raise (c : Nat) (m : List Nat)
  | try_ (b : T) (c : Nat) (i : Nat) (h : T)
noncomputable def needD : Val → Out Dat
  | .sh d => .ok d
  | .own ds => .ok (.lst ds)
  | .pr d ds => .ok (.tup [d,.lst ds])
  | _ => .bad
noncomputable def needB : Val → Out Dat
  | .sh d => .ok d
  | .own ds => .ok (.lst ds)
  | .bor ds => .ok (.lst ds)
  | .pr d ds => .ok (.tup [d,.lst ds])
  | _ => .bad
noncomputable def rd : Val → Out Val
  | .un => .bad
  | .own ds => .ok (.bor ds)
  | .pr _ _ => .bad
  | x => .ok x
noncomputable def line : Nat := 16777216
noncomputable def posOf (k : Int) (n : Nat) : Option Nat := if 0 ≤ k then (if k < n then some k.toNat else Option.none) else if 0 ≤ k + n then some (k + n).toNat else Option.none
noncomputable def clampAt (n : Nat) (k : Int) : Nat := (max 0 (min (if k < 0 then k + n else k) n)).toNat
noncomputable def cut {α : Type} (lo hi : Option Int) (l : List α) : List α :=
  (l.drop (lo.elim 0 (clampAt l.length))).take (hi.elim l.length (clampAt l.length) - lo.elim 0 (clampAt l.length))
noncomputable def strOfInt (i : Int) : List Nat := (toString i).toList.map Char.toNat
noncomputable def ii (f : Int → Int → Out Val) (x y : Dat) : Out Val := match x with
  | .int a => match y with
    | .int b => f a b
    | _ => .bad
  | _ => .bad
noncomputable def addD (x y : Dat) : Out Val := match x with
  | .int a => match y with
    | .int b => .ok (.sh (.int (a + b)))
    | _ => .bad
  | .str a => match y with
    | .str b => if a.length + b.length ≤ line then .ok (.sh (.str (a ++ b))) else .bad
    | _ => .bad
  | .lst a => match y with
    | .lst b => if a.length + b.length ≤ line then .ok (.own (a ++ b)) else .bad
    | _ => .bad
  | .tup a => match y with
    | .tup b => if a.length + b.length ≤ line then .ok (.sh (.tup (a ++ b))) else .bad
    | _ => .bad
  | _ => .bad
noncomputable def mulD (x y : Dat) : Out Val := match x with
  | .int a => match y with
    | .int b => if a.natAbs < 2 ^ 64 ∨ b.natAbs < 2 ^ 64 then .ok (.sh (.int (a * b))) else .bad
    | _ => .bad
  | .str a => match y with
    | .int n => if n = 0 then .ok (.sh (.str [])) else if n = 1 then .ok (.sh (.str a)) else .bad
    | _ => .bad
  | .lst a => match y with
    | .int n => if a.length * n.toNat ≤ line ∧ 0 ≤ n ∧ n < 2 ^ 20 then .ok (.own (List.replicate n.toNat a).flatten) else .bad
    | _ => .bad
  | _ => .bad
noncomputable def binD (o : BOp) (x y : Dat) : Out Val := match o with
  | .add => addD x y
  | .sub => ii (fun a b => .ok (.sh (.int (a - b)))) x y
  | .mul => mulD x y
  | .fdiv => ii (fun a b => if b ≠ 0 ∧ b.natAbs < 1073741824 then .ok (.sh (.int (a.fdiv b))) else .bad) x y
  | .mod => ii (fun a b => if b ≠ 0 then .ok (.sh (.int (a.fmod b))) else .bad) x y
  | .pow => ii (fun a b => if a = 10 ∧ b = 60 then .ok (.sh (.int (10 ^ 60))) else .bad) x y
noncomputable def ib (f : Int → Int → Bool) (x y : Dat) : Out Bool := match x with
  | .int a => match y with
    | .int b => .ok (f a b)
    | _ => .bad
  | _ => .bad
noncomputable def Dat.isDic (d : Dat) : Bool := match d with
  | .dic => true
  | _ => false
noncomputable def eqD (f : Bool → Bool) (a b : Dat) : Out Bool := if a.fine 20 && b.fine 20 then .ok (f (Dat.eq a b)) else if a.isDic && b.isDic then .ok (f true) else .bad
noncomputable def inL (f : Bool → Bool) (a : Dat) (b : List Dat) : Out Bool := if a.fine 20 && b.all (Dat.fine 20) then .ok (f (b.any (fun x => Dat.eq x a))) else .bad
noncomputable def inS (f : Bool → Bool) (a : List Nat) (b : List Nat) : Out Bool := match a with
  | [] => .bad
  | c :: r => match r with
    | [] => .ok (f (decide (c ∈ b)))
    | _ :: _ => .bad
noncomputable def inD (f : Bool → Bool) (a b : Dat) : Out Bool := match b with
  | .lst b => inL f a b
  | .tup b => inL f a b
  | .str b => match a with
    | .str a => inS f a b
    | _ => .bad
  | _ => .bad
noncomputable def cmpD (o : COp) (a b : Dat) : Out Bool := match o with
  | .eq => eqD (fun r => r) a b
  | .ne => eqD (fun r => !r) a b
  | .lt => ib (fun a b => decide (a < b)) a b
  | .le => ib (fun a b => decide (a ≤ b)) a b
  | .gt => ib (fun a b => decide (b < a)) a b
  | .ge => ib (fun a b => decide (b ≤ a)) a b
  | .isin => inD (fun r => r) a b
  | .notin => inD (fun r => !r) a b
noncomputable def intsOf : List Dat → Option (List Int)
  | [] => some []
  | .int i :: r => (intsOf r).map (i :: ·)
  | _ => Option.none
noncomputable def strsOf : List Dat → Option (List (List Nat))
  | [] => some []
  | .str i :: r => (strsOf r).map (i :: ·)
  | _ => Option.none
noncomputable def minL : Int → List Int → Int
  | a,[] => a
  | a,b :: r => minL (if b < a then b else a) r
noncomputable def on1 (f : Dat → Out Dat) (l : List Dat) : Out Dat := match l with
  | [] => .bad
  | d :: r => match r with
    | [] => f d
    | _ :: _ => .bad
noncomputable def on2 (f : Int → Int → Int) (a b : Dat) : Out Dat := match a with
  | .int i => match b with
    | .int j => .ok (.int (f i j))
    | _ => .bad
  | _ => .bad
noncomputable def lenD (d : Dat) : Out Dat := match d with
  | .str s => .ok (.int s.length)
  | .lst s => .ok (.int s.length)
  | .tup s => .ok (.int s.length)
  | _ => .bad
noncomputable def intB (d : Dat) : Out Dat := match d with
  | .bool b => .ok (.int (if b then 1 else 0))
  | _ => .bad
noncomputable def strD (d : Dat) : Out Dat := match d with
  | .int i => if i.natAbs < 2 ^ 64 ∧ (strOfInt i).length ≤ line then .ok (.str (strOfInt i)) else .bad
  | .str s => .ok (.str s)
  | _ => .bad
noncomputable def minI (l : Option (List Int)) : Out Dat := match l with
  | Option.none => .bad
  | some l => match l with
    | [] => .bad
    | a :: r => .ok (.int (minL a r))
noncomputable def sumI (l : Option (List Int)) : Out Dat := match l with
  | Option.none => .bad
  | some r => .ok (.int r.sum)
noncomputable def minD (d : Dat) : Out Dat := match d with
  | .lst l => minI (intsOf l)
  | _ => .bad
noncomputable def sumD (d : Dat) : Out Dat := match d with
  | .lst l => sumI (intsOf l)
  | _ => .bad
noncomputable def absD (d : Dat) : Out Dat := match d with
  | .int a => .ok (.int (if a < 0 then -a else a))
  | _ => .bad
noncomputable def m12 (f : Dat → Out Dat) (g : Dat → Dat → Out Dat) (l : List Dat) : Out Dat := match l with
  | [] => .bad
  | a :: r => match r with
    | [] => f a
    | b :: r => match r with
      | [] => g a b
      | _ :: _ => .bad
noncomputable def biD (b : BI) (l : List Dat) : Out Dat := match b with
  | .len => on1 lenD l
  | .int => on1 intB l
  | .str => on1 strD l
  | .min => m12 minD (on2 fun a b => if b < a then b else a) l
  | .max => m12 (fun _ => .bad) (on2 fun a b => if b > a then b else a) l
  | .sum => on1 sumD l
  | .abs => on1 absD l
noncomputable def isT (p : Nat → Bool) (d : Dat) : Out Bool := match d with
  | .none => .ok (p 5)
  | .bool _ => .ok (p 1)
  | .int _ => .ok (p 0)
  | .str _ => .ok (p 2)
  | .tup _ => .ok (p 4)
  | .lst _ => .ok (p 3)
  | .dic => .ok (p 6)
noncomputable def isiD (t : Ty) (d : Dat) : Out Bool := match t with
  | .int => isT (fun k => k.ble 1) d
  | .bool => isT (fun k => k.beq 1) d
  | .str => isT (fun k => k.beq 2) d
  | .list => isT (fun k => k.beq 3) d
  | .tuple => isT (fun k => k.beq 4) d
  | .shop => .bad
  | .exc _ => .bad
noncomputable def joinW (sep : List Nat) : List (List Nat) → List Nat
  | [] => []
  | [x] => x
  | x :: r => x ++ sep ++ joinW sep r
noncomputable def joinD (sep : List Nat) (l : List Dat) : Out Val := match strsOf l with
  | Option.none => .bad
  | some ws => if (ws.map List.length).sum + ws.length * sep.length ≤ line then .ok (.sh (.str (joinW sep ws))) else .bad
noncomputable def join1 (sep : List Nat) (as : List Dat) : Out Val := match as with
  | [] => .bad
  | a :: r => match r with
    | [] => match a with
      | .lst l => joinD sep l
      | _ => .bad
    | _ :: _ => .bad
noncomputable def upperC (c : Nat) : Nat := if 97 ≤ c ∧ c ≤ 122 then c - 32 else c
noncomputable def indexD (l : List Dat) (a : Dat) : Out Val :=
  if a.fine 20 && l.all (Dat.fine 20) then (match l.findIdx? (fun x => Dat.eq x a) with | some i => .ok (.sh (.int i)) | Option.none => .bad) else .bad
noncomputable def countD (l : List Dat) (a : Dat) : Out Val :=
  if a.fine 20 && l.all (Dat.fine 20) then .ok (.sh (.int (l.countP fun x => Dat.eq x a : Nat))) else .bad
noncomputable def upper1 (x : List Nat) (as : List Dat) : Out Val := match as with
  | [] => if x.all (fun c => c.blt 128) && x.length.ble 1000 then .ok (.sh (.str (x.map upperC))) else .bad
  | _ :: _ => .bad
noncomputable def meOk (m : Me) (d : Dat) : Bool := match m with
  | .index => match d with
    | .lst _ => true
    | _ => false
  | .join => match d with
    | .str _ => true
    | _ => false
  | .upper => match d with
    | .str _ => true
    | _ => false
  | .count => match d with
    | .lst _ => true
    | _ => false
  | .split => false
noncomputable def idx1 (l : List Dat) (as : List Dat) : Out Val := match as with
  | [] => .bad
  | a :: r => match r with
    | [] => indexD l a
    | _ :: _ => .bad
noncomputable def cnt1 (l : List Dat) (as : List Dat) : Out Val := match as with
  | [] => .bad
  | a :: r => match r with
    | [] => countD l a
    | _ :: _ => .bad
noncomputable def meD (m : Me) (d : Dat) (as : List Dat) : Out Val := match m with
  | .index => match d with
    | .lst l => idx1 l as
    | _ => .bad
  | .join => match d with
    | .str x => join1 x as
    | _ => .bad
  | .upper => match d with
    | .str x => upper1 x as
    | _ => .bad
  | .count => match d with
    | .lst l => cnt1 l as
    | _ => .bad
  | .split => .bad
noncomputable def signs (s : List Nat) : List Dat := s.map fun c => Dat.str [c]
noncomputable def itemsV : Val → Out (List Dat)
  | .sh (.lst l) => .ok l
  | .sh (.tup l) => .ok l
  | .sh (.str s) => .ok (signs s)
  | .own l => .ok l
  | .bor l => .ok l
  | _ => .bad
noncomputable def itemsS : Val → Out (List Dat)
  | .sh (.lst l) => .ok l
  | .sh (.tup l) => .ok l
  | .own l => .ok l
  | .bor l => .ok l
  | _ => .bad
noncomputable def itemsL : Val → Out (List Dat)
  | .sh (.lst l) => .ok l
  | .own l => .ok l
  | .bor l => .ok l
  | _ => .bad
noncomputable def rangeL (a : Int) (c : Int) : Nat → List Dat
  | 0 => []
  | n + 1 => Dat.int a :: rangeL (a + c) c n
noncomputable def setAll : List Val → List Nat → List Dat → Option (List Val)
  | ρ,[],[] => some ρ
  | ρ,i :: is,d :: ds => setAll (ρ.set i (.sh d)) is ds
  | _,_,_ => Option.none
noncomputable def bindM (tg : List Nat) (d : Dat) (ρ : List Val) : Out (List Val) := match d with
  | .tup ds => match setAll ρ tg ds with
    | some ρ' => .ok ρ'
    | Option.none => .bad
  | _ => .bad
noncomputable def bindT (tg : List Nat) (d : Dat) (ρ : List Val) : Out (List Val) := match tg with
  | [] => bindM [] d ρ
  | i :: r => match r with
    | [] => .ok (ρ.set i (.sh d))
    | j :: r => bindM (i :: j :: r) d ρ
inductive Fl where | next | ret (v : Val)
noncomputable def retV : Val → Out Val
  | .un => .bad
  | .bor _ => .bad
  | x => .ok x
noncomputable def argV : Val → Out Val
  | .sh d => .ok (.sh d)
  | .own ds => .ok (.sh (.lst ds))
  | .bor ds => .ok (.bor ds)
  | .pr d ds => .ok (.sh (.tup [d,.lst ds]))
  | .shop a b => .ok (.shop a b)
  | .exc c => .ok (.exc c)
  | .un => .bad
noncomputable def stoV : Val → Out Val
  | .sh d => .ok (.sh d)
  | .own ds => .ok (.sh (.lst ds))
  | .pr d ds => .ok (.sh (.tup [d,.lst ds]))
  | .shop a b => .ok (.shop a b)
  | _ => .bad
noncomputable def seq (x : Out (Fl × List Val)) (f : List Val → Out (Fl × List Val)) : Out (Fl × List Val) := x >>= fun r => match r.1 with
  | .next => f r.2
  | .ret v => .ok (.ret v,r.2)
noncomputable def forL (f : List Val → Dat → Out (Fl × List Val)) : List Dat → List Val → Out (Fl × List Val)
  | [],ρ => .ok (.next,ρ)
  | d :: ds,ρ => seq (f ρ d) (forL f ds)
noncomputable def whlL (f : List Val → Out (Option (Fl × List Val))) : Nat → List Val → Out (Fl × List Val)
  | 0,_ => .bad
  | n + 1,ρ => do
    match ← f ρ with
    | Option.none => .ok (.next,ρ)
    | some r => seq (.ok r) (whlL f n)
noncomputable def noX {α : Type} (r : Out α) : Out α := match r with
  | .exn _ => .bad
  | r => r
noncomputable def compL (f : Dat → Out (Option Dat)) : List Dat → Out (List Dat)
  | [] => .ok []
  | d :: ds => do
    match ← f d with
    | Option.none => compL f ds
    | some x => do
      let r ← compL f ds
      .ok (x :: r)
noncomputable def boolD : Val → Out Bool
  | .sh (.bool b) => .ok b
  | _ => .bad
noncomputable def intD : Val → Out Int
  | .sh (.int i) => .ok i
  | _ => .bad
noncomputable def allD : List Val → Out (List Dat)
  | [] => .ok []
  | v :: r => do
    let d ← needD v
    let ds ← allD r
    .ok (d :: ds)
noncomputable def allB : List Val → Out (List Dat)
  | [] => .ok []
  | v :: r => do
    let d ← needB v
    let ds ← allB r
    .ok (d :: ds)
noncomputable def bin2 (o : BOp) (x y : Out Val) : Out Val := x >>= needB >>= fun x => y >>= needB >>= fun y => binD o x y
noncomputable def cmpB (o : COp) (x y : Out Val) : Out Bool := x >>= needB >>= fun x => y >>= needB >>= fun y => cmpD o x y
noncomputable def andB (x y : Out Bool) : Out Bool := x >>= fun b => if b then y else .ok false
noncomputable def orB (x y : Out Bool) : Out Bool := x >>= fun b => if b then .ok true else y
noncomputable def isNV (n : Bool) (x : Val) : Out Bool := match x with
  | .sh d => match d with
    | .none => .ok (!n)
    | _ => .ok n
  | .un => .bad
  | _ => .ok n
noncomputable def idxL (l : List Dat) (k : Int) : Out Val := match posOf k l.length with
  | some j => match l[j]? with
    | some d => .ok (.sh d)
    | Option.none => .bad
  | Option.none => .bad
noncomputable def idxS (l : List Nat) (k : Int) : Out Val := match posOf k l.length with
  | some j => match l[j]? with
    | some d => .ok (.sh (.str [d]))
    | Option.none => .bad
  | Option.none => .bad
noncomputable def idxD (d : Dat) (k : Int) : Out Val := match d with
  | .lst l => idxL l k
  | .tup l => idxL l k
  | .str l => idxS l k
  | _ => .bad
noncomputable def idx2 (x : Val) (k : Int) : Out Val := match x with
  | .pr d l => if k = 0 then .ok (.sh d) else if k = 1 then .ok (.own l) else .bad
  | .sh d => idxD d k
  | .own l => idxL l k
  | .bor l => idxL l k
  | _ => .bad
noncomputable def sl2 (x : Dat) (l h : Option Int) : Out Val := match x with
  | .lst xs => .ok (.own (cut l h xs))
  | .tup xs => .ok (.sh (.tup (cut l h xs)))
  | .str xs => .ok (.sh (.str (cut l h xs)))
  | _ => .bad
noncomputable def mcall1 (Φ : Nat → List Val → Out Val) (f : Nat) (vs : Out (List Val)) (x : Val) : Out Val := match x with
  | .shop x y => vs >>= fun vs => Φ f (.shop x y :: vs)
  | _ => .bad
noncomputable def attr1 (k : Bool) (x : Val) : Out Val := match x with
  | .shop x y => .ok (.sh (.lst (if k then y else x)))
  | _ => .bad
noncomputable def lkI (o : Option Int) : Out Val := match o with
  | some i => .ok (.sh (.int i))
  | Option.none => .bad
noncomputable def lk (k : List (List Nat × Int)) (s : List Nat) : Out Val := lkI (k.lookup s)
noncomputable def dg1 (k : List (List Nat × Int)) (d : Dat) : Out Val := match d with
  | .str s => lk k s
  | _ => .bad
noncomputable def din1 (k : List (List Nat × Int)) (n : Bool) (d : Dat) : Out Bool := match d with
  | .str s => .ok ((k.lookup s).isSome != n)
  | _ => .bad
theorem rngD_ex : ∃ f : Int → Out (List Dat),∀ y,f y = if -(2 ^ 20) ≤ y ∧ y < 2 ^ 20 then .ok (rangeL 0 1 y.toNat) else .bad := ⟨_,fun _ => rfl⟩
noncomputable def rngD : Int → Out (List Dat) := Classical.choose rngD_ex
theorem rngD_eq (y : Int) : rngD y = if -(2 ^ 20) ≤ y ∧ y < 2 ^ 20 then .ok (rangeL 0 1 y.toNat) else .bad := Classical.choose_spec rngD_ex y
theorem rngD2_ex : ∃ f : Int → Int → Out (List Dat),∀ x y,f x y = if 0 ≤ x ∧ x < 2 ^ 20 ∧ -(2 ^ 20) ≤ y ∧ y < 2 ^ 20 then .ok (rangeL x 1 (y - x).toNat) else .bad := ⟨_,fun _ _ => rfl⟩
noncomputable def rngD2 : Int → Int → Out (List Dat) := Classical.choose rngD2_ex
theorem rngD2_eq (x y : Int) : rngD2 x y = if 0 ≤ x ∧ x < 2 ^ 20 ∧ -(2 ^ 20) ≤ y ∧ y < 2 ^ 20 then .ok (rangeL x 1 (y - x).toNat) else .bad := Classical.choose_spec rngD2_ex x y
noncomputable def zipD (x y : List Dat) : List Dat := (x.zip y).map fun p => Dat.tup [p.1,p.2]
noncomputable def srcF1 (x : Val) : Out Val := match x with
  | .sh d => .ok (.sh d)
  | .bor l => .ok (.bor l)
  | _ => .bad
noncomputable def srcE1 (x : Val) : Out Val := match x with
  | .sh d => .ok (.sh d)
  | .own l => .ok (.sh (.lst l))
  | _ => .bad
noncomputable def own1 (x : Val) : Out Val := match x with
  | .own l => .ok (.own l)
  | .sh d => .ok (.sh d)
  | _ => .bad
noncomputable def ownX (f : List Dat → Out (Fl × List Val)) (x : Val) : Out (Fl × List Val) := match x with
  | .own l => f l
  | _ => .bad
noncomputable def asgT1 (is : List Nat) (ρ : List Val) (d : Dat) : Out (Fl × List Val) := match d with
  | .tup ds => match setAll ρ is ds with
    | some ρ' => .ok (.next,ρ')
    | Option.none => .bad
  | _ => .bad
noncomputable def un1 (ρ : List Val) (x : Val) : Out (Fl × List Val) := match x with
  | .un => .bad
  | _ => .ok (.next,ρ)
noncomputable def isiX (t : Ty) (k : Nat) : Out Bool := match t with
  | .exc c => .ok (c.beq k || c.ble 1)
  | _ => .bad
noncomputable def isiH (t : Ty) : Out Bool := match t with
  | .shop => .ok true
  | _ => .bad
noncomputable def needX (x : Val) : Out (Dat ⊕ Option Nat) := match x with
  | .exc k => .ok (.inr (some k))
  | .shop _ _ => .ok (.inr Option.none)
  | x => needB x >>= fun d => .ok (.inl d)
noncomputable def isiY (t : Ty) (y : Dat ⊕ Option Nat) : Out Bool := match y with
  | .inl d => isiD t d
  | .inr (some k) => isiX t k
  | .inr Option.none => isiH t
noncomputable def isiV (t : Ty) (x : Val) : Out Bool := needX x >>= isiY t
noncomputable def plF (f : Fl) : Out Fl := match f with
  | .next => .ok .next
  | .ret (.sh d) => .ok (.ret (.sh d))
  | _ => .bad
noncomputable def tryS (i : Nat) (H : List Val → Out (Fl × List Val)) (ρ : List Val) (r : Out (Fl × List Val)) : Out (Fl × List Val) := match r with
  | .exn c => noX (H ((ρ.map fun _ => Val.un).set i (.exc c))) >>= fun r => plF r.1 >>= fun f => .ok (f,r.2.set i .un)
  | r => r
noncomputable def T.isNil (t : T) : Bool := t.ctorIdx.beq 0
set_option genSizeOf false in
set_option genInjectivity false in
structure Sm where
  e : List Val → Out Val
  l : List Val → Out (List Val)
  i : List Val → Out (List Dat)
  v : List Val → Out Val
  f : List Val → Out (List Dat)
  k : List Val → Out (List Dat)
  x : List Val → Out (Fl × List Val)
noncomputable def bd {α : Type} (_ : List Val) : Out α := .bad
noncomputable def smE (e : List Val → Out Val) : Sm := ⟨e,bd,fun ρ => e ρ >>= argV >>= itemsV,fun ρ => e ρ >>= srcE1,fun ρ => e ρ >>= srcE1 >>= itemsV,fun ρ => e ρ >>= itemsS,bd⟩
noncomputable def smX (x : List Val → Out (Fl × List Val)) : Sm := ⟨bd,bd,bd,bd,bd,bd,x⟩
noncomputable def smI (i f k : List Val → Out (List Dat)) : Sm := ⟨bd,bd,i,bd,f,k,bd⟩
noncomputable def optS (t : T) (C : Sm) (ρ : List Val) : Out (Option Int) := cond t.isNil (.ok Option.none) (C.e ρ >>= intD >>= fun i => .ok (some i))
noncomputable def ifS (t : T) (C : Sm) (ρ : List Val) : Out Bool := cond t.isNil (.ok true) (C.e ρ >>= boolD)
noncomputable def compS (E : Sm) (tg : List Nat) (t : T) (C : Sm) (ρ : List Val) (d : Dat) : Out (Option Dat) :=
  noX (bindT tg d ρ >>= fun ρ' => ifS t C ρ' >>= fun b => if b then E.e ρ' >>= needD >>= fun x => .ok (some x) else .ok Option.none)
noncomputable def rngS (a c : T) (A B : Sm) (ρ : List Val) : Out (List Dat) :=
  cond c.isNil (cond a.isNil (B.e ρ >>= intD >>= rngD) (A.e ρ >>= intD >>= fun x => B.e ρ >>= intD >>= fun y => rngD2 x y)) .bad
noncomputable def zipS (x y : Out Val) : Out (List Dat) := x >>= itemsS >>= fun x => y >>= itemsS >>= fun y => .ok (zipD x y)
noncomputable def forS (tg : List Nat) (B : Sm) (ρ : List Val) (d : Dat) : Out (Fl × List Val) := bindT tg d ρ >>= B.x
noncomputable def whlS (C B : Sm) (ρ : List Val) : Out (Option (Fl × List Val)) := C.e ρ >>= boolD >>= fun x => if x then B.x ρ >>= fun r => .ok (some r) else .ok Option.none
noncomputable def turns : Nat := 1000
noncomputable def evA (Φ : Nat → List Val → Out Val) (t : T) : Sm :=
  T.rec (motive := fun _ => Sm)
    (nil := ⟨bd,fun _ => .ok [],bd,bd,bd,bd,fun ρ => .ok (.next,ρ)⟩)
    (cons := fun _ _ A B => ⟨bd,fun ρ => A.e ρ >>= argV >>= fun x => B.l ρ >>= fun y => .ok (x :: y),bd,bd,bd,bd,fun ρ => seq (A.x ρ) B.x⟩)
    (cN := smE fun _ => .ok (.sh .none))
    (cB := fun b => smE fun _ => .ok (.sh (.bool b)))
    (cI := fun i => smE fun _ => .ok (.sh (.int i)))
    (cS := fun s => smE fun _ => .ok (.sh (.str s)))
    (gI := fun i => smE fun _ => .ok (.sh (.int i)))
    (gS := fun s => smE fun _ => .ok (.sh (.str s)))
    (v := fun i => ⟨fun ρ => rd (ρ.getD i .un),bd,fun ρ => rd (ρ.getD i .un) >>= argV >>= itemsV,fun ρ => srcF1 (ρ.getD i .un),fun ρ => srcF1 (ρ.getD i .un) >>= itemsV,fun ρ => rd (ρ.getD i .un) >>= itemsS,bd⟩)
    (neg := fun _ A => smE fun ρ => A.e ρ >>= intD >>= fun i => .ok (.sh (.int (-i))))
    (bin := fun o _ _ A B => smE fun ρ => bin2 o (A.e ρ) (B.e ρ))
    (cmp := fun o _ _ A B => smE fun ρ => cmpB o (A.e ρ) (B.e ρ) >>= fun r => .ok (.sh (.bool r)))
    (cmp2 := fun o p _ _ _ A B C => smE fun ρ => (A.e ρ >>= needB >>= fun x => B.e ρ >>= needB >>= fun y => cmpD o x y >>= fun r => if r then C.e ρ >>= needB >>= fun z => cmpD p y z else .ok false) >>= fun r => .ok (.sh (.bool r)))
    (isN := fun n _ A => smE fun ρ => A.e ρ >>= isNV n >>= fun r => .ok (.sh (.bool r)))
    (not := fun _ A => smE fun ρ => (A.e ρ >>= boolD >>= fun b => .ok (!b)) >>= fun r => .ok (.sh (.bool r)))
    (and := fun _ _ A B => smE fun ρ => andB (A.e ρ >>= boolD) (B.e ρ >>= boolD) >>= fun r => .ok (.sh (.bool r)))
    (or := fun _ _ A B => smE fun ρ => orB (A.e ρ >>= boolD) (B.e ρ >>= boolD) >>= fun r => .ok (.sh (.bool r)))
    (ite := fun _ _ _ C A B => smE fun ρ => C.e ρ >>= boolD >>= fun x => if x then A.e ρ else B.e ρ)
    (tup := fun _ A => smE fun ρ => A.l ρ >>= allD >>= fun r => .ok (.sh (.tup r)))
    (lst := fun _ A => smE fun ρ => A.l ρ >>= allD >>= fun r => .ok (.own r))
    (idx := fun _ _ A B => smE fun ρ => A.e ρ >>= fun x => B.e ρ >>= intD >>= fun k => idx2 x k)
    (sl := fun _ b c A B C => smE fun ρ => A.e ρ >>= needB >>= fun x => optS b B ρ >>= fun l => optS c C ρ >>= fun h => sl2 x l h)
    (dget := fun k _ A => smE fun ρ => A.e ρ >>= needB >>= dg1 k)
    (din := fun k n _ A => smE fun ρ => A.e ρ >>= needB >>= din1 k n >>= fun r => .ok (.sh (.bool r)))
    (dic := smE fun _ => .ok (.sh .dic))
    (call := fun f _ A => smE fun ρ => A.l ρ >>= Φ f)
    (bi := fun b _ A => smE fun ρ => A.l ρ >>= allB >>= biD b >>= fun d => .ok (.sh d))
    (isi := fun t _ A => smE fun ρ => A.e ρ >>= isiV t >>= fun d => .ok (.sh (.bool d)))
    (mkL := fun _ A => smE fun ρ => A.k ρ >>= fun ds => .ok (.own ds))
    (mkT := fun _ A => smE fun ρ => A.e ρ >>= itemsL >>= fun ds => .ok (.sh (.tup ds)))
    (rng := fun a _ c A B _ => smI (rngS a c A B) (rngS a c A B) (fun ρ => cond (a.isNil && c.isNil) (B.e ρ >>= intD >>= rngD) .bad))
    (zip := fun _ _ A B => smI (fun ρ => zipS (A.e ρ >>= argV) (B.e ρ >>= argV)) (fun ρ => zipS (A.v ρ) (B.v ρ)) bd)
    (rev := fun _ A => smI bd (fun ρ => A.v ρ >>= itemsL >>= fun x => .ok x.reverse) bd)
    (meth := fun m _ _ A B => smE fun ρ => A.e ρ >>= needB >>= fun x => if meOk m x then B.l ρ >>= allB >>= meD m x else .bad)
    (attr := fun k _ A => smE fun ρ => A.e ρ >>= attr1 k)
    (mcall := fun f _ _ A B => smE fun ρ => A.e ρ >>= mcall1 Φ f (B.l ρ))
    (new := fun f _ A => smE fun ρ => A.l ρ >>= fun vs => Φ f (.un :: vs))
    (comp := fun _ tg _ c E I C => smE fun ρ => I.i ρ >>= compL (compS E tg c C ρ) >>= fun r => .ok (.own r))
    (asg := fun i _ A => smX fun ρ => A.e ρ >>= stoV >>= fun x => .ok (.next,ρ.set i x))
    (asgO := fun i _ A => smX fun ρ => A.e ρ >>= own1 >>= fun x => .ok (.next,ρ.set i x))
    (asgT := fun is _ A => smX fun ρ => A.e ρ >>= needD >>= asgT1 is ρ)
    (seti := fun i _ _ K A => smX fun ρ => A.e ρ >>= needD >>= fun d => ownX (fun l => K.e ρ >>= intD >>= fun j => if 0 ≤ j ∧ j < l.length then .ok (.next,ρ.set i (.own (l.set j.toNat d))) else .bad) (ρ.getD i .un))
    (app := fun i _ A => smX fun ρ => ownX (fun l => A.e ρ >>= needD >>= fun d => if l.length < line then .ok (.next,ρ.set i (.own (l ++ [d]))) else .bad) (ρ.getD i .un))
    (rvs := fun i => smX fun ρ => ownX (fun l => .ok (.next,ρ.set i (.own l.reverse))) (ρ.getD i .un))
    (clr := fun i => smX fun ρ => ownX (fun _ => .ok (.next,ρ.set i (.own []))) (ρ.getD i .un))
    (ex := fun _ A => smX fun ρ => A.e ρ >>= un1 ρ)
    (iff := fun _ _ _ C A B => smX fun ρ => C.e ρ >>= boolD >>= fun x => if x then A.x ρ else B.x ρ)
    (for_ := fun tg _ _ I B => smX fun ρ => I.f ρ >>= fun ds => forL (forS tg B) ds ρ)
    (whl := fun _ _ C B => smX fun ρ => whlL (whlS C B) turns ρ)
    (ret := fun _ A => smX fun ρ => A.e ρ >>= retV >>= fun x => .ok (.ret x,ρ))
    (retO := fun i => smX fun ρ => ownX (fun l => .ok (.ret (.own l),ρ)) (ρ.getD i .un))
    (retP := fun _ i A => smX fun ρ => A.e ρ >>= needD >>= fun d => ownX (fun l => .ok (.ret (.pr d l),ρ)) (ρ.getD i .un))
    (frz := fun i => smX fun ρ => ownX (fun l => .ok (.next,ρ.set i (.sh (.lst l)))) (ρ.getD i .un))
    (raise := fun c _ => smX fun _ => .exn c)
    (try_ := fun _ _ i _ B H => smX fun ρ => tryS i H.x ρ (B.x ρ))
    t
section
variable (Φ : Nat → List Val → Out Val) (t : T) (ρ : List Val)
noncomputable def ev : Out Val := (evA Φ t).e ρ
noncomputable def evO : Out (Option Int) := optS t (evA Φ t) ρ
noncomputable def evT : Out (List Val) := (evA Φ t).l ρ
noncomputable def its : Out (List Dat) := (evA Φ t).i ρ
noncomputable def srcV : Out Val := (evA Φ t).v ρ
noncomputable def itsF : Out (List Dat) := (evA Φ t).f ρ
noncomputable def itsK : Out (List Dat) := (evA Φ t).k ρ
noncomputable def ex : Out (Fl × List Val) := (evA Φ t).x ρ
end
set_option genSizeOf false in
set_option genInjectivity false in
structure Fn where
  pars : Nat
  names : Nat
  body : T
  init : Option (Nat × Nat) := Option.none
noncomputable def outOf (r : Fl × List Val) : Val := match r.1 with
  | .ret v => v
  | .next => .sh .none
noncomputable def shop2 (x y : Dat) : Out Val := match x with
  | .lst ns => match y with
    | .lst ps => .ok (.shop ns ps)
    | _ => .bad
  | _ => .bad
noncomputable def shopOf (i j : Nat) (r : Fl × List Val) : Out Val := match r.1 with
  | .next => needD (r.2.getD i .un) >>= fun x => needD (r.2.getD j .un) >>= fun y => shop2 x y
  | .ret _ => .bad
noncomputable def runFn (Φ : Nat → List Val → Out Val) (f : Fn) (as : List Val) : Out Val :=
  if as.length = f.pars then
    match f.init with
    | Option.none => ex Φ f.body (as ++ List.replicate (f.names - f.pars) .un) >>= fun r => .ok (outOf r)
    | some p => ex Φ f.body (as ++ List.replicate (f.names - f.pars) .un) >>= shopOf p.1 p.2
  else .bad
noncomputable def callF (fns : List Fn) : Nat → Nat → List Val → Out Val
  | 0,_,_ => .bad
  | n + 1,f,as => match fns[f]? with
    | some fn => runFn (callF fns n) fn as
    | Option.none => .bad
end Mine
namespace Mine
open PySem
inductive G where
  | fn (i : Nat)
  | cI (i : Int)
  | cS (s : List Nat)
  | dict (k : List (List Nat × Int))
  | cls (f : Nat)
  | meth (f : Nat)
  | exc (c : Nat)
  | bi (v : Value)
  deriving DecidableEq
noncomputable abbrev Nm := List (Str × Nat)
noncomputable abbrev Gs := List (Str × G)
noncomputable def varOf (nm : Nm) (sc : Scope) (x : Str) : Option Nat :=
  match sc.names.lookup x with
  | some .local => nm.lookup x
  | some .cell => nm.lookup x
  | _ => Option.none
noncomputable def globOf (gs : Gs) (sc : Scope) (x : Str) : Option G :=
  match sc.names.lookup x with
  | some .globalImplicit => gs.lookup x
  | _ => Option.none
noncomputable def notDebug (x : Str) : Bool := !(x == ("__debug__" : Str))
noncomputable def bopOf : BOp → Operator
  | .add => .Add
  | .sub => .Sub
  | .mul => .Mult
  | .fdiv => .FloorDiv
  | .mod => .Mod
  | .pow => .Pow
noncomputable def copOf : COp → CmpOp
  | .eq => .Eq
  | .ne => .NotEq
  | .lt => .Lt
  | .le => .LtE
  | .gt => .Gt
  | .ge => .GtE
  | .isin => .In
  | .notin => .NotIn
noncomputable def bopOk (o : BOp) (p : Operator) : Bool := p == bopOf o
noncomputable def copOk (o : COp) (p : CmpOp) : Bool := p == copOf o
noncomputable def biV : BI → Value
  | .len => .builtin "len"
  | .int => .type "int"
  | .str => .type "str"
  | .min => .builtin "min"
  | .max => .builtin "max"
  | .sum => .builtin "sum"
  | .abs => .builtin "abs"
noncomputable def tyG : Ty → G
  | .int => .bi (.type "int")
  | .bool => .bi (.type "bool")
  | .str => .bi (.type "str")
  | .list => .bi (.type "list")
  | .tuple => .bi (.type "tuple")
  | .shop => .cls 0
  | .exc c => .exc c
noncomputable def isCls (g : Option G) : Bool := match g with
  | some g => match g with
    | .cls _ => true
    | _ => false
  | none => false
noncomputable def tyOk (t : Ty) (g : Option G) : Bool := match t with
  | .shop => isCls g
  | t => g == some (tyG t)
noncomputable def meN : Me → Str
  | .index => "index"
  | .join => "join"
  | .split => "split"
  | .upper => "upper"
  | .count => "count"
noncomputable def attrN : Bool → Str
  | false => "names"
  | true => "prices"
noncomputable def onBoolOp (e : Expr) (k : BoolOp → List Expr → Pos → Bool) : Bool := dite (e.ctorIdx = 0) (fun h => @Expr.BoolOp.elim (fun _ => Bool) e h k) fun _ => false
theorem onBoolOp_inv {P : Prop} {e : Expr} {k : BoolOp → List Expr → Pos → Bool} (h : onBoolOp e k = true) (f : ∀ a0 a1 a2,e = .BoolOp a0 a1 a2 → k a0 a1 a2 = true → P) : P :=
  if q : e.ctorIdx = 0 then @Expr.BoolOp.elim (fun x => e = x → onBoolOp x k = true → P) e q f rfl h else (Bool.false_ne_true ((dif_neg q).symm.trans h)).elim
noncomputable def onBinOp (e : Expr) (k : Expr → Operator → Expr → Pos → Bool) : Bool := dite (e.ctorIdx = 2) (fun h => @Expr.BinOp.elim (fun _ => Bool) e h k) fun _ => false
theorem onBinOp_inv {P : Prop} {e : Expr} {k : Expr → Operator → Expr → Pos → Bool} (h : onBinOp e k = true) (f : ∀ a0 a1 a2 a3,e = .BinOp a0 a1 a2 a3 → k a0 a1 a2 a3 = true → P) : P :=
  if q : e.ctorIdx = 2 then @Expr.BinOp.elim (fun x => e = x → onBinOp x k = true → P) e q f rfl h else (Bool.false_ne_true ((dif_neg q).symm.trans h)).elim
noncomputable def onUnaryOp (e : Expr) (k : UnaryOp → Expr → Pos → Bool) : Bool := dite (e.ctorIdx = 3) (fun h => @Expr.UnaryOp.elim (fun _ => Bool) e h k) fun _ => false
theorem onUnaryOp_inv {P : Prop} {e : Expr} {k : UnaryOp → Expr → Pos → Bool} (h : onUnaryOp e k = true) (f : ∀ a0 a1 a2,e = .UnaryOp a0 a1 a2 → k a0 a1 a2 = true → P) : P :=
  if q : e.ctorIdx = 3 then @Expr.UnaryOp.elim (fun x => e = x → onUnaryOp x k = true → P) e q f rfl h else (Bool.false_ne_true ((dif_neg q).symm.trans h)).elim
noncomputable def onIfExp (e : Expr) (k : Expr → Expr → Expr → Pos → Bool) : Bool := dite (e.ctorIdx = 5) (fun h => @Expr.IfExp.elim (fun _ => Bool) e h k) fun _ => false
theorem onIfExp_inv {P : Prop} {e : Expr} {k : Expr → Expr → Expr → Pos → Bool} (h : onIfExp e k = true) (f : ∀ a0 a1 a2 a3,e = .IfExp a0 a1 a2 a3 → k a0 a1 a2 a3 = true → P) : P :=
  if q : e.ctorIdx = 5 then @Expr.IfExp.elim (fun x => e = x → onIfExp x k = true → P) e q f rfl h else (Bool.false_ne_true ((dif_neg q).symm.trans h)).elim
noncomputable def onDict (e : Expr) (k : List (Option Expr) → List Expr → Pos → Bool) : Bool := dite (e.ctorIdx = 6) (fun h => @Expr.Dict.elim (fun _ => Bool) e h k) fun _ => false
theorem onDict_inv {P : Prop} {e : Expr} {k : List (Option Expr) → List Expr → Pos → Bool} (h : onDict e k = true) (f : ∀ a0 a1 a2,e = .Dict a0 a1 a2 → k a0 a1 a2 = true → P) : P :=
  if q : e.ctorIdx = 6 then @Expr.Dict.elim (fun x => e = x → onDict x k = true → P) e q f rfl h else (Bool.false_ne_true ((dif_neg q).symm.trans h)).elim
noncomputable def onListComp (e : Expr) (k : Expr → List Comprehension → Scope → Pos → Bool) : Bool := dite (e.ctorIdx = 8) (fun h => @Expr.ListComp.elim (fun _ => Bool) e h k) fun _ => false
theorem onListComp_inv {P : Prop} {e : Expr} {k : Expr → List Comprehension → Scope → Pos → Bool} (h : onListComp e k = true) (f : ∀ a0 a1 a2 a3,e = .ListComp a0 a1 a2 a3 → k a0 a1 a2 a3 = true → P) : P :=
  if q : e.ctorIdx = 8 then @Expr.ListComp.elim (fun x => e = x → onListComp x k = true → P) e q f rfl h else (Bool.false_ne_true ((dif_neg q).symm.trans h)).elim
noncomputable def onCompare (e : Expr) (k : Expr → List CmpOp → List Expr → Pos → Bool) : Bool := dite (e.ctorIdx = 15) (fun h => @Expr.Compare.elim (fun _ => Bool) e h k) fun _ => false
theorem onCompare_inv {P : Prop} {e : Expr} {k : Expr → List CmpOp → List Expr → Pos → Bool} (h : onCompare e k = true) (f : ∀ a0 a1 a2 a3,e = .Compare a0 a1 a2 a3 → k a0 a1 a2 a3 = true → P) : P :=
  if q : e.ctorIdx = 15 then @Expr.Compare.elim (fun x => e = x → onCompare x k = true → P) e q f rfl h else (Bool.false_ne_true ((dif_neg q).symm.trans h)).elim
noncomputable def onCall (e : Expr) (k : Expr → List Expr → List Keyword → Pos → Bool) : Bool := dite (e.ctorIdx = 16) (fun h => @Expr.Call.elim (fun _ => Bool) e h k) fun _ => false
theorem onCall_inv {P : Prop} {e : Expr} {k : Expr → List Expr → List Keyword → Pos → Bool} (h : onCall e k = true) (f : ∀ a0 a1 a2 a3,e = .Call a0 a1 a2 a3 → k a0 a1 a2 a3 = true → P) : P :=
  if q : e.ctorIdx = 16 then @Expr.Call.elim (fun x => e = x → onCall x k = true → P) e q f rfl h else (Bool.false_ne_true ((dif_neg q).symm.trans h)).elim
noncomputable def onConstant (e : Expr) (k : Const → Nat → Pos → Bool) : Bool := dite (e.ctorIdx = 19) (fun h => @Expr.Constant.elim (fun _ => Bool) e h k) fun _ => false
theorem onConstant_inv {P : Prop} {e : Expr} {k : Const → Nat → Pos → Bool} (h : onConstant e k = true) (f : ∀ a0 a1 a2,e = .Constant a0 a1 a2 → k a0 a1 a2 = true → P) : P :=
  if q : e.ctorIdx = 19 then @Expr.Constant.elim (fun x => e = x → onConstant x k = true → P) e q f rfl h else (Bool.false_ne_true ((dif_neg q).symm.trans h)).elim
noncomputable def onAttribute (e : Expr) (k : Expr → Str → Pos → Bool) : Bool := dite (e.ctorIdx = 20) (fun h => @Expr.Attribute.elim (fun _ => Bool) e h k) fun _ => false
theorem onAttribute_inv {P : Prop} {e : Expr} {k : Expr → Str → Pos → Bool} (h : onAttribute e k = true) (f : ∀ a0 a1 a2,e = .Attribute a0 a1 a2 → k a0 a1 a2 = true → P) : P :=
  if q : e.ctorIdx = 20 then @Expr.Attribute.elim (fun x => e = x → onAttribute x k = true → P) e q f rfl h else (Bool.false_ne_true ((dif_neg q).symm.trans h)).elim
noncomputable def onSubscript (e : Expr) (k : Expr → Expr → Pos → Bool) : Bool := dite (e.ctorIdx = 21) (fun h => @Expr.Subscript.elim (fun _ => Bool) e h k) fun _ => false
theorem onSubscript_inv {P : Prop} {e : Expr} {k : Expr → Expr → Pos → Bool} (h : onSubscript e k = true) (f : ∀ a0 a1 a2,e = .Subscript a0 a1 a2 → k a0 a1 a2 = true → P) : P :=
  if q : e.ctorIdx = 21 then @Expr.Subscript.elim (fun x => e = x → onSubscript x k = true → P) e q f rfl h else (Bool.false_ne_true ((dif_neg q).symm.trans h)).elim
noncomputable def onName (e : Expr) (k : Str → Pos → Bool) : Bool := dite (e.ctorIdx = 23) (fun h => @Expr.Name.elim (fun _ => Bool) e h k) fun _ => false
theorem onName_inv {P : Prop} {e : Expr} {k : Str → Pos → Bool} (h : onName e k = true) (f : ∀ a0 a1,e = .Name a0 a1 → k a0 a1 = true → P) : P :=
  if q : e.ctorIdx = 23 then @Expr.Name.elim (fun x => e = x → onName x k = true → P) e q f rfl h else (Bool.false_ne_true ((dif_neg q).symm.trans h)).elim
noncomputable def onList (e : Expr) (k : List Expr → Pos → Bool) : Bool := dite (e.ctorIdx = 24) (fun h => @Expr.List.elim (fun _ => Bool) e h k) fun _ => false
theorem onList_inv {P : Prop} {e : Expr} {k : List Expr → Pos → Bool} (h : onList e k = true) (f : ∀ a0 a1,e = .List a0 a1 → k a0 a1 = true → P) : P :=
  if q : e.ctorIdx = 24 then @Expr.List.elim (fun x => e = x → onList x k = true → P) e q f rfl h else (Bool.false_ne_true ((dif_neg q).symm.trans h)).elim
noncomputable def onTuple (e : Expr) (k : List Expr → Nat → Pos → Bool) : Bool := dite (e.ctorIdx = 25) (fun h => @Expr.Tuple.elim (fun _ => Bool) e h k) fun _ => false
theorem onTuple_inv {P : Prop} {e : Expr} {k : List Expr → Nat → Pos → Bool} (h : onTuple e k = true) (f : ∀ a0 a1 a2,e = .Tuple a0 a1 a2 → k a0 a1 a2 = true → P) : P :=
  if q : e.ctorIdx = 25 then @Expr.Tuple.elim (fun x => e = x → onTuple x k = true → P) e q f rfl h else (Bool.false_ne_true ((dif_neg q).symm.trans h)).elim
noncomputable def onSlice (e : Expr) (k : Option Expr → Option Expr → Option Expr → Pos → Bool) : Bool := dite (e.ctorIdx = 26) (fun h => @Expr.Slice.elim (fun _ => Bool) e h k) fun _ => false
theorem onSlice_inv {P : Prop} {e : Expr} {k : Option Expr → Option Expr → Option Expr → Pos → Bool} (h : onSlice e k = true) (f : ∀ a0 a1 a2 a3,e = .Slice a0 a1 a2 a3 → k a0 a1 a2 a3 = true → P) : P :=
  if q : e.ctorIdx = 26 then @Expr.Slice.elim (fun x => e = x → onSlice x k = true → P) e q f rfl h else (Bool.false_ne_true ((dif_neg q).symm.trans h)).elim
noncomputable def onSReturn (e : Stmt) (k : Option Expr → Pos → Bool) : Bool := dite (e.ctorIdx = 3) (fun h => @Stmt.Return.elim (fun _ => Bool) e h k) fun _ => false
theorem onSReturn_inv {P : Prop} {e : Stmt} {k : Option Expr → Pos → Bool} (h : onSReturn e k = true) (f : ∀ a0 a1,e = .Return a0 a1 → k a0 a1 = true → P) : P :=
  if q : e.ctorIdx = 3 then @Stmt.Return.elim (fun x => e = x → onSReturn x k = true → P) e q f rfl h else (Bool.false_ne_true ((dif_neg q).symm.trans h)).elim
noncomputable def onSAssign (e : Stmt) (k : List Expr → Expr → Pos → Bool) : Bool := dite (e.ctorIdx = 5) (fun h => @Stmt.Assign.elim (fun _ => Bool) e h k) fun _ => false
theorem onSAssign_inv {P : Prop} {e : Stmt} {k : List Expr → Expr → Pos → Bool} (h : onSAssign e k = true) (f : ∀ a0 a1 a2,e = .Assign a0 a1 a2 → k a0 a1 a2 = true → P) : P :=
  if q : e.ctorIdx = 5 then @Stmt.Assign.elim (fun x => e = x → onSAssign x k = true → P) e q f rfl h else (Bool.false_ne_true ((dif_neg q).symm.trans h)).elim
noncomputable def onSFor (e : Stmt) (k : Expr → Expr → List Stmt → List Stmt → Pos → Bool) : Bool := dite (e.ctorIdx = 9) (fun h => @Stmt.For.elim (fun _ => Bool) e h k) fun _ => false
theorem onSFor_inv {P : Prop} {e : Stmt} {k : Expr → Expr → List Stmt → List Stmt → Pos → Bool} (h : onSFor e k = true) (f : ∀ a0 a1 a2 a3 a4,e = .For a0 a1 a2 a3 a4 → k a0 a1 a2 a3 a4 = true → P) : P :=
  if q : e.ctorIdx = 9 then @Stmt.For.elim (fun x => e = x → onSFor x k = true → P) e q f rfl h else (Bool.false_ne_true ((dif_neg q).symm.trans h)).elim
noncomputable def onSWhile (e : Stmt) (k : Expr → List Stmt → List Stmt → Pos → Bool) : Bool := dite (e.ctorIdx = 11) (fun h => @Stmt.While.elim (fun _ => Bool) e h k) fun _ => false
theorem onSWhile_inv {P : Prop} {e : Stmt} {k : Expr → List Stmt → List Stmt → Pos → Bool} (h : onSWhile e k = true) (f : ∀ a0 a1 a2 a3,e = .While a0 a1 a2 a3 → k a0 a1 a2 a3 = true → P) : P :=
  if q : e.ctorIdx = 11 then @Stmt.While.elim (fun x => e = x → onSWhile x k = true → P) e q f rfl h else (Bool.false_ne_true ((dif_neg q).symm.trans h)).elim
noncomputable def onSIf (e : Stmt) (k : Expr → List Stmt → List Stmt → Pos → Bool) : Bool := dite (e.ctorIdx = 12) (fun h => @Stmt.If.elim (fun _ => Bool) e h k) fun _ => false
theorem onSIf_inv {P : Prop} {e : Stmt} {k : Expr → List Stmt → List Stmt → Pos → Bool} (h : onSIf e k = true) (f : ∀ a0 a1 a2 a3,e = .If a0 a1 a2 a3 → k a0 a1 a2 a3 = true → P) : P :=
  if q : e.ctorIdx = 12 then @Stmt.If.elim (fun x => e = x → onSIf x k = true → P) e q f rfl h else (Bool.false_ne_true ((dif_neg q).symm.trans h)).elim
noncomputable def onSExpr (e : Stmt) (k : Expr → Pos → Bool) : Bool := dite (e.ctorIdx = 24) (fun h => @Stmt.Expr.elim (fun _ => Bool) e h k) fun _ => false
theorem onSExpr_inv {P : Prop} {e : Stmt} {k : Expr → Pos → Bool} (h : onSExpr e k = true) (f : ∀ a0 a1,e = .Expr a0 a1 → k a0 a1 = true → P) : P :=
  if q : e.ctorIdx = 24 then @Stmt.Expr.elim (fun x => e = x → onSExpr x k = true → P) e q f rfl h else (Bool.false_ne_true ((dif_neg q).symm.trans h)).elim
noncomputable def onSRaise (e : Stmt) (k : Option Expr → Option Expr → Pos → Bool) : Bool := dite (e.ctorIdx = 16) (fun h => @Stmt.Raise.elim (fun _ => Bool) e h k) fun _ => false
theorem onSRaise_inv {P : Prop} {e : Stmt} {k : Option Expr → Option Expr → Pos → Bool} (h : onSRaise e k = true) (f : ∀ a0 a1 a2,e = .Raise a0 a1 a2 → k a0 a1 a2 = true → P) : P :=
  if q : e.ctorIdx = 16 then @Stmt.Raise.elim (fun x => e = x → onSRaise x k = true → P) e q f rfl h else (Bool.false_ne_true ((dif_neg q).symm.trans h)).elim
noncomputable def onSTry (e : Stmt) (k : List Stmt → List ExceptHandler → List Stmt → List Stmt → Pos → Bool) : Bool := dite (e.ctorIdx = 17) (fun h => @Stmt.Try.elim (fun _ => Bool) e h k) fun _ => false
theorem onSTry_inv {P : Prop} {e : Stmt} {k : List Stmt → List ExceptHandler → List Stmt → List Stmt → Pos → Bool} (h : onSTry e k = true) (f : ∀ a0 a1 a2 a3 a4,e = .Try a0 a1 a2 a3 a4 → k a0 a1 a2 a3 a4 = true → P) : P :=
  if q : e.ctorIdx = 17 then @Stmt.Try.elim (fun x => e = x → onSTry x k = true → P) e q f rfl h else (Bool.false_ne_true ((dif_neg q).symm.trans h)).elim
noncomputable def onCbool (e : Const) (k : Bool → Bool) : Bool := dite (e.ctorIdx = 1) (fun h => @Const.bool.elim (fun _ => Bool) e h k) fun _ => false
theorem onCbool_inv {P : Prop} {e : Const} {k : Bool → Bool} (h : onCbool e k = true) (f : ∀ a0,e = .bool a0 → k a0 = true → P) : P :=
  if q : e.ctorIdx = 1 then @Const.bool.elim (fun x => e = x → onCbool x k = true → P) e q f rfl h else (Bool.false_ne_true ((dif_neg q).symm.trans h)).elim
noncomputable def onCint (e : Const) (k : Int → Bool) : Bool := dite (e.ctorIdx = 2) (fun h => @Const.int.elim (fun _ => Bool) e h k) fun _ => false
theorem onCint_inv {P : Prop} {e : Const} {k : Int → Bool} (h : onCint e k = true) (f : ∀ a0,e = .int a0 → k a0 = true → P) : P :=
  if q : e.ctorIdx = 2 then @Const.int.elim (fun x => e = x → onCint x k = true → P) e q f rfl h else (Bool.false_ne_true ((dif_neg q).symm.trans h)).elim
noncomputable def onCstr (e : Const) (k : Str → Bool) : Bool := dite (e.ctorIdx = 5) (fun h => @Const.str.elim (fun _ => Bool) e h k) fun _ => false
theorem onCstr_inv {P : Prop} {e : Const} {k : Str → Bool} (h : onCstr e k = true) (f : ∀ a0,e = .str a0 → k a0 = true → P) : P :=
  if q : e.ctorIdx = 5 then @Const.str.elim (fun x => e = x → onCstr x k = true → P) e q f rfl h else (Bool.false_ne_true ((dif_neg q).symm.trans h)).elim
noncomputable def isCNone (e : Const) : Bool := e.ctorIdx.beq 0
noncomputable def notSet (e : Expr) : Bool := !(e.ctorIdx.beq 7)
noncomputable def notComp (e : Expr) : Bool := !(e.ctorIdx.beq 8 || e.ctorIdx.beq 9 || e.ctorIdx.beq 10)
noncomputable def notSlice (e : Expr) : Bool := !(e.ctorIdx.beq 26)
noncomputable def notStar (e : Expr) : Bool := !(e.ctorIdx.beq 22)
noncomputable def notCall (e : Expr) : Bool := !(e.ctorIdx.beq 16)
noncomputable def onCons {α : Type} (l : List α) (k : α → List α → Bool) : Bool := List.casesOn (motive := fun _ => Bool) l false k
theorem onCons_inv {P : Prop} {α : Type} {l : List α} {k : α → List α → Bool} (h : onCons l k = true) (f : ∀ a r,l = a :: r → k a r = true → P) : P :=
  @List.casesOn α (fun x => l = x → onCons x k = true → P) l (fun _ h => (Bool.false_ne_true h).elim) f rfl h
theorem and_inv {a b : Bool} (h : (a && b) = true) : a = true ∧ b = true := by
  cases a
  · exact (Bool.false_ne_true h).elim
  · exact ⟨rfl,h⟩
theorem nil_inv {α : Type} {l : List α} (h : l.isEmpty = true) : l = [] := by
  cases l with
  | nil => rfl
  | cons a r => exact (Bool.false_ne_true h).elim
noncomputable def on1L {α : Type} (l : List α) (k : α → Bool) : Bool := onCons l fun a r => r.isEmpty && k a
noncomputable def on2L {α : Type} (l : List α) (k : α → α → Bool) : Bool := onCons l fun a r => on1L r (k a)
theorem on1L_inv {P : Prop} {α : Type} {l : List α} {k : α → Bool} (h : on1L l k = true) (f : ∀ a,l = [a] → k a = true → P) : P :=
  onCons_inv h fun a _ e g => f a (nil_inv (and_inv g).1 ▸ e) (and_inv g).2
theorem on2L_inv {P : Prop} {α : Type} {l : List α} {k : α → α → Bool} (h : on2L l k = true) (f : ∀ a b,l = [a,b] → k a b = true → P) : P :=
  onCons_inv h fun a _ e g => on1L_inv g fun b e' g => f a b (e' ▸ e) g
noncomputable def onSome {α : Type} (o : Option α) (k : α → Bool) : Bool := Option.casesOn (motive := fun _ => Bool) o false k
theorem onSome_inv {P : Prop} {α : Type} {o : Option α} {k : α → Bool} (h : onSome o k = true) (f : ∀ a,o = some a → k a = true → P) : P :=
  @Option.casesOn α (fun x => o = x → onSome x k = true → P) o (fun _ h => (Bool.false_ne_true h).elim) f rfl h
noncomputable def onCallN (e : Expr) (k : Str → List Expr → Bool) : Bool := onCall e fun f es ks _ => ks.isEmpty && onName f fun x _ => notDebug x && k x es
theorem onCallN_inv {P : Prop} {e : Expr} {k : Str → List Expr → Bool} (h : onCallN e k = true) (f : ∀ x p es q,e = .Call (.Name x p) es [] q → notDebug x = true → k x es = true → P) : P :=
  onCall_inv h fun _ es _ q he g => onName_inv (and_inv g).2 fun x p hx g' => f x p es q (hx ▸ nil_inv (and_inv g).1 ▸ he) (and_inv g').1 (and_inv g').2
noncomputable def onCallA (e : Expr) (k : Expr → Str → List Expr → Bool) : Bool := onCall e fun f es ks q => ks.isEmpty && onAttribute f fun o n p => p.endLine == q.line && k o n es
theorem onCallA_inv {P : Prop} {e : Expr} {k : Expr → Str → List Expr → Bool} (h : onCallA e k = true) (f : ∀ o n p es q,e = .Call (.Attribute o n p) es [] q → (p.endLine == q.line) = true → k o n es = true → P) : P :=
  onCall_inv h fun _ es _ q he g => onAttribute_inv (and_inv g).2 fun o n p hx g' => f o n p es q (hx ▸ nil_inv (and_inv g).1 ▸ he) (and_inv g').1 (and_inv g').2
noncomputable def onCmp1 (e : Expr) (k : Expr → CmpOp → Expr → Bool) : Bool := onCompare e fun l ops rs _ => on1L ops fun op => on1L rs fun r => k l op r
theorem onCmp1_inv {P : Prop} {e : Expr} {k : Expr → CmpOp → Expr → Bool} (h : onCmp1 e k = true) (f : ∀ l op r p,e = .Compare l [op] [r] p → k l op r = true → P) : P :=
  onCompare_inv h fun l _ _ p he g => on1L_inv g fun op ho g => on1L_inv g fun r hr g => f l op r p (hr ▸ ho ▸ he) g
noncomputable def relabS (sc outer : Scope) : Scope :=
  { sc with names := sc.names.map fun (n,k) => if (k == .free && outer.kind == .function && outer.names.lookup n == some .cell) then (n,.cell) else (n,k) }
noncomputable def tgNames : List Expr → List Str → Bool
  | [],xs => xs.isEmpty
  | e :: r,xs => onName e fun x _ => onCons xs fun y ys => x == y && tgNames r ys
noncomputable def tgtOk (e : Expr) (xs : List Str) : Bool := match xs with
  | [] => false
  | x :: r => match r with
    | [] => onName e fun y _ => y == x
    | _ :: _ => onTuple e fun es _ _ => tgNames es xs
noncomputable def nmRead (e : Expr) : List Str := @Expr.casesOn (fun _ => List Str) e (fun _ _ _ => []) (fun _ _ _ => []) (fun _ _ _ _ => []) (fun _ _ _ => []) (fun _ _ _ _ => []) (fun _ _ _ _ => []) (fun _ _ _ => []) (fun _ _ _ => []) (fun _ _ _ _ => []) (fun _ _ _ _ => []) (fun _ _ _ _ _ => []) (fun _ _ _ _ => []) (fun _ _ => []) (fun _ _ => []) (fun _ _ => []) (fun _ _ _ _ => []) (fun _ _ _ _ => []) (fun _ _ _ _ => []) (fun _ _ => []) (fun _ _ _ => []) (fun _ _ _ => []) (fun _ _ _ => []) (fun _ _ => []) (fun x _ => [x]) (fun _ _ => []) (fun _ _ _ => []) (fun _ _ _ _ => [])
noncomputable def tgRead (e : Expr) : List Str := @Expr.casesOn (fun _ => List Str) e (fun _ _ _ => []) (fun _ _ _ => []) (fun _ _ _ _ => []) (fun _ _ _ => []) (fun _ _ _ _ => []) (fun _ _ _ _ => []) (fun _ _ _ => []) (fun _ _ _ => []) (fun _ _ _ _ => []) (fun _ _ _ _ => []) (fun _ _ _ _ _ => []) (fun _ _ _ _ => []) (fun _ _ => []) (fun _ _ => []) (fun _ _ => []) (fun _ _ _ _ => []) (fun _ _ _ _ => []) (fun _ _ _ _ => []) (fun _ _ => []) (fun _ _ _ => []) (fun _ _ _ => []) (fun _ _ _ => []) (fun _ _ => []) (fun x _ => [x]) (fun _ _ => []) (fun es _ _ => es.flatMap nmRead) (fun _ _ _ _ => [])
noncomputable def keepNm (sc : Scope) (nm : Nm) : Nm := nm.filter fun p => sc.names.lookup p.1 == some .cell
noncomputable def allLoc (sc : Scope) (xs : List Str) : Bool := xs.all fun x => sc.names.lookup x == some .local && notDebug x
noncomputable def tgVars (nm : Nm) (sc : Scope) (xs : List Str) (is : List Nat) : Bool := xs.length == is.length && (xs.zip is).all fun p => varOf nm sc p.1 == some p.2 && notDebug p.1
set_option genSizeOf false in
set_option genInjectivity false in
structure Ck where
  e : Nm → Scope → Expr → Bool
  l : Nm → Scope → List Expr → Bool
  i : Nm → Scope → Expr → Bool
  s : Nm → Scope → Stmt → Bool
  b : Nm → Scope → List Stmt → Bool
noncomputable def T.isZip (t : T) : Bool := t.ctorIdx.beq 31
noncomputable def T.isComp (t : T) : Bool := t.ctorIdx.beq 37
noncomputable def quietS : Str := "%quiet"
noncomputable def loud (nm : Nm) : Bool := (nm.lookup quietS).isNone
noncomputable def quietNm (nm : Nm) : Nm := nm ++ [(quietS,1000)]
noncomputable def quietOk (nm : Nm) (sc : Scope) : Bool := (sc.names.lookup quietS).isNone && nm.all fun p => p.2.blt 1000
noncomputable def quietFn (f : Nat) : Bool := f.beq 63 || f.beq 73
noncomputable def quietBi (b : BI) : Bool := b.ctorIdx.ble 2
noncomputable def no3 {α : Type} (_ : Nm) (_ : Scope) (_ : α) : Bool := false
noncomputable def ckE (e : Nm → Scope → Expr → Bool) : Ck := ⟨e,no3,e,no3,no3⟩
noncomputable def ckI (i : Nm → Scope → Expr → Bool) : Ck := ⟨no3,no3,i,no3,no3⟩
noncomputable def ckX (s : Nm → Scope → Stmt → Bool) : Ck := ⟨no3,no3,no3,s,no3⟩
noncomputable def ckOpt (t : T) (C : Ck) (nm : Nm) (sc : Scope) (o : Option Expr) : Bool := Option.casesOn (motive := fun _ => Bool) o t.isNil fun x => !t.isNil && C.e nm sc x
noncomputable def boolRest (op : BoolOp) (y : Expr) (r : List Expr) (p : Pos) : Expr := List.casesOn (motive := fun _ => Expr) r y fun z r => .BoolOp op (y :: z :: r) p
noncomputable def ckBool (op : BoolOp) (A B : Ck) : Ck := ckE fun nm sc e => onBoolOp e fun o vs p => o == op && onCons vs fun x r => onCons r fun y r => A.e nm sc x && B.e nm sc (boolRest op y r p)
noncomputable def ckN (gs : Gs) (g : G) (sc : Scope) (x : Str) : Bool := globOf gs sc x == some g
noncomputable def scOk (sc cs : Scope) : Bool := cs.kind == .function && cs.names.all (fun p => p.2 != .cell) && cs.names.all (fun p => p.2 != .local || cs.names.lookup p.1 == some .local) &&
  (cs.names.all fun p => p.2 != .free || (sc.kind == .function && sc.names.lookup p.1 == some .cell))
noncomputable def tgOk (nm : Nm) (sc : Scope) (xs : List Str) (tg : List Nat) : Bool := allLoc sc xs && decide xs.Nodup && decide tg.Nodup && xs.length == tg.length && tg.all (fun i => (nm.all fun p => p.2 != i))
noncomputable def ckIfs (t : T) (C : Ck) (nm : Nm) (sc : Scope) (ifs : List Expr) : Bool := List.casesOn (motive := fun _ => Bool) ifs t.isNil fun e r => r.isEmpty && !t.isNil && C.e nm sc e
noncomputable def ckComp (it c : T) (E : Ck) (tg : List Nat) (I C : Ck) (nm : Nm) (sc : Scope) (x : Expr) (target iter : Expr) (ifs : List Expr) (cs : Scope) (xs : List Str) : Bool :=
  notSet iter && (!it.isZip || tg.length == 2) && I.i nm sc iter && scOk sc cs && tgtOk target xs && tgOk nm (relabS cs sc) xs tg &&
    E.e (xs.zip tg ++ keepNm (relabS cs sc) nm) (relabS cs sc) x && ckIfs c C (xs.zip tg ++ keepNm (relabS cs sc) nm) (relabS cs sc) ifs
noncomputable def ckRng (gs : Gs) (a c : T) (A B : Ck) : Ck := ckI (fun nm sc e => loud nm && onCallN e fun x es => ckN gs (.bi (.type "range")) sc x && c.isNil && onCons es fun y r => notStar y &&
  List.casesOn (motive := fun _ => Bool) r (a.isNil && B.e nm sc y) fun z r => r.isEmpty && !a.isNil && notStar z && A.e nm sc y && B.e nm sc z)
noncomputable def ckOwn (nm : Nm) (sc : Scope) (i : Nat) (m : Str) (e : Expr) (k : List Expr → Bool) : Bool := onCallA e fun o n es => n == m && onName o fun x _ => notDebug x && varOf nm sc x == some i && k es
noncomputable def isStrC (m : List Nat) (e : Expr) : Bool := onConstant e fun c _ _ => onCstr c fun x => x.cps.toList == m && x.cps.all (· < 0x110000) && decide (x.length ≤ line)
noncomputable def onHandler (h : ExceptHandler) (k : Option Expr → Option Str → List Stmt → Bool) : Bool := match h with
  | .ExceptHandler t n b _ => k t n b
noncomputable def ckA (gs : Gs) (t : T) : Ck :=
  T.rec (motive := fun _ => Ck)
    (nil := ⟨no3,fun _ _ es => es.isEmpty,no3,no3,fun _ _ ss => ss.isEmpty⟩)
    (cons := fun _ _ A B => ⟨no3,fun nm sc es => onCons es fun x r => notStar x && A.e nm sc x && B.l nm sc r,no3,no3,fun nm sc ss => onCons ss fun s r => A.s nm sc s && B.b nm sc r⟩)
    (cN := ckE fun _ _ e => onConstant e fun c _ _ => isCNone c)
    (cB := fun b => ckE fun _ _ e => onConstant e fun c _ _ => onCbool c fun x => x == b)
    (cI := fun i => ckE fun _ _ e => onConstant e fun c _ _ => onCint c fun x => x == i)
    (cS := fun s => ckE fun _ _ e => onConstant e fun c _ _ => onCstr c fun x => x.cps.toList == s && x.cps.all (· < 0x110000) && decide (x.length ≤ line))
    (gI := fun i => ckE fun _ sc e => onName e fun x _ => notDebug x && ckN gs (.cI i) sc x)
    (gS := fun s => ckE fun _ sc e => onName e fun x _ => notDebug x && ckN gs (.cS s) sc x)
    (v := fun i => ckE fun nm sc e => onName e fun x _ => notDebug x && varOf nm sc x == some i)
    (neg := fun _ A => ckE fun nm sc e => onUnaryOp e fun o x _ => o == .USub && A.e nm sc x)
    (bin := fun o _ _ A B => ckE fun nm sc e => onBinOp e fun l op r _ => bopOk o op && A.e nm sc l && B.e nm sc r)
    (cmp := fun o _ _ A B => ckE fun nm sc e => onCmp1 e fun l op r => copOk o op && notSet r && A.e nm sc l && B.e nm sc r)
    (cmp2 := fun o p _ _ _ A B C => ckE fun nm sc e => onCompare e fun l ops rs _ => on2L ops fun op oq => on2L rs fun r z => copOk o op && copOk p oq && notSet r && notSet z && A.e nm sc l && B.e nm sc r && C.e nm sc z)
    (isN := fun n _ A => ckE fun nm sc e => onCmp1 e fun l op r => op == cond n .IsNot .Is && (onConstant r fun c _ _ => isCNone c) && A.e nm sc l)
    (not := fun _ A => ckE fun nm sc e => onUnaryOp e fun o x _ => o == .Not && A.e nm sc x)
    (and := fun _ _ A B => ckBool .And A B)
    (or := fun _ _ A B => ckBool .Or A B)
    (ite := fun _ _ _ C A B => ckE fun nm sc e => onIfExp e fun t x y _ => C.e nm sc t && A.e nm sc x && B.e nm sc y)
    (tup := fun _ A => ckE fun nm sc e => onTuple e fun es _ _ => decide (es.length ≤ 100) && A.l nm sc es)
    (lst := fun _ A => ckE fun nm sc e => onList e fun es _ => decide (es.length ≤ 100) && A.l nm sc es)
    (idx := fun _ _ A B => ckE fun nm sc e => onSubscript e fun v s _ => notSlice s && A.e nm sc v && B.e nm sc s)
    (sl := fun _ b c A B C => ckE fun nm sc e => onSubscript e fun v s _ => onSlice s fun l u st _ => st.isNone && A.e nm sc v && ckOpt b B nm sc l && ckOpt c C nm sc u)
    (dget := fun k _ A => ckE fun nm sc e => onSubscript e fun v s _ => onName v fun x _ => notDebug x && notSlice s && ckN gs (.dict k) sc x && A.e nm sc s)
    (din := fun k n _ A => ckE fun nm sc e => onCmp1 e fun l op r => op == cond n .NotIn .In && onName r fun x _ => notDebug x && ckN gs (.dict k) sc x && A.e nm sc l)
    (dic := ckE fun _ _ e => onDict e fun ks vs _ => ks.isEmpty && vs.isEmpty)
    (call := fun f _ A => ckE fun nm sc e => (loud nm || quietFn f) && onCallN e fun x es => ckN gs (.fn f) sc x && A.l nm sc es)
    (bi := fun b _ A => ckE fun nm sc e => (loud nm || quietBi b) && onCallN e fun x es => ckN gs (.bi (biV b)) sc x && A.l nm sc es)
    (isi := fun t _ A => ckE fun nm sc e => onCallN e fun x es => ckN gs (.bi (.builtin "isinstance")) sc x && on2L es fun v u => onName u fun y _ => notDebug y && tyOk t (globOf gs sc y) && notStar v && A.e nm sc v)
    (mkL := fun _ A => ckE fun nm sc e => onCallN e fun x es => ckN gs (.bi (.type "list")) sc x && on1L es fun v => notStar v && A.i nm sc v)
    (mkT := fun _ A => ckE fun nm sc e => onCallN e fun x es => ckN gs (.bi (.type "tuple")) sc x && on1L es fun v => notStar v && A.e nm sc v)
    (rng := fun a _ c A B _ => ckRng gs a c A B)
    (zip := fun _ _ A B => ckI (fun nm sc e => onCallN e fun x es => ckN gs (.bi (.type "zip")) sc x && on2L es fun y z => notStar y && notStar z && A.e nm sc y && B.e nm sc z))
    (rev := fun _ _ => ckI no3)
    (meth := fun m _ _ A B => ckE fun nm sc e => onCallA e fun o n es => n == meN m && notCall o && decide (es.length < 30) && A.e nm sc o && B.l nm sc es)
    (attr := fun k _ A => ckE fun nm sc e => onAttribute e fun o n _ => n == attrN k && notCall o && A.e nm sc o)
    (mcall := fun f _ _ A B => ckE fun nm sc e => loud nm && (onCallA e fun o n es => n == ("place" : Str) && notCall o && decide (es.length < 30) && gs.lookup ("Shop.place" : Str) == some (.meth f) && A.e nm sc o && B.l nm sc es))
    (new := fun f _ A => ckE fun nm sc e => loud nm && (onCallN e fun x es => ckN gs (.cls f) sc x && A.l nm sc es))
    (comp := fun _ tg it c E I C => ckE fun nm sc e => loud nm && (onListComp e fun x gens cs _ => on1L gens fun g => g.is_async == 0 && ckComp it c E tg I C nm sc x g.target g.iter g.ifs cs (tgRead g.target)))
    (asg := fun i e A => ckX fun nm sc s => onSAssign s fun ts v _ => on1L ts fun t => onName t fun x _ => varOf nm sc x == some i && (notComp v || e.isComp) && A.e nm sc v)
    (asgO := fun i e A => ckX fun nm sc s => onSAssign s fun ts v _ => on1L ts fun t => onName t fun x _ => varOf nm sc x == some i && (notComp v || e.isComp) && A.e nm sc v)
    (asgT := fun _ _ _ => ckX no3)
    (seti := fun i _ _ K A => ckX fun nm sc s => onSAssign s fun ts v _ => on1L ts fun t => onSubscript t fun o y _ => onName o fun x _ => notDebug x && notSlice y && notComp v && varOf nm sc x == some i && K.e nm sc y && A.e nm sc v)
    (app := fun i _ A => ckX fun nm sc s => onSExpr s fun e _ => ckOwn nm sc i "append" e fun es => on1L es fun y => notStar y && A.e nm sc y)
    (rvs := fun _ => ckX no3)
    (clr := fun _ => ckX no3)
    (ex := fun _ A => ckX fun nm sc s => onSExpr s fun v _ => notComp v && A.e nm sc v)
    (iff := fun _ _ _ C A B => ckX fun nm sc s => onSIf s fun t x y _ => C.e nm sc t && A.b nm sc x && B.b nm sc y)
    (for_ := fun tg it _ I B => ckX fun nm sc s => loud nm && (onSFor s fun target iter body els _ => els.isEmpty && notSet iter && (!it.isZip || tg.length == 2) && I.i nm sc iter && tgtOk target (tgRead target) && tgVars nm sc (tgRead target) tg && decide (tgRead target).Nodup && decide tg.Nodup && B.b nm sc body))
    (whl := fun _ _ C B => ckX fun nm sc s => onSWhile s fun t x els _ => els.isEmpty && C.e nm sc t && B.b nm sc x)
    (ret := fun _ A => ckX fun nm sc s => onSReturn s fun o _ => onSome o fun v => A.e nm sc v)
    (retO := fun i => ckX fun nm sc s => onSReturn s fun o _ => onSome o fun v => onName v fun x _ => notDebug x && varOf nm sc x == some i)
    (retP := fun _ i A => ckX fun nm sc s => onSReturn s fun o _ => onSome o fun w => onTuple w fun es _ _ => on2L es fun v u => onName u fun x _ => notDebug x && notStar v && varOf nm sc x == some i && A.e nm sc v)
    (frz := fun _ => ckX no3)
    (raise := fun c m => ckX fun nm sc s => (loud nm && !c.beq 0) && onSRaise s fun o cs _ => cs.isNone && onSome o fun e => onCallN e fun x es => ckN gs (.exc c) sc x && on1L es fun v => isStrC m v)
    (try_ := fun _ c i _ B H => ckX fun nm sc s => loud nm && onSTry s fun body hs els fin _ => els.isEmpty && fin.isEmpty && on1L hs fun h => onHandler h fun t n hb => onSome t fun t => onSome n fun n => onName t fun x _ => notDebug x && ckN gs (.exc c) sc x && c.beq 1 && sc.names.lookup n == some .local && varOf nm sc n == some i && quietOk nm sc && !hb.isEmpty && B.b nm sc body && H.b (quietNm nm) sc hb)
    t
section
variable (gs : Gs) (t : T) (nm : Nm) (sc : Scope)
noncomputable def chk (e : Expr) : Bool := (ckA gs t).e nm sc e
noncomputable def chkO (e : Option Expr) : Bool := ckOpt t (ckA gs t) nm sc e
noncomputable def chkT (e : List Expr) : Bool := (ckA gs t).l nm sc e
noncomputable def chkI (e : Expr) : Bool := (ckA gs t).i nm sc e
noncomputable def chkS (e : Stmt) : Bool := (ckA gs t).s nm sc e
noncomputable def chkB (e : List Stmt) : Bool := (ckA gs t).b nm sc e
end
end Mine
namespace Mine
open PySem
theorem and3 {a b c : Bool} (h : (a && b && c) = true) : a = true ∧ b = true ∧ c = true := ⟨(and_inv (and_inv h).1).1,(and_inv (and_inv h).1).2,(and_inv h).2⟩
theorem and4 {a b c d : Bool} (h : (a && b && c && d) = true) : a = true ∧ b = true ∧ c = true ∧ d = true := ⟨(and3 (and_inv h).1).1,(and3 (and_inv h).1).2.1,(and3 (and_inv h).1).2.2,(and_inv h).2⟩
theorem and6 {a b c d e f : Bool} (h : (a && b && c && d && e && f) = true) : a = true ∧ b = true ∧ c = true ∧ d = true ∧ e = true ∧ f = true :=
  ⟨(and4 (and_inv (and_inv h).1).1).1,(and4 (and_inv (and_inv h).1).1).2.1,(and4 (and_inv (and_inv h).1).1).2.2.1,(and4 (and_inv (and_inv h).1).1).2.2.2,(and_inv (and_inv h).1).2,(and_inv h).2⟩
theorem not_inv {a : Bool} (h : (!a) = true) : a = false := by
  cases a
  · rfl
  · exact (Bool.false_ne_true h).elim
theorem none_inv {α : Type} {o : Option α} (h : o.isNone = true) : o = none := by
  cases o
  · rfl
  · exact (Bool.false_ne_true h).elim
theorem beq_inv {α : Type} [BEq α] [LawfulBEq α] {a b : α} (h : (a == b) = true) : a = b := eq_of_beq h
theorem isNil_inv {t : T} (h : t.isNil = true) : t = .nil := @T.nil.elim (fun t => t = .nil) t (Nat.eq_of_beq_eq_true h) rfl
theorem isComp_inv {t : T} (h : t.isComp = true) : ∃ elt tg it c,t = .comp elt tg it c := @T.comp.elim (fun t => ∃ elt tg it c,t = .comp elt tg it c) t (Nat.eq_of_beq_eq_true h) fun a b c d => ⟨a,b,c,d,rfl⟩
theorem cnone_inv {P : Prop} {e : Expr} (h : (onConstant e fun c _ _ => isCNone c) = true) (f : ∀ k p,e = .Constant .none k p → P) : P :=
  onConstant_inv h fun _ k p he g => f k p (he.trans (congrArg (Expr.Constant · k p) (@Const.none.elim (fun c => c = .none) _ (Nat.eq_of_beq_eq_true g) rfl)))
section
variable {P : Prop} {gs : Gs} {a b c ts it elt lo hi : T} {nm : Nm} {sc : Scope} {e : Expr} {s : Stmt}
theorem glob_inv {g : G} (h : (onName e fun x _ => notDebug x && ckN gs g sc x) = true) (f : ∀ x p,e = .Name x p → notDebug x = true → globOf gs sc x = some g → P) : P :=
  onName_inv h fun x p he g => f x p he (and_inv g).1 (beq_inv (and_inv g).2)
theorem var_inv {i : Nat} (h : (onName e fun x _ => notDebug x && varOf nm sc x == some i) = true) (f : ∀ x p,e = .Name x p → notDebug x = true → varOf nm sc x = some i → P) : P :=
  onName_inv h fun x p he g => f x p he (and_inv g).1 (beq_inv (and_inv g).2)
theorem un_inv {o : UnaryOp} {k : Expr → Bool} (h : (onUnaryOp e fun q x _ => q == o && k x) = true) (f : ∀ x p,e = .UnaryOp o x p → k x = true → P) : P :=
  onUnaryOp_inv h fun _ x p he g => f x p (beq_inv (and_inv g).1 ▸ he) (and_inv g).2
theorem bool_inv {op : BoolOp} {A B : Expr → Bool} (h : (onBoolOp e fun o vs p => o == op && onCons vs fun x r => onCons r fun y r => A x && B (boolRest op y r p)) = true)
    (f : ∀ x y r p,e = .BoolOp op (x :: y :: r) p → A x = true → B (boolRest op y r p) = true → P) : P :=
  onBoolOp_inv h fun _ _ p he g => onCons_inv (and_inv g).2 fun x _ h1 g1 => onCons_inv g1 fun y r h2 g2 => f x y r p (h2 ▸ h1 ▸ beq_inv (and_inv g).1 ▸ he) (and_inv g2).1 (and_inv g2).2
theorem callN_inv {g : G} {k : List Expr → Bool} (h : (onCallN e fun x es => ckN gs g sc x && k es) = true) (f : ∀ x p es q,e = .Call (.Name x p) es [] q → notDebug x = true → globOf gs sc x = some g → k es = true → P) : P :=
  onCallN_inv h fun x p es q he h1 g => f x p es q he h1 (beq_inv (and_inv g).1) (and_inv g).2
theorem call1_inv {g : G} {k : Expr → Bool} (h : (onCallN e fun x es => ckN gs g sc x && on1L es fun v => notStar v && k v) = true) (f : ∀ x p v q,e = .Call (.Name x p) [v] [] q → notDebug x = true → globOf gs sc x = some g → notStar v = true → k v = true → P) : P :=
  callN_inv (k := fun es => on1L es fun v => notStar v && k v) h fun x p _ q he h1 h2 g => on1L_inv g fun v hv g => f x p v q (hv ▸ he) h1 h2 (and_inv g).1 (and_inv g).2
theorem inv_cN (h : chk gs .cN nm sc e = true) (f : ∀ k p,e = .Constant .none k p → P) : P := cnone_inv h f
theorem inv_dic (h : chk gs .dic nm sc e = true) (f : ∀ p,e = .Dict [] [] p → P) : P :=
  onDict_inv (k := fun ks vs _ => ks.isEmpty && vs.isEmpty) h fun ks vs p he g => f p (by rw [he,List.isEmpty_iff.mp (and_inv g).1,List.isEmpty_iff.mp (and_inv g).2])
theorem inv_cB {i : Bool} (h : chk gs (.cB i) nm sc e = true) (f : ∀ k p,e = .Constant (.bool i) k p → P) : P :=
  onConstant_inv (k := fun c _ _ => onCbool c fun x => x == i) h fun _ k p he g => onCbool_inv g fun _ hi g => f k p (beq_inv g ▸ hi ▸ he)
theorem inv_cI {i : Int} (h : chk gs (.cI i) nm sc e = true) (f : ∀ k p,e = .Constant (.int i) k p → P) : P :=
  onConstant_inv (k := fun c _ _ => onCint c fun x => x == i) h fun _ k p he g => onCint_inv g fun _ hi g => f k p (beq_inv g ▸ hi ▸ he)
theorem inv_cS {y : List Nat} (h : chk gs (.cS y) nm sc e = true) (f : ∀ x k p,e = .Constant (.str x) k p → x.cps.toList = y → (x.cps.all fun c => decide (c < 0x110000)) = true → x.length ≤ line → P) : P :=
  onConstant_inv (k := fun c _ _ => onCstr c fun x => x.cps.toList == y && x.cps.all (· < 0x110000) && decide (x.length ≤ line)) h fun _ k p he g => onCstr_inv g fun x hi g => f x k p (hi ▸ he) (beq_inv (and3 g).1) (and3 g).2.1 (of_decide_eq_true (and3 g).2.2)
theorem inv_gI {i : Int} (h : chk gs (.gI i) nm sc e = true) (f : ∀ x p,e = .Name x p → notDebug x = true → globOf gs sc x = some (.cI i) → P) : P :=
  glob_inv h f
theorem inv_gS {y : List Nat} (h : chk gs (.gS y) nm sc e = true) (f : ∀ x p,e = .Name x p → notDebug x = true → globOf gs sc x = some (.cS y) → P) : P :=
  glob_inv h f
theorem inv_v {i : Nat} (h : chk gs (.v i) nm sc e = true) (f : ∀ x p,e = .Name x p → notDebug x = true → varOf nm sc x = some i → P) : P :=
  var_inv h f
theorem inv_neg (h : chk gs (.neg a) nm sc e = true) (f : ∀ x p,e = .UnaryOp .USub x p → chk gs a nm sc x = true → P) : P :=
  un_inv (k := chk gs a nm sc) h f
theorem inv_not (h : chk gs (.not a) nm sc e = true) (f : ∀ x p,e = .UnaryOp .Not x p → chk gs a nm sc x = true → P) : P :=
  un_inv (k := chk gs a nm sc) h f
theorem inv_bin {o : BOp} (h : chk gs (.bin o a b) nm sc e = true) (f : ∀ l r p,e = .BinOp l (bopOf o) r p → chk gs a nm sc l = true → chk gs b nm sc r = true → P) : P :=
  onBinOp_inv (k := fun l op r _ => bopOk o op && chk gs a nm sc l && chk gs b nm sc r) h fun l _ r p he g => f l r p (beq_inv (and3 g).1 ▸ he) (and3 g).2.1 (and3 g).2.2
theorem inv_cmp {o : COp} (h : chk gs (.cmp o a b) nm sc e = true) (f : ∀ l r p,e = .Compare l [copOf o] [r] p → notSet r = true → chk gs a nm sc l = true → chk gs b nm sc r = true → P) : P :=
  onCmp1_inv (k := fun l op r => copOk o op && notSet r && chk gs a nm sc l && chk gs b nm sc r) h fun l _ r p he g => f l r p (beq_inv (and4 g).1 ▸ he) (and4 g).2.1 (and4 g).2.2.1 (and4 g).2.2.2
theorem inv_cmp2 {o q : COp} (h : chk gs (.cmp2 o q a b c) nm sc e = true) (f : ∀ l r z p,e = .Compare l [copOf o,copOf q] [r,z] p → notSet z = true → chk gs a nm sc l = true → chk gs b nm sc r = true → chk gs c nm sc z = true → P) : P :=
  onCompare_inv (k := fun l ops rs _ => on2L ops fun op oq => on2L rs fun r z => copOk o op && copOk q oq && notSet r && notSet z && chk gs a nm sc l && chk gs b nm sc r && chk gs c nm sc z) h fun l _ _ p he g => on2L_inv g fun _ _ ho g => on2L_inv g fun r z hr g => f l r z p (hr ▸ beq_inv (and6 (and_inv g).1).1 ▸ beq_inv (and6 (and_inv g).1).2.1 ▸ ho ▸ he) (and6 (and_inv g).1).2.2.2.1 (and6 (and_inv g).1).2.2.2.2.1 (and6 (and_inv g).1).2.2.2.2.2 (and_inv g).2
theorem inv_isN {n : Bool} (h : chk gs (.isN n a) nm sc e = true) (f : ∀ l k p q,e = .Compare l [cond n .IsNot .Is] [.Constant .none k p] q → chk gs a nm sc l = true → P) : P :=
  onCmp1_inv (k := fun l op r => op == cond n .IsNot .Is && (onConstant r fun c _ _ => isCNone c) && chk gs a nm sc l) h fun l _ _ q he g => cnone_inv (and3 g).2.1 fun k p hr => f l k p q (hr ▸ beq_inv (and3 g).1 ▸ he) (and3 g).2.2
theorem inv_and (h : chk gs (.and a b) nm sc e = true) (f : ∀ x y r p,e = .BoolOp .And (x :: y :: r) p → chk gs a nm sc x = true → chk gs b nm sc (boolRest .And y r p) = true → P) : P :=
  bool_inv (A := chk gs a nm sc) (B := chk gs b nm sc) h f
theorem inv_or (h : chk gs (.or a b) nm sc e = true) (f : ∀ x y r p,e = .BoolOp .Or (x :: y :: r) p → chk gs a nm sc x = true → chk gs b nm sc (boolRest .Or y r p) = true → P) : P :=
  bool_inv (A := chk gs a nm sc) (B := chk gs b nm sc) h f
theorem inv_ite (h : chk gs (.ite c a b) nm sc e = true) (f : ∀ t x y p,e = .IfExp t x y p → chk gs c nm sc t = true → chk gs a nm sc x = true → chk gs b nm sc y = true → P) : P :=
  onIfExp_inv (k := fun t x y _ => chk gs c nm sc t && chk gs a nm sc x && chk gs b nm sc y) h fun t x y p he g => f t x y p he (and3 g).1 (and3 g).2.1 (and3 g).2.2
theorem inv_tup (h : chk gs (.tup ts) nm sc e = true) (f : ∀ es k p,e = .Tuple es k p → es.length ≤ 100 → chkT gs ts nm sc es = true → P) : P :=
  onTuple_inv (k := fun es _ _ => decide (es.length ≤ 100) && chkT gs ts nm sc es) h fun es k p he g => f es k p he (of_decide_eq_true (and_inv g).1) (and_inv g).2
theorem inv_lst (h : chk gs (.lst ts) nm sc e = true) (f : ∀ es p,e = .List es p → es.length ≤ 100 → chkT gs ts nm sc es = true → P) : P :=
  onList_inv (k := fun es _ => decide (es.length ≤ 100) && chkT gs ts nm sc es) h fun es p he g => f es p he (of_decide_eq_true (and_inv g).1) (and_inv g).2
theorem inv_idx (h : chk gs (.idx a b) nm sc e = true) (f : ∀ v s p,e = .Subscript v s p → notSlice s = true → chk gs a nm sc v = true → chk gs b nm sc s = true → P) : P :=
  onSubscript_inv (k := fun v s _ => notSlice s && chk gs a nm sc v && chk gs b nm sc s) h fun v s p he g => f v s p he (and3 g).1 (and3 g).2.1 (and3 g).2.2
theorem inv_sl (h : chk gs (.sl a lo hi) nm sc e = true) (f : ∀ v l u q p,e = .Subscript v (.Slice l u none q) p → chk gs a nm sc v = true → chkO gs lo nm sc l = true → chkO gs hi nm sc u = true → P) : P :=
  onSubscript_inv (k := fun v s _ => onSlice s fun l u st _ => st.isNone && chk gs a nm sc v && chkO gs lo nm sc l && chkO gs hi nm sc u) h fun v _ p he g => onSlice_inv g fun l u _ q hs g => f v l u q p (none_inv (and4 g).1 ▸ hs ▸ he) (and4 g).2.1 (and4 g).2.2.1 (and4 g).2.2.2
theorem inv_dget {k : List (List Nat × Int)} (h : chk gs (.dget k a) nm sc e = true) (f : ∀ x q s p,e = .Subscript (.Name x q) s p → notDebug x = true → notSlice s = true → globOf gs sc x = some (.dict k) → chk gs a nm sc s = true → P) : P :=
  onSubscript_inv (k := fun v s _ => onName v fun x _ => notDebug x && notSlice s && ckN gs (.dict k) sc x && chk gs a nm sc s) h fun _ s p he g => onName_inv g fun x q hx g => f x q s p (hx ▸ he) (and4 g).1 (and4 g).2.1 (beq_inv (and4 g).2.2.1) (and4 g).2.2.2
theorem inv_din {k : List (List Nat × Int)} {n : Bool} (h : chk gs (.din k n a) nm sc e = true) (f : ∀ l x q p,e = .Compare l [cond n .NotIn .In] [.Name x q] p → notDebug x = true → globOf gs sc x = some (.dict k) → chk gs a nm sc l = true → P) : P :=
  onCmp1_inv (k := fun l op r => op == cond n .NotIn .In && onName r fun x _ => notDebug x && ckN gs (.dict k) sc x && chk gs a nm sc l) h fun l _ _ p he g => onName_inv (and_inv g).2 fun x q hx g2 => f l x q p (hx ▸ beq_inv (and_inv g).1 ▸ he) (and3 g2).1 (beq_inv (and3 g2).2.1) (and3 g2).2.2
theorem inv_call {f : Nat} (h : chk gs (.call f ts) nm sc e = true) (F : ∀ x p es q,e = .Call (.Name x p) es [] q → notDebug x = true → globOf gs sc x = some (.fn f) → chkT gs ts nm sc es = true → P) : P := callN_inv (k := chkT gs ts nm sc) (and_inv h).2 F
theorem inv_bi {f : BI} (h : chk gs (.bi f ts) nm sc e = true) (F : ∀ x p es q,e = .Call (.Name x p) es [] q → notDebug x = true → globOf gs sc x = some (.bi (biV f)) → chkT gs ts nm sc es = true → P) : P := callN_inv (k := chkT gs ts nm sc) (and_inv h).2 F
theorem inv_new {f : Nat} (h : chk gs (.new f ts) nm sc e = true) (F : ∀ x p es q,e = .Call (.Name x p) es [] q → notDebug x = true → globOf gs sc x = some (.cls f) → chkT gs ts nm sc es = true → P) : P := callN_inv (k := chkT gs ts nm sc) (and_inv h).2 F
theorem inv_isi {t : Ty} (h : chk gs (.isi t a) nm sc e = true) (f : ∀ x p v y py q,e = .Call (.Name x p) [v,.Name y py] [] q → notDebug x = true → notDebug y = true → globOf gs sc x = some (.bi (.builtin "isinstance")) → tyOk t (globOf gs sc y) = true → notStar v = true → chk gs a nm sc v = true → P) : P :=
  callN_inv (k := fun es => on2L es fun v u => onName u fun y _ => notDebug y && tyOk t (globOf gs sc y) && notStar v && chk gs a nm sc v) h fun x p _ q he h1 h2 g => on2L_inv g fun v _ hv g => onName_inv g fun y py hy g => f x p v y py q (hy ▸ hv ▸ he) h1 (and4 g).1 h2 (and4 g).2.1 (and4 g).2.2.1 (and4 g).2.2.2
theorem inv_mkL (h : chk gs (.mkL it) nm sc e = true) (f : ∀ x p v q,e = .Call (.Name x p) [v] [] q → notDebug x = true → globOf gs sc x = some (.bi (.type "list")) → notStar v = true → chkI gs it nm sc v = true → P) : P :=
  call1_inv (k := chkI gs it nm sc) h f
theorem inv_mkT (h : chk gs (.mkT a) nm sc e = true) (f : ∀ x p v q,e = .Call (.Name x p) [v] [] q → notDebug x = true → globOf gs sc x = some (.bi (.type "tuple")) → notStar v = true → chk gs a nm sc v = true → P) : P :=
  call1_inv (k := chk gs a nm sc) h f
theorem inv_zip (h : chkI gs (.zip a b) nm sc e = true) (f : ∀ x p y z q,e = .Call (.Name x p) [y,z] [] q → notDebug x = true → globOf gs sc x = some (.bi (.type "zip")) → notStar y = true → notStar z = true → chk gs a nm sc y = true → chk gs b nm sc z = true → P) : P :=
  callN_inv (k := fun es => on2L es fun y z => notStar y && notStar z && chk gs a nm sc y && chk gs b nm sc z) h fun x p _ q he h1 h2 g => on2L_inv g fun y z hy g => f x p y z q (hy ▸ he) h1 h2 (and4 g).1 (and4 g).2.1 (and4 g).2.2.1 (and4 g).2.2.2
theorem inv_rng (h : chkI gs (.rng a b c) nm sc e = true) (f : c = .nil → ∀ x p q,notDebug x = true → globOf gs sc x = some (.bi (.type "range")) →
    (∀ y,e = .Call (.Name x p) [y] [] q → a = .nil → notStar y = true → chk gs b nm sc y = true → P) ∧
    (∀ y z,e = .Call (.Name x p) [y,z] [] q → a.isNil = false → notStar y = true → notStar z = true → chk gs a nm sc y = true → chk gs b nm sc z = true → P)) : P :=
  onCallN_inv (k := fun x es => ckN gs (.bi (.type "range")) sc x && c.isNil && onCons es fun y r => notStar y &&
      List.casesOn (motive := fun _ => Bool) r (a.isNil && chk gs b nm sc y) fun z r => r.isEmpty && !a.isNil && notStar z && chk gs a nm sc y && chk gs b nm sc z) (and_inv h).2 fun x p es q he h1 g =>
    have F := f (isNil_inv (and3 g).2.1) x p q h1 (beq_inv (and3 g).1)
    onCons_inv (and3 g).2.2 fun y r hy g' => by
      subst hy
      cases r with
      | nil => exact F.1 y he (isNil_inv (and_inv (and_inv g').2).1) (and_inv g').1 (and_inv (and_inv g').2).2
      | cons z r =>
        have k := and_inv (and_inv g').2
        have k2 := and4 k.1
        exact F.2 y z (nil_inv k2.1 ▸ he) (not_inv k2.2.1) (and_inv g').1 k2.2.2.1 k2.2.2.2 k.2
theorem loud_rng (h : chkI gs (.rng a b c) nm sc e = true) : loud nm = true := (and_inv h).1
theorem inv_meth {m : Me} (h : chk gs (.meth m a ts) nm sc e = true) (f : ∀ o p es q,e = .Call (.Attribute o (meN m) p) es [] q → (p.endLine == q.line) = true → notCall o = true → es.length < 30 → chk gs a nm sc o = true → chkT gs ts nm sc es = true → P) : P :=
  onCallA_inv (k := fun o n es => n == meN m && notCall o && decide (es.length < 30) && chk gs a nm sc o && chkT gs ts nm sc es) h fun o _ p es q he h1 g => f o p es q (beq_inv (and4 (and_inv g).1).1 ▸ he) h1 (and4 (and_inv g).1).2.1 (of_decide_eq_true (and4 (and_inv g).1).2.2.1) (and4 (and_inv g).1).2.2.2 (and_inv g).2
theorem inv_attr {k : Bool} (h : chk gs (.attr k a) nm sc e = true) (f : ∀ o p,e = .Attribute o (attrN k) p → notCall o = true → chk gs a nm sc o = true → P) : P :=
  onAttribute_inv (k := fun o n _ => n == attrN k && notCall o && chk gs a nm sc o) h fun o _ p he g => f o p (beq_inv (and3 g).1 ▸ he) (and3 g).2.1 (and3 g).2.2
theorem inv_mcall {f : Nat} (h : chk gs (.mcall f a ts) nm sc e = true) (F : ∀ o p es q,e = .Call (.Attribute o "place" p) es [] q → (p.endLine == q.line) = true → notCall o = true → es.length < 30 → gs.lookup ("Shop.place" : Str) = some (.meth f) → chk gs a nm sc o = true → chkT gs ts nm sc es = true → P) : P :=
  onCallA_inv (k := fun o n es => n == ("place" : Str) && notCall o && decide (es.length < 30) && gs.lookup ("Shop.place" : Str) == some (.meth f) && chk gs a nm sc o && chkT gs ts nm sc es) (and_inv h).2 fun o _ p es q he h1 g => F o p es q (beq_inv (and6 g).1 ▸ he) h1 (and6 g).2.1 (of_decide_eq_true (and6 g).2.2.1) (beq_inv (and6 g).2.2.2.1) (and6 g).2.2.2.2.1 (and6 g).2.2.2.2.2
structure CompChk (gs : Gs) (elt it c : T) (tg : List Nat) (nm : Nm) (sc : Scope) (x target iter : Expr) (ifs : List Expr) (cs : Scope) (xs : List Str) : Prop where
  set : notSet iter = true
  zip : (!it.isZip || tg.length == 2) = true
  iter : chkI gs it nm sc iter = true
  sco : scOk sc cs = true
  tgt : tgtOk target xs = true
  tgs : tgOk nm (relabS cs sc) xs tg = true
  elt : chk gs elt (xs.zip tg ++ keepNm (relabS cs sc) nm) (relabS cs sc) x = true
  ifs : (ifs = [] ∧ c = .nil) ∨ ∃ t,ifs = [t] ∧ c.isNil = false ∧ chk gs c (xs.zip tg ++ keepNm (relabS cs sc) nm) (relabS cs sc) t = true
theorem ifs_inv {nm : Nm} {sc : Scope} {ifs : List Expr} (h : ckIfs c (ckA gs c) nm sc ifs = true) : (ifs = [] ∧ c = .nil) ∨ ∃ t,ifs = [t] ∧ c.isNil = false ∧ chk gs c nm sc t = true := by
  cases ifs with
  | nil => exact .inl ⟨rfl,isNil_inv h⟩
  | cons t r =>
    have h : (r.isEmpty && !c.isNil && chk gs c nm sc t) = true := h
    exact .inr ⟨t,nil_inv (and3 h).1 ▸ rfl,not_inv (and3 h).2.1,(and3 h).2.2⟩
theorem inv_comp {tg : List Nat} (h : chk gs (.comp elt tg it c) nm sc e = true) (f : ∀ x target iter ifs cs pos xs,e = .ListComp x [⟨target,iter,ifs,0⟩] cs pos → CompChk gs elt it c tg nm sc x target iter ifs cs xs → P) : P :=
  onListComp_inv (k := fun x gens cs _ => on1L gens fun g => g.is_async == 0 && ckComp it c (ckA gs elt) tg (ckA gs it) (ckA gs c) nm sc x g.target g.iter g.ifs cs (tgRead g.target)) (and_inv h).2 fun x _ cs pos he g =>
    on1L_inv g fun G hG g => by
      obtain ⟨target,iter,ifs,as⟩ := G
      have h0 := beq_inv (and_inv g).1
      dsimp only at h0
      subst h0
      have k2 := and_inv (and_inv g).2
      have k1 := and_inv k2.1
      have k := and6 k1.1
      exact f x target iter ifs cs pos _ (hG ▸ he) ⟨k.1,k.2.1,k.2.2.1,k.2.2.2.1,k.2.2.2.2.1,k.2.2.2.2.2,k1.2,ifs_inv k2.2⟩
theorem inv_asg {i : Nat} (h : chkS gs (.asg i a) nm sc s = true) (f : ∀ x q v p,s = .Assign [.Name x q] v p → varOf nm sc x = some i → (notComp v || a.isComp) = true → chk gs a nm sc v = true → P) : P :=
  onSAssign_inv (k := fun ts v _ => on1L ts fun t => onName t fun x _ => varOf nm sc x == some i && (notComp v || a.isComp) && chk gs a nm sc v) h fun _ v p he g => on1L_inv g fun _ ht g => onName_inv g fun x q hx g => f x q v p (hx ▸ ht ▸ he) (beq_inv (and3 g).1) (and3 g).2.1 (and3 g).2.2
theorem inv_asgO {i : Nat} (h : chkS gs (.asgO i a) nm sc s = true) (f : ∀ x q v p,s = .Assign [.Name x q] v p → varOf nm sc x = some i → (notComp v || a.isComp) = true → chk gs a nm sc v = true → P) : P :=
  onSAssign_inv (k := fun ts v _ => on1L ts fun t => onName t fun x _ => varOf nm sc x == some i && (notComp v || a.isComp) && chk gs a nm sc v) h fun _ v p he g => on1L_inv g fun _ ht g => onName_inv g fun x q hx g => f x q v p (hx ▸ ht ▸ he) (beq_inv (and3 g).1) (and3 g).2.1 (and3 g).2.2
theorem inv_seti {i : Nat} (h : chkS gs (.seti i b a) nm sc s = true) (f : ∀ x q y r v p,s = .Assign [.Subscript (.Name x q) y r] v p → notDebug x = true → notSlice y = true → notComp v = true → varOf nm sc x = some i → chk gs b nm sc y = true → chk gs a nm sc v = true → P) : P :=
  onSAssign_inv (k := fun ts v _ => on1L ts fun t => onSubscript t fun o y _ => onName o fun x _ => notDebug x && notSlice y && notComp v && varOf nm sc x == some i && chk gs b nm sc y && chk gs a nm sc v) h fun _ v p he g => on1L_inv g fun _ ht g => onSubscript_inv g fun _ y r hy g => onName_inv g fun x q hx g => f x q y r v p (hx ▸ hy ▸ ht ▸ he) (and6 g).1 (and6 g).2.1 (and6 g).2.2.1 (beq_inv (and6 g).2.2.2.1) (and6 g).2.2.2.2.1 (and6 g).2.2.2.2.2
theorem own_inv {i : Nat} {m : Str} {k : List Expr → Bool} (h : (onSExpr s fun e _ => ckOwn nm sc i m e k) = true) (f : ∀ x q ap es cp p,s = .Expr (.Call (.Attribute (.Name x q) m ap) es [] cp) p → notDebug x = true → (ap.endLine == cp.line) = true → varOf nm sc x = some i → k es = true → P) : P :=
  onSExpr_inv h fun _ p he g => onCallA_inv g fun _ _ ap es cp hc h1 g => onName_inv (and_inv g).2 fun x q hx g2 => f x q ap es cp p (beq_inv (and_inv g).1 ▸ hx ▸ hc ▸ he) (and3 g2).1 h1 (beq_inv (and3 g2).2.1) (and3 g2).2.2
theorem inv_app {i : Nat} (h : chkS gs (.app i a) nm sc s = true) (f : ∀ x q ap y cp p,s = .Expr (.Call (.Attribute (.Name x q) "append" ap) [y] [] cp) p → notDebug x = true → (ap.endLine == cp.line) = true → varOf nm sc x = some i → notStar y = true → chk gs a nm sc y = true → P) : P :=
  own_inv (m := "append") (k := fun es => on1L es fun y => notStar y && chk gs a nm sc y) h fun x q ap _ cp p he h1 h2 h3 g => on1L_inv g fun y hy g => f x q ap y cp p (hy ▸ he) h1 h2 h3 (and_inv g).1 (and_inv g).2
theorem inv_ex (h : chkS gs (.ex a) nm sc s = true) (f : ∀ v p,s = .Expr v p → notComp v = true → chk gs a nm sc v = true → P) : P :=
  onSExpr_inv (k := fun v _ => notComp v && chk gs a nm sc v) h fun v p he g => f v p he (and_inv g).1 (and_inv g).2
theorem inv_iff (h : chkS gs (.iff c a b) nm sc s = true) (f : ∀ t x y p,s = .If t x y p → chk gs c nm sc t = true → chkB gs a nm sc x = true → chkB gs b nm sc y = true → P) : P :=
  onSIf_inv (k := fun t x y _ => chk gs c nm sc t && chkB gs a nm sc x && chkB gs b nm sc y) h fun t x y p he g => f t x y p he (and3 g).1 (and3 g).2.1 (and3 g).2.2
theorem inv_for {tg : List Nat} (h : chkS gs (.for_ tg it b) nm sc s = true) (f : ∀ target iter body p xs,s = .For target iter body [] p → notSet iter = true → (!it.isZip || tg.length == 2) = true → chkI gs it nm sc iter = true → tgtOk target xs = true → tgVars nm sc xs tg = true → xs.Nodup → tg.Nodup → chkB gs b nm sc body = true → P) : P :=
  onSFor_inv (k := fun target iter body els _ => els.isEmpty && notSet iter && (!it.isZip || tg.length == 2) && chkI gs it nm sc iter && tgtOk target (tgRead target) && tgVars nm sc (tgRead target) tg && decide (tgRead target).Nodup && decide tg.Nodup && chkB gs b nm sc body) (and_inv h).2 fun target iter body _ p he g =>
    have k1 := and_inv g
    have k := and4 k1.1
    have m := and4 (and_inv k.1).1
    f target iter body p (tgRead target) (nil_inv m.1 ▸ he) m.2.1 m.2.2.1 m.2.2.2 (and_inv k.1).2 k.2.1 (of_decide_eq_true k.2.2.1) (of_decide_eq_true k.2.2.2) k1.2
theorem inv_whl (h : chkS gs (.whl c b) nm sc s = true) (f : ∀ t x p,s = .While t x [] p → chk gs c nm sc t = true → chkB gs b nm sc x = true → P) : P :=
  onSWhile_inv (k := fun t x els _ => els.isEmpty && chk gs c nm sc t && chkB gs b nm sc x) h fun t x _ p he g => f t x p (nil_inv (and3 g).1 ▸ he) (and3 g).2.1 (and3 g).2.2
theorem inv_ret (h : chkS gs (.ret a) nm sc s = true) (f : ∀ v p,s = .Return (some v) p → chk gs a nm sc v = true → P) : P :=
  onSReturn_inv (k := fun o _ => onSome o fun v => chk gs a nm sc v) h fun _ p he g => onSome_inv g fun v hv g => f v p (hv ▸ he) g
theorem inv_retO {i : Nat} (h : chkS gs (.retO i) nm sc s = true) (f : ∀ x q p,s = .Return (some (.Name x q)) p → notDebug x = true → varOf nm sc x = some i → P) : P :=
  onSReturn_inv (k := fun o _ => onSome o fun v => onName v fun x _ => notDebug x && varOf nm sc x == some i) h fun _ p he g => onSome_inv g fun _ hv g => var_inv g fun x q hx h1 h2 => f x q p (hx ▸ hv ▸ he) h1 h2
theorem inv_retP {i : Nat} (h : chkS gs (.retP a i) nm sc s = true) (f : ∀ v x q k r p,s = .Return (some (.Tuple [v,.Name x q] k r)) p → notDebug x = true → notStar v = true → varOf nm sc x = some i → chk gs a nm sc v = true → P) : P :=
  onSReturn_inv (k := fun o _ => onSome o fun w => onTuple w fun es _ _ => on2L es fun v u => onName u fun x _ => notDebug x && notStar v && varOf nm sc x == some i && chk gs a nm sc v) h fun _ p he g => onSome_inv g fun _ hv g => onTuple_inv g fun _ k r ht g => on2L_inv g fun v _ hl g => onName_inv g fun x q hx g => f v x q k r p (hx ▸ hl ▸ ht ▸ hv ▸ he) (and4 g).1 (and4 g).2.1 (beq_inv (and4 g).2.2.1) (and4 g).2.2.2
theorem loud_for {tg : List Nat} (h : chkS gs (.for_ tg it b) nm sc s = true) : loud nm = true := (and_inv h).1
theorem loud_comp {tg : List Nat} (h : chk gs (.comp elt tg it c) nm sc e = true) : loud nm = true := (and_inv h).1
theorem loud_new {f : Nat} (h : chk gs (.new f ts) nm sc e = true) : loud nm = true := (and_inv h).1
theorem loud_mcall {f : Nat} (h : chk gs (.mcall f a ts) nm sc e = true) : loud nm = true := (and_inv h).1
theorem loud_call {f : Nat} (h : chk gs (.call f ts) nm sc e = true) : loud nm = true ∨ quietFn f = true := (Bool.or_eq_true _ _).mp (and_inv h).1
theorem loud_bi {f : BI} (h : chk gs (.bi f ts) nm sc e = true) : loud nm = true ∨ quietBi f = true := (Bool.or_eq_true _ _).mp (and_inv h).1
theorem inv_raise {k : Nat} {y : List Nat} (h : chkS gs (.raise k y) nm sc s = true) (f : ∀ x px v q p,s = .Raise (some (.Call (.Name x px) [v] [] q)) none p → (loud nm && !k.beq 0) = true → notDebug x = true → globOf gs sc x = some (.exc k) → chk gs (.cS y) nm sc v = true → P) : P :=
  onSRaise_inv (k := fun o cs _ => cs.isNone && onSome o fun e => onCallN e fun x es => ckN gs (.exc k) sc x && on1L es fun v => isStrC y v) (and_inv h).2 fun _ cs p he g0 => onSome_inv (and_inv g0).2 fun _ ho g2 => callN_inv (k := fun es => on1L es fun v => isStrC y v) g2 fun x px _ q hx h1 h2 g => on1L_inv g fun v hv g => f x px v q p (hv ▸ hx ▸ ho ▸ none_inv (and_inv g0).1 ▸ he) (and_inv h).1 h1 h2 g
theorem inv_try {k i : Nat} (h : chkS gs (.try_ a k i b) nm sc s = true) (f : ∀ body x px n b0 hb hp p,s = .Try body [.ExceptHandler (some (.Name x px)) (some n) (b0 :: hb) hp] [] [] p → loud nm = true → notDebug x = true → globOf gs sc x = some (.exc 1) → sc.names.lookup n = some .local → varOf nm sc n = some i → quietOk nm sc = true → chkB gs a nm sc body = true → chkB gs b (quietNm nm) sc (b0 :: hb) = true → P) : P :=
  onSTry_inv (k := fun body hs els fin _ => els.isEmpty && fin.isEmpty && on1L hs fun h => onHandler h fun t n hb => onSome t fun t => onSome n fun n => onName t fun x _ => notDebug x && ckN gs (.exc k) sc x && k.beq 1 && sc.names.lookup n == some .local && varOf nm sc n == some i && quietOk nm sc && !hb.isEmpty && chkB gs a nm sc body && chkB gs b (quietNm nm) sc hb) (and_inv h).2 fun body hs els fin p he g => on1L_inv (and3 g).2.2 fun H hH g2 => by
    obtain ⟨t,n,hb,hp⟩ := H
    refine onSome_inv g2 fun t ht g3 => onSome_inv g3 fun n hn g4 => onName_inv g4 fun x px hx g5 => ?_
    have k2 := and_inv g5
    have k1 := and_inv k2.1
    have k3 := and_inv k1.1
    have k0 := and6 k3.1
    have hk : k = 1 := Nat.eq_of_beq_eq_true k0.2.2.1
    subst hk
    cases hb with
    | nil => exact (Bool.false_ne_true k3.2).elim
    | cons b0 hb => exact f body x px n b0 hb hp p (by rw [he,hH,ht,hn,hx,nil_inv (and3 g).1,nil_inv (and3 g).2.1]) (and_inv h).1 k0.1 (beq_inv k0.2.1) (beq_inv k0.2.2.2.1) (beq_inv k0.2.2.2.2.1) k0.2.2.2.2.2 k1.2 k2.2
theorem inv_nilT {es : List Expr} (h : chkT gs .nil nm sc es = true) : es = [] := nil_inv h
theorem inv_consT {es : List Expr} (h : chkT gs (.cons a b) nm sc es = true) (f : ∀ x r,es = x :: r → notStar x = true → chk gs a nm sc x = true → chkT gs b nm sc r = true → P) : P :=
  onCons_inv (k := fun x r => notStar x && chk gs a nm sc x && chkT gs b nm sc r) h fun x r he g => f x r he (and3 g).1 (and3 g).2.1 (and3 g).2.2
theorem inv_nilB {ss : List Stmt} (h : chkB gs .nil nm sc ss = true) : ss = [] := nil_inv h
theorem inv_consB {ss : List Stmt} (h : chkB gs (.cons a b) nm sc ss = true) (f : ∀ s r,ss = s :: r → chkS gs a nm sc s = true → chkB gs b nm sc r = true → P) : P :=
  onCons_inv (k := fun s r => chkS gs a nm sc s && chkB gs b nm sc r) h fun s r he g => f s r he (and_inv g).1 (and_inv g).2
end
end Mine
namespace Mine
open PySem PySem.Calls PyProof.Rows
noncomputable abbrev Led := Addr → Option Obj
mutual
inductive Rep (Z : Led) : Value → Dat → Prop
  | none : Rep Z .none .none
  | bool (b : Bool) : Rep Z (.bool b) (.bool b)
  | int (i : Int) (t : Tok) : Rep Z (.int i t) (.int i)
  | str (x : Str) (t : Tok) (ok : PyData.strOk x = true) (le : x.length ≤ line) : Rep Z (.str x t) (.str x.cps.toList)
  | tup {a : Addr} {vs : List Value} {n : Nat} {ds : List Dat} : Z a = some { cls := .type "tuple",data := .seq vs.toArray n } → vs.length ≤ line → RepL Z vs ds → Rep Z (.ref a) (.tup ds)
  | lst {a : Addr} {vs : List Value} {n : Nat} {ds : List Dat} : Z a = some { cls := .type "list",data := .seq vs.toArray n } → vs.length ≤ line → RepL Z vs ds → Rep Z (.ref a) (.lst ds)
  | dic {a : Addr} {n : Nat} : Z a = some { cls := .type "dict",data := .dict #[] n } → (a == sysModules) = false → Rep Z (.ref a) .dic
inductive RepL (Z : Led) : List Value → List Dat → Prop
  | nil : RepL Z [] []
  | cons {v : Value} {d : Dat} {vs : List Value} {ds : List Dat} : Rep Z v d → RepL Z vs ds → RepL Z (v :: vs) (d :: ds)
end
noncomputable def Led.le (Z Z' : Led) : Prop := ∀ a o,Z a = some o → Z' a = some o
theorem cps {G : Prop} (h : ∀ P : Prop,(G → P) → P) : G := h G id
theorem Rep.both {Z : Led} {P : Value → Dat → Prop} {Q : List Value → List Dat → Prop}
    (m1 : P .none .none) (m2 : ∀ b,P (.bool b) (.bool b)) (m3 : ∀ i t,P (.int i t) (.int i)) (m4 : ∀ x t,PyData.strOk x = true → x.length ≤ line → P (.str x t) (.str x.cps.toList))
    (m5 : ∀ {a : Addr} {vs : List Value} {n : Nat} {ds : List Dat},Z a = some { cls := .type "tuple",data := .seq vs.toArray n } → vs.length ≤ line → Q vs ds → P (.ref a) (.tup ds))
    (m6 : ∀ {a : Addr} {vs : List Value} {n : Nat} {ds : List Dat},Z a = some { cls := .type "list",data := .seq vs.toArray n } → vs.length ≤ line → Q vs ds → P (.ref a) (.lst ds))
    (m7 : ∀ {a : Addr} {n : Nat},Z a = some { cls := .type "dict",data := .dict #[] n } → (a == sysModules) = false → P (.ref a) .dic)
    (m8 : Q [] []) (m9 : ∀ {v : Value} {d : Dat} {vs : List Value} {ds : List Dat},P v d → Q vs ds → Q (v :: vs) (d :: ds)) :
    (∀ {v d},Rep Z v d → P v d) ∧ (∀ {vs ds},RepL Z vs ds → Q vs ds) :=
  ⟨fun r => Rep.rec (motive_1 := fun v d _ => P v d) (motive_2 := fun vs ds _ => Q vs ds) m1 m2 m3 m4 (fun a l _ q => m5 a l q) (fun a l _ q => m6 a l q) m7 m8 (fun _ _ a b => m9 a b) r,
   fun r => RepL.rec (motive_1 := fun v d _ => P v d) (motive_2 := fun vs ds _ => Q vs ds) m1 m2 m3 m4 (fun a l _ q => m5 a l q) (fun a l _ q => m6 a l q) m7 m8 (fun _ _ a b => m9 a b) r⟩
theorem Rep.monos {Z Z' : Led} (h : Led.le Z Z') : (∀ {v d},Rep Z v d → Rep Z' v d) ∧ (∀ {vs ds},RepL Z vs ds → RepL Z' vs ds) :=
  Rep.both .none .bool .int .str (fun a l r => .tup (h _ _ a) l r) (fun a l r => .lst (h _ _ a) l r) (fun a e => .dic (h _ _ a) e) .nil .cons
theorem Rep.mono {Z Z' : Led} (h : Led.le Z Z') {v : Value} {d : Dat} (r : Rep Z v d) : Rep Z' v d := (Rep.monos h).1 r
theorem RepL.mono {Z Z' : Led} (h : Led.le Z Z') {vs : List Value} {ds : List Dat} (r : RepL Z vs ds) : RepL Z' vs ds := (Rep.monos h).2 r
section
variable {Z : Led} {vs ws : List Value} {ds es : List Dat} {v : Value} {d : Dat}
theorem RepL.length (h : RepL Z vs ds) : vs.length = ds.length := by
  induction vs generalizing ds with
  | nil => cases h; rfl
  | cons v vs ih => cases h with | cons _ r => simp [ih r]
theorem RepL.append (h : RepL Z vs ds) (k : RepL Z ws es) : RepL Z (vs ++ ws) (ds ++ es) := by
  induction vs generalizing ds with
  | nil => cases h; exact k
  | cons v vs ih => cases h with | cons a r => exact .cons a (ih r)
theorem RepL.one (h : Rep Z v d) : RepL Z [v] [d] := .cons h .nil
theorem RepL.get (h : RepL Z vs ds) {k : Nat} (hd : ds[k]? = some d) : ∃ v,vs[k]? = some v ∧ Rep Z v d := by
  induction vs generalizing ds k with
  | nil => cases h; simp at hd
  | cons v vs ih =>
    cases h with
    | cons a r =>
      cases k with
      | zero => simp at hd; subst hd; exact ⟨v,rfl,a⟩
      | succ k => simp at hd; simpa using ih r hd
theorem RepL.get' (h : RepL Z vs ds) {k : Nat} (hv : vs[k]? = some v) : ∃ d,ds[k]? = some d ∧ Rep Z v d := by
  induction vs generalizing ds k with
  | nil => simp at hv
  | cons u vs ih =>
    cases h with
    | cons a r =>
      cases k with
      | zero => simp at hv; subst hv; exact ⟨_,rfl,a⟩
      | succ k => simp at hv; simpa using ih r hv
theorem RepL.drop (h : RepL Z vs ds) (k : Nat) : RepL Z (vs.drop k) (ds.drop k) := by
  induction vs generalizing ds k with
  | nil => cases h; simp; exact .nil
  | cons v vs ih =>
    cases h with
    | cons a r =>
      cases k with
      | zero => exact .cons a r
      | succ k => simpa using ih r k
theorem RepL.take (h : RepL Z vs ds) (k : Nat) : RepL Z (vs.take k) (ds.take k) := by
  induction vs generalizing ds k with
  | nil => cases h; simp; exact .nil
  | cons v vs ih =>
    cases h with
    | cons a r =>
      cases k with
      | zero => exact .nil
      | succ k => simpa using .cons a (ih r k)
theorem RepL.reverse (h : RepL Z vs ds) : RepL Z vs.reverse ds.reverse := by
  induction vs generalizing ds with
  | nil => cases h; exact .nil
  | cons v vs ih =>
    cases h with
    | cons a r => simp only [List.reverse_cons]; exact (ih r).append (.one a)
theorem RepL.set (h : RepL Z vs ds) (k : Nat) (hv : Rep Z v d) : RepL Z (vs.set k v) (ds.set k d) := by
  induction vs generalizing ds k with
  | nil => cases h; exact .nil
  | cons u vs ih =>
    cases h with
    | cons a r =>
      cases k with
      | zero => exact .cons hv r
      | succ k => exact .cons a (ih r k)
end
noncomputable def NoDict (o : Obj) : Prop := ∀ es n,o.data ≠ .dict es n
theorem nd_fields {o : Obj} {vs : Array Value} (h : o.data = .fields vs) : NoDict o := fun es n q => by rw [h] at q; cases q
theorem nd_seq {o : Obj} {vs : Array Value} (h : ∃ n,o.data = .seq vs n) : NoDict o := fun es n q => by obtain ⟨k,h⟩ := h; rw [h] at q; cases q
noncomputable def Tt (_ : Obj) : Prop := True
noncomputable def Kp (h h' : Heap) : Prop := ∀ b o,h.get? b = some o → h'.get? b = some o
noncomputable def Kw (Z : Led) (h h' : Heap) : Prop := ∀ b o,h.get? b = some o → ((Z b = some o ∨ NoDict o) → h'.get? b = some o) ∧ ∃ o',h'.get? b = some o' ∧ o'.data = o.data ∧ o'.cls = o.cls
theorem Kp.keep {h h' : Heap} (k : Kp h h') : ∀ b o,h.get? b = some o → h'.get? b = some o := k
theorem Kp.refl (h : Heap) : Kp h h := fun _ o e => e
theorem Kp.trans {h h' h'' : Heap} (a : Kp h h') (b : Kp h' h'') : Kp h h'' := fun x o e => b x o (a x o e)
theorem Kp.of {h h' : Heap} (k : ∀ b o,h.get? b = some o → h'.get? b = some o) : Kp h h' := k
theorem Kp.w {h h' : Heap} (k : Kp h h') (Z : Led) : Kw Z h h' := fun b o e => ⟨fun _ => k b o e,o,k b o e,rfl,rfl⟩
theorem Kw.trans {Z Z' : Led} {h h' h'' : Heap} (le : Led.le Z Z') (a : Kw Z h h') (b : Kw Z' h' h'') : Kw Z h h'' := fun x o e => by
  obtain ⟨p,o',e',d',c'⟩ := a x o e
  obtain ⟨q,o'',e'',d'',c''⟩ := b x o' e'
  refine ⟨fun n => ?_,o'',e'',d''.trans d',c''.trans c'⟩
  have := p n
  rw [e'] at this
  cases this
  exact q (n.imp (le _ _) id)
theorem Kw.none {Z : Led} {h h' : Heap} (k : Kw Z h h') {a : Addr} (e : h'.get? a = none) : h.get? a = none := by
  cases q : h.get? a with
  | none => rfl
  | some o => obtain ⟨_,o',e',_⟩ := k a o q; rw [e] at e'; cases e'
theorem Kp.none {h h' : Heap} (k : Kp h h') {a : Addr} (e : h'.get? a = none) : h.get? a = none := (k.w fun _ => Option.none).none e
theorem Kw.isList {Z : Led} {h h' : Heap} (k : Kw Z h h') {a : Addr} {xs : Array Value} (e : h.IsList a xs) : h'.IsList a xs := by
  obtain ⟨o,ho,hc,n,hd⟩ := e
  exact ⟨o,(k a o ho).1 (.inr fun es m q => by rw [hd] at q; cases q),hc,n,hd⟩
theorem Kw.plain {Z : Led} {h h' : Heap} (k : Kw Z h h') {a : Addr} {xs : Array Value} (e : h.PlainList a xs) : h'.PlainList a xs := by
  obtain ⟨n,ho⟩ := e
  exact ⟨n,(k a _ ho).1 (.inr fun es m q => by cases q)⟩
theorem Kw.ns {Z : Led} {h h' : Heap} (k : Kw Z h h') {a : Addr} {m : Str → Option Value} (e : h.Ns a m) : h'.Ns a m := by
  obtain ⟨o,es,ep,ho,hd,r⟩ := e
  obtain ⟨_,o',e',d',_⟩ := k a o ho
  exact ⟨o',es,ep,e',d'.trans hd,r⟩
theorem Kw.cell {Z : Led} {h h' : Heap} (k : Kw Z h h') {a : Addr} {v : Option Value} (e : h.IsCell a v) : h'.IsCell a v := by
  obtain ⟨o,ho,hd⟩ := e
  obtain ⟨_,o',e',d',_⟩ := k a o ho
  exact ⟨o',e',d'.trans hd⟩
theorem Kp.isList {h h' : Heap} (k : Kp h h') {a : Addr} {xs : Array Value} (e : h.IsList a xs) : h'.IsList a xs := (k.w fun _ => Option.none).isList e
theorem Kp.plain {h h' : Heap} (k : Kp h h') {a : Addr} {xs : Array Value} (e : h.PlainList a xs) : h'.PlainList a xs := (k.w fun _ => Option.none).plain e
theorem Kp.ns {h h' : Heap} (k : Kp h h') {a : Addr} {m : Str → Option Value} (e : h.Ns a m) : h'.Ns a m := (k.w fun _ => Option.none).ns e
theorem Kp.cell {h h' : Heap} (k : Kp h h') {a : Addr} {v : Option Value} (e : h.IsCell a v) : h'.IsCell a v := (k.w fun _ => Option.none).cell e
noncomputable def KpB (Z : Led) (P : Addr → Prop) (h h' : Heap) : Prop := ∀ b o,¬ P b → h.get? b = some o → ((Z b = some o ∨ NoDict o) → h'.get? b = some o) ∧ ∃ o',h'.get? b = some o' ∧ o'.data = o.data ∧ o'.cls = o.cls
theorem Kw.but {Z : Led} {P : Addr → Prop} {h h' : Heap} (k : Kw Z h h') : KpB Z P h h' := fun b o _ e => k b o e
theorem KpB.mono {Z : Led} {P P' : Addr → Prop} {h h' : Heap} (k : KpB Z P h h') (s : ∀ a o,h.get? a = some o → P a → P' a) : KpB Z P' h h' := fun b o n e => k b o (fun q => n (s b o e q)) e
theorem KpB.none {Z : Led} {P : Addr → Prop} {h h' : Heap} (k : KpB Z P h h') {a : Addr} (n : ¬ P a) (e : h'.get? a = none) : h.get? a = none := by
  cases q : h.get? a with
  | none => rfl
  | some o => obtain ⟨_,o',e',_⟩ := k a o n q; rw [e] at e'; cases e'
structure Grow (Z : Led) (h : Heap) (Z' : Led) (h' : Heap) : Prop where
  kp : Kw Z h h'
  le : Led.le Z Z'
  new : ∀ a o,Z' a = some o → Z a = some o ∨ h.get? a = none
  sub : ∀ a o,Z' a = some o → h'.get? a = some o
  ok : ∀ a o,Z' a = some o → Tt o
theorem Grow.refl {Z : Led} {h : Heap} (s : ∀ a o,Z a = some o → h.get? a = some o) (k : ∀ a o,Z a = some o → Tt o) : Grow Z h Z h :=
  ⟨(Kp.refl h).w Z,fun _ _ e => e,fun _ _ e => .inl e,s,k⟩
theorem Grow.trans {Z Z' Z'' : Led} {h h' h'' : Heap} (a : Grow Z h Z' h') (b : Grow Z' h' Z'' h'') : Grow Z h Z'' h'' :=
  ⟨a.kp.trans a.le b.kp,fun x o e => b.le x o (a.le x o e),fun x o e => by
    rcases b.new x o e with q | q
    · exact a.new x o q
    · exact .inr (a.kp.none q),b.sub,b.ok⟩
theorem Grow.keep {Z : Led} {h h' : Heap} (s : ∀ a o,Z a = some o → h.get? a = some o) (k : ∀ a o,Z a = some o → Tt o) (kp : Kp h h') : Grow Z h Z h' :=
  ⟨kp.w Z,fun _ _ e => e,fun _ _ e => .inl e,fun a o e => kp a o (s a o e),k⟩
noncomputable def Led.put (Z : Led) (a : Addr) (o : Obj) : Led := fun b => if b = a then some o else Z b
theorem Led.put_self (Z : Led) (a : Addr) (o : Obj) : Led.put Z a o a = some o := by simp [Led.put]
theorem Led.put_le {Z : Led} {a : Addr} {o : Obj} (n : Z a = none) : Led.le Z (Led.put Z a o) := fun b q e => by
  unfold Led.put
  split
  · rename_i hb; rw [hb,n] at e; cases e
  · exact e
theorem Grow.put {Z Z' : Led} {h h' : Heap} (g : Grow Z h Z' h') {a : Addr} {o : Obj} (n : Z' a = none) (f : h.get? a = none) (e : h'.get? a = some o) (c : Tt o) : Grow Z h (Led.put Z' a o) h' :=
  ⟨g.kp,fun b q x => Led.put_le n b q (g.le b q x),fun b q x => by
    unfold Led.put at x
    split at x
    · rename_i hb; subst hb; exact .inr f
    · exact g.new b q x,fun b q x => by
    unfold Led.put at x
    split at x
    · rename_i hb; subst hb; cases x; exact e
    · exact g.sub b q x,fun b q x => by
    unfold Led.put at x
    split at x
    · cases x; exact c
    · exact g.ok b q x⟩
end Mine
namespace Mine
open PySem PySem.Calls PyProof.Rows
set_option genSizeOf false in
set_option genInjectivity false in
structure Cx where
  prog : Program
  w : World
  base : Heap
  mg : Str → Option Value
  mb : Str → Option Value
  fns : List Fn
  gs : Gs
  shopC : Addr
  K : PySem.W.Frag
  up : List Addr
  exc : Nat → Option Addr
noncomputable def shopObj (C dx : Addr) : Obj := { cls := .ref C,dict := some dx,data := .plain }
noncomputable def dictObj (o : Obj) (es : List DictEntry) (n : Nat) : Obj := ⟨o.cls,o.dict,.dict es.toArray n,o.slots⟩
inductive ShopIs (C : Addr) (Z : Led) (v : Value) (ns ps : List Dat) : Prop
  | mk (x : _) (dx : _) (od : _) (es : _) (n : _) (e₁ : _) (e₂ : _) : (v = .ref x) → (Z x = some (shopObj C dx)) → (Z dx = some (dictObj od es n)) → (es.find? (·.key.isStr "names") = some e₁) → (es.find? (·.key.isStr "prices") = some e₂) → (es.find? (·.key.isStr "place") = none) → (es.any (·.refKey) = false) → Rep Z e₁.val (.lst ns) → Rep Z e₂.val (.lst ps) → ShopIs C Z v ns ps
inductive ExcI (X : Nat → Option Addr) (h : Heap) (v : Value) (c : Nat) : Prop
  | mk (e : _) (oe : _) (vs : _) (C : _) : v = .ref e → X c = some C → h.get? e = some oe → oe.cls = .ref C → oe.data = .fields vs → ExcI X h v c
noncomputable def ExcIs (Γ : Cx) (h : Heap) (v : Value) (c : Nat) : Prop := ExcI Γ.exc h v c
noncomputable def TrIs (f : Option Addr) (Z : Led) (h₀ h : Heap) (e : Addr) (v : Value) : Prop := v = .none ∨ ∃ T oT ts,v = .ref T ∧ h₀.get? T = none ∧ Z T = none ∧ T ≠ e ∧ h.get? T = some oT ∧ oT.data = .fields ts ∧ (ts[3]? = some .none ∨ ∃ L,f = some L ∧ ts[3]? = some (rawInt L))
inductive XPi (X : Nat → Option Addr) (f : Option Addr) (c : Nat) (v : Value) (Z : Led) (h₀ h : Heap) : Prop
  | mk (e : _) (oe : _) (vs : _) (C : _) (u : _) : v = .ref e → X c = some C → h₀.get? e = none → Z e = none → h.get? e = some oe → oe.cls = .ref C → oe.data = .fields vs → vs[1]? = some u → TrIs f Z h₀ h e u → XPi X f c v Z h₀ h
noncomputable def XP (Γ : Cx) (f : Option Addr) (c : Nat) (v : Value) (Z : Led) (h₀ h : Heap) : Prop := XPi Γ.exc f c v Z h₀ h
inductive OwnIs (Z : Led) (h : Heap) (a : Addr) (ds : List Dat) : Prop
  | mk (vs : _) : (Z a = none) → h.PlainList a vs.toArray → (vs.length ≤ line) → RepL Z vs ds → OwnIs Z h a ds
inductive OwnV (Z : Led) (fr : Addr → Prop) (h : Heap) (v : Value) (ds : List Dat) : Prop
  | mk (a : _) : v = .ref a → fr a → OwnIs Z h a ds → OwnV Z fr h v ds
inductive LisV (Z : Led) (h : Heap) (v : Value) (ds : List Dat) : Prop
  | mk (a : _) (vs : _) : v = .ref a → h.PlainList a vs.toArray → vs.length ≤ line → RepL Z vs ds → LisV Z h v ds
inductive PrV (Z : Led) (fr : Addr → Prop) (h : Heap) (v : Value) (d : Dat) (ds : List Dat) : Prop
  | mk (t : _) (a : _) (u : _) (k : _) : v = .ref t → t ≠ a → fr t → fr a → Z t = none → h.get? t = some { cls := .type "tuple",data := .seq #[u,.ref a] k } → Rep Z u d → OwnIs Z h a ds → PrV Z fr h v d ds
noncomputable def RepV (Γ : Cx) (Z : Led) (fr : Addr → Prop) (h : Heap) (v : Value) : Val → Prop
  | .un => False
  | .sh d => Rep Z v d
  | .own ds => OwnV Z fr h v ds
  | .bor ds => LisV Z h v ds
  | .shop ns ps => ShopIs Γ.shopC Z v ns ps
  | .exc c => ExcIs Γ h v c
  | .pr d ds => PrV Z fr h v d ds
theorem OwnIs.grow {Z Z' : Led} {h h' : Heap} {a : Addr} {ds : List Dat} (x : OwnIs Z h a ds) (g : Grow Z h Z' h') : OwnIs Z' h' a ds := by
  obtain ⟨vs,n,p,l,r⟩ := x
  refine ⟨vs,?_,g.kp.plain p,l,r.mono g.le⟩
  cases q : Z' a with
  | none => rfl
  | some o =>
    rcases g.new a o q with e | e
    · rw [n] at e; cases e
    · obtain ⟨k,e'⟩ := p; rw [e] at e'; cases e'
theorem ShopIs.mono {C : Addr} {Z Z' : Led} (h : Led.le Z Z') {v : Value} {ns ps : List Dat} (x : ShopIs C Z v ns ps) : ShopIs C Z' v ns ps := by
  obtain ⟨x,dx,od,es,n,e₁,e₂,a,b,c,d,e,f,g,i,j⟩ := x
  exact ⟨x,dx,od,es,n,e₁,e₂,a,h _ _ b,h _ _ c,d,e,f,g,i.mono h,j.mono h⟩
theorem RepV.grow {Γ : Cx} {Z Z' : Led} {fr : Addr → Prop} {h h' : Heap} {v : Value} {x : Val} (r : RepV Γ Z fr h v x) (g : Grow Z h Z' h') : RepV Γ Z' fr h' v x := by
  cases x with
  | un => exact r
  | sh d => exact Rep.mono g.le r
  | own ds => obtain ⟨a,e,f,o⟩ := r; exact ⟨a,e,f,o.grow g⟩
  | bor ds => obtain ⟨a,vs,e,l,z,o⟩ := r; exact ⟨a,vs,e,g.kp.plain l,z,o.mono g.le⟩
  | shop ns ps => exact ShopIs.mono g.le r
  | exc c =>
    refine cps fun P_ hP_ => ?_
    obtain ⟨e,oe,vs,C,h1,h2,h3,h4,h5⟩ := r
    obtain ⟨_,o',e',d',c'⟩ := g.kp e oe h3
    refine hP_ ?_
    clear hP_ P_
    exact ⟨e,o',vs,C,h1,h2,e',c'.trans h4,d'.trans h5⟩
  | pr d ds =>
    obtain ⟨t,a,u,k,e,n,f1,f2,z,o,rr,ow⟩ := r
    refine ⟨t,a,u,k,e,n,f1,f2,?_,(g.kp t _ o).1 (.inr fun es m q => by cases q),rr.mono g.le,ow.grow g⟩
    cases q : Z' t with
    | none => rfl
    | some o' =>
      rcases g.new t o' q with e | e
      · rw [z] at e; cases e
      · rw [e] at o; cases o
theorem RepV.weak {Γ : Cx} {Z : Led} {fr fr' : Addr → Prop} {h : Heap} {v : Value} {x : Val} (r : RepV Γ Z fr h v x) (s : ∀ a,fr a → fr' a) : RepV Γ Z fr' h v x := by
  cases x with
  | own ds => obtain ⟨a,e,f,o⟩ := r; exact ⟨a,e,s a f,o⟩
  | pr d ds => obtain ⟨t,a,u,k,e,n,f1,f2,z,o,rr,ow⟩ := r; exact ⟨t,a,u,k,e,n,s t f1,s a f2,z,o,rr,ow⟩
  | _ => exact r
structure FrS (env : Env) (h : Heap) (m : Str → Option Value) : Prop where
  loc : ∃ ml,h.Ns env.locals ml ∧ ∀ x,env.kindOf x = some .local → ml x = m x
  cel : ∀ x,env.kindOf x = some .cell → ∃ c,env.cells.lookup x = some c ∧ h.IsCell c (m x)
  inj : ∀ x y c,env.kindOf x = some .cell → env.kindOf y = some .cell → env.cells.lookup x = some c → env.cells.lookup y = some c → x = y
theorem FrS.kp {Z : Led} {env : Env} {h h' : Heap} {m : Str → Option Value} (F : FrS env h m) (k : Kw Z h h') : FrS env h' m := by
  obtain ⟨⟨ml,a,b⟩,c,d⟩ := F
  exact ⟨⟨ml,k.ns a,b⟩,fun x e => let ⟨q,l,i⟩ := c x e; ⟨q,l,k.cell i⟩,d⟩
noncomputable def FP (env : Env) (a : Addr) : Prop := a = env.locals ∨ ∃ x,env.kindOf x = some .cell ∧ env.cells.lookup x = some a
theorem FrS.there {env : Env} {h : Heap} {m : Str → Option Value} (F : FrS env h m) {a : Addr} (p : FP env a) : ∃ o,h.get? a = some o := by
  rcases p with rfl | ⟨x,k,l⟩
  · obtain ⟨⟨ml,⟨o,_,_,e,_⟩,_⟩,_,_⟩ := F; exact ⟨o,e⟩
  · obtain ⟨c,l',o,e,_⟩ := F.cel x k
    rw [l] at l'; cases l'; exact ⟨o,e⟩
inductive OwnAt (nm : Nm) (ρ : List Val) (m : Str → Option Value) (a : Addr) : Prop
  | mk (x : _) (i : _) (ds : _) : (nm.lookup x = some i) → (ρ.getD i .un = .own ds) → (m x = some (.ref a)) → OwnAt nm ρ m a
structure Inv (Γ : Cx) (nm : Nm) (ρ : List Val) (env : Env) (Z : Led) (h : Heap) (m : Str → Option Value) : Prop where
  fr : FrS env h m
  sub : ∀ a o,Z a = some o → h.get? a = some o
  ok : ∀ a o,Z a = some o → Tt o
  zfp : ∀ a,FP env a → Z a = none
  kz : ∀ a o,Γ.base.get? a = some o → Z a = some o
  ups : ∀ L ∈ Γ.up,Z L = none ∧ ∃ o es k,h.get? L = some o ∧ o.data = .dict es k
  var : ∀ x i,nm.lookup x = some i → ρ.getD i .un ≠ .un → ∃ v,m x = some v ∧ RepV Γ Z (fun _ => True) h v (ρ.getD i .un)
  nopr : ∀ i d ds,ρ.getD i .un ≠ .pr d ds
  inj : ∀ x y k,nm.lookup x = some k → nm.lookup y = some k → x = y
  fpb : ∀ a,FP env a → Γ.base.get? a = none
  ownb : ∀ a,OwnAt nm ρ m a → Γ.base.get? a = none
  apart : ∀ x y i j a ds es,nm.lookup x = some i → nm.lookup y = some j → ρ.getD i .un = .own ds → (ρ.getD j .un = .own es ∨ ρ.getD j .un = .bor es) → m x = some (.ref a) → m y = some (.ref a) → x = y
theorem Inv.grow {Γ : Cx} {nm : Nm} {ρ : List Val} {env : Env} {Z Z' : Led} {h h' : Heap} {m : Str → Option Value} (I : Inv Γ nm ρ env Z h m) (g : Grow Z h Z' h') : Inv Γ nm ρ env Z' h' m where
  fr := I.fr.kp g.kp
  sub := g.sub
  ok := g.ok
  zfp := fun a p => by
    cases q : Z' a with
    | none => rfl
    | some o =>
      rcases g.new a o q with e | e
      · rw [I.zfp a p] at e; cases e
      · obtain ⟨o',e'⟩ := I.fr.there p; rw [e] at e'; cases e'
  kz := fun a o e => g.le a o (I.kz a o e)
  ups := fun L hL => by
    refine cps fun P_ hP_ => ?_
    obtain ⟨z,o,es,k,e,d⟩ := I.ups L hL
    obtain ⟨_,o',e',d',_⟩ := g.kp L o e
    refine hP_ ?_
    clear hP_ P_
    refine ⟨?_,o',es,k,e',d'.trans d⟩
    cases q : Z' L with
    | none => rfl
    | some o2 =>
      rcases g.new L o2 q with q | q
      · rw [z] at q; cases q
      · rw [e] at q; cases q
  var := fun x i l n => let ⟨v,e,r⟩ := I.var x i l n; ⟨v,e,r.grow g⟩
  nopr := I.nopr
  inj := I.inj
  fpb := I.fpb
  ownb := I.ownb
  apart := I.apart
theorem Inv.kb {Γ : Cx} {nm : Nm} {ρ : List Val} {env : Env} {Z : Led} {h : Heap} {m : Str → Option Value} (I : Inv Γ nm ρ env Z h m) : Kp Γ.base h := fun a o e => I.sub a o (I.kz a o e)
theorem Inv.refl {Γ : Cx} {nm : Nm} {ρ : List Val} {env : Env} {Z : Led} {h : Heap} {m : Str → Option Value} (I : Inv Γ nm ρ env Z h m) : Grow Z h Z h := Grow.refl I.sub I.ok
structure EnvOk (env : Env) : Prop where
  kind : env.scope.kind = .function
  glob : env.globals = mainGlobals
  bui : env.builtins = builtinsNs
structure AOk (n : Nat) (A : Around) : Prop where
  depth : A.depth + 2 * n < recursionLimit
  units : A.units + 8 * n + 200 ≤ cLine
structure AOx (Γ : Cx) (nm : Nm) (n : Nat) (A : Around) (env : Env) : Prop extends AOk n A where
  hd : loud nm = true → A.handled = none
  fr : ∃ e₀ l,A.frames = some (e₀ :: l) ∧ e₀.frame = env.frame ∧ ∀ e ∈ e₀ :: l,e.scope.kind ≠ .module ∧ ∃ L,e.frame = some L ∧ L ∈ Γ.up
noncomputable instance {Γ : Cx} {nm : Nm} {n : Nat} {A : Around} {env : Env} : CoeOut (AOx Γ nm n A env) (AOk n A) := ⟨fun h => h.toAOk⟩
theorem XP.old {Γ : Cx} {f : Option Addr} {c : Nat} {v : Value} {Z : Led} {h₀ h₁ h : Heap} (n : ∀ a,h₁.get? a = none → h₀.get? a = none) (x : XP Γ f c v Z h₁ h) : XP Γ f c v Z h₀ h := by
  obtain ⟨e,oe,vs,C,u,a1,a2,a3,a4,a5,a6,a7,a8,t⟩ := x
  refine ⟨e,oe,vs,C,u,a1,a2,n _ a3,a4,a5,a6,a7,a8,t.imp id ?_⟩
  rintro ⟨T,oT,ts,b1,b2,b3⟩
  exact ⟨T,oT,ts,b1,n _ b2,b3⟩
end Mine
namespace Mine
open PySem PySem.Calls PyProof.Rows
theorem Out.bind_assoc {α β γ : Type} (r : Out α) (f : α → Out β) (g : β → Out γ) : ((r >>= f) >>= g) = (r >>= fun x => f x >>= g) := by
  cases r <;> rfl
noncomputable abbrev Tr (β : Type) := (β → Shared → Prop) → (Value → Shared → Prop) → Shared → Prop
noncomputable abbrev wpt (Γ : Cx) (A : Around) {β : Type} (t : Sem β) : Tr β := fun Q E s => wpAny (model Γ.prog Γ.w) A t Q E s
noncomputable def EvT {α β : Type} (Γ : Cx) (A : Around) (env : Env) (Z : Led) (s : Shared) (P : Led → Heap → β → α → Prop) (r : Out α) (W : Tr β) : Prop :=
  r ≠ .bad → ∀ Q E,(∀ x v Z' h' tk,r = .ok x → Grow Z s.heap Z' h' → P Z' h' v x → Q v { s with heap := h',toks := tk }) →
    (∀ c e Z' h' tk,r = .exn c → Grow Z s.heap Z' h' → XP Γ env.frame c e Z' s.heap h' → E e { s with heap := h',toks := tk }) → W Q E s
section
variable {α β γ δ : Type} {Γ : Cx} {A : Around} {env : Env} {Z : Led} {s : Shared}
theorem EvT.bind {P1 : Led → Heap → β → α → Prop} {P2 : Led → Heap → δ → γ → Prop} {r1 : Out α} {f : α → Out γ} {W1 : Tr β} {W2 : β → Tr δ}
    (H1 : EvT Γ A env Z s P1 r1 W1)
    (H2 : ∀ x v Z' h' tk,r1 = .ok x → Grow Z s.heap Z' h' → P1 Z' h' v x → EvT Γ A env Z' { s with heap := h',toks := tk } P2 (f x) (W2 v)) :
    EvT Γ A env Z s P2 (r1 >>= f) (fun Q E s => W1 (fun v s' => W2 v Q E s') E s) := by
  intro hne Q E hQ hE
  refine H1 (fun q => hne (by rw [q]; rfl)) _ E (fun x v Z' h' tk e g p => ?_) (fun c e Z' h' tk q g xp => hE c e Z' h' tk (by rw [q]; rfl) g xp)
  subst e
  exact H2 x v Z' h' tk rfl g p hne Q E (fun y u Z'' h'' tk' e' g' p' => hQ y u Z'' h'' tk' e' (g.trans g') p') (fun c e Z'' h'' tk' q g' xp => hE c e Z'' h'' tk' q (g.trans g') (xp.old fun a q => g.kp.none q))
theorem EvT.rule {P : Led → Heap → β → α → Prop} {r : Out α} {W W' : Tr β} (h : ∀ Q E,W Q E s → W' Q E s) (H : EvT Γ A env Z s P r W) : EvT Γ A env Z s P r W' :=
  fun hne Q E hQ hE => h Q E (H hne Q E hQ hE)
theorem EvT.mono {P P' : Led → Heap → β → α → Prop} {r : Out α} {W : Tr β} (H : EvT Γ A env Z s P r W) (h : ∀ Z' h' v x,r = .ok x → Grow Z s.heap Z' h' → P Z' h' v x → P' Z' h' v x) : EvT Γ A env Z s P' r W :=
  fun hne Q E hQ hE => H hne Q E (fun x v Z' h' tk e g p => hQ x v Z' h' tk e g (h Z' h' v x e g p)) hE
theorem EvT.conv {P : Led → Heap → β → α → Prop} {P' : Led → Heap → β → γ → Prop} {r : Out α} {f : α → Out γ} {W : Tr β} (H : EvT Γ A env Z s P r W)
    (h : ∀ Z' h' v x,Grow Z s.heap Z' h' → P Z' h' v x → (f x = .bad) ∨ ∃ y Z'',f x = .ok y ∧ Grow Z s.heap Z'' h' ∧ P' Z'' h' v y) : EvT Γ A env Z s P' (r >>= f) W := by
  intro hne Q E hQ hE
  refine H (fun q => hne (by rw [q]; rfl)) Q E (fun x v Z' h' tk e g p => ?_) (fun c e Z' h' tk q g xp => hE c e Z' h' tk (by rw [q]; rfl) g xp)
  subst e
  rcases h Z' h' v x g p with q | ⟨y,Z'',q,g',p'⟩
  · exact absurd q hne
  · exact hQ y v Z'' h' tk q g' p'
theorem EvT.badE {P : Led → Heap → β → α → Prop} {W : Tr β} {r : Out α} (h : r = .bad) : EvT Γ A env Z s P r W := fun hne => absurd h hne
theorem EvT.bad {P : Led → Heap → β → α → Prop} {W : Tr β} : EvT Γ A env Z s P .bad W := fun hne => absurd rfl hne
theorem EvT.guard {P : Led → Heap → β → α → Prop} {W : Tr β} {r : Out α} {c : Prop} [Decidable c] (H : c → EvT Γ A env Z s P r W) : EvT Γ A env Z s P (if c then r else .bad) W := by
  by_cases h : c
  · rw [if_pos h]; exact H h
  · rw [if_neg h]; exact .bad
theorem EvT.eq {P : Led → Heap → β → α → Prop} {r r' : Out α} {W : Tr β} (H : EvT Γ A env Z s P r W) (e : r' = r) : EvT Γ A env Z s P r' W := e ▸ H
theorem EvT.now {P : Led → Heap → β → α → Prop} {x : α} {W : Tr β} (sub : ∀ a o,Z a = some o → s.heap.get? a = some o) (ok : ∀ a o,Z a = some o → Tt o)
    (h : ∀ Q E,(∀ v h' tk,Kp s.heap h' → P Z h' v x → Q v { s with heap := h',toks := tk }) → W Q E s) : EvT Γ A env Z s P (.ok x) W :=
  fun _ Q E hQ _ => h Q E fun v h' tk k p => hQ x v Z h' tk rfl (Grow.keep sub ok k) p
end
noncomputable abbrev PW (Γ : Cx) (h₀ : Heap) : Led → Heap → Value → Val → Prop := fun Z h v x => RepV Γ Z (fun a => h₀.get? a = none) h v x
inductive LentAt (Z : Led) (h : Heap) (v : Value) (d : Dat) : Prop
  | mk (a : _) (vs : _) (ds : _) : v = .ref a → d = .lst ds → h.PlainList a vs.toArray → vs.length ≤ line → RepL Z vs ds → LentAt Z h v d
noncomputable def RepB (Z : Led) (h : Heap) (v : Value) (d : Dat) : Prop := Rep Z v d ∨ LentAt Z h v d
noncomputable abbrev PD : Led → Heap → Value → Dat → Prop := fun Z _ v d => Rep Z v d
noncomputable abbrev PI : Led → Heap → Value → Int → Prop := fun _ _ v i => ∃ t,v = .int i t
noncomputable abbrev PBo : Led → Heap → Value → Bool → Prop := fun _ _ v b => v = .bool b
noncomputable abbrev PTr : Led → Heap → Bool → Bool → Prop := fun _ _ v b => v = b
section
variable {Γ : Cx} {A : Around} {env : Env} {Z : Led} {s : Shared} {r : Out Val} {W : Tr Value}
theorem RepB.grow {Z Z' : Led} {h h' : Heap} {v : Value} {d : Dat} (x : RepB Z h v d) (g : Grow Z h Z' h') : RepB Z' h' v d := by
  rcases x with x | ⟨a,vs,ds,e,e',l,z,r⟩
  · exact .inl (x.mono g.le)
  · exact .inr ⟨a,vs,ds,e,e',g.kp.plain l,z,r.mono g.le⟩
inductive Frozen (Z : Led) (h : Heap) (Z' : Led) (h' : Heap) (a : Addr) (ds : List Dat) : Prop
  | mk (Z'' : _) : Grow Z h Z'' h' → Led.le Z' Z'' → Rep Z'' (.ref a) (.lst ds) → (∀ b,b ≠ a → Z'' b = Z' b) → Frozen Z h Z' h' a ds
theorem freeze_own {Z Z' : Led} {h h' : Heap} (g : Grow Z h Z' h') {a : Addr} {ds : List Dat} (f : h.get? a = none) (o : OwnIs Z' h' a ds) :
    Frozen Z h Z' h' a ds := by
  obtain ⟨vs,n,⟨k,e⟩,l,r⟩ := o
  refine ⟨Led.put Z' a _,g.put n f e trivial,Led.put_le n,?_,fun b hb => if_neg hb⟩
  exact .lst (Led.put_self _ _ _) l (r.mono (Led.put_le n))
theorem freeze_pr {Z Z' : Led} {h h' : Heap} (g : Grow Z h Z' h') {v : Value} {d : Dat} {ds : List Dat} (x : RepV Γ Z' (fun a => h.get? a = none) h' v (.pr d ds)) : ∃ Z'',Grow Z h Z'' h' ∧ Rep Z'' v (.tup [d,.lst ds]) := by
  obtain ⟨t,a,u,k,e,n,f1,f2,z,o,rr,ow⟩ := x
  obtain ⟨Z'',g',le,r,q⟩ := freeze_own g f2 ow
  have zt : Z'' t = none := (q t n).trans z
  subst e
  exact ⟨Led.put Z'' t _,g'.put zt f1 o trivial,.tup (vs := [u,.ref a]) (Led.put_self _ _ _) (by show 2 ≤ line; decide) (.cons ((rr.mono le).mono (Led.put_le zt)) (.one (r.mono (Led.put_le zt))))⟩
theorem EvT.toD (H : EvT Γ A env Z s (PW Γ s.heap) r W) : EvT Γ A env Z s PD (r >>= needD) W := by
  refine H.conv fun Z' h' v x g p => ?_
  cases x with
  | sh d => exact .inr ⟨d,Z',rfl,g,p⟩
  | own ds =>
    obtain ⟨a,rfl,f,o⟩ := p
    obtain ⟨Z'',g',_,r,_⟩ := freeze_own g f o
    exact .inr ⟨_,Z'',rfl,g',r⟩
  | pr d ds =>
    obtain ⟨Z'',g',r⟩ := freeze_pr g p
    exact .inr ⟨_,Z'',rfl,g',r⟩
  | _ => exact .inl rfl
theorem EvT.toB (H : EvT Γ A env Z s (PW Γ s.heap) r W) : EvT Γ A env Z s RepB (r >>= needB) W := by
  refine H.conv fun Z' h' v x g p => ?_
  cases x with
  | sh d => exact .inr ⟨d,Z',rfl,g,.inl p⟩
  | own ds =>
    obtain ⟨a,rfl,f,o⟩ := p
    obtain ⟨Z'',g',_,r,_⟩ := freeze_own g f o
    exact .inr ⟨_,Z'',rfl,g',.inl r⟩
  | bor ds =>
    obtain ⟨a,vs,rfl,l,z,r⟩ := p
    exact .inr ⟨_,Z',rfl,g,.inr ⟨a,vs,ds,rfl,rfl,l,z,r⟩⟩
  | pr d ds =>
    obtain ⟨Z'',g',r⟩ := freeze_pr g p
    exact .inr ⟨_,Z'',rfl,g',.inl r⟩
  | _ => exact .inl rfl
theorem EvT.toI (H : EvT Γ A env Z s (PW Γ s.heap) r W) : EvT Γ A env Z s PI (r >>= intD) W := by
  refine H.conv fun Z' h' v x g p => ?_
  cases x with
  | sh d =>
    cases d with
    | int i => cases p with | int _ t => exact .inr ⟨i,Z',rfl,g,t,rfl⟩
    | _ => exact .inl rfl
  | _ => exact .inl rfl
theorem EvT.toBo (H : EvT Γ A env Z s (PW Γ s.heap) r W) : EvT Γ A env Z s PBo (r >>= boolD) W := by
  refine H.conv fun Z' h' v x g p => ?_
  cases x with
  | sh d =>
    cases d with
    | bool i => cases p with | bool _ => exact .inr ⟨i,Z',rfl,g,rfl⟩
    | _ => exact .inl rfl
  | _ => exact .inl rfl
theorem EvT.old {Z₀ : Led} {h₀ : Heap} (g : Grow Z₀ h₀ Z s.heap) (H : EvT Γ A env Z s (PW Γ s.heap) r W) : EvT Γ A env Z s (PW Γ h₀) r W :=
  H.mono fun _ _ _ _ _ _ p => RepV.weak p fun _ q => g.kp.none q
theorem EvT.data {d : Dat} (sub : ∀ a o,Z a = some o → s.heap.get? a = some o) (ok : ∀ a o,Z a = some o → Tt o) {h₀ : Heap}
    (h : ∀ Q E,(∀ v h' tk,Kp s.heap h' → Rep Z v d → Q v { s with heap := h',toks := tk }) → W Q E s) : EvT Γ A env Z s (PW Γ h₀) (.ok (.sh d)) W :=
  EvT.now sub ok h
end
end Mine
namespace Mine
open PySem PySem.Calls PyProof.Rows
theorem notDebug_of {x : Str} (h : notDebug x = true) : (x == ("__debug__" : Str)) = false := by
  unfold notDebug at h; simpa using h
section
variable {Γ : Cx} {A : Around} {env : Env} {Z : Led} {s : Shared} {nm : Nm} {ρ : List Val} {m : Str → Option Value}
theorem ev_int (I : Inv Γ nm ρ env Z s.heap m) (i : Int) (k : Nat) (pos : Pos) : EvT Γ A env Z s (PW Γ s.heap) (.ok (.sh (.int i))) (wpt Γ A (eval (.Constant (.int i) k pos) env)) :=
  EvT.data I.sub I.ok fun _ _ hQ => wpAny_Constant_int (hQ _ _ _ (.refl _) (.int _ _))
theorem ev_str (I : Inv Γ nm ρ env Z s.heap m) (x : Str) (ok : PyData.strOk x = true) (le : x.length ≤ line) (k : Nat) (pos : Pos) : EvT Γ A env Z s (PW Γ s.heap) (.ok (.sh (.str x.cps.toList))) (wpt Γ A (eval (.Constant (.str x) k pos) env)) :=
  EvT.data I.sub I.ok fun _ _ hQ => Constant_str (hQ _ _ _ (.refl _) (.str _ _ ok le))
theorem ev_none (I : Inv Γ nm ρ env Z s.heap m) (k : Nat) (pos : Pos) : EvT Γ A env Z s (PW Γ s.heap) (.ok (.sh .none)) (wpt Γ A (eval (.Constant .none k pos) env)) :=
  EvT.data I.sub I.ok fun _ _ hQ => show wpAny _ _ (pure Value.none) _ _ _ from wpAny_pure (hQ _ s.heap s.toks (.refl _) .none)
theorem ev_bool (I : Inv Γ nm ρ env Z s.heap m) (b : Bool) (k : Nat) (pos : Pos) : EvT Γ A env Z s (PW Γ s.heap) (.ok (.sh (.bool b))) (wpt Γ A (eval (.Constant (.bool b) k pos) env)) :=
  EvT.data I.sub I.ok fun _ _ hQ => show wpAny _ _ (pure (Value.bool b)) _ _ _ from wpAny_pure (hQ _ s.heap s.toks (.refl _) (.bool _))
theorem load_var (hk : env.scope.kind = .function) (F : FrS env s.heap m) {x : Str} {v : Value} (hx : env.kindOf x = some .local ∨ env.kindOf x = some .cell) (hv : m x = some v) (hd : notDebug x = true) {pos : Pos} {Q : Value → Shared → Prop} {E : Value → Shared → Prop}
    (h : Q v s) : wpAny (model Γ.prog Γ.w) A (eval (.Name x pos) env) Q E s := by
  rcases hx with hx | hx
  · obtain ⟨ml,a,b⟩ := F.loc
    exact wpAny_Name (wpAny_loadName_local hk hx a ((b x hx).trans hv) h) (notDebug_of hd)
  · obtain ⟨c,l,i⟩ := F.cel x hx
    exact wpAny_Name (wpAny_loadName_cell hk hx l (hv ▸ i) h) (notDebug_of hd)
theorem varOf_kind {nm : Nm} {sc : Scope} {x : Str} {i : Nat} (h : varOf nm sc x = some i) : (sc.names.lookup x = some .local ∨ sc.names.lookup x = some .cell) ∧ nm.lookup x = some i := by
  unfold varOf at h
  generalize sc.names.lookup x = r at h
  cases r with
  | none => cases h
  | some k => cases k <;> first | exact ⟨.inl rfl,h⟩ | exact ⟨.inr rfl,h⟩ | (cases h; done)
theorem ev_var (hk : env.scope.kind = .function) (I : Inv Γ nm ρ env Z s.heap m) {x : Str} {i : Nat} (hv : varOf nm env.scope x = some i) (hd : notDebug x = true) (pos : Pos) :
    EvT Γ A env Z s (PW Γ s.heap) (rd (ρ.getD i .un)) (wpt Γ A (eval (.Name x pos) env)) := by
  obtain ⟨kd,nl⟩ := varOf_kind hv
  intro hne Q E hQ hE
  have hu : ρ.getD i .un ≠ .un := fun q => hne (by rw [q]; rfl)
  obtain ⟨v,e,r⟩ := I.var x i nl hu
  generalize ρ.getD i .un = y at *
  have key : ∀ z,rd y = .ok z → RepV Γ Z (fun a => s.heap.get? a = none) s.heap v z := by
    intro z hz
    cases y with
    | un => cases hz
    | sh d => cases hz; exact r
    | own ds => cases hz; obtain ⟨a,e,_,vs,n,p,l,rr⟩ := r; exact ⟨a,vs,e,p,l,rr⟩
    | bor ds => cases hz; exact r
    | shop a b => cases hz; exact r
    | exc c => cases hz; exact r
    | pr d ds => cases hz
  have hz : ∃ z,rd y = .ok z := by
    cases y <;> first | exact ⟨_,rfl⟩ | exact absurd rfl hne
  obtain ⟨z,hz⟩ := hz
  refine load_var hk I.fr kd e hd ?_
  exact hQ z v Z s.heap s.toks hz I.refl (key z hz)
theorem load_glob (O : EnvOk env) (g : Γ.base.Ns mainGlobals Γ.mg) (I : Inv Γ nm ρ env Z s.heap m) {x : Str} {v : Value} (hx : env.kindOf x = some .globalImplicit) (hv : Γ.mg x = some v) (hd : notDebug x = true) {pos : Pos}
    {Q : Value → Shared → Prop} {E : Value → Shared → Prop} (h : Q v s) : wpAny (model Γ.prog Γ.w) A (eval (.Name x pos) env) Q E s :=
  Name_function_global O.kind hx (loadGlobal_global (O.glob ▸ I.kb.ns g) hv h) (notDebug_of hd)
theorem load_bui (O : EnvOk env) (g : Γ.base.Ns mainGlobals Γ.mg) (b : Γ.base.Ns builtinsNs Γ.mb) (I : Inv Γ nm ρ env Z s.heap m) {x : Str} {v : Value} (hx : env.kindOf x = some .globalImplicit) (hm : Γ.mg x = none) (hv : Γ.mb x = some v) (hd : notDebug x = true)
    {pos : Pos} {Q : Value → Shared → Prop} {E : Value → Shared → Prop} (h : Q v s) : wpAny (model Γ.prog Γ.w) A (eval (.Name x pos) env) Q E s :=
  Name_function_global O.kind hx (loadGlobal_builtin (O.glob ▸ I.kb.ns g) hm (O.bui ▸ I.kb.ns b) hv h) (notDebug_of hd)
theorem globOf_kind {gs : Gs} {sc : Scope} {x : Str} {v : G} (h : globOf gs sc x = some v) : sc.names.lookup x = some .globalImplicit ∧ gs.lookup x = some v := by
  unfold globOf at h
  generalize sc.names.lookup x = r at h
  cases r with
  | none => cases h
  | some k => cases k <;> first | exact ⟨rfl,h⟩ | (cases h; done)
end
end Mine
namespace Mine
open PySem PySem.Calls PyProof.Rows
theorem get_size (h : Heap) : h.get? h.objs.size = none := by
  cases e : h.get? h.objs.size with
  | none => rfl
  | some o => exact absurd (Heap.lt_size e) (Nat.lt_irrefl _)
theorem kp_push (h : Heap) (o : Obj) : Kp h (h.push o) := Kp.of fun _ _ e => Heap.get?_push_of_some o e
section
variable {Γ : Cx} {A : Around} {env : Env} {Z : Led} {s : Shared} {h : Heap} {v u : Value} {ds es : List Dat} {d : Dat}
theorem led_none (sub : ∀ a o,Z a = some o → h.get? a = some o) {a : Addr} (e : h.get? a = none) : Z a = none := by
  cases q : Z a with
  | none => rfl
  | some o => have := sub a o q; rw [e] at this; cases this
theorem RepB.list (sub : ∀ a o,Z a = some o → h.get? a = some o) (r : RepB Z h v (.lst ds)) : LisV Z h v ds := by
  rcases r with r | ⟨a,vs,ds',e,e',l,q,r⟩
  · cases r with
    | lst z q r => exact ⟨_,_,rfl,⟨_,sub _ _ z⟩,q,r⟩
  · cases e'; exact ⟨a,vs,e,l,q,r⟩
inductive TupV (Z : Led) (h : Heap) (v : Value) (ds : List Dat) : Prop
  | mk (a : _) (vs : _) (n : _) : v = .ref a → h.get? a = some { cls := .type "tuple",data := .seq vs.toArray n } → vs.length ≤ line → RepL Z vs ds → TupV Z h v ds
theorem Rep.tuple (sub : ∀ a o,Z a = some o → h.get? a = some o) (r : Rep Z v (.tup ds)) : TupV Z h v ds := by
  cases r with
  | tup z q r => exact ⟨_,_,_,rfl,sub _ _ z,q,r⟩
theorem RepB.rep (r : RepB Z h v d) (n : ∀ ds,d ≠ .lst ds) : Rep Z v d := by
  rcases r with r | ⟨a,vs,ds',e,e',l,q,r⟩
  · exact r
  · exact absurd e' (n _)
theorem own_new (sub : ∀ a o,Z a = some o → h.get? a = some o) {vs : List Value} (l : vs.length ≤ line) (r : RepL Z vs ds) (k : Nat := 0) :
    RepV Γ Z (fun a => h.get? a = none) (h.push { cls := .type "list",data := .seq vs.toArray k }) (.ref h.objs.size) (.own ds) :=
  ⟨_,rfl,get_size h,vs,led_none sub (get_size h),⟨k,Heap.get?_push_size _ rfl⟩,l,r⟩
theorem tup_new (sub : ∀ a o,Z a = some o → h.get? a = some o) (ok : ∀ a o,Z a = some o → Tt o) {vs : List Value} (l : vs.length ≤ line) (r : RepL Z vs ds) (k : Nat := 0) :
    ∃ Z',Grow Z h Z' (h.push { cls := .type "tuple",data := .seq vs.toArray k }) ∧ Rep Z' (.ref h.objs.size) (.tup ds) := by
  have n := led_none sub (get_size h)
  refine ⟨Led.put Z h.objs.size { cls := .type "tuple",data := .seq vs.toArray k },?_,.tup (Led.put_self _ _ _) l (r.mono (Led.put_le n))⟩
  exact (Grow.keep sub ok (kp_push h _)).put n (get_size h) (Heap.get?_push_size _ rfl) trivial
theorem EvT.own {W : Tr Value} (sub : ∀ a o,Z a = some o → s.heap.get? a = some o) (ok : ∀ a o,Z a = some o → Tt o) {vs : List Value} (l : vs.length ≤ line) (r : RepL Z vs ds)
    (hW : ∀ Q E,(∀ tk,Q (.ref s.heap.objs.size) { s with heap := s.heap.push { cls := .type "list",data := .seq vs.toArray },toks := tk }) → W Q E s) : EvT Γ A env Z s (PW Γ s.heap) (.ok (.own ds)) W :=
  EvT.now sub ok fun _ _ hQ => hW _ _ fun tk => hQ _ _ tk (kp_push _ _) (own_new sub l r)
theorem EvT.tup {W : Tr Value} (sub : ∀ a o,Z a = some o → s.heap.get? a = some o) (ok : ∀ a o,Z a = some o → Tt o) {vs : List Value} (l : vs.length ≤ line) (r : RepL Z vs ds)
    (hW : ∀ Q E,(∀ tk,Q (.ref s.heap.objs.size) { s with heap := s.heap.push { cls := .type "tuple",data := .seq vs.toArray },toks := tk }) → W Q E s) {h₀ : Heap} : EvT Γ A env Z s (PW Γ h₀) (.ok (.sh (.tup ds))) W := by
  intro _ Q E hQ _
  obtain ⟨Z',g,rr⟩ := tup_new sub ok l r
  exact hW Q E fun tk => hQ _ _ Z' _ tk rfl g rr
theorem strOk_append {x y : Str} (a : PyData.strOk x = true) (b : PyData.strOk y = true) : PyData.strOk (x ++ y) = true := by
  show (x.cps ++ y.cps).all _ = true
  unfold PyData.strOk at a b
  rw [Array.all_append,a,b]; rfl
theorem cps_append (x y : Str) : (x ++ y).cps.toList = x.cps.toList ++ y.cps.toList := by
  show (x.cps ++ y.cps).toList = _
  simp
theorem intBits_le {b : Int} (h : b.natAbs < 2 ^ 64) : Builtin.Int.intBits b ≤ 64 := by
  unfold Builtin.Int.intBits
  by_cases h0 : b.natAbs = 0
  · simp [h0]; split <;> lia
  · have := (Nat.log2_lt h0).mpr h
    split <;> lia
theorem foldl_app {α : Type} (l : List (Array α)) (z : Array α) : (l.foldl (fun a b => a ++ b) z).toList = z.toList ++ (l.map Array.toList).flatten := by
  induction l generalizing z with
  | nil => simp
  | cons a r ih => rw [List.foldl_cons,ih]; simp
theorem RepL.rep {vs : List Value} (r : RepL Z vs ds) (n : Nat) : RepL Z (List.replicate n vs).flatten (List.replicate n ds).flatten := by
  induction n with
  | zero => exact .nil
  | succ n ih => simp only [List.replicate_succ,List.flatten_cons]; exact r.append ih
theorem wp_mul_list {l : Addr} {vs : List Value} {k : Nat} {x : Int} {t : Tok} {Q : Value → Shared → Prop} {E : Value → Shared → Prop}
    (hl : s.heap.get? l = some { cls := .type "list",data := .seq vs.toArray k }) (hlo : 0 ≤ x) (hhi : x < 2 ^ 20) (hsz : vs.length * x.toNat ≤ line)
    (h : Q (.ref s.heap.objs.size) { s with heap := s.heap.push { cls := .type "list",data := .seq (List.replicate x.toNat vs).flatten.toArray } }) :
    wpAny (model Γ.prog Γ.w) A (binaryOp .Mult (.ref l) (.int x t)) Q E s := by
  have hz : vs.toArray.size * x.toNat ≤ 2 ^ 24 := by simpa [line] using hsz
  refine wpAny_binaryOp_repeat_ref (T := "list") (U := "int") (by decide) ⟨_,hl,rfl⟩ (fun s' => typeIs_int s' x t) noFill_list_mul F.fills_int_mul F.slot_int_rmul repeat_list F.slot_int_index.lookup
    (call_meets F.slot_int_rmul (typeIs_int s x t) F.entry_int_rmul (F.args_int_rmul_2 _ _) (int___rmul___int_list x t l vs.toArray k)
      ⟨hl,rfl,⟨_,hl,rfl⟩,call_meets F.slot_list_mul ⟨_,hl,rfl⟩ F.entry_list_mul (F.args_list_mul_2 _ _)
        (AutoListH.list___mul___list_int_3 l vs.toArray k x t (by simp [Builtin.List.listFitsIndex]; omega) (by omega) (by simp [Builtin.List.listTooLong,sizeLine]; omega)) ⟨hl,?_⟩⟩)
  have e : (List.foldl (fun x1 x2 => x1 ++ x2) #[] (List.replicate (if vs.toArray.isEmpty = true then 0 else x.toNat) vs.toArray)) = (List.replicate x.toNat vs).flatten.toArray := by
    apply Array.toList_inj.mp
    rw [foldl_app]
    cases vs with
    | nil => simp
    | cons v vs => simp
  rw [e]; exact h
theorem wp_add_tuple {l b : Addr} {vs ws : List Value} {n k : Nat} {Q : Value → Shared → Prop} {E : Value → Shared → Prop}
    (hl : s.heap.get? l = some { cls := .type "tuple",data := .seq vs.toArray n }) (hb : s.heap.get? b = some { cls := .type "tuple",data := .seq ws.toArray k }) (hsz : vs.length + ws.length ≤ line)
    (h0 : vs = [] → Q (.ref b) s) (h1 : vs ≠ [] → ws = [] → Q (.ref l) s) (h2 : Q (.ref s.heap.objs.size) { s with heap := s.heap.push { cls := .type "tuple",data := .seq (vs ++ ws).toArray } }) :
    wpAny (model Γ.prog Γ.w) A (binaryOp .Add (.ref l) (.ref b)) Q E s := by
  by_cases hv : vs = []
  · exact concat_meets ⟨_,hl,rfl⟩ ⟨_,hb,rfl⟩ noFill_tuple_add seq_tuple_add F.slot_tuple_add F.entry_tuple_add (F.args_tuple_add_2 _ _) (tuple_addW0 l b vs.toArray ws.toArray n k none none #[] #[] (by simp [hv])) ⟨hl,hb,h0 hv⟩
  · by_cases hw : ws = []
    · exact concat_meets ⟨_,hl,rfl⟩ ⟨_,hb,rfl⟩ noFill_tuple_add seq_tuple_add F.slot_tuple_add F.entry_tuple_add (F.args_tuple_add_2 _ _) (tuple_addW1 l b vs.toArray ws.toArray n k none none #[] #[] (by simpa using hv) (by simp [hw])) ⟨hl,hb,h1 hv hw⟩
    · refine P.add_tuple hl hb (by simpa using hv) (by simpa using hw) ?_ (by simpa [line,sizeLine] using hsz)
      rw [List.append_toArray]; exact h2
theorem Rep.int_inv {a : Int} (r : Rep Z v (.int a)) : ∃ t,v = .int a t := by cases r; exact ⟨_,rfl⟩
inductive StrV (v : Value) (a : List Nat) : Prop
  | mk (x : _) (t : _) : v = .str x t → x.cps.toList = a → PyData.strOk x = true → x.length ≤ line → StrV v a
theorem Rep.str_inv {a : List Nat} (r : Rep Z v (.str a)) : StrV v a := by
  cases r with
  | str x t o l => exact ⟨x,t,rfl,rfl,o,l⟩
theorem RepB.int (r : RepB Z h v (.int a)) : ∃ t,v = .int a t := Rep.int_inv (r.rep nofun)
theorem RepB.str {a : List Nat} (r : RepB Z h v (.str a)) : StrV v a := Rep.str_inv (r.rep nofun)
theorem ii_cases {x y : Dat} {f : Int → Int → Out Val} {P : Out Val → Prop} (hb : P .bad) (h : ∀ a b,x = .int a → y = .int b → P (f a b)) : P (ii f x y) := by
  cases x <;> first | exact hb | skip
  cases y <;> first | exact hb | exact h _ _ rfl rfl
theorem ev_ii {x y : Dat} {f : Int → Int → Out Val} {W : Tr Value} (hx : RepB Z s.heap v x) (hy : RepB Z s.heap u y) (H : ∀ a b t t',v = .int a t → u = .int b t' → EvT Γ A env Z s (PW Γ s.heap) (f a b) W) :
    EvT Γ A env Z s (PW Γ s.heap) (ii f x y) W :=
  ii_cases (P := fun r => EvT Γ A env Z s (PW Γ s.heap) r W) .bad fun a b ha hb => by
    subst ha hb
    obtain ⟨t,e⟩ := hx.int
    obtain ⟨t',e'⟩ := hy.int
    exact H a b t t' e e'
theorem ev_add {x y : Dat} (sub : ∀ a o,Z a = some o → s.heap.get? a = some o) (ok : ∀ a o,Z a = some o → Tt o)
    (hx : RepB Z s.heap v x) (hy : RepB Z s.heap u y) : EvT Γ A env Z s (PW Γ s.heap) (addD x y) (wpt Γ A (binaryOp .Add v u)) := by
  cases x <;> first | exact .bad | skip
  · cases y <;> first | exact .bad | skip
    obtain ⟨t,rfl⟩ := hx.int
    obtain ⟨t',rfl⟩ := hy.int
    exact EvT.data sub ok fun _ _ hQ => add_int (hQ _ _ _ (.refl _) (.int _ _))
  · cases y <;> first | exact .bad | skip
    obtain ⟨x,t,rfl,rfl,ox,lx⟩ := hx.str
    obtain ⟨y,t',rfl,rfl,oy,ly⟩ := hy.str
    refine EvT.guard fun hb => ?_
    have hz : x.length + y.length ≤ sizeLine := hb
    refine EvT.data sub ok fun _ _ hQ => add_str (fun t'' tk => hQ _ _ _ (.refl _) ?_) hz
    rw [← cps_append]
    exact Rep.str (x ++ y) t'' (strOk_append ox oy) (by rw [Str.length_append]; exact hz)
  · cases y <;> first | exact .bad | skip
    refine EvT.guard fun hb => ?_
    have hx' := hx.rep nofun
    have hy' := hy.rep nofun
    obtain ⟨a,vs,n,rfl,p,lx,r⟩ := Rep.tuple sub hx'
    obtain ⟨b,ws,k,rfl,q,ly,r'⟩ := Rep.tuple sub hy'
    have hl : vs.length + ws.length ≤ line := by rw [r.length,r'.length]; exact hb
    intro _ Q E hQ hE
    obtain ⟨Z',g,rr⟩ := tup_new sub ok (by rw [List.length_append]; exact hl) (r.append r')
    refine wp_add_tuple p q hl (fun e => ?_) (fun _ e => ?_) (hQ _ _ Z' _ s.toks rfl g rr)
    · subst e; cases r; exact hQ _ _ Z s.heap s.toks rfl (Grow.refl sub ok) hy'
    · subst e; cases r'; exact hQ _ _ Z s.heap s.toks rfl (Grow.refl sub ok) (by rw [List.append_nil]; exact hx')
  · cases y <;> first | exact .bad | skip
    obtain ⟨a,vs,rfl,⟨n,p⟩,lx,r⟩ := hx.list sub
    obtain ⟨b,ws,rfl,⟨k,q⟩,ly,r'⟩ := hy.list sub
    refine EvT.guard fun hb => ?_
    have hl : vs.length + ws.length ≤ line := by rw [r.length,r'.length]; exact hb
    exact EvT.own sub ok (by rw [List.length_append]; exact hl) (r.append r') fun _ _ hQ => P.add_list p q (by have := hQ s.toks; rwa [← List.append_toArray] at this) hl
theorem ev_mul {x y : Dat} (sub : ∀ a o,Z a = some o → s.heap.get? a = some o) (ok : ∀ a o,Z a = some o → Tt o)
    (hx : RepB Z s.heap v x) (hy : RepB Z s.heap u y) : EvT Γ A env Z s (PW Γ s.heap) (mulD x y) (wpt Γ A (binaryOp .Mult v u)) := by
  cases x <;> first | exact .bad | skip
  · cases y <;> first | exact .bad | skip
    obtain ⟨t,rfl⟩ := hx.int
    obtain ⟨t',rfl⟩ := hy.int
    exact EvT.guard fun hb => EvT.data sub ok fun _ _ hQ => mul_int (hQ _ _ _ (.refl _) (.int _ _)) (hb.elim (fun hb => .of_left (intBits_le hb)) fun hb => .of_right (intBits_le hb))
  · cases y <;> first | exact .bad | skip
    rename_i n
    obtain ⟨x,t,rfl,rfl,ox,lx⟩ := hx.str
    obtain ⟨t',rfl⟩ := hy.int
    show EvT Γ A env Z s _ (if n = 0 then _ else if n = 1 then _ else _) _
    by_cases h0 : n = 0
    · rw [if_pos h0]
      subst h0
      exact EvT.data sub ok fun _ _ hQ => SB.mul ⟨by decide,fun h => absurd (by decide) h,fun h => absurd (by decide) h⟩ fun t'' tk => hQ _ _ _ (.refl _) (.str Str.empty t'' (by decide +kernel) (by decide +kernel))
    · rw [if_neg h0]
      refine EvT.guard fun hb => ?_
      subst hb
      exact EvT.data sub ok fun _ _ hQ => SB.mul ⟨by decide,fun _ h => absurd h (by simp),fun _ h => absurd h (by simp)⟩ fun t'' tk => hQ _ _ _ (.refl _) (.str x t'' ox lx)
  · cases y <;> first | exact .bad | skip
    obtain ⟨a,vs,rfl,⟨n,p⟩,lx,r⟩ := hx.list sub
    obtain ⟨t',rfl⟩ := hy.int
    exact EvT.guard fun hb => EvT.own sub ok (by rw [(r.rep _).length]; simp; rw [Nat.mul_comm]; exact hb.1) (r.rep _) fun _ _ hQ => wp_mul_list p hb.2.1 hb.2.2 (by rw [r.length]; exact hb.1) (hQ s.toks)
theorem ev_binop {o : BOp} {x y : Dat} (sub : ∀ a o,Z a = some o → s.heap.get? a = some o) (ok : ∀ a o,Z a = some o → Tt o)
    (hx : RepB Z s.heap v x) (hy : RepB Z s.heap u y) : EvT Γ A env Z s (PW Γ s.heap) (binD o x y) (wpt Γ A (binaryOp (bopOf o) v u)) := by
  cases o
  · exact ev_add sub ok hx hy
  · refine ev_ii hx hy fun a b t t' e e' => ?_
    subst e e'
    exact EvT.data sub ok fun _ _ hQ => sub_int (hQ _ _ _ (.refl _) (.int _ _))
  · exact ev_mul sub ok hx hy
  · refine ev_ii hx hy fun a b t t' e e' => ?_
    subst e e'
    exact EvT.guard fun hb => EvT.data sub ok fun _ _ hQ => floordiv_int hb.1 (hQ _ _ _ (.refl _) (.int _ _)) (.inl (PyProof.noPylong_small hb.2))
  · refine ev_ii hx hy fun a b t t' e e' => ?_
    subst e e'
    exact EvT.guard fun hb => EvT.data sub ok fun _ _ hQ => mod_int' hb (hQ _ _ _ (.refl _) (.int _ _))
  · refine ev_ii hx hy fun a b t t' e e' => ?_
    subst e e'
    refine EvT.guard fun hb => ?_
    obtain ⟨rfl,rfl⟩ := hb
    exact EvT.data sub ok fun _ _ hQ => pow_int (by decide) (by decide +kernel) (hQ _ _ _ (.refl _) (.int _ _))
end
end Mine
namespace Mine
open PySem PySem.Calls PyProof.Rows
section
variable {Z : Led} {h : Heap}
theorem rl_both (sub : ∀ a o,Z a = some o → h.get? a = some o) :
    (∀ {v d},Rep Z v d → ∀ n,d.fine n = true → (∃ as,Reads h v (pyOf d) as) ∧ (pyOf d).canLay0 = true ∧ (pyOf d).depth ≤ n) ∧
    (∀ {vs ds},RepL Z vs ds → ∀ n,(∀ d ∈ ds,d.fine n = true) → (∃ as,ReadsAll h vs (pyOfs ds) as) ∧ PyData.canLayAll0 (pyOfs ds) = true ∧ PyData.depthAll (pyOfs ds) ≤ n) := by
  refine Rep.both (fun n _ => ⟨⟨_,.none⟩,rfl,Nat.zero_le _⟩) (fun b n _ => ⟨⟨_,.bool b⟩,rfl,Nat.zero_le _⟩) (fun i t n _ => ⟨⟨_,.int i t⟩,rfl,Nat.zero_le _⟩) (fun x t o _ n _ => ⟨⟨_,.str x t⟩,o,Nat.zero_le _⟩) ?_ ?_ ?_ (fun n _ => ⟨⟨_,.nil⟩,rfl,Nat.zero_le _⟩) ?_
  · intro a vs k ds z _ q n f
    cases n with
    | zero => cases f
    | succ n =>
      obtain ⟨⟨as,p⟩,b,c⟩ := q n (List.all_eq_true.1 f)
      exact ⟨⟨as,.tuple (sub _ _ z) rfl rfl p⟩,b,Nat.succ_le_succ c⟩
  · intro a vs k ds z _ q n f
    cases n with
    | zero => cases f
    | succ n =>
      obtain ⟨⟨as,p⟩,b,c⟩ := q n (List.all_eq_true.1 f)
      exact ⟨⟨_,.list (sub _ _ z) rfl rfl p⟩,b,Nat.succ_le_succ c⟩
  · intro a k _ _ n f
    cases n <;> cases f
  · intro v d vs ds p q n f
    refine cps fun P_ hP_ => ?_
    obtain ⟨⟨as,p1⟩,p2,p3⟩ := p n (f _ (.head _))
    obtain ⟨⟨bs,q1⟩,q2,q3⟩ := q n fun d m => f d (.tail _ m)
    refine hP_ ?_
    clear hP_ P_
    refine ⟨⟨_,.cons p1 q1⟩,?_,?_⟩
    · simp only [pyOfs,PyData.canLayAll0,p2,q2,Bool.and_self]
    · simp only [pyOfs,PyData.depthAll]; exact Nat.max_le.2 ⟨p3,q3⟩
theorem reads_of (sub : ∀ a o,Z a = some o → h.get? a = some o) {v : Value} {d : Dat} (n : Nat) (r : Rep Z v d) (f : d.fine n = true) : ∃ as,Reads h v (pyOf d) as := ((rl_both sub).1 r n f).1
end
section
variable {Γ : Cx} {A : Around} {env : Env} {Z : Led} {s : Shared} {h : Heap} {v u : Value} {x y : Dat}
theorem RepB.reads (sub : ∀ a o,Z a = some o → h.get? a = some o) {n : Nat} (r : RepB Z h v x) (f : x.fine n = true) : (∃ as,Reads h v (pyOf x) as) ∧ (pyOf x).canLay0 = true ∧ (pyOf x).depth ≤ n := by
  rcases r with r | ⟨a,vs,ds,rfl,rfl,⟨k,p⟩,_,r⟩
  · exact (rl_both sub).1 r n f
  · cases n with
    | zero => cases f
    | succ n =>
      have f' : ∀ d ∈ ds,d.fine n = true := List.all_eq_true.1 f
      refine cps fun P_ hP_ => ?_
      obtain ⟨⟨as,q⟩,b,c⟩ := (rl_both sub).2 r n f'
      refine hP_ ?_
      clear hP_ P_
      refine ⟨⟨_,.list p rfl rfl q⟩,b,?_⟩
      exact Nat.succ_le_succ c
theorem any_of (ds : List Dat) (a : Dat) : (pyOfs ds).any (fun y => PyData.eqv y (pyOf a)) = ds.any fun y => Dat.eq y a := by
  induction ds with
  | nil => rfl
  | cons d ds ih => exact congrArg (Dat.eq d a || ·) ih
theorem fine_up (d : Dat) (n : Nat) (h : d.fine n = true) : d.fine (n + 1) = true := by
  induction n generalizing d with
  | zero => cases d <;> first | rfl | (cases h; done)
  | succ n ih =>
    cases d with
    | tup ds => exact List.all_eq_true.2 fun d m => ih d (List.all_eq_true.1 h d m)
    | lst ds => exact List.all_eq_true.2 fun d m => ih d (List.all_eq_true.1 h d m)
    | dic => cases h
    | _ => rfl
theorem EvT.bo {b : Bool} {W : Tr Value} (sub : ∀ a o,Z a = some o → s.heap.get? a = some o) (ok : ∀ a o,Z a = some o → Tt o) (hW : ∀ Q E,Q (.bool b) s → W Q E s) : EvT Γ A env Z s PBo (.ok b) W :=
  EvT.now sub ok fun _ _ hQ => hW _ _ (hQ _ s.heap s.toks (.refl _) rfl)
theorem single (x : Str) (c : Nat) (h : x.cps.toList = [c]) : x = ⟨#[c]⟩ := by
  cases x with
  | mk cps =>
    have : cps = #[c] := Array.toList_inj.mp (by simpa using h)
    rw [this]
theorem inL_fine {a : Dat} {b : List Dat} (f : (a.fine 20 && b.all (Dat.fine 20)) = true) : a.fine 20 = true ∧ (Dat.lst b).fine 21 = true ∧ (Dat.tup b).fine 21 = true := ⟨(and_inv f).1,(and_inv f).2,(and_inv f).2⟩
theorem AOk.deep {n k a b : Nat} (AO : AOk n A) (hk : k ≤ 1) (h : a ≤ 20 ∨ b ≤ 20) : A.units + k + min a b < cLine := by
  have := AO.units
  have : cLine = 9900 := rfl
  lia
theorem dic_at {prog : Program} {w : World} (sub : ∀ a o,Z a = some o → h.get? a = some o) (hd : x.isDic = true) (r : RepB Z h v x) : ∃ a,v = .ref a ∧ (a == sysModules) = false ∧ h.DictOf (strKind prog w) a [] := by
  cases x <;> first | (cases hd; done) | skip
  cases r.rep nofun with
  | @dic a n z ns => exact ⟨a,rfl,ns,_,#[],n,sub _ _ z,⟨rfl,rfl,rfl⟩,rfl,fun e he => (by simp at he),.nil,List.nodup_nil⟩
theorem ev_eqop {n : Nat} (AO : AOk n A) (o : Bool) (sub : ∀ a o,Z a = some o → s.heap.get? a = some o) (ok : ∀ a o,Z a = some o → Tt o)
    (hx : RepB Z s.heap v x) (hy : RepB Z s.heap u y) : EvT Γ A env Z s PBo (eqD (fun r => cond o (!r) r) x y) (wpt Γ A (compareOp (cond o .NotEq .Eq) v u)) := by
  unfold eqD
  by_cases f : (x.fine 20 && y.fine 20) = true
  · rw [if_pos f]
    refine cps fun P_ hP_ => ?_
    obtain ⟨⟨as,ra⟩,la,da⟩ := hx.reads sub (and_inv f).1
    obtain ⟨⟨bs,rb⟩,lb,db⟩ := hy.reads sub (and_inv f).2
    refine hP_ ?_
    clear hP_ P_
    have hu := AO.deep (k := 0) (b := (pyOf y).depth) (by decide) (.inl da)
    cases o
    · exact EvT.bo sub ok fun Q E hQ => SeqAt.compareEq_reads ra rb la lb hu hQ
    · exact EvT.bo sub ok fun Q E hQ => SeqAt.compareNe_reads ra rb la lb hu hQ
  · rw [if_neg f]
    refine EvT.guard fun g => ?_
    obtain ⟨a,rfl,na,da⟩ := dic_at (prog := Γ.prog) (w := Γ.w) sub (and_inv g).1 hx
    obtain ⟨b,rfl,nb,db⟩ := dic_at (prog := Γ.prog) (w := Γ.w) sub (and_inv g).2 hy
    have hu : A.units < cLine := Nat.lt_of_lt_of_le (by lia) AO.units
    cases o
    · exact EvT.bo sub ok fun Q E hQ => PySem.W.keq_eq na nb da db hu (fun _ => .nil) hQ
    · exact EvT.bo sub ok fun Q E hQ => PySem.W.keq_ne na nb da db hu (fun _ => .nil) hQ
theorem ib_cases {f : Int → Int → Bool} {P : Out Bool → Prop} (hb : P .bad) (h : ∀ a b,x = .int a → y = .int b → P (.ok (f a b))) : P (ib f x y) := by
  cases x <;> first | exact hb | skip
  cases y <;> first | exact hb | exact h _ _ rfl rfl
theorem ev_ib {f : Int → Int → Bool} {W : Tr Value} (sub : ∀ a o,Z a = some o → s.heap.get? a = some o) (ok : ∀ a o,Z a = some o → Tt o) (hx : RepB Z s.heap v x) (hy : RepB Z s.heap u y)
    (H : ∀ a b t t' Q E,v = .int a t → u = .int b t' → Q (.bool (f a b)) s → W Q E s) : EvT Γ A env Z s PBo (ib f x y) W :=
  ib_cases (P := fun r => EvT Γ A env Z s PBo r W) .bad fun a b ha hb => by
    subst ha hb
    obtain ⟨t,e⟩ := hx.int
    obtain ⟨t',e'⟩ := hy.int
    exact EvT.bo sub ok fun Q E hQ => H a b t t' Q E e e' hQ
theorem ev_inop {n : Nat} (AO : AOk n A) (o : Bool) (sub : ∀ a o,Z a = some o → s.heap.get? a = some o) (ok : ∀ a o,Z a = some o → Tt o)
    (hx : RepB Z s.heap v x) (hy : RepB Z s.heap u y) : EvT Γ A env Z s PBo (inD (fun r => cond o (!r) r) x y) (wpt Γ A (compareOp (cond o .NotIn .In) v u)) := by
  cases y <;> first | exact .bad | skip
  · -- in a text
    cases x <;> first | exact .bad | skip
    rename_i b a
    obtain ⟨y,t',rfl,rfl,oy,ly⟩ := hy.str
    obtain ⟨x,t,rfl,ha,ox,lx⟩ := hx.str
    cases a with
    | nil => exact .bad
    | cons c r =>
      cases r with
      | cons d r => exact .bad
      | nil =>
        rw [single x c ha]
        cases o
        · exact EvT.bo sub ok fun Q E hQ => P.in_str (by rw [StrLaws.found_one]; exact hQ)
        · exact EvT.bo sub ok fun Q E hQ => P.notIn_str (by rw [StrLaws.found_one]; exact hQ)
  · refine EvT.guard fun f => ?_
    obtain ⟨⟨as,ra⟩,la,da⟩ := hx.reads sub (inL_fine f).1
    obtain ⟨⟨bs,rb⟩,lb,_⟩ := hy.reads sub (inL_fine f).2.2
    rw [← any_of]
    cases o
    · exact EvT.bo sub ok fun Q E hQ => SeqAt.in_tuple_reads rb ra lb la (AO.deep (Nat.le_refl _) (.inr da)) hQ
    · exact EvT.bo sub ok fun Q E hQ => SeqAt.notIn_tuple_reads rb ra lb la (AO.deep (Nat.le_refl _) (.inr da)) hQ
  · refine EvT.guard fun f => ?_
    obtain ⟨⟨as,ra⟩,la,da⟩ := hx.reads sub (inL_fine f).1
    obtain ⟨⟨bs,rb⟩,lb,_⟩ := hy.reads sub (inL_fine f).2.1
    rw [← any_of]
    cases o
    · exact EvT.bo sub ok fun Q E hQ => SeqAt.in_list_reads rb ra lb la (AO.deep (Nat.le_refl _) (.inr da)) hQ
    · exact EvT.bo sub ok fun Q E hQ => SeqAt.notIn_list_reads rb ra lb la (AO.deep (Nat.le_refl _) (.inr da)) hQ
theorem ev_cmpop {n : Nat} (AO : AOk n A) {o : COp} (sub : ∀ a o,Z a = some o → s.heap.get? a = some o) (ok : ∀ a o,Z a = some o → Tt o)
    (hx : RepB Z s.heap v x) (hy : RepB Z s.heap u y) : EvT Γ A env Z s PBo (cmpD o x y) (wpt Γ A (compareOp (copOf o) v u)) := by
  cases o
  · exact ev_eqop AO false sub ok hx hy
  · exact ev_eqop AO true sub ok hx hy
  · exact ev_ib sub ok hx hy fun a b t t' Q E e e' hQ => by subst e e'; exact lt_int hQ
  · exact ev_ib sub ok hx hy fun a b t t' Q E e e' hQ => by subst e e'; exact le_int hQ
  · exact ev_ib sub ok hx hy fun a b t t' Q E e e' hQ => by subst e e'; exact gt_int hQ
  · exact ev_ib sub ok hx hy fun a b t t' Q E e e' hQ => by subst e e'; exact ge_int hQ
  · exact ev_inop AO false sub ok hx hy
  · exact ev_inop AO true sub ok hx hy
end
end Mine
namespace Mine
open PySem PySem.Calls PyProof.Rows
noncomputable def SndE (Γ : Cx) (n : Nat) (Φ : Nat → List Val → Out Val) (t : T) : Prop :=
  ∀ (nm : Nm) (ρ : List Val) (A : Around) (env : Env) (Z : Led) (s : Shared) (m : Str → Option Value) (e : Expr),chk Γ.gs t nm env.scope e = true → EnvOk env → AOx Γ nm n A env → Inv Γ nm ρ env Z s.heap m →
    EvT Γ A env Z s (PW Γ s.heap) (ev Φ t ρ) (wpt Γ A (eval e env))
noncomputable def SndT (Γ : Cx) (n : Nat) (Φ : Nat → List Val → Out Val) (t : T) : Prop :=
  ∀ (nm : Nm) (ρ : List Val) (A : Around) (env : Env) (Z : Led) (s : Shared) (m : Str → Option Value) (e : Expr),chk Γ.gs t nm env.scope e = true → EnvOk env → AOx Γ nm n A env → Inv Γ nm ρ env Z s.heap m →
    EvT Γ A env Z s PTr (ev Φ t ρ >>= boolD) (wpt Γ A (isTrue e env (eval e env)))
noncomputable def notNot (e : Expr) : Bool := dite (e.ctorIdx = 3) (fun h => @Expr.UnaryOp.elim (fun _ => Bool) e h fun o _ _ => !(o == .Not)) fun _ => true
noncomputable def plainTest (e : Expr) : Bool := !(e.ctorIdx.beq 0 || e.ctorIdx.beq 5 || e.ctorIdx.beq 15) && notNot e
theorem isTrue_eq {e : Expr} (h : plainTest e = true) (env : Env) (whole : Sem Value) : isTrue e env whole = (do let v ← whole; standAt e.pos; holding [v] (truthy v)) := by
  cases e <;> first | rfl | exact (Bool.false_ne_true h).elim | skip
  rename_i op x pos
  cases op <;> first | rfl | exact (Bool.false_ne_true h).elim
section
variable {Γ : Cx} {n : Nat} {Φ : Nat → List Val → Out Val} {A : Around} {env : Env} {Z : Led} {s : Shared} {nm : Nm} {ρ : List Val} {m : Str → Option Value}
theorem EvT.yes {α β : Type} {P : Led → Heap → β → α → Prop} {r : Out α} {W1 W2 : Tr β} (H : EvT Γ A env Z s P r W1) : EvT Γ A env Z s P r (fun Q E s => if true = true then W1 Q E s else W2 Q E s) := H.rule fun _ _ h => by rw [if_pos rfl]; exact h
theorem EvT.no {α β : Type} {P : Led → Heap → β → α → Prop} {r : Out α} {W1 W2 : Tr β} (H : EvT Γ A env Z s P r W2) : EvT Γ A env Z s P r (fun Q E s => if false = true then W1 Q E s else W2 Q E s) := H.rule fun _ _ h => by rw [if_neg (by decide)]; exact h
theorem EvT.pure {α β : Type} {P : Led → Heap → β → α → Prop} {x : α} {v : β} (sub : ∀ a o,Z a = some o → s.heap.get? a = some o) (ok : ∀ a o,Z a = some o → Tt o) (p : P Z s.heap v x) : EvT Γ A env Z s P (.ok x) (fun Q _ s => Q v s) :=
  fun _ _ _ hQ _ => hQ x v Z s.heap s.toks rfl (Grow.refl sub ok) p
theorem EvT.then {α β δ : Type} {P1 : Led → Heap → β → α → Prop} {P2 : Led → Heap → δ → α → Prop} {r1 : Out α} {W1 : Tr β} {W2 : β → Tr δ} (H1 : EvT Γ A env Z s P1 r1 W1)
    (H2 : ∀ x v Z' h' tk,r1 = .ok x → Grow Z s.heap Z' h' → P1 Z' h' v x → EvT Γ A env Z' { s with heap := h',toks := tk } P2 (.ok x) (W2 v)) : EvT Γ A env Z s P2 r1 (fun Q E s => W1 (fun v s' => W2 v Q E s') E s) :=
  (EvT.bind (f := fun x => .ok x) H1 H2).eq (by cases r1 <;> rfl)
theorem snd_plain {t : T} (H : SndE Γ n Φ t) (hp : ∀ nm sc e,chk Γ.gs t nm sc e = true → plainTest e = true) : SndT Γ n Φ t := fun nm ρ A env Z s m e hc O AO I =>
  EvT.rule (fun _ _ h => isTrue_plain h (isTrue_eq (hp _ _ _ hc) _ _)) (EvT.then (W2 := fun v => wpt Γ A (truthy v)) (H nm ρ A env Z s m e hc O AO I).toBo fun b v Z' h' tk _ g p => by
    cases p
    exact EvT.rule (fun _ _ h => wpAny_truthy_bool h) (EvT.pure (v := b) g.sub g.ok rfl))
theorem EvT.ofBool {r : Out Bool} {W : Tr Value} {h₀ : Heap} (H : EvT Γ A env Z s PBo r W) : EvT Γ A env Z s (PW Γ h₀) (r >>= fun b => .ok (.sh (.bool b))) W :=
  H.conv fun Z' h' v x g p => .inr ⟨_,Z',rfl,g,by cases p; exact Rep.bool x⟩
theorem snd_neg {a : T} (ha : SndE Γ n Φ a) : SndE Γ n Φ (.neg a) := fun nm ρ A env Z s m e hc O AO I => inv_neg hc fun x pos he hx => by
  subst he
  show EvT Γ A env Z s (PW Γ s.heap) (ev Φ a ρ >>= intD >>= fun i => .ok (.sh (.int (-i)))) _
  refine EvT.rule (fun Q E h => wpAny_UnaryOp h) (EvT.bind (ha nm ρ A env Z s m x hx O AO I).toI fun i v Z' h' tk _ g p => ?_)
  obtain ⟨t,rfl⟩ := p
  exact EvT.data g.sub g.ok fun _ _ hQ => neg_int (hQ _ _ _ (.refl _) (.int _ _))
theorem snd_bin {o : BOp} {a b : T} (ha : SndE Γ n Φ a) (hb : SndE Γ n Φ b) : SndE Γ n Φ (.bin o a b) := fun nm ρ A env Z s m e hc O AO I => inv_bin hc fun l r pos he hl hr => by
  subst he
  show EvT Γ A env Z s _ (bin2 o (ev Φ a ρ) (ev Φ b ρ)) _
  exact EvT.rule (fun Q E h => wpAny_BinOp h) (EvT.bind (ha nm ρ A env Z s m l hl O AO I).toB fun x v Z' h' tk _ g p =>
    EvT.bind (hb nm ρ A env Z' _ m r hr O AO (I.grow g)).toB fun y u Z'' h'' tk' _ g' p' => EvT.old (g.trans g') (ev_binop g'.sub g'.ok (p.grow g') p'))
theorem notSet_marks {op : CmpOp} {e : Expr} (h : notSet e = true) : behindInMarks op e = false := by
  cases e <;> first | rfl | exact (Bool.false_ne_true h).elim
theorem snd_cmpK {o : COp} {a b : T} (ha : SndE Γ n Φ a) (hb : SndE Γ n Φ b) {l r : Expr} (hl : chk Γ.gs a nm env.scope l = true) (hr : chk Γ.gs b nm env.scope r = true) (O : EnvOk env) (AO : AOx Γ nm n A env) (I : Inv Γ nm ρ env Z s.heap m) :
    EvT Γ A env Z s PBo (cmpB o (ev Φ a ρ) (ev Φ b ρ))
      (fun Q E s => wpAny (model Γ.prog Γ.w) A (eval l env) (fun v s₁ => wpAny (model Γ.prog Γ.w) A (eval r env) (fun u s₂ => wpAny (model Γ.prog Γ.w) A (compareOp (copOf o) v u) Q E s₂) E s₁) E s) :=
  EvT.bind (ha nm ρ A env Z s m l hl O AO I).toB fun _ _ _ _ _ _ g p => EvT.bind (hb nm ρ A env _ _ m r hr O AO (I.grow g)).toB fun _ _ _ _ _ _ g' p' => ev_cmpop AO.toAOk g'.sub g'.ok (p.grow g') p'
theorem boolD_ok (r : Out Bool) : (r >>= fun b => .ok (.sh (.bool b))) >>= boolD = r := by cases r <;> rfl
theorem EvT.test {r : Out Bool} {W : Tr Value} (H : EvT Γ A env Z s PBo r W) : EvT Γ A env Z s PTr ((r >>= fun b => .ok (.sh (.bool b))) >>= boolD) (fun Q E s => W (fun c s' => wpAny (model Γ.prog Γ.w) A (truthy c) Q E s') E s) :=
  (EvT.then (W2 := fun c => wpt Γ A (truthy c)) H fun b _ _ _ _ _ g p => by cases p; exact EvT.rule (fun _ _ h => wpAny_truthy_bool h) (EvT.pure (v := b) g.sub g.ok rfl)).eq (boolD_ok r)
theorem snd_cmp {o : COp} {a b : T} (ha : SndE Γ n Φ a) (hb : SndE Γ n Φ b) : SndE Γ n Φ (.cmp o a b) ∧ SndT Γ n Φ (.cmp o a b) :=
  ⟨fun nm ρ A env Z s m e hc O AO I => inv_cmp hc fun l r pos he h1 hl hr => by
    subst he
    exact EvT.rule (fun Q E h => wpAny_Compare1 h (notSet_marks h1)) (EvT.ofBool (snd_cmpK ha hb hl hr O AO I)),
  fun nm ρ A env Z s m e hc O AO I => inv_cmp hc fun l r pos he h1 hl hr => by
    subst he
    exact EvT.rule (fun Q E h => wpAny_isTrue_Compare1 h (notSet_marks h1)) (EvT.test (snd_cmpK ha hb hl hr O AO I))⟩
end
end Mine
namespace Mine
open PySem PySem.Calls PyProof.Rows
noncomputable def argOk : Val → Bool
  | .sh _ => true
  | .bor _ => true
  | .shop _ _ => true
  | .exc _ => true
  | _ => false
inductive RepVs (Γ : Cx) (Z : Led) (h : Heap) : List Value → List Val → Prop
  | nil : RepVs Γ Z h [] []
  | cons {v : Value} {x : Val} {vs : List Value} {xs : List Val} : RepV Γ Z (fun _ => True) h v x → argOk x = true → RepVs Γ Z h vs xs → RepVs Γ Z h (v :: vs) (x :: xs)
theorem RepVs.grow {Γ : Cx} {Z Z' : Led} {h h' : Heap} {vs : List Value} {xs : List Val} (r : RepVs Γ Z h vs xs) (g : Grow Z h Z' h') : RepVs Γ Z' h' vs xs := by
  induction r with
  | nil => exact .nil
  | cons a b _ ih => exact .cons (a.grow g) b ih
noncomputable def SndL (Γ : Cx) (n : Nat) (Φ : Nat → List Val → Out Val) (t : T) : Prop :=
  ∀ (nm : Nm) (ρ : List Val) (A : Around) (env : Env) (Z : Led) (s : Shared) (m : Str → Option Value) (es : List Expr) (pos : Pos),chkT Γ.gs t nm env.scope es = true → EnvOk env → AOx Γ nm n A env → Inv Γ nm ρ env Z s.heap m →
    EvT Γ A env Z s (fun Z h vs xs => RepVs Γ Z h vs xs ∧ vs.length = es.length) (evT Φ t ρ) (wpt Γ A (spliced (backTo pos (starEach es env))))
section
variable {Γ : Cx} {n : Nat} {Φ : Nat → List Val → Out Val} {A : Around} {env : Env} {Z : Led} {s : Shared} {nm : Nm} {ρ : List Val} {m : Str → Option Value}
theorem EvT.toA {r : Out Val} {W : Tr Value} (H : EvT Γ A env Z s (PW Γ s.heap) r W) : EvT Γ A env Z s (fun Z h v x => RepV Γ Z (fun _ => True) h v x ∧ argOk x = true) (r >>= argV) W := by
  refine H.conv fun Z' h' v x g p => ?_
  cases x with
  | un => exact .inl rfl
  | sh d => exact .inr ⟨_,Z',rfl,g,p,rfl⟩
  | own ds =>
    obtain ⟨a,rfl,f,o⟩ := p
    obtain ⟨Z'',g',_,r,_⟩ := freeze_own g f o
    exact .inr ⟨_,Z'',rfl,g',r,rfl⟩
  | bor ds => exact .inr ⟨_,Z',rfl,g,p,rfl⟩
  | shop a b => exact .inr ⟨_,Z',rfl,g,p,rfl⟩
  | exc c => exact .inr ⟨_,Z',rfl,g,p,rfl⟩
  | pr d ds =>
    obtain ⟨Z'',g',r⟩ := freeze_pr g p
    exact .inr ⟨_,Z'',rfl,g',r,rfl⟩
theorem star_cons {x : Expr} (h : notStar x = true) (r : List Expr) (env : Env) (pos : Pos) : backTo pos (starEach (x :: r) env) = (false,eval x env) :: backTo pos (starEach r env) := by
  cases x <;> first | rfl | exact (Bool.false_ne_true h).elim
theorem snd_nil : SndL Γ n Φ .nil := fun nm ρ A env Z s m es pos hc O AO I => by
  cases inv_nilT hc
  exact EvT.rule (fun Q E h => spliced_nil h) (EvT.pure (v := []) (x := []) I.sub I.ok ⟨.nil,rfl⟩)
theorem snd_cons {a b : T} (ha : SndE Γ n Φ a) (hb : SndL Γ n Φ b) : SndL Γ n Φ (.cons a b) := fun nm ρ A env Z s m es pos hc O AO I => inv_consT hc fun x r he h1 h2 h3 => by
  subst he
  show EvT Γ A env Z s _ (ev Φ a ρ >>= argV >>= fun x => evT Φ b ρ >>= fun y => Out.ok (x :: y)) _
  rw [star_cons h1]
  exact EvT.rule (fun Q E h => spliced_cons h) (EvT.bind (W2 := fun v Q E s => wpAny (model Γ.prog Γ.w) A (spliced (backTo pos (starEach r env))) (fun vs s₂ => Q (v :: vs) s₂) E s) (ha nm ρ A env Z s m x h2 O AO I).toA fun x v Z' h' tk _ g p =>
    EvT.bind (W2 := fun vs Q E s => Q (v :: vs) s) (hb nm ρ A env Z' _ m r pos h3 O AO (I.grow g)) fun xs vs Z'' h'' tk' _ g' p' =>
      EvT.pure g'.sub g'.ok ⟨.cons (p.1.grow g') p.2 p'.1,congrArg (· + 1) p'.2⟩)
theorem RepVs.data {h : Heap} {vs : List Value} {xs : List Val} (r : RepVs Γ Z h vs xs) : allD xs = .bad ∨ ∃ ds,allD xs = .ok ds ∧ RepL Z vs ds := by
  induction r with
  | nil => exact .inr ⟨[],rfl,.nil⟩
  | @cons v x vs xs a b _ ih =>
    cases x with
    | sh d =>
      rcases ih with ih | ⟨ds,e,r⟩
      · left; show (allD xs >>= fun ds => Out.ok (d :: ds)) = _; rw [ih]; rfl
      · right; exact ⟨d :: ds,by show (allD xs >>= fun ds => Out.ok (d :: ds)) = _; rw [e]; rfl,.cons a r⟩
    | bor ds => left; rfl
    | shop ns ps => left; rfl
    | exc c => left; rfl
    | _ => cases b
inductive RepBs (Z : Led) (h : Heap) : List Value → List Dat → Prop
  | nil : RepBs Z h [] []
  | cons {v : Value} {x : Dat} {vs : List Value} {xs : List Dat} : RepB Z h v x → RepBs Z h vs xs → RepBs Z h (v :: vs) (x :: xs)
theorem RepVs.borrow {h : Heap} {vs : List Value} {xs : List Val} (r : RepVs Γ Z h vs xs) : allB xs = .bad ∨ ∃ ds,allB xs = .ok ds ∧ RepBs Z h vs ds := by
  induction r with
  | nil => exact .inr ⟨[],rfl,.nil⟩
  | @cons v x vs xs a b _ ih =>
    cases x with
    | sh d =>
      rcases ih with ih | ⟨ds,e,r⟩
      · left; show (allB xs >>= fun ds => Out.ok (d :: ds)) = _; rw [ih]; rfl
      · right; exact ⟨d :: ds,by show (allB xs >>= fun ds => Out.ok (d :: ds)) = _; rw [e]; rfl,.cons (.inl a) r⟩
    | bor l =>
      rcases ih with ih | ⟨ds,e,r⟩
      · left; show (allB xs >>= fun ds => Out.ok (.lst l :: ds)) = _; rw [ih]; rfl
      · obtain ⟨q,us,e',p,z,rr⟩ := a
        right; exact ⟨.lst l :: ds,by show (allB xs >>= fun ds => Out.ok (.lst l :: ds)) = _; rw [e]; rfl,.cons (.inr ⟨q,us,l,e',rfl,p,z,rr⟩) r⟩
    | shop ns ps => left; rfl
    | exc c => left; rfl
    | _ => cases b
theorem newList_wp {vs : List Value} {Q : Value → Shared → Prop} {E : Value → Shared → Prop} (hz : vs.length ≤ line) (h : Q (.ref s.heap.objs.size) { s with heap := s.heap.push { cls := .type "list",data := .seq vs.toArray } }) :
    wpAny (model Γ.prog Γ.w) A (newList vs) Q E s := wpAny_newObj_type h hz
theorem newTuple_wp {vs : List Value} {Q : Value → Shared → Prop} {E : Value → Shared → Prop} (hz : vs.length ≤ line) (h : Q (.ref s.heap.objs.size) { s with heap := s.heap.push { cls := .type "tuple",data := .seq vs.toArray } }) :
    wpAny (model Γ.prog Γ.w) A (newTuple vs) Q E s := wpAny_newObj_type h hz
theorem EvT.allD {α : Type} {P : Led → Heap → Value → α → Prop} {h : Heap} {vs : List Value} {xs : List Val} {f : List Dat → Out α} {W : Tr Value} (r : RepVs Γ Z h vs xs) (H : ∀ ds,RepL Z vs ds → EvT Γ A env Z s P (f ds) W) : EvT Γ A env Z s P (Mine.allD xs >>= f) W := by
  rcases r.data with q | ⟨ds,q,r⟩
  · rw [q]; exact .bad
  · rw [q]; exact H ds r
theorem len_line {k : Nat} (h : k ≤ 100) : k ≤ line := Nat.le_trans h (by decide)
theorem snd_lst {ts : T} (H : SndL Γ n Φ ts) : SndE Γ n Φ (.lst ts) := fun nm ρ A env Z s m e hc O AO I => inv_lst hc fun es pos he h1 h2 => by
  subst he
  refine EvT.rule (fun Q E h => List_ h) (EvT.eq (EvT.bind (f := fun xs => allD xs >>= fun r => .ok (.own r)) (W2 := fun vs => wpt Γ A (newList vs)) (H nm ρ A env Z s m es pos h2 O AO I) fun xs vs Z' h' tk _ g p => EvT.allD p.1 fun ds r => ?_) (Out.bind_assoc _ _ _))
  have hl : vs.length ≤ line := len_line (p.2 ▸ h1)
  exact EvT.old g (EvT.own g.sub g.ok hl r fun _ _ hQ => newList_wp hl (hQ tk))
theorem snd_tup {ts : T} (H : SndL Γ n Φ ts) : SndE Γ n Φ (.tup ts) := fun nm ρ A env Z s m e hc O AO I => inv_tup hc fun es k pos he h1 h2 => by
  subst he
  refine EvT.rule (fun Q E h => Tuple_ h) (EvT.eq (EvT.bind (f := fun xs => allD xs >>= fun r => .ok (.sh (.tup r))) (W2 := fun vs => wpt Γ A (newTuple vs)) (H nm ρ A env Z s m es pos h2 O AO I) fun xs vs Z' h' tk _ g p => EvT.allD p.1 fun ds r => ?_) (Out.bind_assoc _ _ _))
  have hl : vs.length ≤ line := len_line (p.2 ▸ h1)
  exact EvT.tup g.sub g.ok hl r fun _ _ hQ => newTuple_wp hl (hQ tk)
end
end Mine
namespace Mine
open PySem PySem.Calls PyProof.Rows
section
variable {Γ : Cx} {n : Nat} {Φ : Nat → List Val → Out Val} {A : Around} {env : Env} {Z : Led} {s : Shared} {nm : Nm} {ρ : List Val} {m : Str → Option Value}
theorem EvT.truth {α β : Type} {P : Led → Heap → β → α → Prop} {r : Out α} {d : Bool} {W : Bool → Tr β} (H : EvT Γ A env Z s P r (W d)) :
    EvT Γ A env Z s P r (fun Q E s => wpAny (model Γ.prog Γ.w) A (truthy (.bool d)) (fun t s₃ => W t Q E s₃) E s) := H.rule fun _ _ h => wpAny_truthy_bool h
theorem lastMarks2 {op oq : CmpOp} {r z : Expr} (h : notSet z = true) : lastMarks [op,oq] [r,z] = false := by
  show behindInMarks oq z = false
  exact notSet_marks h
theorem snd_cmp2 {o p : COp} {a b c : T} (ha : SndE Γ n Φ a) (hb : SndE Γ n Φ b) (hc' : SndE Γ n Φ c) : SndE Γ n Φ (.cmp2 o p a b c) ∧ SndT Γ n Φ (.cmp2 o p a b c) :=
  ⟨fun nm ρ A env Z s m e hc O AO I => inv_cmp2 hc fun l r z pos he h4 h5 h6 h7 => by
    subst he
    refine EvT.rule (fun Q E h => Compare_chain h (lastMarks2 h4)) (EvT.ofBool ?_)
    show EvT Γ A env Z s _ (ev Φ a ρ >>= needB >>= fun x => ev Φ b ρ >>= needB >>= fun y => cmpD o x y >>= fun r => if r then ev Φ c ρ >>= needB >>= fun z => cmpD p y z else .ok false) _
    refine EvT.bind (W2 := fun v => wpt Γ A (compareChain pos v [copOf o,copOf p] [eval r env,eval z env])) (ha nm ρ A env Z s m l h5 O AO I).toB fun x v Z' h' tk _ g q =>
      EvT.rule (fun Q E h => chain_link h) (EvT.bind (hb nm ρ A env Z' _ m r h6 O AO (I.grow g)).toB fun y u Z'' h'' tk' _ g' q' =>
        EvT.bind (ev_cmpop AO.toAOk g'.sub g'.ok (q.grow g') q') fun d w Z3 h3' tk3 _ g3 q3 => ?_)
    cases q3
    refine EvT.truth ?_
    cases d with
    | false => exact EvT.no (EvT.pure (P := PBo) g3.sub g3.ok rfl)
    | true => exact EvT.yes (EvT.rule (fun Q E h => chain_last h) (EvT.bind (hc' nm ρ A env Z3 _ m z h7 O AO (((I.grow g).grow g').grow g3)).toB fun y2 u2 Z4 h4' tk4 _ g4 q4 => ev_cmpop AO.toAOk g4.sub g4.ok ((q'.grow g3).grow g4) q4)),
  fun nm ρ A env Z s m e hc O AO I => inv_cmp2 hc fun l r z pos he h4 h5 h6 h7 => by
    subst he
    refine EvT.eq ?_ (boolD_ok _)
    show EvT Γ A env Z s _ (ev Φ a ρ >>= needB >>= fun x => ev Φ b ρ >>= needB >>= fun y => cmpD o x y >>= fun r => if r then ev Φ c ρ >>= needB >>= fun z => cmpD p y z else .ok false) _
    refine EvT.rule (fun Q E h => isTrue_chain h (lastMarks2 h4)) (EvT.bind (W2 := fun v => wpt Γ A (testChain pos v [copOf o,copOf p] [eval r env,eval z env])) (ha nm ρ A env Z s m l h5 O AO I).toB fun x v Z' h' tk _ g q =>
      EvT.rule (fun Q E h => test_link h) (EvT.bind (hb nm ρ A env Z' _ m r h6 O AO (I.grow g)).toB fun y u Z'' h'' tk' _ g' q' =>
        EvT.bind (ev_cmpop AO.toAOk g'.sub g'.ok (q.grow g') q') fun d w Z3 h3' tk3 _ g3 q3 => ?_))
    cases q3
    refine EvT.truth ?_
    cases d with
    | false => exact EvT.no (EvT.pure (P := PTr) g3.sub g3.ok rfl)
    | true =>
      exact EvT.yes (EvT.rule (fun Q E h => test_last h) (EvT.bind (hc' nm ρ A env Z3 _ m z h7 O AO (((I.grow g).grow g').grow g3)).toB fun y2 u2 Z4 h4' tk4 _ g4 q4 => (EvT.test (ev_cmpop AO.toAOk g4.sub g4.ok ((q'.grow g3).grow g4) q4)).eq (boolD_ok _).symm))⟩
theorem snd_not {a : T} (ha : SndE Γ n Φ a) (ht : SndT Γ n Φ a) : SndE Γ n Φ (.not a) ∧ SndT Γ n Φ (.not a) :=
  ⟨fun nm ρ A env Z s m e hc O AO I => inv_not hc fun x pos he hx => by
    subst he
    refine EvT.rule (fun Q E h => wpAny_UnaryOp h) (EvT.ofBool (EvT.bind (W2 := fun v => wpt Γ A (unaryOp .Not v)) (ha nm ρ A env Z s m x hx O AO I).toBo fun b v Z' h' tk _ g p => ?_))
    cases p
    exact EvT.rule (fun Q E h => not_of (wpAny_truthy_bool h)) (EvT.pure (P := PBo) g.sub g.ok rfl),
  fun nm ρ A env Z s m e hc O AO I => inv_not hc fun x pos he hx => by
    subst he
    exact EvT.eq (EvT.rule (fun Q E h => isTrue_not h) (EvT.bind (f := fun b => Out.ok (!b)) (W2 := fun b Q _ s => Q (!b) s) (ht nm ρ A env Z s m x hx O AO I) fun b v Z' h' tk _ g p => by cases p; exact EvT.pure g.sub g.ok rfl)) (boolD_ok _)⟩
theorem snd_andE {a : T} {r2 : Out Bool} {W2 : Tr Value} (ha : SndE Γ n Φ a) {x : Expr} (hx : chk Γ.gs a nm env.scope x = true) (O : EnvOk env) (AO : AOx Γ nm n A env) (I : Inv Γ nm ρ env Z s.heap m)
    (H : ∀ Z' h' tk,Inv Γ nm ρ env Z' h' m → EvT Γ A env Z' { s with heap := h',toks := tk } PBo r2 W2) :
    EvT Γ A env Z s PBo (andB (ev Φ a ρ >>= boolD) r2) (fun Q E s => wpAny (model Γ.prog Γ.w) A (eval x env) (fun v s₁ => wpAny (model Γ.prog Γ.w) A (truthy v) (fun c s₂ => if c = true then W2 Q E s₂ else Q v s₂) E s₁) E s) :=
  EvT.bind (W2 := fun v Q E s => wpAny (model Γ.prog Γ.w) A (truthy v) (fun c s₂ => if c = true then W2 Q E s₂ else Q v s₂) E s) (ha nm ρ A env Z s m x hx O AO I).toBo fun d v Z' h' tk _ g p => by
    cases p
    refine EvT.truth (W := fun c Q E s => if c = true then W2 Q E s else Q _ s) ?_
    cases d with
    | false => exact EvT.no (EvT.pure (P := PBo) g.sub g.ok rfl)
    | true => exact EvT.yes (H Z' h' tk (I.grow g))
theorem snd_orE {a : T} {r2 : Out Bool} {W2 : Tr Value} (ha : SndE Γ n Φ a) {x : Expr} (hx : chk Γ.gs a nm env.scope x = true) (O : EnvOk env) (AO : AOx Γ nm n A env) (I : Inv Γ nm ρ env Z s.heap m)
    (H : ∀ Z' h' tk,Inv Γ nm ρ env Z' h' m → EvT Γ A env Z' { s with heap := h',toks := tk } PBo r2 W2) :
    EvT Γ A env Z s PBo (orB (ev Φ a ρ >>= boolD) r2) (fun Q E s => wpAny (model Γ.prog Γ.w) A (eval x env) (fun v s₁ => wpAny (model Γ.prog Γ.w) A (truthy v) (fun c s₂ => if c = true then Q v s₂ else W2 Q E s₂) E s₁) E s) :=
  EvT.bind (W2 := fun v Q E s => wpAny (model Γ.prog Γ.w) A (truthy v) (fun c s₂ => if c = true then Q v s₂ else W2 Q E s₂) E s) (ha nm ρ A env Z s m x hx O AO I).toBo fun d v Z' h' tk _ g p => by
    cases p
    refine EvT.truth (W := fun c Q E s => if c = true then Q _ s else W2 Q E s) ?_
    cases d with
    | true => exact EvT.yes (EvT.pure (P := PBo) g.sub g.ok rfl)
    | false => exact EvT.no (H Z' h' tk (I.grow g))
theorem snd_andT {a : T} {r2 : Out Bool} {W2 : Tr Bool} (ha : SndT Γ n Φ a) {x : Expr} (hx : chk Γ.gs a nm env.scope x = true) (O : EnvOk env) (AO : AOx Γ nm n A env) (I : Inv Γ nm ρ env Z s.heap m)
    (H : ∀ Z' h' tk,Inv Γ nm ρ env Z' h' m → EvT Γ A env Z' { s with heap := h',toks := tk } PTr r2 W2) :
    EvT Γ A env Z s PTr (andB (ev Φ a ρ >>= boolD) r2) (fun Q E s => wpAny (model Γ.prog Γ.w) A (isTrue x env (eval x env)) (fun c s' => if c = true then W2 Q E s' else Q false s') E s) :=
  EvT.bind (W2 := fun c Q E s' => if c = true then W2 Q E s' else Q false s') (ha nm ρ A env Z s m x hx O AO I) fun d v Z' h' tk _ g p => by
    cases p
    cases d with
    | false => exact EvT.no (EvT.pure (P := PTr) g.sub g.ok rfl)
    | true => exact EvT.yes (H Z' h' tk (I.grow g))
theorem snd_orT {a : T} {r2 : Out Bool} {W2 : Tr Bool} (ha : SndT Γ n Φ a) {x : Expr} (hx : chk Γ.gs a nm env.scope x = true) (O : EnvOk env) (AO : AOx Γ nm n A env) (I : Inv Γ nm ρ env Z s.heap m)
    (H : ∀ Z' h' tk,Inv Γ nm ρ env Z' h' m → EvT Γ A env Z' { s with heap := h',toks := tk } PTr r2 W2) :
    EvT Γ A env Z s PTr (orB (ev Φ a ρ >>= boolD) r2) (fun Q E s => wpAny (model Γ.prog Γ.w) A (isTrue x env (eval x env)) (fun c s' => if c = true then Q true s' else W2 Q E s') E s) :=
  EvT.bind (W2 := fun c Q E s' => if c = true then Q true s' else W2 Q E s') (ha nm ρ A env Z s m x hx O AO I) fun d v Z' h' tk _ g p => by
    cases p
    cases d with
    | true => exact EvT.yes (EvT.pure (P := PTr) g.sub g.ok rfl)
    | false => exact EvT.no (H Z' h' tk (I.grow g))
theorem andB_true (r : Out Bool) : andB r (.ok true) = r := by cases r with | ok b => cases b <;> rfl | _ => rfl
theorem orB_false (r : Out Bool) : orB r (.ok false) = r := by cases r with | ok b => cases b <;> rfl | _ => rfl
theorem snd_and {a b : T} (ha : SndE Γ n Φ a ∧ SndT Γ n Φ a) (hb : SndE Γ n Φ b ∧ SndT Γ n Φ b) : SndE Γ n Φ (.and a b) ∧ SndT Γ n Φ (.and a b) :=
  ⟨fun nm ρ A env Z s m e hc O AO I => inv_and hc fun x y r pos he h1 h2 => by
    subst he
    have k := EvT.ofBool (h₀ := s.heap) (snd_andE ha.1 h1 O AO I fun Z' h' tk I' => (hb.1 nm ρ A env Z' _ m _ h2 O AO I').toBo)
    cases r with
    | nil => exact EvT.rule (fun Q E h => wpAny_And2 h) k
    | cons z r => exact EvT.rule (fun Q E h => BoolOp_and h) k,
  fun nm ρ A env Z s m e hc O AO I => inv_and hc fun x y r pos he h1 h2 => by
    subst he
    refine EvT.eq (EvT.rule (fun Q E h => isTrue_and h) (snd_andT ha.2 h1 O AO I fun Z' h' tk I' => ?_)) (boolD_ok _)
    cases r with
    | nil => exact (EvT.rule (fun Q E h => isTrue_and h) (snd_andT (r2 := .ok true) hb.2 h2 O AO I' fun Z3 h3 tk3 I3 => EvT.rule (fun Q E h => isTrue_and_nil h) (EvT.pure (P := PTr) I3.sub I3.ok rfl))).eq (andB_true _).symm
    | cons z r => exact hb.2 nm ρ A env Z' _ m (.BoolOp .And (y :: z :: r) pos) h2 O AO I'⟩
theorem snd_or {a b : T} (ha : SndE Γ n Φ a ∧ SndT Γ n Φ a) (hb : SndE Γ n Φ b ∧ SndT Γ n Φ b) : SndE Γ n Φ (.or a b) ∧ SndT Γ n Φ (.or a b) :=
  ⟨fun nm ρ A env Z s m e hc O AO I => inv_or hc fun x y r pos he h1 h2 => by
    subst he
    have k := EvT.ofBool (h₀ := s.heap) (snd_orE ha.1 h1 O AO I fun Z' h' tk I' => (hb.1 nm ρ A env Z' _ m _ h2 O AO I').toBo)
    cases r with
    | nil => exact EvT.rule (fun Q E h => wpAny_Or2 h) k
    | cons z r => exact EvT.rule (fun Q E h => BoolOp_or h) k,
  fun nm ρ A env Z s m e hc O AO I => inv_or hc fun x y r pos he h1 h2 => by
    subst he
    refine EvT.eq (EvT.rule (fun Q E h => isTrue_or h) (snd_orT ha.2 h1 O AO I fun Z' h' tk I' => ?_)) (boolD_ok _)
    cases r with
    | nil => exact (EvT.rule (fun Q E h => isTrue_or h) (snd_orT (r2 := .ok false) hb.2 h2 O AO I' fun Z3 h3 tk3 I3 => EvT.rule (fun Q E h => isTrue_or_nil h) (EvT.pure (P := PTr) I3.sub I3.ok rfl))).eq (orB_false _).symm
    | cons z r => exact hb.2 nm ρ A env Z' _ m (.BoolOp .Or (y :: z :: r) pos) h2 O AO I'⟩
theorem snd_ite {c a b : T} (hc' : SndT Γ n Φ c) (ha : SndE Γ n Φ a ∧ SndT Γ n Φ a) (hb : SndE Γ n Φ b ∧ SndT Γ n Φ b) : SndE Γ n Φ (.ite c a b) ∧ SndT Γ n Φ (.ite c a b) :=
  ⟨fun nm ρ A env Z s m e hc O AO I => inv_ite hc fun t x y pos he h1 h2 h3 => by
    subst he
    show EvT Γ A env Z s _ (ev Φ c ρ >>= boolD >>= fun x => if x then ev Φ a ρ else ev Φ b ρ) _
    refine EvT.rule (fun Q E h => wpAny_IfExp h) (EvT.bind (W2 := fun d Q E s' => if d = true then wpAny (model Γ.prog Γ.w) A (eval x env) Q E s' else wpAny (model Γ.prog Γ.w) A (eval y env) Q E s') (hc' nm ρ A env Z s m t h1 O AO I) fun d v Z' h' tk _ g p => ?_)
    cases p
    cases d with
    | true => exact EvT.yes (EvT.old g (ha.1 nm ρ A env Z' _ m x h2 O AO (I.grow g)))
    | false => exact EvT.no (EvT.old g (hb.1 nm ρ A env Z' _ m y h3 O AO (I.grow g))),
  fun nm ρ A env Z s m e hc O AO I => inv_ite hc fun t x y pos he h1 h2 h3 => by
    subst he
    refine EvT.rule (fun Q E h => isTrue_IfExp h) (EvT.eq (EvT.bind (f := fun d => (if d then ev Φ a ρ else ev Φ b ρ) >>= boolD) (W2 := fun d Q E s' => if d = true then wpAny (model Γ.prog Γ.w) A (isTrue x env (eval x env)) Q E s' else wpAny (model Γ.prog Γ.w) A (isTrue y env (eval y env)) Q E s') (hc' nm ρ A env Z s m t h1 O AO I) fun d v Z' h' tk _ g p => ?_) (Out.bind_assoc _ _ _))
    cases p
    cases d with
    | true => exact EvT.yes (ha.2 nm ρ A env Z' _ m x h2 O AO (I.grow g))
    | false => exact EvT.no (hb.2 nm ρ A env Z' _ m y h3 O AO (I.grow g))⟩
end
end Mine
namespace Mine
open PySem PySem.Calls PyProof.Rows
set_option genSizeOf false in
set_option genInjectivity false in
structure FnIs (Γ : Cx) (f : Addr) (i : Nat) where
  fn : Fn
  o : Obj
  fd : FuncData
  body : List Stmt
  nm : Nm
  pn : List Str
  here : Γ.base.get? f = some o
  data : o.data = .func fd
  ofi : Γ.fns[i]? = some fn
  bod : fd.body = .stmts body
  glob : fd.globals = mainGlobals
  bui : fd.builtins = builtinsNs
  clos : fd.closure = []
  co : fd.scope.isCoroutine = false
  gen : fd.scope.isGenerator = false
  kind : fd.scope.kind = .function
  code : Γ.base.CodeRec fd.code fd.qualname
  binds : ∀ vals : List Value,vals.length = fn.pars → bindArgs fd ⟨vals,[]⟩ = pure (pn.zip vals)
  pnl : pn.length = fn.pars
  pnn : pn.Nodup
  /-- the parameters are the first names -/
  par : ∀ k x,pn[k]? = some x → nm.lookup x = some k ∧ (fd.scope.names.lookup x = some .local ∨ fd.scope.names.lookup x = some .cell)
  inj : ∀ x y k,nm.lookup x = some k → nm.lookup y = some k → x = y
  low : ∀ x k,nm.lookup x = some k → k < fn.names
  le : fn.pars ≤ fn.names
  cells : ((cellsFrom 0 fd.scope.names []).map (·.1)).Nodup
  cellof : ∀ x,fd.scope.names.lookup x = some .cell → ∀ k,((cellsFrom k fd.scope.names []).lookup x).isSome = true
  ini : fn.init = Option.none
  quiet : quietFn i = true → loud nm = false
  chk : chkB Γ.gs fn.body nm fd.scope body = true
noncomputable def bmV : List Value := [.type "ValueError",.type "Exception",.type "BaseException",.type "object"]
noncomputable def GOk (Γ : Cx) (x : Str) : G → Prop
  | .cI i => ∃ t,Γ.mg x = some (.int i t)
  | .cS s => (∃ t,Γ.mg x = some (.str ⟨s.toArray⟩ t)) ∧ PyData.strOk ⟨s.toArray⟩ = true ∧ s.length ≤ line
  | .bi v => Γ.mg x = none ∧ Γ.mb x = some v
  | .fn i => ∃ f,Γ.mg x = some (.ref f) ∧ Nonempty (FnIs Γ f i)
  | .dict k => ∃ (a : Addr) (f : Str → Option Value),Γ.mg x = some (.ref a) ∧ (a == sysModules) = false ∧ (∀ h,Kp Γ.base h → h.MapOf (strKind Γ.prog Γ.w) a f) ∧
      ∀ s : Str,(k.lookup s.cps.toList = none ∧ f s = none) ∨ ∃ i t,k.lookup s.cps.toList = some i ∧ f s = some (.int i t)
  | .cls _ => Γ.mg x = some (.ref Γ.shopC)
  | .meth i => ∃ f,PySem.W.findIn Γ.K (.ref Γ.shopC) "place" = some (some (.ref f)) ∧ PySem.W.typeIn Γ.K (.ref f) = some (.type "function") ∧ Nonempty (FnIs Γ f i)
  | .exc c => match c with
    | 0 => Γ.mg x = none ∧ Γ.mb x = some (.type "ValueError")
    | c + 1 => ∃ C,Γ.mg x = some (.ref C) ∧ Γ.exc (c + 1) = some C ∧ OwnCls x C bmV "ValueError.__new__" Γ.mg Γ.base
structure ShopOk (Γ : Cx) : Prop where
  ga : PySem.W.findIn Γ.K (.ref Γ.shopC) "__getattribute__" = some (some (.builtin "object.__getattribute__"))
  gk : PySem.W.findIn Γ.K (.ref Γ.shopC) "__getattr__" = some none
  cd : ∃ cd,PySem.W.clsIn Γ.K Γ.shopC = some cd ∧ cd.hasDict = true
  at_ : ∀ k,PySem.W.findIn Γ.K (.ref Γ.shopC) (attrN k) = some none
noncomputable def excGet (K : PySem.W.Frag) (C : Addr) : Bool :=
  PySem.W.findIn K (.ref C) "__getattribute__" == some (some (.builtin "BaseException.__getattribute__")) && PySem.W.findIn K (.ref C) "__getattr__" == some none && PySem.W.findIn K (.ref C) "__class__" == some (some (.builtin "object.__class__")) && PySem.W.mroIn K C (.type "object") == some true && PySem.W.subIn K (.ref C) (.type "BaseException") == some true && (PySem.W.clsIn K C).isSome
structure ExcOk (Γ : Cx) : Prop where
  one : ∃ T,Γ.exc 1 = some T
  get : ∀ c C,Γ.exc c = some C → excGet Γ.K C = true
  isi : ∀ c C d D,Γ.exc c = some C → Γ.exc d = some D → PySem.W.kitOne Γ.K (.ref C) (.ref D) = some (d.beq c || d.ble 1)
  isv : ∀ c C,Γ.exc c = some C → PySem.W.kitOne Γ.K (.ref C) (.type "ValueError") = some true
  cat : ∀ c C T,Γ.exc c = some C → Γ.exc 1 = some T → PySem.W.exmOne Γ.K (.ref C) (.ref T) = some true
structure CxOk (Γ : Cx) : Prop where
  exo : ExcOk Γ
  kin : ∀ h,Kp Γ.base h → Γ.K.In h
  shop : ShopOk Γ
  g : Γ.base.Ns mainGlobals Γ.mg
  b : Γ.base.Ns builtinsNs Γ.mb
  nolimit : Γ.base.NoLimit
  gl : ∀ x g,Γ.gs.lookup x = some g → GOk Γ x g
section
variable {Γ : Cx} {n : Nat} {Φ : Nat → List Val → Out Val} {A : Around} {env : Env} {Z : Led} {s : Shared} {nm : Nm} {ρ : List Val} {m : Str → Option Value}
theorem snd_cN : SndE Γ n Φ .cN := fun nm ρ A env Z s m e hc O AO I => inv_cN hc fun _ _ he => he ▸ ev_none I _ _
theorem snd_cB {b : Bool} : SndE Γ n Φ (.cB b) := fun nm ρ A env Z s m e hc O AO I => inv_cB hc fun _ _ he => he ▸ ev_bool I _ _ _
theorem snd_cI {i : Int} : SndE Γ n Φ (.cI i) := fun nm ρ A env Z s m e hc O AO I => inv_cI hc fun _ _ he => he ▸ ev_int I _ _ _
theorem snd_cS {x : List Nat} : SndE Γ n Φ (.cS x) := fun nm ρ A env Z s m e hc O AO I => inv_cS hc fun _ _ _ he h1 h2 h3 => by subst he h1; exact ev_str I _ h2 h3 _ _
theorem snd_v {i : Nat} : SndE Γ n Φ (.v i) := fun nm ρ A env Z s m e hc O AO I => inv_v hc fun _ _ he h1 h2 => he ▸ ev_var O.kind I h2 h1 _
theorem snd_gI (C : CxOk Γ) {i : Int} : SndE Γ n Φ (.gI i) := fun nm ρ A env Z s m e hc O AO I => inv_gI hc fun x p he h1 h2 => by
  subst he
  obtain ⟨k,l⟩ := globOf_kind h2
  obtain ⟨t,e⟩ := C.gl _ _ l
  exact EvT.data I.sub I.ok fun _ _ hQ => load_glob O C.g I k e h1 (hQ _ s.heap s.toks (.refl _) (.int i t))
theorem snd_gS (C : CxOk Γ) {x : List Nat} : SndE Γ n Φ (.gS x) := fun nm ρ A env Z s m e hc O AO I => inv_gS hc fun y p he h1 h2 => by
  subst he
  obtain ⟨k,l⟩ := globOf_kind h2
  obtain ⟨⟨t,e⟩,ok,le⟩ := C.gl _ _ l
  exact EvT.data I.sub I.ok fun _ _ hQ => load_glob O C.g I k e h1 (hQ _ s.heap s.toks (.refl _) (.str ⟨x.toArray⟩ t ok le))
theorem snd_dic (C : CxOk Γ) : SndE Γ n Φ .dic := fun nm ρ A env Z s m e hc O AO I => inv_dic hc fun p he => by
  subst he
  intro _ Q E hQ _
  show wpAny _ _ (eval (.Dict [] [] p) env) Q E s
  rw [eval_Dict_empty]
  refine wpAny_bind (wpAny_standAt (wpAny_newObj_type ?_))
  have hsz : (s.heap.objs.size == sysModules) = false := by
    obtain ⟨o,es,ep,e,_⟩ := C.g
    have := Heap.lt_size (I.kb _ _ e)
    exact beq_eq_false_iff_ne.mpr (Nat.ne_of_gt (Nat.lt_trans (show sysModules < mainGlobals by decide) this))
  have zn := led_none I.sub (get_size s.heap)
  exact hQ (.sh .dic) (.ref s.heap.objs.size) (Led.put Z s.heap.objs.size _) _ s.toks rfl ((Grow.keep I.sub I.ok (kp_push _ _)).put zn (get_size _) (Heap.get?_push_size _ rfl) trivial) (Rep.dic (Led.put_self _ _ _) hsz)
theorem is_none {v : Value} {x : Val} {Z : Led} {fr : Addr → Prop} {h : Heap} (r : RepV Γ Z fr h v x) (hn : x ≠ .sh .none) : v ≠ .none := by
  rintro rfl
  cases x with
  | un => exact r
  | sh d => cases r; exact hn rfl
  | own ds => obtain ⟨a,e,_⟩ := r; cases e
  | bor ds => obtain ⟨a,vs,e,_⟩ := r; cases e
  | shop a b => obtain ⟨y,_,_,_,_,_,_,e,_⟩ := r; cases e
  | exc c => obtain ⟨e,_,_,_,q,_⟩ := r; cases q
  | pr d ds => obtain ⟨t,a,u,k,e,_⟩ := r; cases e
end
end Mine
namespace Mine
open PySem PySem.Calls PyProof.Rows
section
variable {Γ : Cx} {n : Nat} {Φ : Nat → List Val → Out Val} {A : Around} {env : Env} {Z : Led} {s : Shared} {nm : Nm} {ρ : List Val} {m : Str → Option Value}
theorem RepV.notBuiltin {v : Value} {x : Val} {fr : Addr → Prop} {h : Heap} (r : RepV Γ Z fr h v x) : plainIs v .none = true := by
  cases x with
  | un => exact r.elim
  | sh d => cases r <;> rfl
  | own ds => obtain ⟨a,e,_⟩ := r; subst e; rfl
  | bor ds => obtain ⟨a,vs,e,_⟩ := r; subst e; rfl
  | shop a b => obtain ⟨y,_,_,_,_,_,_,e,_⟩ := r; subst e; rfl
  | exc c => obtain ⟨e,_,_,_,q,_⟩ := r; subst q; rfl
  | pr d ds => obtain ⟨t,a,u,k,e,_⟩ := r; subst e; rfl
theorem wp_isNone {v : Value} {x : Val} {fr : Addr → Prop} {h : Heap} (r : RepV Γ Z fr h v x) {nn : Bool} {Q : Value → Shared → Prop} {E : Value → Shared → Prop} {s : Shared}
    (hQ : ∀ b,isNV nn x = .ok b → Q (.bool b) s) : wpAny (model Γ.prog Γ.w) A (compareOp (cond nn .IsNot .Is) v .none) Q E s := by
  have hp := r.notBuiltin
  by_cases hx : x = .sh .none
  · subst hx
    cases r
    cases nn
    · exact wpAny_is_self hp (hQ true rfl)
    · exact wpAny_isNot_self hp (hQ false rfl)
  · have hv := is_none r hx
    have e : isNV nn x = .ok nn := by
      cases x with
      | un => exact r.elim
      | sh d => cases d <;> first | rfl | exact absurd rfl hx
      | _ => rfl
    cases nn
    · exact wpAny_is_other hp hv (hQ false e)
    · exact wpAny_isNot_other hp hv (hQ true e)
theorem snd_isNK {nn : Bool} {a : T} (ha : SndE Γ n Φ a) {l : Expr} {k : Nat} {p : Pos} (hl : chk Γ.gs a nm env.scope l = true) (O : EnvOk env) (AO : AOx Γ nm n A env) (I : Inv Γ nm ρ env Z s.heap m) :
    EvT Γ A env Z s PBo (ev Φ a ρ >>= isNV nn)
      (fun Q E s => wpAny (model Γ.prog Γ.w) A (eval l env) (fun v s₁ => wpAny (model Γ.prog Γ.w) A (eval (.Constant .none k p) env) (fun u s₂ => wpAny (model Γ.prog Γ.w) A (compareOp (cond nn .IsNot .Is) v u) Q E s₂) E s₁) E s) :=
  EvT.bind (W2 := fun v Q E s => wpAny (model Γ.prog Γ.w) A (eval (.Constant .none k p) env) (fun u s₂ => wpAny (model Γ.prog Γ.w) A (compareOp (cond nn .IsNot .Is) v u) Q E s₂) E s) (ha nm ρ A env Z s m l hl O AO I) fun x v Z' h' tk _ g q _ Q E hQ _ =>
    show wpAny _ _ (Pure.pure Value.none) _ _ _ from wpAny_pure (wp_isNone q fun b hb => hQ b _ Z' h' tk hb (Grow.refl g.sub g.ok) rfl)
theorem snd_isN {nn : Bool} {a : T} (ha : SndE Γ n Φ a) : SndE Γ n Φ (.isN nn a) ∧ SndT Γ n Φ (.isN nn a) :=
  have hm : ∀ k p,behindInMarks (cond nn .IsNot .Is) (.Constant .none k p) = false := fun _ _ => by cases nn <;> rfl
  ⟨fun nm ρ A env Z s m e hc O AO I => inv_isN hc fun l k p q he hl => by
    subst he
    exact EvT.rule (fun Q E h => wpAny_Compare1 h (hm _ _)) (EvT.ofBool (snd_isNK ha hl O AO I)),
  fun nm ρ A env Z s m e hc O AO I => inv_isN hc fun l k p q he hl => by
    subst he
    exact EvT.rule (fun Q E h => wpAny_isTrue_Compare1 h (hm _ _)) (EvT.test (snd_isNK ha hl O AO I))⟩
theorem posOf_seq (k : Int) (n : Nat) : posOf k n = seqIndex? k n := by
  unfold posOf seqIndex?
  by_cases h : k < 0
  · rw [if_neg (by omega)]
    simp only [h,if_true]
    by_cases h2 : 0 ≤ k + n
    · rw [if_pos h2,if_pos (by simp; omega)]
    · rw [if_neg h2,if_neg (by simp; omega)]
  · rw [if_pos (by omega)]
    simp only [h,if_false]
    by_cases h2 : k < n
    · rw [if_pos h2,if_pos (by simp; omega)]
    · rw [if_neg h2,if_neg (by simp; omega)]
theorem posOf_lt {k : Int} {n j : Nat} (h : posOf k n = some j) : j < n ∧ -(n : Int) ≤ k ∧ k < n := by
  unfold posOf at h
  split at h
  · split at h
    · cases h; omega
    · cases h
  · split at h
    · cases h; omega
    · cases h
end
end Mine
namespace Mine
open PySem PySem.Calls PyProof.Rows
section
variable {Γ : Cx} {n : Nat} {Φ : Nat → List Val → Out Val} {A : Around} {env : Env} {Z : Led} {s : Shared} {nm : Nm} {ρ : List Val} {m : Str → Option Value}
theorem subscripted_plain {slice : Expr} (h : notSlice slice = true) (o i : Value) : subscripted slice false o i = operate [o,i] (getItem o i) := by
  cases slice <;> first | rfl | exact (Bool.false_ne_true h).elim
theorem RepV.toB {v : Value} {x : Val} {d : Dat} {fr : Addr → Prop} {h : Heap} (r : RepV Γ Z fr h v x) (e : needB x = .ok d) (np : ∀ d ds,x ≠ .pr d ds) : RepB Z h v d := by
  cases x with
  | un => cases e
  | sh d => cases e; exact .inl r
  | own ds => cases e; obtain ⟨a,e,_,vs,_,p,l,r⟩ := r; exact .inr ⟨a,vs,ds,e,rfl,p,l,r⟩
  | bor ds => cases e; obtain ⟨a,vs,e,p,l,r⟩ := r; exact .inr ⟨a,vs,ds,e,rfl,p,l,r⟩
  | shop a b => cases e
  | exc c => cases e
  | pr d ds => exact absurd rfl (np d ds)
theorem signOk {x : Str} {c : Nat} {j : Nat} (o : PyData.strOk x = true) (e : x.cps[j]? = some c) : PyData.strOk ⟨#[c]⟩ = true := by
  unfold PyData.strOk at o ⊢
  rw [Array.all_eq_true'] at o
  have := o c (Array.mem_of_getElem? e)
  simpa using this
theorem idxL_cases {l : List Dat} {k : Int} {P : Out Val → Prop} (hb : P .bad) (h : ∀ j d,posOf k l.length = some j → l[j]? = some d → P (.ok (.sh d))) : P (idxL l k) := by
  unfold idxL
  cases hj : posOf k l.length with
  | none => exact hb
  | some j =>
    cases hd : l[j]? with
    | none => simp only [hd]; exact hb
    | some d => simp only [hd]; exact h j d hj hd
theorem idxS_cases {l : List Nat} {k : Int} {P : Out Val → Prop} (hb : P .bad) (h : ∀ j d,posOf k l.length = some j → l[j]? = some d → P (.ok (.sh (.str [d])))) : P (idxS l k) := by
  unfold idxS
  cases hj : posOf k l.length with
  | none => exact hb
  | some j =>
    cases hd : l[j]? with
    | none => simp only [hd]; exact hb
    | some d => simp only [hd]; exact h j d hj hd
section
variable {value slice : Expr} {k : Int} {v : Value} {t : Tok} {h₀ : Heap}
theorem item_lst {l : List Dat} (hs : notSlice slice = true) (sub : ∀ a o,Z a = some o → s.heap.get? a = some o) (ok : ∀ a o,Z a = some o → Tt o) (r : RepB Z s.heap v (.lst l)) :
    EvT Γ A env Z s (PW Γ h₀) (idxL l k) (wpt Γ A (subscriptTail value slice v (.int k t))) :=
  idxL_cases (P := fun r => EvT Γ A env Z s (PW Γ h₀) r _) .bad fun j d hj hd => by
    obtain ⟨hlt,hlo,hhi⟩ := posOf_lt hj
    obtain ⟨a,vs,rfl,p,lz,rl⟩ := r.list sub
    obtain ⟨u,hu,ru⟩ := rl.get hd
    have hlen := rl.length
    have hline : (line : Int) < 2 ^ 62 := by decide
    refine EvT.data sub ok (fun Q E hQ => tail_any p.isList.typeIs slot_list_getitem.lookup ?_ (subscripted_plain hs _ _))
    have fin := hQ u s.heap s.toks (.refl _) ru
    unfold posOf at hj
    by_cases h0 : 0 ≤ k
    · rw [if_pos h0,if_pos hhi] at hj
      cases hj
      exact wpAny_getItem_list p.isList h0 (by lia) (by simpa using hu) fin
    · rw [if_neg h0,if_pos (by lia)] at hj
      cases hj
      exact wpAny_getItem_list_neg p.isList (by lia) (by simp; lia) (by lia) (by simpa [hlen] using hu) fin
theorem item_tup {l : List Dat} (hs : notSlice slice = true) (sub : ∀ a o,Z a = some o → s.heap.get? a = some o) (ok : ∀ a o,Z a = some o → Tt o) (r : RepB Z s.heap v (.tup l)) :
    EvT Γ A env Z s (PW Γ h₀) (idxL l k) (wpt Γ A (subscriptTail value slice v (.int k t))) :=
  idxL_cases (P := fun r => EvT Γ A env Z s (PW Γ h₀) r _) .bad fun j d hj hd => by
    obtain ⟨hlt,hlo,hhi⟩ := posOf_lt hj
    obtain ⟨a,vs,q,rfl,p,lz,rl⟩ := Rep.tuple sub (r.rep nofun)
    obtain ⟨u,hu,ru⟩ := rl.get hd
    have hlen := rl.length
    have hline : (line : Int) < 2 ^ 62 := by decide
    exact EvT.data sub ok fun Q E hQ => item_tupleT (t := a) (l := vs) ⟨_,p,rfl,_,rfl⟩ (by lia) (by lia) (by rw [hlen,← posOf_seq]; exact hj) hu (hQ u s.heap s.toks (.refl _) ru) (subscripted_plain hs _ _)
theorem item_str {l : List Nat} (hs : notSlice slice = true) (sub : ∀ a o,Z a = some o → s.heap.get? a = some o) (ok : ∀ a o,Z a = some o → Tt o) (r : RepB Z s.heap v (.str l)) :
    EvT Γ A env Z s (PW Γ h₀) (idxS l k) (wpt Γ A (subscriptTail value slice v (.int k t))) :=
  idxS_cases (P := fun r => EvT Γ A env Z s (PW Γ h₀) r _) .bad fun j c hj hd => by
    obtain ⟨hlt,hlo,hhi⟩ := posOf_lt hj
    obtain ⟨x,tk,rfl,rfl,ox,lx⟩ := r.str
    have hl : x.length = x.cps.toList.length := rfl
    have hc : x.cps[j]? = some c := by simpa using hd
    have hline : (line : Int) < 2 ^ 62 := by decide
    exact EvT.data sub ok fun Q E hQ => tail_any (typeIs_str s x tk) F.slot_str_getitem.lookup (P.getItem_str (c := c) (by simp; lia) (by rw [hl,← posOf_seq,hj]; exact hc) (hQ _ _ _ (.refl _) (.str ⟨#[c]⟩ _ (signOk ox hc) (by show 1 ≤ line; decide)))) (subscripted_plain hs _ _)
theorem item_pr {d : Dat} {ds : List Dat} (hs : notSlice slice = true) (sub : ∀ a o,Z a = some o → s.heap.get? a = some o) (ok : ∀ a o,Z a = some o → Tt o) (r : RepV Γ Z (fun a => h₀.get? a = none) s.heap v (.pr d ds)) :
    EvT Γ A env Z s (PW Γ h₀) (if k = 0 then .ok (.sh d) else if k = 1 then .ok (.own ds) else .bad) (wpt Γ A (subscriptTail value slice v (.int k t))) := by
  obtain ⟨tt,a',u',kk,rfl,ne,f1,f2,zt,ho,rr,ow⟩ := r
  by_cases h0 : k = 0
  · rw [if_pos h0]
    subst h0
    exact EvT.data sub ok fun Q E hQ => item_tupleT (t := tt) (l := [u',.ref a']) ⟨_,ho,rfl,_,rfl⟩ (by decide) (by decide) (j := 0) rfl rfl (hQ _ s.heap s.toks (.refl _) rr) (subscripted_plain hs _ _)
  · rw [if_neg h0]
    refine EvT.guard fun h1 => ?_
    subst h1
    exact EvT.now sub ok fun Q E hQ => item_tupleT (t := tt) (l := [u',.ref a']) ⟨_,ho,rfl,_,rfl⟩ (by decide) (by decide) (j := 1) rfl rfl (hQ _ s.heap s.toks (.refl _) ⟨a',rfl,f2,ow⟩) (subscripted_plain hs _ _)
theorem ev_item {x : Val} (hs : notSlice slice = true) (sub : ∀ a o,Z a = some o → s.heap.get? a = some o) (ok : ∀ a o,Z a = some o → Tt o) (r : RepV Γ Z (fun a => h₀.get? a = none) s.heap v x) :
    EvT Γ A env Z s (PW Γ h₀) (idx2 x k) (wpt Γ A (subscriptTail value slice v (.int k t))) := by
  cases x with
  | pr d ds => exact item_pr hs sub ok r
  | own l => exact item_lst hs sub ok (r.toB rfl nofun)
  | bor l => exact item_lst hs sub ok (r.toB rfl nofun)
  | sh d =>
    cases d with
    | lst l => exact item_lst hs sub ok (.inl r)
    | tup l => exact item_tup hs sub ok (.inl r)
    | str l => exact item_str hs sub ok (.inl r)
    | _ => exact .bad
  | _ => exact .bad
end
theorem snd_idx {a i : T} (ha : SndE Γ n Φ a) (hi : SndE Γ n Φ i) : SndE Γ n Φ (.idx a i) := fun nm ρ A env Z s m e hc O AO I => inv_idx hc fun value slice pos he h1 h2 h3 => by
  subst he
  show EvT Γ A env Z s _ (ev Φ a ρ >>= fun x => ev Φ i ρ >>= intD >>= fun k => idx2 x k) _
  refine EvT.rule (fun Q E h => Subscript_ h) (EvT.bind (W2 := fun o Q E s => wpAny (model Γ.prog Γ.w) A (eval slice env) (fun i s₂ => wpAny (model Γ.prog Γ.w) A (subscriptTail value slice o i) Q E s₂) E s) (ha nm ρ A env Z s m value h2 O AO I) fun x v Z' h' tk _ g p =>
    EvT.bind (W2 := fun i => wpt Γ A (subscriptTail value slice v i)) (hi nm ρ A env Z' _ m slice h3 O AO (I.grow g)).toI fun k u Z'' h'' tk' _ g' p' => ?_)
  obtain ⟨t,rfl⟩ := p'
  exact ev_item h1 g'.sub g'.ok (RepV.grow p g')
end
end Mine
namespace Mine
open PySem PySem.Calls PyProof.Rows
section
variable {Γ : Cx} {n : Nat} {Φ : Nat → List Val → Out Val} {A : Around} {env : Env} {Z : Led} {s : Shared} {nm : Nm} {ρ : List Val} {m : Str → Option Value}
noncomputable def SndO (Γ : Cx) (n : Nat) (Φ : Nat → List Val → Out Val) (t : T) : Prop :=
  ∀ (nm : Nm) (ρ : List Val) (A : Around) (env : Env) (Z : Led) (s : Shared) (m : Str → Option Value) (e : Option Expr),chkO Γ.gs t nm env.scope e = true → EnvOk env → AOx Γ nm n A env → Inv Γ nm ρ env Z s.heap m →
    EvT Γ A env Z s (fun _ _ v k => IsPart v k) (evO Φ t ρ) (wpt Γ A (evalPart e env))
theorem evO_some {t : T} (h : t.isNil = false) : evO Φ t ρ = (ev Φ t ρ >>= intD >>= fun i => .ok (some i)) := by
  show cond t.isNil _ _ = _
  rw [h]; rfl
theorem snd_O {t : T} (H : SndE Γ n Φ t) : SndO Γ n Φ t := fun nm ρ A env Z s m e hc O AO I => by
  cases e with
  | none =>
    have hn : t.isNil = true := hc
    cases isNil_inv hn
    exact EvT.rule (fun Q E h => wpAny_pure h) (EvT.pure (v := Value.none) (x := Option.none) I.sub I.ok .none)
  | some x =>
    have hc : (!t.isNil && chk Γ.gs t nm env.scope x) = true := hc
    rw [evO_some (not_inv (and_inv hc).1)]
    exact (H nm ρ A env Z s m x (and_inv hc).2 O AO I).toI.conv fun Z' h' v i g p => .inr ⟨some i,Z',rfl,g,by obtain ⟨t,rfl⟩ := p; exact .int i t⟩
theorem cut_pick {vs : List Value} {ds : List Dat} (r : RepL Z vs ds) (lo hi : Option Int) : RepL Z (slicePick vs.toArray lo hi Option.none).toList (cut lo hi ds) := by
  rw [slicePick_plain]
  simp only [List.size_toArray,r.length]
  exact ((r.drop _).take _)
theorem cut_len {α : Type} (lo hi : Option Int) (l : List α) : (cut lo hi l).length ≤ l.length := by
  unfold cut
  simp only [List.length_take,List.length_drop]
  omega
theorem strIdx_plain (lo hi : Option Int) (n : Nat) : Builtin.Str.strSliceIndices lo hi 1 n = (List.range (hi.elim n (clampAt n) - lo.elim 0 (clampAt n))).map ((lo.elim 0 (clampAt n)) + ·) := by
  have h1 : ∀ k : Int,((clampAt n k : Nat) : Int) = max 0 (min (if k < 0 then k + n else k) n) := fun k => Int.toNat_of_nonneg (Int.le_max_left _ _)
  have h2 : Builtin.Str.strSliceIndices lo hi 1 n = sliceRange ((lo.elim 0 (clampAt n) : Nat) : Int) ((hi.elim n (clampAt n) : Nat) : Int) 1 := by
    unfold Builtin.Str.strSliceIndices
    cases lo <;> cases hi <;> simp [h1]
  rw [h2]; exact sliceRange_one _ _
theorem str_pick (x : Str) (lo hi : Option Int) : (Builtin.Str.strSliceIndices lo hi 1 x.length).filterMap (x.cps[·]?) = cut lo hi x.cps.toList := by
  rw [strIdx_plain,pick_run]
  unfold cut
  simp [Str.length]
theorem strOk_cut {x : Str} (lo hi : Option Int) (o : PyData.strOk x = true) : PyData.strOk ⟨(cut lo hi x.cps.toList).toArray⟩ = true := by
  unfold PyData.strOk at o ⊢
  rw [Array.all_eq_true'] at o ⊢
  intro c hc
  refine o c ?_
  have hm : c ∈ cut lo hi x.cps.toList := by simpa using hc
  unfold cut at hm
  exact Array.mem_toList_iff.mp (List.mem_of_mem_drop (List.mem_of_mem_take hm))
section
variable {value : Expr} {lo hi : Option Expr} {p : Pos} {l h : Option Int} {v vl vu : Value}
noncomputable abbrev slW (Γ : Cx) (A : Around) (value : Expr) (lo hi : Option Expr) (p : Pos) (v vl vu : Value) : Tr Value := fun Q E s => wpAny (model Γ.prog Γ.w) A (subscriptTail value (.Slice lo hi none p) v (.ref s.heap.objs.size)) Q E { s with heap := s.heap.push { cls := .type "slice",data := .fields #[vl,vu,.none] } }
theorem part_val {v : Value} {l : Option Int} (h : IsPart v l) : ∃ q : Option (Int × Tok),v = partValue q ∧ q.map (·.1) = l := by
  cases h with
  | none => exact ⟨none,rfl,rfl⟩
  | int i t => exact ⟨some (i,t),rfl,rfl⟩
theorem slice_lst {xs : List Dat} (sub : ∀ a o,Z a = some o → s.heap.get? a = some o) (ok : ∀ a o,Z a = some o → Tt o) (r : RepB Z s.heap v (.lst xs)) (pl : IsPart vl l) (pu : IsPart vu h) :
    EvT Γ A env Z s (PW Γ s.heap) (.ok (.own (cut l h xs))) (slW Γ A value lo hi p v vl vu) := by
  have k1 := kp_push s.heap { cls := .type "slice",data := .fields #[vl,vu,.none] }
  have g1 : Grow Z s.heap Z (s.heap.push { cls := .type "slice",data := .fields #[vl,vu,.none] }) := Grow.keep sub ok k1
  refine cps fun P_ hP_ => ?_
  obtain ⟨a,vs,rfl,pp,lz,rl⟩ := r.list sub
  refine hP_ ?_
  clear hP_ P_
  intro _ Q E hQ _
  have pp' : Heap.PlainList (s.heap.push { cls := .type "slice",data := .fields #[vl,vu,.none] }) a vs.toArray := k1.plain pp
  refine tail_any (ops := [_,_]) (T := "list") (s := { s with heap := _ }) pp'.isList.typeIs slot_list_getitem.lookup (wpAny_getItem_list_slice pp'.isList (Heap.IsSliceOf.new ..) pl pu .none (by simp) ?_ lz) rfl
  have rl' := cut_pick rl l h
  have hl2 : (slicePick vs.toArray l h none).toList.length ≤ line := by
    rw [rl'.length]; exact Nat.le_trans (cut_len _ _ _) (by rw [← rl.length]; exact lz)
  exact hQ (.own (cut l h xs)) _ Z _ s.toks rfl (g1.trans (Grow.keep g1.sub g1.ok (kp_push _ _))) (RepV.weak (own_new (Γ := Γ) g1.sub hl2 rl') fun a q => k1.none q)
theorem adj_cut (l h : Option Int) (n : Nat) : Builtin.Slice.sliceAdjust l h 1 (n : Int) = (((l.elim 0 (clampAt n) : Nat) : Int),((h.elim n (clampAt n) : Nat) : Int)) := by
  have h1 : ∀ k : Int,((clampAt n k : Nat) : Int) = if k < 0 then max (k + n) 0 else min k n := fun k => by unfold clampAt; split <;> omega
  unfold Builtin.Slice.sliceAdjust
  simp only [show ¬ ((1 : Int) < 0) by decide,if_false]
  cases l <;> cases h <;> simp only [Option.elim_none,Option.elim_some,h1] <;> rfl
theorem places_cut (a b : Nat) : Builtin.Slice.slicePlaces (a : Int) (b : Int) 1 = b - a := by
  unfold Builtin.Slice.slicePlaces
  simp only [show (1 : Int) > 0 by decide,if_true,Int.ediv_one]
  split <;> omega
theorem part_index {v : Value} {l : Option Int} (p : IsPart v l) {Q : Option Int → Shared → Prop} {E : Value → Shared → Prop} (hq : Q l s) : wpAny (model Γ.prog Γ.w) A (Builtin.Slice.slicePartIndex v) Q E s := by
  cases p with
  | none => exact slicePart_none hq
  | int i t => exact slicePart_int hq
theorem getItem_tuple_cut {t sl : Addr} {items : Array Value} {Q : Value → Shared → Prop} {E : Value → Shared → Prop} (ht : IsTup s.heap t items) (hs : s.heap.IsSliceOf sl vl vu .none) (pl : IsPart vl l) (pu : IsPart vu h)
    (hw : l.elim 0 (clampAt items.size) = 0 → h.elim items.size (clampAt items.size) - l.elim 0 (clampAt items.size) = items.size → Q (.ref t) s)
    (hn : Q (.ref s.heap.objs.size) { s with heap := s.heap.push { cls := .type "tuple",data := .seq (cut l h items.toList).toArray } })
    (hsz : items.size ≤ sizeLine) : wpAny (model Γ.prog Γ.w) A (getItem (.ref t) (.ref sl)) Q E s := by
  have hcut : sizeOk (.seq (cut l h items.toList).toArray) := by
    show (cut l h items.toList).toArray.size ≤ sizeLine
    rw [List.size_toArray]
    exact Nat.le_trans (cut_len _ _ _) (by rw [Array.length_toList]; exact hsz)
  obtain ⟨os,hos,hcs,hds⟩ := id hs
  have hTs : s.TypeIs (.ref sl) "slice" := ⟨os,hos,hcs⟩
  unfold getItem
  try with_reducible refine wpAny_holding ?_
  first | refine wpAny_bind (wpAny_pure ?_) | skip
  refine wpAny_bind (wpAny_sequenceKey ht.typeIs (by decide) ?_)
  refine wpAny_bind (wpAny_callSpecial?_slot (name := Str.ofString "__getitem__") ht.typeIs slot_tuple_getitem
    (wpAny_call_entry slot_tuple_getitem ht.typeIs entry_tuple_getitem ?_ (args_tuple_getitem _ _)))
  show wpAny _ _ (Builtin.Tuple.tupleItemsOf (.ref t) >>= _) _ _ s
  refine wpAny_bind (tupleItemsOf_ ht ?_)
  refine wpAny_bind (wpAny_typeOf hTs ?_)
  rw [if_pos (by decide)]
  refine wpAny_bind ?_
  unfold Builtin.Slice.sliceApplied Builtin.Slice.sliceFields
  refine wpAny_bind (wpAny_bind (wpAny_field hos hds (x := vl) rfl (wpAny_bind (wpAny_field hos hds (x := vu) rfl (wpAny_bind (wpAny_field hos hds (x := .none) rfl (wpAny_pure ?_)))))))
  refine wpAny_bind (slicePart_none ?_)
  show wpAny _ _ (if ((1 : Int) == 0) = true then _ else _) _ _ s
  rw [if_neg (by decide)]
  refine wpAny_bind (part_index pl (wpAny_bind (part_index pu (wpAny_bind (wpAny_pure ?_)))))
  show wpAny _ _ (match Builtin.Slice.sliceAdjust l h 1 (items.size : Int) with | (lo,hi) => pure (lo,(1 : Int),Builtin.Slice.slicePlaces lo hi 1)) _ _ s
  rw [adj_cut l h items.size]
  show wpAny _ _ (pure (((l.elim 0 (clampAt items.size) : Nat) : Int),(1 : Int),Builtin.Slice.slicePlaces ((l.elim 0 (clampAt items.size) : Nat) : Int) ((h.elim items.size (clampAt items.size) : Nat) : Int) 1)) _ _ s
  rw [places_cut]
  refine wpAny_pure ?_
  have epick : ((List.range (h.elim items.size (clampAt items.size) - l.elim 0 (clampAt items.size))).filterMap fun (k : Nat) => items[(((l.elim 0 (clampAt items.size) : Nat) : Int) + (k : Int) * 1).toNat]?).toArray = (cut l h items.toList).toArray := by
    have e : (fun (k : Nat) => items[(((l.elim 0 (clampAt items.size) : Nat) : Int) + (k : Int) * 1).toNat]?) = fun k => items[l.elim 0 (clampAt items.size) + k]? := by
      funext k
      rw [show (((l.elim 0 (clampAt items.size) : Nat) : Int) + (k : Int) * 1).toNat = l.elim 0 (clampAt items.size) + k by omega]
    rw [e]
    have := pick_run items (l.elim 0 (clampAt items.size)) (h.elim items.size (clampAt items.size) - l.elim 0 (clampAt items.size))
    rw [List.filterMap_map] at this
    exact congrArg List.toArray (this.trans (by unfold cut; rw [Array.length_toList]))
  show wpAny _ _ (if (((l.elim 0 (clampAt items.size) : Nat) : Int) == 0 && (1 : Int) == 1 && (h.elim items.size (clampAt items.size) - l.elim 0 (clampAt items.size)) == items.size) = true then _ else _) _ _ s
  by_cases hc : (((l.elim 0 (clampAt items.size) : Nat) : Int) == 0 && (1 : Int) == 1 && (h.elim items.size (clampAt items.size) - l.elim 0 (clampAt items.size)) == items.size) = true
  · rw [if_pos hc]
    simp only [Bool.and_eq_true,beq_iff_eq] at hc
    have hq := hw (by omega) hc.2
    unfold Builtin.Tuple.tupleIsExact
    refine wpAny_bind (wpAny_bind (wpAny_typeOf ht.typeIs (wpAny_pure ?_)))
    rw [if_pos (by decide)]
    exact wpAny_bind (wpAny_rule (wpAny_pure ⟨_,rfl,wpAny_pure hq⟩))
  · rw [if_neg hc,epick]
    first
      | exact wpAny_bind (m := Builtin.Tuple.tupleExact _) (wpAny_newObj_type (wpAny_pure ⟨_,rfl,wpAny_pure hn⟩) hcut)
      | exact wpAny_bind (m := Builtin.Tuple.tupleExact _) (wpAny_newObj_type (wpAny_bind (wpAny_pure (wpAny_pure ⟨_,rfl,wpAny_pure hn⟩))) hcut)
      | exact wpAny_bind (wpAny_bind (m := Builtin.Tuple.tupleExact _) (wpAny_newObj_type (wpAny_pure (wpAny_pure ⟨_,rfl,wpAny_pure hn⟩)) hcut))
      | exact wpAny_bind (wpAny_bind (m := Builtin.Tuple.tupleExact _) (wpAny_newObj_type (wpAny_pure ⟨_,rfl,wpAny_pure hn⟩) hcut))
theorem slice_tup {xs : List Dat} (sub : ∀ a o,Z a = some o → s.heap.get? a = some o) (ok : ∀ a o,Z a = some o → Tt o) (r : RepB Z s.heap v (.tup xs)) (pl : IsPart vl l) (pu : IsPart vu h) :
    EvT Γ A env Z s (PW Γ s.heap) (.ok (.sh (.tup (cut l h xs)))) (slW Γ A value lo hi p v vl vu) := by
  have k1 := kp_push s.heap { cls := .type "slice",data := .fields #[vl,vu,.none] }
  have g1 : Grow Z s.heap Z (s.heap.push { cls := .type "slice",data := .fields #[vl,vu,.none] }) := Grow.keep sub ok k1
  obtain ⟨q,vs,k,rfl,pp,lz,rl⟩ := Rep.tuple sub (r.rep nofun)
  have rr0 := r.rep nofun
  intro _ Q E hQ _
  have hlen := rl.length
  have ht' : IsTup (s.heap.push { cls := .type "slice",data := .fields #[vl,vu,.none] }) q vs.toArray := ⟨_,k1 _ _ pp,rfl,_,rfl⟩
  refine tail_any (ops := [_,_]) (T := "tuple") (s := { s with heap := _ }) ht'.typeIs slot_tuple_getitem.lookup (getItem_tuple_cut ht' (Heap.IsSliceOf.new ..) pl pu (fun e1 e2 => ?_) ?_ lz) rfl
  · rw [List.size_toArray,hlen] at e1 e2
    have hw : cut l h xs = xs := by unfold cut; rw [e2,e1,List.drop_zero,List.take_length]
    rw [hw] at hQ
    exact hQ _ _ Z _ s.toks rfl g1 rr0
  · have rc : RepL Z (cut l h vs) (cut l h xs) := by unfold cut; rw [hlen]; exact (rl.drop _).take _
    obtain ⟨Z',g,rr⟩ := tup_new g1.sub g1.ok (Nat.le_trans (cut_len _ _ _) lz) rc
    exact hQ _ _ Z' _ s.toks rfl (g1.trans g) rr
theorem cut_whole {x : Str} (hw2 : h.elim x.length (clampAt x.length) - l.elim 0 (clampAt x.length) = x.length) : cut l h x.cps.toList = x.cps.toList := by
  have hle : h.elim x.length (clampAt x.length) ≤ x.length := by
    cases h with
    | none => exact Nat.le_refl _
    | some k => show clampAt x.length k ≤ x.length; unfold clampAt; omega
  have h0 : l.elim 0 (clampAt x.length) = 0 ∨ x.length = 0 := by omega
  have hs' : x.cps.toList.length = x.length := rfl
  unfold cut
  rw [hs']
  rcases h0 with h0 | h0
  · rw [h0,List.drop_zero]
    exact List.take_of_length_le (by rw [hs']; omega)
  · have : x.cps.toList = [] := List.eq_nil_of_length_eq_zero (by rw [hs']; exact h0)
    rw [this]; simp
theorem slice_str {x : Str} {tk : Tok} (sub : ∀ a o,Z a = some o → s.heap.get? a = some o) (ok : ∀ a o,Z a = some o → Tt o) (ox : PyData.strOk x = true) (lx : x.length ≤ line) (pl : IsPart vl l) (pu : IsPart vu h) :
    EvT Γ A env Z s (PW Γ s.heap) (.ok (.sh (.str (cut l h x.cps.toList)))) (slW Γ A value lo hi p (.str x tk) vl vu) := by
  intro _ Q E hQ _
  have g1 : Grow Z s.heap Z (s.heap.push { cls := .type "slice",data := .fields #[vl,vu,.none] }) := Grow.keep sub ok (kp_push _ _)
  obtain ⟨pl',rfl,rfl⟩ := part_val pl
  obtain ⟨pu',rfl,rfl⟩ := part_val pu
  refine tail_any (ops := [_,_]) (T := "str") (s := { s with heap := _ }) (typeIs_str _ x tk) F.slot_str_getitem.lookup (wpAny_getItem_str_slice (l := pl') (u := pu') (st := none) ⟨_,Heap.get?_push_size _ rfl,rfl,rfl⟩ rfl ?_) rfl
  have hp : (slicePicked x pl' pu' none).filterMap (x.cps[·]?) = cut (pl'.map (·.1)) (pu'.map (·.1)) x.cps.toList := str_pick x _ _
  have hpl3 : (slicePicked x pl' pu' none).length = ((pu'.map (·.1)).elim x.length (clampAt x.length) - (pl'.map (·.1)).elim 0 (clampAt x.length)) := by
    show (Builtin.Str.strSliceIndices _ _ 1 x.length).length = _
    rw [strIdx_plain]; simp
  have hcl : (cut (pl'.map (·.1)) (pu'.map (·.1)) x.cps.toList).length ≤ line := Nat.le_trans (cut_len _ _ _) lx
  unfold sliceMade
  split
  · rename_i hw
    have hw2 : (slicePicked x pl' pu' none).length = x.length := by simpa using hw
    refine hQ _ _ Z _ s.toks rfl g1 ?_
    show Rep Z (.str x tk) (.str (cut _ _ x.cps.toList))
    rw [cut_whole (hpl3 ▸ hw2)]; exact .str x tk ox lx
  · rw [hp]
    exact ⟨hcl,hQ _ _ Z _ _ rfl g1 (Rep.str (Z := Z) ⟨(cut _ _ x.cps.toList).toArray⟩ s.toks (strOk_cut _ _ ox) hcl)⟩
theorem ev_slice {d : Dat} (sub : ∀ a o,Z a = some o → s.heap.get? a = some o) (ok : ∀ a o,Z a = some o → Tt o) (r : RepB Z s.heap v d) (pl : IsPart vl l) (pu : IsPart vu h) :
    EvT Γ A env Z s (PW Γ s.heap) (sl2 d l h) (slW Γ A value lo hi p v vl vu) := by
  cases d with
  | lst xs => exact slice_lst sub ok r pl pu
  | tup xs =>
    exact slice_tup sub ok r pl pu
  | str xs =>
    obtain ⟨x,tk,rfl,rfl,ox,lx⟩ := r.str
    exact slice_str sub ok ox lx pl pu
  | _ => exact .bad
end
theorem snd_sl {a lo hi : T} (ha : SndE Γ n Φ a) (hl : SndO Γ n Φ lo) (hh : SndO Γ n Φ hi) : SndE Γ n Φ (.sl a lo hi) := fun nm ρ A env Z s m e hc O AO I => inv_sl hc fun value l u p pos he h1 h2 h3 => by
  subst he
  show EvT Γ A env Z s _ (ev Φ a ρ >>= needB >>= fun x => evO Φ lo ρ >>= fun l => evO Φ hi ρ >>= fun h => sl2 x l h) _
  refine EvT.rule (fun Q E h => Subscript_ h) (EvT.bind (W2 := fun o Q E s => wpAny (model Γ.prog Γ.w) A (eval (.Slice l u none p) env) (fun i s₂ => wpAny (model Γ.prog Γ.w) A (subscriptTail value (.Slice l u none p) o i) Q E s₂) E s) (ha nm ρ A env Z s m value h1 O AO I).toB fun x v Z' h' tk _ g q => ?_)
  refine EvT.rule (fun Q E h => wpAny_Slice h) (EvT.bind (W2 := fun vl Q E s => wpAny (model Γ.prog Γ.w) A (evalPart u env) (fun vu s₂ => wpAny (model Γ.prog Γ.w) A (evalPart none env) (fun st s₃ => wpAny (model Γ.prog Γ.w) A (subscriptTail value (.Slice l u none p) v (.ref s₃.heap.objs.size)) Q E { s₃ with heap := s₃.heap.push { cls := .type "slice",data := .fields #[vl,vu,st] } }) E s₂) E s) (hl nm ρ A env Z' _ m l h2 O AO (I.grow g)) fun lo' vl Z2 h2 tk2 _ g2 q2 => ?_)
  exact EvT.bind (W2 := fun vu Q E s => wpAny (model Γ.prog Γ.w) A (evalPart none env) (fun st s₃ => wpAny (model Γ.prog Γ.w) A (subscriptTail value (.Slice l u none p) v (.ref s₃.heap.objs.size)) Q E { s₃ with heap := s₃.heap.push { cls := .type "slice",data := .fields #[vl,vu,st] } }) E s) (hh nm ρ A env Z2 _ m u h3 O AO ((I.grow g).grow g2)) fun hi' vu Z3 h3 tk3 _ g3 q3 =>
    EvT.old ((g.trans g2).trans g3) (EvT.rule (fun Q E h => wpAny_pure h) (ev_slice g3.sub g3.ok ((q.grow g2).grow g3) q2 q3))
end
end Mine
namespace Mine
open PySem PySem.Calls PyProof.Rows
section
variable {Γ : Cx} {n : Nat} {Φ : Nat → List Val → Out Val} {A : Around} {env : Env} {Z : Led} {s : Shared} {nm : Nm} {ρ : List Val} {m : Str → Option Value}
noncomputable def noStars : List Expr → Bool
  | [] => true
  | x :: r => notStar x && noStars r
theorem chkT_stars {gs : Gs} {sc : Scope} : ∀ {t : T} {es : List Expr},chkT gs t nm sc es = true → noStars es = true := by
  intro t
  induction t with
  | nil => intro es h; cases inv_nilT h; rfl
  | cons a b _ ih => exact fun h => inv_consT h fun x r he h1 _ h3 => by subst he; show (notStar x && noStars r) = true; rw [h1,ih h3]; rfl
  | _ => exact fun h => (Bool.false_ne_true h).elim
theorem stars_plain {pos : Pos} : ∀ {es : List Expr},noStars es = true → (backTo pos (starEach es env)).any (·.1) = false
  | [],_ => rfl
  | x :: r,h => by
    rw [star_cons (and_inv h).1]
    exact stars_plain (and_inv h).2
theorem chkT_plain {gs : Gs} {sc : Scope} {pos : Pos} {es : List Expr} {t : T} (h : chkT gs t nm sc es = true) : (backTo pos (starEach es env)).any (·.1) = false := stars_plain (chkT_stars h)
theorem evalArgs_all {f : Value} {gs : Gs} {sc : Scope} {pos : Pos} {es : List Expr} {t : T} (hc : chkT gs t nm sc es = true) {Q : Args → Shared → Prop} {E : Value → Shared → Prop}
    (h : wpAny (model Γ.prog Γ.w) A (spliced (backTo pos (starEach es env))) (fun vs s' => Q ⟨vs,[]⟩ s') E s) : wpAny (model Γ.prog Γ.w) A (evalArgs f true (backTo pos (starEach es env)) []) Q E s := by
  have hc := chkT_stars hc
  cases es with
  | nil =>
    have h : wpAny (model Γ.prog Γ.w) A (spliced []) (fun vs s' => Q ⟨vs,[]⟩ s') E s := h
    show wpAny _ _ (evalArgs f true [] []) _ _ _
    unfold evalArgs
    show wpAny _ _ (spliced [] >>= _) Q E s
    refine wpAny_bind (wpAny_mono h (fun vs s' h' => wpAny_bind (wpAny_pure ?_)) fun _ _ x => x)
    exact wpAny_holding (wpAny_bind (wpAny_pure (wpAny_bind (wpAny_pure (wpAny_pure h')))))
  | cons x r =>
    rw [star_cons (and_inv hc).1] at h ⊢
    exact evalArgs_plain h
noncomputable def isBT (v : Value) : Bool := v.ctorIdx == (Value.builtin "").ctorIdx || v.ctorIdx == (Value.type "").ctorIdx
theorem callWith_bt {fv : Value} (hb : isBT fv = true) {first : List Value} {gs : Gs} {sc : Scope} {pos : Pos} {es : List Expr} {t : T} (hc : chkT gs t nm sc es = true) {Q : Value → Shared → Prop} {E : Value → Shared → Prop}
    (h : wpAny (model Γ.prog Γ.w) A (spliced (backTo pos (starEach es env))) (fun vs s' => wpAny (model Γ.prog Γ.w) A (call fv (first ++ vs)) Q E s') E s) :
    wpAny (model Γ.prog Γ.w) A (callWith pos fv first (backTo pos (starEach es env)) []) Q E s := by
  cases fv <;> first | cases hb | skip
  · exact PyProof.Rows.callWith_type (chkT_plain hc) (evalArgs_all hc h)
  · exact callWith_builtin (chkT_plain hc) (evalArgs_all hc h)
theorem ev_call_bt {α : Type} {P : Led → Heap → Value → α → Prop} (C : CxOk Γ) {x : Str} {fv : Value} (hb : isBT fv = true) (hd : notDebug x = true) (hg : globOf Γ.gs env.scope x = some (.bi fv)) {ts : T} (H : SndL Γ n Φ ts) {es : List Expr} (hc : chkT Γ.gs ts nm env.scope es = true)
    (O : EnvOk env) (AO : AOx Γ nm n A env) (I : Inv Γ nm ρ env Z s.heap m) (f : List Val → Out α)
    (K : ∀ xs vs Z' h' tk,Grow Z s.heap Z' h' → RepVs Γ Z' h' vs xs → vs.length = es.length → EvT Γ A env Z' { s with heap := h',toks := tk } P (f xs) (wpt Γ A (call fv vs))) {p pos : Pos} :
    EvT Γ A env Z s P (evT Φ ts ρ >>= f) (wpt Γ A (eval (.Call (.Name x p) es [] pos) env)) := by
  obtain ⟨k,l⟩ := globOf_kind hg
  obtain ⟨e1,e2⟩ := C.gl _ _ l
  refine EvT.rule (fun Q E h => Call_ (load_bui O C.g C.b I k e1 e2 hd (callWith_bt hb hc h))) (EvT.bind (W2 := fun vs => wpt Γ A (call fv vs)) (H nm ρ A env Z s m es pos hc O AO I) fun xs vs Z' h' tk _ g q => ?_)
  exact K xs vs Z' h' tk g q.1 q.2
theorem RepL.ints {vs : List Value} {ds : List Dat} {r : List Int} (R : RepL Z vs ds) (h : intsOf ds = some r) : ∃ xs : List (Int × Tok),vs = xs.map (fun p => Value.int p.1 p.2) ∧ xs.map (·.1) = r := by
  induction vs generalizing ds r with
  | nil => cases R; cases h; exact ⟨[],rfl,rfl⟩
  | cons v vs ih =>
    cases R with
    | @cons _ d _ ds a b =>
      cases d <;> first | (cases h; done) | skip
      rename_i i
      have h : (intsOf ds).map (i :: ·) = some r := h
      obtain ⟨r',h',rfl⟩ := Option.map_eq_some_iff.mp h
      obtain ⟨xs,e1,e2⟩ := ih b h'
      obtain ⟨t,rfl⟩ := a.int_inv
      exact ⟨(i,t) :: xs,congrArg (_ :: ·) e1,congrArg (i :: ·) e2⟩
theorem minL_le : ∀ (r : List Int) (a : Int),minL a r ≤ a ∧ (∀ b ∈ r,minL a r ≤ b) ∧ (minL a r = a ∨ minL a r ∈ r)
  | [],a => ⟨Int.le_refl _,(fun _ h => absurd h List.not_mem_nil),.inl rfl⟩
  | b :: r,a => by
    obtain ⟨h1,h2,h3⟩ := minL_le r (if b < a then b else a)
    simp only [minL]
    by_cases h : b < a
    · rw [if_pos h] at h1 h2 h3 ⊢
      refine ⟨by lia,fun c hc => ?_,?_⟩
      · rcases List.mem_cons.mp hc with rfl | hc
        · exact h1
        · exact h2 c hc
      · rcases h3 with h3 | h3
        · exact .inr (by rw [h3]; exact List.mem_cons_self)
        · exact .inr (List.mem_cons_of_mem _ h3)
    · rw [if_neg h] at h1 h2 h3 ⊢
      refine ⟨h1,fun c hc => ?_,?_⟩
      · rcases List.mem_cons.mp hc with rfl | hc
        · lia
        · exact h2 c hc
      · rcases h3 with h3 | h3
        · exact .inl h3
        · exact .inr (List.mem_cons_of_mem _ h3)
theorem min_pick {xs : List (Int × Tok)} {a : Int} {r : List Int} (hx : xs.map (·.1) = a :: r) {v : Value} (h : (intItems xs.toArray)[argBest (fun i j => decide (numAt xs.toArray i < numAt xs.toArray j)) (xs.toArray.size - 1)]? = some v) : ∃ t,v = .int (minL a r) t := by
  obtain ⟨t,rfl⟩ := intItems_at h
  obtain ⟨h1,h2⟩ := argBest_lt (numAt xs.toArray) (xs.toArray.size - 1)
  generalize argBest (fun i j => decide (numAt xs.toArray i < numAt xs.toArray j)) (xs.toArray.size - 1) = k at *
  have hn : ∀ j,numAt xs.toArray j = ((a :: r)[j]?).getD 0 := fun j => by rw [← hx]; simp [numAt]
  have hl : xs.length = r.length + 1 := by rw [← List.length_map (f := (·.1)) (as := xs),hx]; rfl
  have hs : xs.toArray.size - 1 = r.length := by simp [hl]
  rw [hs] at h1 h2
  obtain ⟨m1,m2,m3⟩ := minL_le r a
  have e : numAt xs.toArray k = minL a r := by
    refine Int.le_antisymm ?_ ?_
    · rcases m3 with m3 | m3
      · have := h2 0 (by lia); rw [hn 0] at this; simp at this; rw [m3]; exact this
      · obtain ⟨j,hj,ej⟩ := List.getElem_of_mem m3
        have := h2 (j + 1) (by lia)
        rw [hn (j + 1)] at this
        simp [List.getElem?_eq_getElem hj,ej] at this
        exact this
    · rw [hn k]
      cases k with
      | zero => simpa using m1
      | succ k => 
        have hk : k < r.length := by lia
        simp [List.getElem?_eq_getElem hk]
        exact m2 _ (List.getElem_mem hk)
  exact ⟨t,by rw [e]⟩
theorem intItems_of (xs : List (Int × Tok)) : (xs.map (fun p => Value.int p.1 p.2)).toArray = intItems xs.toArray := by simp [intItems]
theorem strOk_int (i : Int) : PyData.strOk (Str.ofString (toString i)) = true := by
  rw [Str.ofString_eq_toList]
  unfold PyData.strOk
  simp only [List.all_toArray,List.all_map,List.all_eq_true]
  intro c _
  simp only [Function.comp,decide_eq_true_eq]
  have := c.valid
  rcases this with h | h
  · have : c.toNat < 55296 := h
    lia
  · exact h.2
section
variable {h₀ : Heap} {vs : List Value} {ds : List Dat} {v u : Value}
theorem RepBs.one {f : Dat → Out Dat} {W : List Value → Tr Value} (r : RepBs Z s.heap vs ds) (H : ∀ v d,RepB Z s.heap v d → EvT Γ A env Z s (PW Γ h₀) (f d >>= fun d => .ok (.sh d)) (W [v])) : EvT Γ A env Z s (PW Γ h₀) (on1 f ds >>= fun d => .ok (.sh d)) (W vs) := by
  cases r with
  | nil => exact .bad
  | cons a r =>
    cases r with
    | nil => exact H _ _ a
    | cons => exact .bad
theorem RepBs.m12 {f : Dat → Out Dat} {g : Dat → Dat → Out Dat} {W : List Value → Tr Value} (r : RepBs Z s.heap vs ds) (H : ∀ v d,RepB Z s.heap v d → EvT Γ A env Z s (PW Γ h₀) (f d >>= fun d => .ok (.sh d)) (W [v]))
    (H2 : ∀ v d u e,RepB Z s.heap v d → RepB Z s.heap u e → EvT Γ A env Z s (PW Γ h₀) (g d e >>= fun d => .ok (.sh d)) (W [v,u])) : EvT Γ A env Z s (PW Γ h₀) (Mine.m12 f g ds >>= fun d => .ok (.sh d)) (W vs) := by
  cases r with
  | nil => exact .bad
  | cons a r =>
    cases r with
    | nil => exact H _ _ a
    | cons b r =>
      cases r with
      | nil => exact H2 _ _ _ _ a b
      | cons => exact .bad
theorem ev_on2 {f : Int → Int → Int} {d e : Dat} {W : Tr Value} (a : RepB Z s.heap v d) (b : RepB Z s.heap u e) (H : ∀ i t j t',v = .int i t → u = .int j t' → EvT Γ A env Z s (PW Γ h₀) (.ok (.sh (.int (f i j)))) W) : EvT Γ A env Z s (PW Γ h₀) (on2 f d e >>= fun d => .ok (.sh d)) W := by
  cases d <;> first | exact .bad | skip
  cases e <;> first | exact .bad | skip
  obtain ⟨t,e1⟩ := a.int
  obtain ⟨t',e2⟩ := b.int
  exact H _ _ _ _ e1 e2
theorem line_lt {k : Nat} (h : k ≤ line) : ¬ ((k : Int) ≥ 2 ^ 63) := by
  have : line = 16777216 := rfl
  lia
theorem line_lt' {k : Nat} (h : k ≤ line) : (k : Int) < 2 ^ 63 := by
  have : line = 16777216 := rfl
  lia
theorem bi_len {d : Dat} (sub : ∀ a o,Z a = some o → s.heap.get? a = some o) (ok : ∀ a o,Z a = some o → Tt o) (a : RepB Z s.heap v d) : EvT Γ A env Z s (PW Γ h₀) (lenD d >>= fun d => .ok (.sh d)) (wpt Γ A (call (.builtin "len") [v])) := by
  cases d with
  | str x =>
    obtain ⟨x,t,rfl,rfl,o,l⟩ := a.str
    exact EvT.data sub ok fun _ _ hQ => P.len_str (line_lt l) (hQ _ _ _ (.refl _) (.int _ _))
  | lst x =>
    obtain ⟨l,vs,rfl,p,z,rl⟩ := a.list sub
    exact EvT.data sub ok fun _ _ hQ => len_list p.isList (line_lt' z) (hQ _ _ _ (.refl _) (by rw [← rl.length]; exact .int _ _))
  | tup x =>
    obtain ⟨l,vs,k,rfl,p,z,rl⟩ := Rep.tuple sub (a.rep nofun)
    exact EvT.data sub ok fun _ _ hQ => len_tuple ⟨_,p,rfl,_,rfl⟩ (line_lt' z) (hQ _ _ _ (.refl _) (by rw [← rl.length]; exact .int _ _))
  | _ => exact .bad
theorem bi_str {d : Dat} (sub : ∀ a o,Z a = some o → s.heap.get? a = some o) (ok : ∀ a o,Z a = some o → Tt o) (a : RepB Z s.heap v d) : EvT Γ A env Z s (PW Γ h₀) (strD d >>= fun d => .ok (.sh d)) (wpt Γ A (call (.type "str") [v])) := by
  cases d with
  | str x =>
    obtain ⟨x,t,rfl,rfl,o,l⟩ := a.str
    exact EvT.data sub ok fun _ _ hQ => P.str_of_str (hQ _ s.heap s.toks (.refl _) (.str x t o l))
  | int i =>
    obtain ⟨t,rfl⟩ := a.int
    show EvT Γ A env Z s (PW Γ h₀) ((if _ then Out.ok (Dat.str (strOfInt i)) else .bad) >>= _) _
    by_cases hi : i.natAbs < 2 ^ 64 ∧ (strOfInt i).length ≤ line
    · rw [if_pos hi]
      have hs := Rep.str (Z := Z) (Str.ofString (toString i)) s.toks (strOk_int i) (by rw [Str.ofString_eq_toList]; simpa [Str.length,strOfInt] using hi.2)
      refine EvT.data sub ok fun _ _ hQ => P.str_of_int ?_ (hQ _ _ _ (.refl _) (by rw [Str.ofString_eq_toList] at hs ⊢; exact hs))
      by_cases h0 : i.natAbs = 0
      · rw [h0]; decide
      · exact Nat.lt_of_lt_of_le ((Nat.log2_lt h0).mpr hi.1) (by decide)
    · rw [if_neg hi]; exact .bad
  | _ => exact .bad
theorem bi_min {d : Dat} (sub : ∀ a o,Z a = some o → s.heap.get? a = some o) (ok : ∀ a o,Z a = some o → Tt o) (hh : A.handled = none) (a : RepB Z s.heap v d) : EvT Γ A env Z s (PW Γ h₀) (minD d >>= fun d => .ok (.sh d)) (wpt Γ A (call (.builtin "min") [v])) := by
  cases d <;> first | exact .bad | skip
  rename_i l0
  obtain ⟨l,vs,rfl,p,z,rl⟩ := a.list sub
  show EvT Γ A env Z s (PW Γ h₀) (minI (intsOf l0) >>= _) _
  cases hi : intsOf l0 with
  | none => exact .bad
  | some r =>
    cases r with
    | nil => exact .bad
    | cons b r =>
      obtain ⟨xs,e1,e2⟩ := rl.ints hi
      subst e1
      rw [intItems_of] at p
      refine EvT.data sub ok fun _ _ hQ => min_intList hh p.isList ?_ fun v h' tk hv k => hQ _ h' tk (Kp.of k) ?_
      · cases xs with
        | nil => cases e2
        | cons => simp
      · obtain ⟨t,rfl⟩ := min_pick e2 hv
        exact .int _ _
theorem bi_sum {d : Dat} (sub : ∀ a o,Z a = some o → s.heap.get? a = some o) (ok : ∀ a o,Z a = some o → Tt o) (hh : A.handled = none) (a : RepB Z s.heap v d) : EvT Γ A env Z s (PW Γ h₀) (sumD d >>= fun d => .ok (.sh d)) (wpt Γ A (call (.builtin "sum") [v])) := by
  cases d <;> first | exact .bad | skip
  rename_i l0
  obtain ⟨l,vs,rfl,p,z,rl⟩ := a.list sub
  show EvT Γ A env Z s (PW Γ h₀) (sumI (intsOf l0) >>= _) _
  cases hi : intsOf l0 with
  | none => exact .bad
  | some r =>
    obtain ⟨xs,e1,e2⟩ := rl.ints hi
    subst e1
    rw [intItems_of] at p
    refine EvT.data sub ok fun _ _ hQ => sum_intListG hh p.isList fun h' tk t' k => hQ _ h' tk (Kp.of k) ?_
    rw [preSum_eq,List.take_of_length_le (by simp),show xs.toArray.toList.map (·.1) = _ from e2]
    exact .int _ _
theorem ev_bi {b : BI} (sub : ∀ a o,Z a = some o → s.heap.get? a = some o) (ok : ∀ a o,Z a = some o → Tt o) (hq : quietBi b = false → A.handled = none) (r : RepBs Z s.heap vs ds) :
    EvT Γ A env Z s (PW Γ h₀) (biD b ds >>= fun d => .ok (.sh d)) (wpt Γ A (call (biV b) vs)) := by
  cases b
  · exact r.one (W := fun vs => wpt Γ A (call (.builtin "len") vs)) fun v d a => bi_len sub ok a
  · refine r.one (W := fun vs => wpt Γ A (call (.type "int") vs)) fun v d a => ?_
    cases d <;> first | exact .bad | skip
    cases a.rep nofun
    exact EvT.data sub ok fun _ _ hQ => call_int_bool (hQ _ _ _ (.refl _) (.int _ _))
  · exact r.one (W := fun vs => wpt Γ A (call (.type "str") vs)) fun v d a => bi_str sub ok a
  · refine r.m12 (W := fun vs => wpt Γ A (call (.builtin "min") vs)) (fun v d a => bi_min sub ok (hq rfl) a) fun v d u e a b => ev_on2 a b fun i t j t' e1 e2 => ?_
    subst e1 e2
    exact EvT.data sub ok fun _ _ hQ => min_two_ints (hq rfl) fun h' tk k => hQ _ h' tk (Kp.of k) (by split <;> exact .int _ _)
  · refine r.m12 (W := fun vs => wpt Γ A (call (.builtin "max") vs)) (fun v d a => .bad) fun v d u e a b => ev_on2 a b fun i t j t' e1 e2 => ?_
    subst e1 e2
    exact EvT.data sub ok fun _ _ hQ => max_two_ints (hq rfl) fun h' tk k => hQ _ h' tk (Kp.of k) (by split <;> exact .int _ _)
  · exact r.one (W := fun vs => wpt Γ A (call (.builtin "sum") vs)) fun v d a => bi_sum sub ok (hq rfl) a
  · refine r.one (W := fun vs => wpt Γ A (call (.builtin "abs") vs)) fun v d a => ?_
    cases d <;> first | exact .bad | skip
    obtain ⟨t,rfl⟩ := a.int
    exact EvT.data sub ok fun _ _ hQ => call_abs_int fun u tk => hQ _ _ _ (.refl _) (.int _ _)
end
theorem biV_bt (b : BI) : isBT (biV b) = true := by cases b <;> rfl
theorem EvT.allB {α : Type} {P : Led → Heap → Value → α → Prop} {h : Heap} {vs : List Value} {xs : List Val} {f : List Dat → Out α} {W : Tr Value} (r : RepVs Γ Z h vs xs) (H : ∀ ds,RepBs Z h vs ds → EvT Γ A env Z s P (f ds) W) : EvT Γ A env Z s P (Mine.allB xs >>= f) W := by
  rcases r.borrow with q | ⟨ds,q,r⟩
  · rw [q]; exact .bad
  · rw [q]; exact H ds r
theorem snd_bi (C : CxOk Γ) {b : BI} {ts : T} (H : SndL Γ n Φ ts) : SndE Γ n Φ (.bi b ts) := fun nm ρ A env Z s m e hc O AO I => inv_bi hc fun x p es pos he h1 h2 h3 => by
  subst he
  refine EvT.eq (ev_call_bt C (biV_bt b) h1 h2 H h3 O AO I (fun xs => allB xs >>= fun ds => biD b ds >>= fun d => .ok (.sh d)) fun xs vs Z' h' tk g q _ => EvT.allB q fun ds r => ev_bi g.sub g.ok (fun q => (loud_bi hc).elim AO.hd fun w => by rw [w] at q; cases q) r) ?_
  show (evT Φ ts ρ >>= allB >>= biD b >>= fun d => Out.ok (Val.sh d)) = _
  rw [Out.bind_assoc,Out.bind_assoc]
end
end Mine
namespace Mine
open PySem PySem.Calls PyProof.Rows PySem.Builtin PySem.Builtin.ObjectAttr PySem.Builtin.Getset_descriptor
section
variable {prog : Program} {w : World} {A : Around} {E : Value → Shared → Prop} {s : Shared} {K : PySem.W.Frag} {x D : Addr} {o : Obj}
theorem excGet_inv (h : excGet K D = true) : PySem.W.findIn K (.ref D) "__getattribute__" = some (some (.builtin "BaseException.__getattribute__")) ∧ PySem.W.findIn K (.ref D) "__getattr__" = some none ∧ PySem.W.findIn K (.ref D) "__class__" = some (some (.builtin "object.__class__")) ∧
    PySem.W.mroIn K D (.type "object") = some true ∧ PySem.W.subIn K (.ref D) (.type "BaseException") = some true ∧ (PySem.W.clsIn K D).isSome = true := by
  unfold excGet at h
  have h := and6 h
  exact ⟨beq_iff_eq.mp h.1,beq_iff_eq.mp h.2.1,beq_iff_eq.mp h.2.2.1,beq_iff_eq.mp h.2.2.2.1,beq_iff_eq.mp h.2.2.2.2.1,h.2.2.2.2.2⟩
theorem exc_class {Q : Option Value → Shared → Prop} (X : K.In s.heap) (hg : excGet K D = true) (hx : s.heap.get? x = some o) (hc : o.cls = .ref D) (h : Q (some (.ref D)) { s with toks := s.toks + 1 }) : wpAny (model prog w) A (getAttr? (.ref x) "__class__") Q E s := by
  obtain ⟨g1,g2,g3,g4,g5,g6⟩ := excGet_inv hg
  obtain ⟨hh,g,d,tt,os⟩ := s
  have L0 : PySem.W.Looks (model prog w) hh (typeOf (.ref x)) (.ref D) := hc ▸ (PySem.W.Looks.ld hx).andThen .now
  have L1 := PySem.W.looks_findIn (M := model prog w) X g1
  have L2 := PySem.W.looks_findIn (M := model prog w) X g2
  have L3 := PySem.W.looks_findIn (M := model prog w) X g3
  have L4 := PySem.W.looks_mroIn (M := model prog w) X g4
  have L5 := PySem.W.looks_subIn (M := model prog w) X g5
  unfold getAttr? getAttrBy? getAttrBy
  refine wpAny_bind (wpAny_mkText (wpAny_bind (wpAny_attempt (wpAny_holding (wpAny_bind (L0.at (wpAny_bind (L1.at ?_))))))))
  show wpAny _ _ (getAttrByItsOwn _ _ _ _ _ _) _ _ _
  unfold getAttrByItsOwn hookBefore callGetattribute boundAndCalled
  refine wpAny_bind (L2.at (wpAny_bind (wpAny_attempt (wpAny_holding ?_))))
  rw [if_neg (by decide)]
  have hk : builtinKind "BaseException.__getattribute__" = some .slot := by decide +kernel
  have hsplit : splitId "BaseException.__getattribute__" = some ("BaseException","__getattribute__") := by decide +kernel
  refine wpAny_bind (wpAny_of_eq (PySem.F.attr_ValueError.ga.bind (.ref x)) ?_)
  refine wpAny_call (codeAny_call_builtin PySem.F.attr_ValueError.ga.plain PySem.F.entry_bexc_ga ?_)
  have ha := PySem.F.args_bexc_ga (.ref x) (.str "__class__" tt)
  simp only [checkBuiltinCall,hk,hsplit]
  refine wpAny_bind ?_
  unfold isInstance
  refine wpAny_bind (L0.at (L5.at ?_))
  rw [if_neg (by decide)]
  refine wpAny_of_eq ha ?_
  have hT5 : (⟨hh,g,d,tt,os⟩ : Shared).TypeIs (.builtin "object.__class__") "getset_descriptor" := PySem.F.typeOf_object_class
  have f5 := PySem.F.typeOf_object_class
  have f6 := PySem.F.slot_gs_get.lookup
  have f7 := PySem.F.slot_gs_set.lookup
  repeat (any_goals (first | assumption | with_reducible refine PySem.W.Looks.at L0 ?_ | with_reducible refine PySem.W.Looks.at L3 ?_ | wp_step))
  refine codeAny_call_builtin PySem.W.KF.slot_gs.plain PySem.W.KF.entry_gs (PySem.W.KF.slot_gs.check _ _ _ _ _ _ _ _ PySem.W.KF.type_class (PySem.W.KF.args_gs _ _ _) ?_)
  unfold Builtin.«getset_descriptor.__get__» descrGet
  rw [PySem.W.dga_obj]
  refine wpAny_bind (wpAny_pure ?_)
  unfold descrGetter descrCheckInstance descrNameAndClass isInstance
  simp only [PySem.W.KF.owner_class]
  repeat lk
  refine ⟨Code.quiet_builtin _ (by decide +kernel),codeAny_builtin PySem.W.KF.entry_class ?_⟩
  unfold Builtin.«object.__class__» shownTypeOf
  repeat lk
  exact h
theorem cls_at (h : (PySem.W.clsIn K D).isSome = true) : ∃ c d cd sl,K.lookup D = some ⟨c,d,.cls cd,sl⟩ := by
  unfold PySem.W.clsIn at h
  generalize K.lookup D = r at h
  cases r with
  | none => cases h
  | some o =>
    obtain ⟨c,d,dat,sl⟩ := o
    cases dat <;> first | exact ⟨_,_,_,_,rfl⟩ | (cases h; done)
theorem kitx_exc (hg : excGet K D = true) : PySem.W.KitX K (.ref x) (.ref D) (fun h => ∃ o,h.get? x = some o ∧ o.cls = .ref D) where
  ty := fun M h _ ⟨o,h1,h2⟩ => h2 ▸ (PySem.W.Looks.ld h1).andThen .now
  it := fun M h X _ A Q E s k q => by
    obtain ⟨_,_,_,_,ho⟩ := cls_at (excGet_inv hg).2.2.2.2.2
    unfold isType loadHead
    exact wpAny_bind (wpAny_loadPart (k _ _ (X _ _ ho)) (wpAny_pure q))
  ne := fun h tp dd its n sl X htp => Bool.eq_false_iff.mpr fun q => by
    obtain ⟨_,_,_,_,ho⟩ := cls_at (excGet_inv hg).2.2.2.2.2
    have e : D = tp := Value.ref.inj (beq_iff_eq.mp q)
    subst e
    cases (X _ _ ho).symm.trans htp
  ca := fun X ⟨o,h1,h2⟩ k => exc_class X hg h1 h2 k
end
end Mine
namespace Mine
open PySem PySem.Calls PyProof.Rows
section
variable {Γ : Cx} {n : Nat} {Φ : Nat → List Val → Out Val} {A : Around} {env : Env} {Z : Led} {s : Shared} {nm : Nm} {ρ : List Val} {m : Str → Option Value}
theorem callWith_bt' {fv : Value} (hb : isBT fv = true) {pos : Pos} {args : List (Bool × Sem Value)} (ha : args.any (·.1) = false) {Q : Value → Shared → Prop} {E : Value → Shared → Prop}
    (h : wpAny (model Γ.prog Γ.w) A (evalArgs fv true args []) (fun a s' => wpAny (model Γ.prog Γ.w) A (call fv ([] ++ a.pos) a.kw) Q E s') E s) :
    wpAny (model Γ.prog Γ.w) A (callWith pos fv [] args []) Q E s := by
  cases fv <;> first | cases hb | skip
  · exact PyProof.Rows.callWith_type ha h
  · exact callWith_builtin ha h
theorem ev_call_1 {α γ : Type} {P1 : Led → Heap → Value → γ → Prop} {P : Led → Heap → Value → α → Prop} (C : CxOk Γ) {x : Str} {fv : Value} (hb : isBT fv = true) (hd : notDebug x = true) (hg : globOf Γ.gs env.scope x = some (.bi fv)) {v : Expr} (hv : notStar v = true)
    (O : EnvOk env) (I : Inv Γ nm ρ env Z s.heap m) {r : Out γ} (f : γ → Out α) (H : EvT Γ A env Z s P1 r (wpt Γ A (eval v env)))
    (K : ∀ y u Z' h' tk,r = .ok y → Grow Z s.heap Z' h' → P1 Z' h' u y → EvT Γ A env Z' { s with heap := h',toks := tk } P (f y) (wpt Γ A (call fv [u]))) {p pos : Pos} :
    EvT Γ A env Z s P (r >>= f) (wpt Γ A (eval (.Call (.Name x p) [v] [] pos) env)) := by
  refine cps fun P_ hP_ => ?_
  obtain ⟨k,l⟩ := globOf_kind hg
  obtain ⟨e1,e2⟩ := C.gl _ _ l
  refine hP_ ?_
  clear hP_ P_
  have hs : backTo pos (starEach [v] env) = [(false,eval v env)] := by rw [star_cons hv]; rfl
  refine EvT.rule (fun Q E h => Call_ (load_bui O C.g C.b I k e1 e2 hd (by rw [hs]; exact callWith_bt' hb rfl (evalArgs_plain (spliced_cons h))))) (EvT.bind (W2 := fun u Q E s => wpAny (model Γ.prog Γ.w) A (spliced []) (fun vs s₂ => wpAny (model Γ.prog Γ.w) A (call fv ([] ++ (u :: vs))) Q E s₂) E s) H fun y u Z' h' tk e g q => ?_)
  exact EvT.rule (fun Q E h => spliced_nil h) (K y u Z' h' tk e g q)
noncomputable def tyV : Ty → Value
  | .int => .type "int"
  | .bool => .type "bool"
  | .str => .type "str"
  | .list => .type "list"
  | .tuple => .type "tuple"
  | _ => .none
theorem isi_tab {t : Ty} {v : Value} {d : Dat} (sub : ∀ a o,Z a = some o → s.heap.get? a = some o) (r : RepB Z s.heap v d) (hb : isiD t d ≠ .bad) {Q E : Value → Shared → Prop} (h : ∀ tk b,isiD t d = .ok b → Q (.bool b) { s with toks := tk }) :
    wpAny (model Γ.prog Γ.w) A (call (.builtin "isinstance") [v,tyV t]) Q E s := by
  have idk : ∀ b o,s.heap.get? b = some o → s.heap.get? b = some o := fun _ _ e => e
  cases d with
  | none =>
    cases r.rep nofun
    cases t <;> first | exact IsiPair.NoneType_int (h _ _ rfl) | exact IsiPair.NoneType_bool (h _ _ rfl) | exact IsiPair.NoneType_str (h _ _ rfl) | exact IsiPair.NoneType_list (h _ _ rfl) | exact IsiPair.NoneType_tuple (h _ _ rfl) | exact absurd rfl hb
  | dic =>
    cases r.rep nofun with
    | dic z _ => cases t <;> first | exact IsiPair.dict_int (sub _ _ z) rfl (h _ _ rfl) | exact IsiPair.dict_bool (sub _ _ z) rfl (h _ _ rfl) | exact IsiPair.dict_str (sub _ _ z) rfl (h _ _ rfl) | exact IsiPair.dict_list (sub _ _ z) rfl (h _ _ rfl) | exact IsiPair.dict_tuple (sub _ _ z) rfl (h _ _ rfl) | exact absurd rfl hb
  | bool _ =>
    cases r.rep nofun
    cases t <;> first | exact IsiPair.bool_int (h _ _ rfl) | exact IsiPair.bool_bool (h _ _ rfl) | exact IsiPair.bool_str (h _ _ rfl) | exact IsiPair.bool_list (h _ _ rfl) | exact IsiPair.bool_tuple (h _ _ rfl) | exact absurd rfl hb
  | int i =>
    obtain ⟨_,rfl⟩ := r.int
    cases t <;> first | exact IsiPair.int_int (h _ _ rfl) | exact IsiPair.int_bool (h _ _ rfl) | exact IsiPair.int_str (h _ _ rfl) | exact IsiPair.int_list (h _ _ rfl) | exact IsiPair.int_tuple (h _ _ rfl) | exact absurd rfl hb
  | str x =>
    obtain ⟨_,_,rfl,_⟩ := r.str
    cases t <;> first | exact IsiPair.str_int (h _ _ rfl) | exact IsiPair.str_bool (h _ _ rfl) | exact IsiPair.str_str (h _ _ rfl) | exact IsiPair.str_list (h _ _ rfl) | exact IsiPair.str_tuple (h _ _ rfl) | exact absurd rfl hb
  | lst ds =>
    obtain ⟨a,vs,rfl,p,_,_⟩ := r.list sub
    cases t <;> first | exact IsiPair.isList_int p.isList idk (h _ _ rfl) | exact IsiPair.isList_bool p.isList idk (h _ _ rfl) | exact IsiPair.isList_str p.isList idk (h _ _ rfl) | exact IsiPair.isList_list p.isList idk (h _ _ rfl) | exact IsiPair.isList_tuple p.isList idk (h _ _ rfl) | exact absurd rfl hb
  | tup ds =>
    obtain ⟨a,vs,k,rfl,p,_,_⟩ := Rep.tuple sub (r.rep nofun)
    have p' : s.heap.IsTuple a vs.toArray := ⟨_,p,rfl,_,rfl⟩
    cases t <;> first | exact IsiPair.isTuple_int p' idk (h _ _ rfl) | exact IsiPair.isTuple_bool p' idk (h _ _ rfl) | exact IsiPair.isTuple_str p' idk (h _ _ rfl) | exact IsiPair.isTuple_list p' idk (h _ _ rfl) | exact IsiPair.isTuple_tuple p' idk (h _ _ rfl) | exact absurd rfl hb
theorem tyOk_bi {t : Ty} {g : Option G} {d : Dat} {b : Bool} (h : tyOk t g = true) (hd : isiD t d = .ok b) : g = some (.bi (tyV t)) := by
  cases t <;> first | exact beq_iff_eq.mp h | cases hd
theorem isiD_exn {t : Ty} {d : Dat} {c : Nat} : isiD t d ≠ .exn c := fun h => by
  have e : noX (isiD t d) = isiD t d := by cases t <;> cases d <;> rfl
  rw [h] at e
  cases e
theorem isCls_inv {g : Option G} (h : isCls g = true) : ∃ i,g = some (.cls i) := by
  cases g with
  | none => cases h
  | some g => cases g <;> first | exact ⟨_,rfl⟩ | cases h
noncomputable def RepX (Γ : Cx) (Z : Led) (h : Heap) (v : Value) (y : Dat ⊕ Option Nat) : Prop := match y with
  | .inl d => RepB Z h v d
  | .inr (some k) => ExcIs Γ h v k
  | .inr Option.none => ∃ ns ps,ShopIs Γ.shopC Z v ns ps
theorem EvT.toX {r : Out Val} {W : Tr Value} (H : EvT Γ A env Z s (PW Γ s.heap) r W) : EvT Γ A env Z s (RepX Γ) (r >>= needX) W := by
  refine H.conv fun Z' h' v x g p => ?_
  cases x with
  | sh d => exact .inr ⟨.inl d,Z',rfl,g,.inl p⟩
  | own ds =>
    obtain ⟨a,rfl,f,o⟩ := p
    obtain ⟨Z'',g',_,r,_⟩ := freeze_own g f o
    exact .inr ⟨.inl _,Z'',rfl,g',.inl r⟩
  | bor ds =>
    obtain ⟨a,vs,rfl,l,z,r⟩ := p
    exact .inr ⟨.inl _,Z',rfl,g,.inr ⟨a,vs,ds,rfl,rfl,l,z,r⟩⟩
  | pr d ds =>
    obtain ⟨Z'',g',r⟩ := freeze_pr g p
    exact .inr ⟨.inl _,Z'',rfl,g',.inl r⟩
  | exc k => exact .inr ⟨.inr (some k),Z',rfl,g,p⟩
  | shop ns ps => exact .inr ⟨.inr Option.none,Z',rfl,g,ns,ps,p⟩
  | _ => exact .inl rfl
theorem snd_isi (C : CxOk Γ) {t : Ty} {a : T} (H : SndE Γ n Φ a) : SndE Γ n Φ (.isi t a) := fun nm ρ A env Z s m e hc O AO I => inv_isi hc fun x p v y py pos he h1 h2 h3 h4 h5 h6 => by
  subst he
  obtain ⟨k,l⟩ := globOf_kind h3
  obtain ⟨e1,e2⟩ := C.gl _ _ l
  have hs : backTo pos (starEach [v,.Name y py] env) = [(false,eval v env),(false,eval (.Name y py) env)] := by rw [star_cons h5]; rfl
  have hr : ev Φ (.isi t a) ρ = ((ev Φ a ρ >>= needX >>= isiY t) >>= fun d => .ok (.sh (.bool d))) := by
    show (ev Φ a ρ >>= isiV t >>= _) = _
    cases ev Φ a ρ <;> rfl
  rw [hr]
  refine EvT.rule (fun Q E h => Call_ (load_bui O C.g C.b I k e1 e2 h1 (by rw [hs]; exact callWith_bt' rfl rfl (evalArgs_plain (spliced_cons h))))) (EvT.ofBool (EvT.bind (W2 := fun u Q E s => wpAny (model Γ.prog Γ.w) A (spliced [(false,eval (.Name y py) env)]) (fun vs s₂ => wpAny (model Γ.prog Γ.w) A (call (.builtin "isinstance") ([] ++ (u :: vs))) Q E s₂) E s) (H nm ρ A env Z s m v h6 O AO I).toX fun d u Z' h' tk _ g q => ?_))
  cases d with
  | inl d =>
    have q : RepB Z' h' u d := q
    cases hd : isiD t d with
    | bad => exact .badE hd
    | exn c => exact (isiD_exn hd).elim
    | ok b =>
      obtain ⟨k',l'⟩ := globOf_kind (tyOk_bi h4 hd)
      obtain ⟨f1,f2⟩ := C.gl _ _ l'
      exact EvT.eq (EvT.rule (fun Q E h => spliced_cons (load_bui O C.g C.b (I.grow g) k' f1 f2 h2 (spliced_nil h))) (EvT.now (P := PBo) g.sub g.ok fun Q E hQ => isi_tab g.sub q (by rw [hd]; exact nofun) fun tk b' e => hQ _ h' tk (.refl _) (congrArg Value.bool (Out.ok.inj (e.symm.trans hd))))) hd
  | inr d =>
    have kb := (I.grow g).kb
    have X := C.kin h' kb
    cases d with
    | some c =>
      have q : ExcIs Γ h' u c := q
      obtain ⟨e,oe,vs,Cc,rfl,q2,q3,q4,q5⟩ := q
      show EvT _ _ _ _ _ _ (isiX t c) _
      cases t with
      | exc d =>
        obtain ⟨k',l'⟩ := globOf_kind (show globOf Γ.gs env.scope y = some (.exc d) from beq_iff_eq.mp h4)
        have Zx := kitx_exc (x := e) (C.exo.get c Cc q2)
        cases d with
        | zero =>
          obtain ⟨f1,f2⟩ := C.gl _ _ l'
          exact EvT.rule (fun Q E h => spliced_cons (load_bui O C.g C.b (I.grow g) k' f1 f2 h2 (spliced_nil h))) (EvT.now (P := PBo) g.sub g.ok fun Q E hQ => PySem.W.kia_one Zx X ⟨oe,q3,q4⟩ (C.exo.isv c Cc q2) (by intro q; cases q) fun tk => hQ _ h' tk (.refl _) (congrArg Value.bool (Bool.or_true _).symm))
        | succ d =>
          obtain ⟨D,f1,f2,_⟩ := C.gl _ _ l'
          exact EvT.rule (fun Q E h => spliced_cons (load_glob O C.g (I.grow g) k' f1 h2 (spliced_nil h))) (EvT.now (P := PBo) g.sub g.ok fun Q E hQ => PySem.W.kia_one Zx X ⟨oe,q3,q4⟩ (C.exo.isi c Cc (d + 1) D q2 f2) (by intro q; cases q) fun tk => hQ _ h' tk (.refl _) rfl)
      | _ => exact .bad
    | none =>
      obtain ⟨ns,ps,sh⟩ : ∃ ns ps,ShopIs Γ.shopC Z' u ns ps := q
      show EvT _ _ _ _ _ _ (isiH t) _
      cases t with
      | shop =>
        refine cps fun P_ hP_ => ?_
        obtain ⟨i,hi⟩ : ∃ i,globOf Γ.gs env.scope y = some (.cls i) := isCls_inv h4
        obtain ⟨k',l'⟩ := globOf_kind hi
        refine hP_ ?_
        clear hP_ P_
        have f1 : Γ.mg y = some (.ref Γ.shopC) := C.gl _ _ l'
        obtain ⟨a',dx,od,es,nn,e₁,e₂,rfl,s1,_⟩ := sh
        have ht : ∀ M,PySem.W.Looks M h' (typeOf (.ref a')) (.ref Γ.shopC) := fun M => (PySem.W.Looks.ld (g.sub _ _ s1)).andThen .now
        exact EvT.rule (fun Q E h => spliced_cons (load_glob O C.g (I.grow g) k' f1 h2 (spliced_nil h))) (EvT.now (P := PBo) g.sub g.ok fun Q E hQ => PySem.W.isi_call X ht (by unfold PySem.W.isIn; simp) (by intro q; cases q) (hQ _ h' tk (.refl _) rfl))
      | _ => exact .bad
inductive SeqIs (Z : Led) (h : Heap) (v : Value) (l : List Dat) : Prop
  | mk (a : _) (T : _) (k : _) (vs : _) : v = .ref a → (T = "list" ∨ T = "tuple") → h.get? a = some { cls := .type T,data := .seq vs.toArray k } → vs.length ≤ line → RepL Z vs l → SeqIs Z h v l
theorem RepB.seq {h : Heap} {v : Value} {l : List Dat} (sub : ∀ a o,Z a = some o → h.get? a = some o) (r : RepB Z h v (.lst l) ∨ RepB Z h v (.tup l)) :
    SeqIs Z h v l := by
  rcases r with r | r
  · obtain ⟨a,vs,rfl,⟨k,p⟩,z,rl⟩ := r.list sub
    exact ⟨a,"list",k,vs,rfl,.inl rfl,p,z,rl⟩
  · obtain ⟨a,vs,k,rfl,p,z,rl⟩ := Rep.tuple sub (r.rep nofun)
    exact ⟨a,"tuple",k,vs,rfl,.inr rfl,p,z,rl⟩
theorem EvT.toL {r : Out Val} {W : Tr Value} (H : EvT Γ A env Z s (PW Γ s.heap) r W) : EvT Γ A env Z s (fun Z h v l => RepB Z h v (.lst l)) (r >>= itemsL) W := by
  refine H.conv fun Z' h' v x g p => ?_
  cases x with
  | sh d =>
    cases d with
    | lst l => exact .inr ⟨l,Z',rfl,g,.inl p⟩
    | _ => exact .inl rfl
  | own l => exact .inr ⟨l,Z',rfl,g,p.toB rfl nofun⟩
  | bor l => exact .inr ⟨l,Z',rfl,g,p.toB rfl nofun⟩
  | _ => exact .inl rfl
theorem EvT.toS {r : Out Val} {W : Tr Value} (H : EvT Γ A env Z s (PW Γ s.heap) r W) : EvT Γ A env Z s (fun Z h v l => RepB Z h v (.lst l) ∨ RepB Z h v (.tup l)) (r >>= itemsS) W := by
  refine H.conv fun Z' h' v x g p => ?_
  cases x with
  | sh d =>
    cases d with
    | lst l => exact .inr ⟨l,Z',rfl,g,.inl (.inl p)⟩
    | tup l => exact .inr ⟨l,Z',rfl,g,.inr (.inl p)⟩
    | _ => exact .inl rfl
  | own l => exact .inr ⟨l,Z',rfl,g,.inl (p.toB rfl nofun)⟩
  | bor l => exact .inr ⟨l,Z',rfl,g,.inl (p.toB rfl nofun)⟩
  | _ => exact .inl rfl
theorem own_at {h h' : Heap} (sub : ∀ a o,Z a = some o → h.get? a = some o) {vs : List Value} {ds : List Dat} {a : Addr} {k : Nat} (f : h.get? a = none) (e : h'.get? a = some { cls := .type "list",data := .seq vs.toArray k }) (l : vs.length ≤ line) (r : RepL Z vs ds) :
    RepV Γ Z (fun a => h.get? a = none) h' (.ref a) (.own ds) :=
  ⟨a,rfl,f,vs,led_none sub f,⟨k,e⟩,l,r⟩
theorem snd_mkL0 (C : CxOk Γ) {a : T} (H : SndE Γ n Φ a) (hi : ∀ nm sc e,chkI Γ.gs a nm sc e = true → chk Γ.gs a nm sc e = true) (hk : ∀ ρ,itsK Φ a ρ = (ev Φ a ρ >>= itemsS)) : SndE Γ n Φ (.mkL a) := fun nm ρ A env Z s m e hc O AO I => inv_mkL hc fun x p v pos he h1 h2 h3 h4 => by
  subst he
  show EvT Γ A env Z s (PW Γ s.heap) (itsK Φ a ρ >>= fun ds => .ok (.own ds)) _
  rw [hk]
  refine ev_call_1 C (fv := .type "list") rfl h1 h2 h3 O I _ (H nm ρ A env Z s m v (hi _ _ _ h4) O AO I).toS fun l u Z' h' tk _ g q => ?_
  obtain ⟨a,T,k,vs,rfl,hT,ho,z,rl⟩ := RepB.seq g.sub q
  exact EvT.old g (EvT.now g.sub g.ok fun Q E hQ => call_list_seq a hT ho rfl rfl (fun h'' c' kk e' => hQ _ h'' tk (Kp.of kk) (own_at g.sub (get_size _) e' z rl)) z)
theorem snd_mkT (C : CxOk Γ) {a : T} (H : SndE Γ n Φ a) : SndE Γ n Φ (.mkT a) := fun nm ρ A env Z s m e hc O AO I => inv_mkT hc fun x p v pos he h1 h2 h3 h4 => by
  subst he
  show EvT Γ A env Z s (PW Γ s.heap) (ev Φ a ρ >>= itemsL >>= fun ds => .ok (.sh (.tup ds))) _
  refine ev_call_1 C (fv := .type "tuple") rfl h1 h2 h3 O I _ (H nm ρ A env Z s m v h4 O AO I).toL fun l u Z' h' tk _ g q => ?_
  obtain ⟨a,vs,rfl,p,z,rl⟩ := q.list g.sub
  intro _ Q E hQ _
  refine call_tuple_list p.isList (fun h'' kk => ?_) z
  have g2 : Grow Z' h' Z' h'' := Grow.keep g.sub g.ok (Kp.of kk)
  obtain ⟨Z3,g3,rr⟩ := tup_new g2.sub g2.ok z rl
  exact hQ _ _ Z3 _ tk rfl (g2.trans g3) rr
end
end Mine
namespace Mine
open PySem PySem.Calls PyProof.Rows
structure ZA (z TI TO i1 i2 : Addr) (fp1 fp2 : List Addr) : Prop where
  TIz : TI ≠ z
  TOz : TO ≠ z
  TITO : TI ≠ TO
  TIi1 : TI ≠ i1
  TIi2 : TI ≠ i2
  m1 : i1 ∈ fp1
  m2 : i2 ∈ fp2
  z1 : z ∉ fp1
  z2 : z ∉ fp2
  o1 : TO ∉ fp1
  o2 : TO ∉ fp2
  n1 : i1 ∉ fp2
  n2 : i2 ∉ fp1
section
variable {prog : Program} {w : World} {A : Around} {E : Value → Shared → Prop} {s : Shared} {z TI TO i1 i2 : Addr} {fp1 fp2 : List Addr} {n1 n2 k : Nat} {P1 P2 : Nat → Value → Prop} {St1 St2 : Nat → Heap → Prop}
theorem ne_of_nin {a b : Addr} {l : List Addr} (h : a ∉ l) (m : b ∈ l) : b ≠ a := fun e => h (e ▸ m)
theorem draw_same {it : Addr} {fp : List Addr} {n : Nat} {P : Nat → Value → Prop} {St : Nat → Heap → Prop} (D : Draws prog w A it fp n P St) {x : Addr} (hx : x ∉ fp) {h h' : Heap} (hs : Heap.SameBut x h h') {i : Nat} (st : St i h) : St i h' :=
  D.frame i h h' st fun b hb o e => (hs.2 b (ne_of_nin hx hb)).trans e
theorem zip_item_any {a b : Value} {Q : Value → Shared → Prop} (D : ZA z TI TO i1 i2 fp1 fp2) (D1 : Draws prog w A i1 fp1 n1 P1 St1) (D2 : Draws prog w A i2 fp2 n2 P2 St2)
    (hz : IsZip s.heap z TI TO .none) (hTI : IsPair s.heap TI (.ref i1) (.ref i2)) (hTO : IsPair s.heap TO a b) (h1 : St1 k s.heap) (h2 : St2 k s.heap) (l1 : k < n1) (l2 : k < n2)
    (hQ : ∀ x y h' tk,P1 k x → P2 k y → IsZip h' z TI TO (rawInt s.heap.objs.size) → IsPair h' TO x y → St1 (k + 1) h' → St2 (k + 1) h' → IsPair h' s.heap.objs.size x y →
      (∀ c o,c ≠ z → c ≠ TO → c ≠ i1 → c ≠ i2 → s.heap.get? c = some o → h'.get? c = some o) → Q (.ref s.heap.objs.size) { s with heap := h',toks := tk }) :
    wpAny (model prog w) A (Builtin.«zip.__next__» ⟨[.ref z],[]⟩) (fun fin s' => ∃ v,fin = .done (.ret v) ∧ Q v s') E s := by
  show wpAny _ _ (field (.ref z) 2 >>= _) _ _ _
  refine wpAny_bind (wpAny_field hz rfl (x := .bool false) rfl ?_)
  show wpAny _ _ (field (.ref z) 3 >>= _) _ _ _
  refine wpAny_bind (wpAny_field hz rfl (x := .ref TI) rfl ?_)
  refine wpAny_bind (wpAny_seqItems hTI rfl ?_)
  show wpAny _ _ (Builtin.SmallTypes.ownedTupleIsFree (.ref z) >>= _) _ _ _
  refine wpAny_bind ?_
  unfold Builtin.SmallTypes.ownedTupleIsFree
  refine wpAny_bind (wpAny_field hz rfl (x := .none) rfl (wpAny_pure ?_))
  simp only [if_true]
  refine wpAny_bind (wpAny_rule ?_)
  refine wpAny_bind (wpAny_field hz rfl (x := .ref TO) rfl ?_)
  refine wpAny_bind (wpAny_setField_rec hz (by simp) fun g1 hz1 s1 => ?_)
  replace hz1 : IsZip g1 z TI TO .ellipsis := hz1
  refine wpAny_bind ?_
  simp only [List.zipIdx_cons,List.zipIdx_nil,List.forIn_cons,List.forIn_nil]
  refine wpAny_bind (wpAny_bind (wpAny_onRaise ?_))
  show wpAny _ _ (Builtin.SmallTypes.nextOf (.ref i1) >>= _) _ _ _
  refine wpAny_bind (D1.item k _ _ _ l1 (draw_same D1 D.z1 s1 h1) fun x g2 t2 px h12 s2 => wpAny_pure ?_)
  have i1z : i1 ≠ z := ne_of_nin D.z1 D.m1
  have i2z : i2 ≠ z := ne_of_nin D.z2 D.m2
  have i1o : i1 ≠ TO := ne_of_nin D.o1 D.m1
  have i2o : i2 ≠ TO := ne_of_nin D.o2 D.m2
  have i12 : i1 ≠ i2 := ne_of_nin D.n2 D.m1
  have hTO2 : IsPair g2 TO a b := s2.extBut _ _ i1o.symm (s1.extBut _ _ D.TOz hTO)
  refine wpAny_bind (wpAny_seqItems hTO2 rfl ?_)
  refine wpAny_bind (wpAny_updateSeq_pair hTO2 fun g3 hTO3 s3 => ?_)
  replace hTO3 : IsPair g3 TO x b := hTO3
  refine wpAny_bind (wpAny_letGo (wpAny_pure ?_))
  refine wpAny_bind (wpAny_bind (wpAny_onRaise ?_))
  show wpAny _ _ (Builtin.SmallTypes.nextOf (.ref i2) >>= _) _ _ _
  have h23 : St2 k g3 := draw_same D2 D.o2 s3 (draw_same D2 D.n1 s2 (draw_same D2 D.z2 s1 h2))
  refine wpAny_bind (D2.item k _ _ _ l2 h23 fun y g4 t4 py h24 s4 => wpAny_pure ?_)
  have hTO4 : IsPair g4 TO x b := s4.extBut _ _ i2o.symm hTO3
  refine wpAny_bind (wpAny_seqItems hTO4 rfl ?_)
  refine wpAny_bind (wpAny_updateSeq_pair hTO4 fun g5 hTO5 s5 => ?_)
  replace hTO5 : IsPair g5 TO x y := hTO5
  refine wpAny_bind (wpAny_letGo (wpAny_pure (wpAny_pure ?_)))
  refine wpAny_bind (wpAny_seqItems hTO5 rfl ?_)
  refine wpAny_bind (wpAny_newTuple ?_)
  have hsz : g5.objs.size = s.heap.objs.size := by rw [s5.1,s4.1,s3.1,s2.1,s1.1]
  have hz5 : IsZip g5 z TI TO .ellipsis := s5.extBut _ _ D.TOz.symm (s4.extBut _ _ i2z.symm (s3.extBut _ _ D.TOz.symm (s2.extBut _ _ i1z.symm hz1)))
  have hk5 : ∀ c o,c ≠ z → c ≠ TO → c ≠ i1 → c ≠ i2 → s.heap.get? c = some o → g5.get? c = some o := fun c o c1 c2 c3 c4 e =>
    s5.extBut _ _ c2 (s4.extBut _ _ c4 (s3.extBut _ _ c2 (s2.extBut _ _ c3 (s1.extBut _ _ c1 e))))
  have h15 : St1 (k + 1) g5 := draw_same D1 D.o1 s5 (draw_same D1 D.n2 s4 (draw_same D1 D.o1 s3 h12))
  have h25 : St2 (k + 1) g5 := draw_same D2 D.o2 s5 h24
  have hzlt : z < g5.objs.size := Heap.lt_size hz5
  show wpAny _ _ (Builtin.SmallTypes.ownedTupleHandOut (.ref z) (.ref g5.objs.size) >>= _) _ _ _
  refine wpAny_bind ?_
  unfold Builtin.SmallTypes.ownedTupleHandOut
  have hz6 : IsZip (g5.push { cls := .type "tuple",data := .seq #[x,y] }) z TI TO .ellipsis := Heap.get?_push_of_some _ hz5
  refine wpAny_bind (wpAny_setField_rec hz6 (by simp) fun g7 hz7 s7 => ?_)
  replace hz7 : IsZip g7 z TI TO (rawInt g5.objs.size) := hz7
  refine wpAny_setField_rec hz7 (by simp) fun g8 hz8 s8 => ?_
  replace hz8 : IsZip g8 z TI TO (rawInt g5.objs.size) := hz8
  have up : ∀ c o,c ≠ z → g5.get? c = some o → g8.get? c = some o := fun c o c1 e => s8.extBut _ _ c1 (s7.extBut _ _ c1 (Heap.get?_push_of_some _ e))
  have hT8 : IsPair g8 g5.objs.size x y := s8.extBut _ _ (Nat.ne_of_gt hzlt) (s7.extBut _ _ (Nat.ne_of_gt hzlt) (Heap.get?_push_size _ rfl))
  rw [hsz] at hz8 hT8
  refine wpAny_pure ⟨_,rfl,?_⟩
  show Q (.ref g5.objs.size) _
  rw [hsz]
  exact hQ x y g8 _ px py hz8 (up _ _ D.TOz hTO5) (D1.frame _ _ _ h15 fun b hb o e => up b o (ne_of_nin D.z1 hb) e) (D2.frame _ _ _ h25 fun b hb o e => up b o (ne_of_nin D.z2 hb) e) hT8 fun c o c1 c2 c3 c4 e => up c o c1 (hk5 c o c1 c2 c3 c4 e)
theorem zip_end_any {a b : Value} {Q : Fin → Shared → Prop} (D : ZA z TI TO i1 i2 fp1 fp2) (D1 : Draws prog w A i1 fp1 n1 P1 St1) (D2 : Draws prog w A i2 fp2 n2 P2 St2)
    (hz : IsZip s.heap z TI TO .none) (hTI : IsPair s.heap TI (.ref i1) (.ref i2)) (hTO : IsPair s.heap TO a b) (h1 : St1 k s.heap) (h2 : St2 k s.heap) (hk : k = min n1 n2)
    (hE : ∀ h' e tk,(∀ c o,c ≠ z → c ≠ TO → c ≠ i1 → c ≠ i2 → s.heap.get? c = some o → h'.get? c = some o) → (∃ o,h'.get? e = some o ∧ o.cls = .type "StopIteration") → E (.ref e) { s with heap := h',toks := tk }) :
    wpAny (model prog w) A (Builtin.«zip.__next__» ⟨[.ref z],[]⟩) Q E s := by
  show wpAny _ _ (field (.ref z) 2 >>= _) _ _ _
  refine wpAny_bind (wpAny_field hz rfl (x := .bool false) rfl ?_)
  show wpAny _ _ (field (.ref z) 3 >>= _) _ _ _
  refine wpAny_bind (wpAny_field hz rfl (x := .ref TI) rfl ?_)
  refine wpAny_bind (wpAny_seqItems hTI rfl ?_)
  show wpAny _ _ (Builtin.SmallTypes.ownedTupleIsFree (.ref z) >>= _) _ _ _
  refine wpAny_bind ?_
  unfold Builtin.SmallTypes.ownedTupleIsFree
  refine wpAny_bind (wpAny_field hz rfl (x := .none) rfl (wpAny_pure ?_))
  simp only [if_true]
  refine wpAny_bind (wpAny_rule ?_)
  refine wpAny_bind (wpAny_field hz rfl (x := .ref TO) rfl ?_)
  refine wpAny_bind (wpAny_setField_rec hz (by simp) fun g1 hz1 s1 => ?_)
  replace hz1 : IsZip g1 z TI TO .ellipsis := hz1
  refine wpAny_bind ?_
  simp only [List.zipIdx_cons,List.zipIdx_nil,List.forIn_cons,List.forIn_nil]
  refine wpAny_bind (wpAny_bind (wpAny_onRaise ?_))
  show wpAny _ _ (Builtin.SmallTypes.nextOf (.ref i1) >>= _) _ _ _
  have i1z : i1 ≠ z := ne_of_nin D.z1 D.m1
  have i2z : i2 ≠ z := ne_of_nin D.z2 D.m2
  have i1o : i1 ≠ TO := ne_of_nin D.o1 D.m1
  have i2o : i2 ≠ TO := ne_of_nin D.o2 D.m2
  by_cases l1 : k < n1
  · refine wpAny_bind (D1.item k _ _ _ l1 (draw_same D1 D.z1 s1 h1) fun x g2 t2 px h12 s2 => wpAny_pure ?_)
    have hTO2 : IsPair g2 TO a b := s2.extBut _ _ i1o.symm (s1.extBut _ _ D.TOz hTO)
    refine wpAny_bind (wpAny_seqItems hTO2 rfl ?_)
    refine wpAny_bind (wpAny_updateSeq_pair hTO2 fun g3 hTO3 s3 => ?_)
    refine wpAny_bind (wpAny_letGo (wpAny_pure ?_))
    refine wpAny_bind (wpAny_bind (wpAny_onRaise ?_))
    show wpAny _ _ (Builtin.SmallTypes.nextOf (.ref i2) >>= _) _ _ _
    have h23 : St2 k g3 := draw_same D2 D.o2 s3 (draw_same D2 D.n1 s2 (draw_same D2 D.z2 s1 h2))
    have e2 : k = n2 := by lia
    rw [e2] at h23
    refine wpAny_bind (D2.done _ _ _ h23 fun g4 e s4 he => ?_)
    obtain ⟨oe,hoe,hce⟩ := he
    have hz4 : IsZip g4 z TI TO .ellipsis := s4 _ _ i2z.symm (s3.extBut _ _ D.TOz.symm (s2.extBut _ _ i1z.symm hz1))
    have hez : e ≠ z := fun x => by subst x; rw [hz4] at hoe; cases hoe; simp at hce
    exact wpAny_setField_rec hz4 (by simp) fun g5 _ s5 => hE g5 e _ (fun c o c1 c2 c3 c4 x => s5.extBut _ _ c1 (s4 _ _ c4 (s3.extBut _ _ c2 (s2.extBut _ _ c3 (s1.extBut _ _ c1 x))))) ⟨oe,s5.extBut _ _ hez hoe,hce⟩
  · have e1 : k = n1 := by lia
    have h11 := draw_same D1 D.z1 s1 h1
    rw [e1] at h11
    refine wpAny_bind (D1.done _ _ _ h11 fun g2 e s2 he => ?_)
    obtain ⟨oe,hoe,hce⟩ := he
    have hz2 : IsZip g2 z TI TO .ellipsis := s2 _ _ i1z.symm hz1
    have hez : e ≠ z := fun x => by subst x; rw [hz2] at hoe; cases hoe; simp at hce
    exact wpAny_setField_rec hz2 (by simp) fun g3 _ s3 => hE g3 e s.toks (fun c o c1 _ c3 _ x => s3.extBut _ _ c1 (s2 _ _ c3 (s1.extBut _ _ c1 x))) ⟨oe,s3.extBut _ _ hez hoe,hce⟩
end
theorem turns_zip {prog : Program} {w : World} {A : Around} {z TI TO i1 i2 : Addr} {fp1 fp2 : List Addr} {n1 n2 : Nat} {P1 P2 : Nat → Value → Prop} {St1 St2 : Nat → Heap → Prop} {elts : List Expr} {q : Nat} {pos : Pos}
    (D : ZA z TI TO i1 i2 fp1 fp2) (D1 : Draws prog w A.in1 i1 fp1 n1 P1 St1) (D2 : Draws prog w A.in1 i2 fp2 n2 P2 St2) :
    PySem.W.KTurns prog w A (.Tuple elts q pos) z (z :: TI :: TO :: (fp1 ++ fp2)) [z,TO,i1,i2] (min n1 n2) (fun i v h => ∃ T x y,v = .ref T ∧ P1 i x ∧ P2 i y ∧ IsPair h T x y)
      (fun i v h => ∃ T x y,v = .ref T ∧ P1 i x ∧ P2 i y ∧ IsPair h T x y ∧ T ≠ z ∧ IsZip h z TI TO (rawInt T) ∧ IsPair h TI (.ref i1) (.ref i2) ∧ (∃ a b,IsPair h TO a b) ∧ St1 (i + 1) h ∧ St2 (i + 1) h)
      (fun i h => IsZip h z TI TO .none ∧ IsPair h TI (.ref i1) (.ref i2) ∧ (∃ a b,IsPair h TO a b) ∧ St1 i h ∧ St2 i h) where
  sub := fun b hb => by
    simp only [List.mem_cons,List.not_mem_nil,or_false] at hb
    rcases hb with rfl | rfl | rfl | rfl
    · simp
    · simp
    · simp [D.m1]
    · simp [D.m2]
  frame := fun i h h' st hk => by
    refine cps fun P_ hP_ => ?_
    obtain ⟨a1,a2,⟨x,y,a3⟩,a4,a5⟩ := st
    refine hP_ ?_
    clear hP_ P_
    exact ⟨hk z (by simp) _ a1,hk TI (by simp) _ a2,⟨x,y,hk TO (by simp) _ a3⟩,D1.frame _ _ _ a4 fun b hb o e => hk b (by simp [hb]) o e,D2.frame _ _ _ a5 fun b hb o e => hk b (by simp [hb]) o e⟩
  item := fun i s Q E hi st hQ => by
    obtain ⟨a1,a2,⟨x,y,a3⟩,a4,a5⟩ := st
    have hT : s.TypeIs (.ref z) "zip" := ⟨_,a1,rfl⟩
    unfold pyNext
    refine wpAny_bind (wpAny_attempt (wpAny_callSpecial?_slot (name := Str.ofString "__next__") hT F.slot_zip_next
      (wpAny_call_entry F.slot_zip_next hT F.entry_zip_next
        (zip_item_any D D1 D2 a1 a2 a3 a4 a5 (by lia) (by lia) fun u v h' tk p1 p2 b1 b2 b3 b4 b5 hk => wpAny_pure (hQ _ h' tk ?_ fun c o hc e => hk c o (fun x => hc (by simp [x])) (fun x => hc (by simp [x])) (fun x => hc (by simp [x])) (fun x => hc (by simp [x])) e)) (F.args_zip_next_1 _))))
    exact ⟨_,u,v,rfl,p1,p2,b5,Nat.ne_of_gt (Heap.lt_size a1),b1,hk _ _ D.TIz D.TITO D.TIi1 D.TIi2 a2,⟨_,_,b2⟩,b3,b4⟩
  go := fun i v s Q E hm hQ => by
    refine cps fun P_ hP_ => ?_
    obtain ⟨T,x,y,rfl,p1,p2,b5,hTz,b1,b2,⟨a,b,b3⟩,b4,b6⟩ := hm
    refine hP_ ?_
    clear hP_ P_
    refine wpAny_letOwnedTupleGo_zip b1 fun h' hz' hs' => hQ h' ⟨T,x,y,rfl,p1,p2,hs'.extBut _ _ hTz b5⟩ ⟨hz',hs'.extBut _ _ D.TIz b2,⟨a,b,hs'.extBut _ _ D.TOz b3⟩,draw_same D1 D.z1 hs' b4,draw_same D2 D.z2 hs' b6⟩ fun c o hc e => hs'.extBut _ _ (fun x => hc (by simp [x])) e
  done := fun s Q E st hQ => by
    refine cps fun P_ hP_ => ?_
    obtain ⟨a1,a2,⟨x,y,a3⟩,a4,a5⟩ := st
    refine hP_ ?_
    clear hP_ P_
    have hT : s.TypeIs (.ref z) "zip" := ⟨_,a1,rfl⟩
    unfold pyNext
    refine wpAny_bind (wpAny_attempt (wpAny_callSpecial?_slot (name := Str.ofString "__next__") hT F.slot_zip_next
      (wpAny_call_entry F.slot_zip_next hT F.entry_zip_next (zip_end_any D D1 D2 a1 a2 a3 a4 a5 rfl fun h' e tk hk he => ?_) (F.args_zip_next_1 _))))
    obtain ⟨o,ho,hc⟩ := he
    refine wpAny_bind (wpAny_isInstance (T := "StopIteration") (b := true) ⟨o,ho,hc⟩ isSubtype_stop ?_)
    exact wpAny_pure (hQ _ _ fun c o hc e => hk c o (fun x => hc (by simp [x])) (fun x => hc (by simp [x])) (fun x => hc (by simp [x])) (fun x => hc (by simp [x])) e)
section
variable {prog : Program} {w : World} {A : Around} {E : Value → Shared → Prop} {s : Shared}
theorem nextOf_tuple_item {it t : Addr} {i : Nat} {items} {x : Value} {Q : Value → Shared → Prop} (hit : s.heap.IsTupleIter it t i) (ht : s.heap.IsTuple t items) (hx : items[i]? = some x)
    (hQ : ∀ h',h'.IsTupleIter it t (i + 1) → Heap.SameBut it s.heap h' → Q x { s with heap := h' }) : wpAny (model prog w) A (Builtin.SmallTypes.nextOf (.ref it)) Q E s := by
  obtain ⟨o,ho,hc,hd⟩ := id hit
  obtain ⟨ol,hol,_,nl,hdl⟩ := ht
  unfold Builtin.SmallTypes.nextOf
  refine wpAny_bind (wpAny_callSpecial?_slot (name := Str.ofString "__next__") hit.typeIs F.slot_tuple_iterator_next
    (wpAny_call_entry F.slot_tuple_iterator_next hit.typeIs F.entry_tuple_iterator_next ?_ (F.args_tuple_iterator_next_1 _)))
  show wpAny _ _ (field (.ref it) 0 >>= _) _ _ s
  refine wpAny_bind (wpAny_field ho hd (x := .ref t) rfl ?_)
  show wpAny _ _ (if (Value.ref t == Value.none) = true then _ else _) _ _ s
  rw [if_neg (show ¬ ((Value.ref t == Value.none) = true) from Bool.false_ne_true)]
  show wpAny _ _ (field (.ref it) 1 >>= _) _ _ s
  refine wpAny_bind (wpAny_field ho hd (x := .int i 0) rfl ?_)
  show wpAny _ _ (seqItems? (.ref t) >>= _) _ _ s
  refine wpAny_bind (wpAny_seqItems hol hdl ?_)
  simp only [Int.toNat_natCast,hx]
  refine wpAny_bind (wpAny_setField ho hd (by simp) (wpAny_pure ⟨x,rfl,wpAny_pure (hQ _ ?_ (Heap.SameBut.update ..))⟩))
  exact ⟨_,Heap.get?_update_self _ ho (Obj.isFreed_of_fields (Obj.data_mapFields hd _)),(Obj.cls_mapFields ..).trans hc,by
    rw [Obj.data_mapFields hd]; simp [rawInt]⟩
theorem nextOf_tuple_end {it t : Addr} {i : Nat} {items} {Q : Value → Shared → Prop} (hh : A.handled = none) (hit : s.heap.IsTupleIter it t i) (ht : s.heap.IsTuple t items) (hx : items[i]? = none)
    (hE : ∀ h' e,Heap.ExtBut it s.heap h' → (∃ o,h'.get? e = some o ∧ o.cls = .type "StopIteration") → E (.ref e) { s with heap := h' }) : wpAny (model prog w) A (Builtin.SmallTypes.nextOf (.ref it)) Q E s := by
  obtain ⟨o,ho,hc,hd⟩ := id hit
  obtain ⟨ol,hol,_,nl,hdl⟩ := ht
  unfold Builtin.SmallTypes.nextOf
  refine wpAny_bind (wpAny_callSpecial?_slot (name := Str.ofString "__next__") hit.typeIs F.slot_tuple_iterator_next
    (wpAny_call_entry F.slot_tuple_iterator_next hit.typeIs F.entry_tuple_iterator_next ?_ (F.args_tuple_iterator_next_1 _)))
  show wpAny _ _ (field (.ref it) 0 >>= _) _ _ s
  refine wpAny_bind (wpAny_field ho hd (x := .ref t) rfl ?_)
  show wpAny _ _ (if (Value.ref t == Value.none) = true then _ else _) _ _ s
  rw [if_neg (show ¬ ((Value.ref t == Value.none) = true) from Bool.false_ne_true)]
  show wpAny _ _ (field (.ref it) 1 >>= _) _ _ s
  refine wpAny_bind (wpAny_field ho hd (x := .int i 0) rfl ?_)
  show wpAny _ _ (seqItems? (.ref t) >>= _) _ _ s
  refine wpAny_bind (wpAny_seqItems hol hdl ?_)
  simp only [Int.toNat_natCast,hx]
  refine wpAny_bind (wpAny_rule (wpAny_bind (wpAny_setField ho hd (by simp) ?_)))
  show wpAny _ _ (newExc (.type "StopIteration") [] >>= _) _ _ _
  refine wpAny_bind ?_
  simp only [newExc,newTuple]
  refine wpAny_bind (wpAny_newObj_type ?_ (by size_fits))
  refine wpAny_bind (m := firstArgMember _ _) (wpAny_of_eq (a := Value.none) (by first | rfl | (simp only [firstArgMember]; rfl)) ?_)
  refine wpAny_newObj_type ?_ (by size_fits)
  simp only [raiseNew]
  refine wpAny_bind (wpAny_handled ?_)
  first | rw [show A.in1.handled = none from hh] | rw [hh]
  refine wpAny_bind (wpAny_pure (wpAny_throw ?_))
  exact hE _ _ (((Heap.SameBut.update ..).extBut.push _).push _) ⟨_,Heap.get?_push_size _ rfl,rfl⟩
end
theorem draws_tuple {prog : Program} {w : World} {A : Around} (hh : A.handled = none) (it l : Addr) (hne : l ≠ it) (items : Array Value) :
    Draws prog w A it [it,l] items.size (fun i v => items[i]? = some v) (fun i h => h.IsTupleIter it l i ∧ h.IsTuple l items) where
  live := fun _ _ st => let ⟨o,ho,_⟩ := st.1; ⟨o,ho⟩
  frame := fun _ _ _ st hk => ⟨st.1.at fun o e => hk it (by simp) o e,st.2.at fun o e => hk l (by simp) o e⟩
  item := fun i s Q E hi st hQ => by
    refine nextOf_tuple_item st.1 st.2 (x := items[i]) (by simp [hi]) fun h' hit' hs' => ?_
    exact hQ _ h' s.toks (by simp [hi]) ⟨hit',st.2.extBut hs'.extBut hne⟩ hs'
  done := fun s Q E st hE => nextOf_tuple_end hh st.1 st.2 (by simp) hE
end Mine
namespace Mine
open PySem PySem.Calls PyProof.Rows
inductive TupAt (Z : Led) (h : Heap) (v : Value) (d : Dat) : Prop
  | mk (T : _) (vs : _) (ds : _) (k : _) : v = .ref T → d = .tup ds → h.get? T = some { cls := .type "tuple",data := .seq vs.toArray k } → RepL Z vs ds → vs.length ≤ line → TupAt Z h v d
noncomputable def RepT (target : Expr) (Z : Led) (h : Heap) (v : Value) (d : Dat) : Prop := Rep Z v d ∨ (∃ elts q pos,target = Expr.Tuple elts q pos) ∧ TupAt Z h v d
noncomputable def Pl (o : Obj) : Prop := NoDict o ∧ ∃ T,o.cls = .type T
structure Wk (Γ : Cx) (target : Expr) (I : Addr) (fp wr : List Addr) (n : Nat) (P Md : Nat → Value → Heap → Prop) (St : Nat → Heap → Prop) : Prop where
  k : ∀ A : Around,A.handled = none → PySem.W.KTurns Γ.prog Γ.w A target I fp wr n P Md St
  live : ∀ i h,St i h → ∀ b ∈ fp,∃ o,h.get? b = some o ∧ Pl o
  self : ∀ (A : Around) (s : Shared) (Q E : Value → Shared → Prop),St 0 s.heap → Q (.ref I) s → wpAny (model Γ.prog Γ.w) A (pyIter (.ref I)) Q E s
inductive ItAt (Γ : Cx) (target : Expr) (src : Led → Addr → Prop) (h₀ : Heap) (Z : Led) (h : Heap) (it : Value) (ds : List Dat) : Prop
  | mk (I : _) (fp : _) (wr : _) (P : _) (Md : _) (St : _) : (it = .ref I) → (ds.length ≤ line) → Wk Γ target I fp wr ds.length P Md St → St 0 h → ((∀ b ∈ wr,h₀.get? b = none ∧ Z b = none)) → ((∀ b ∈ fp,(h₀.get? b = none ∧ Z b = none) ∨ src Z b)) → (∀ i v h' d,P i v h' → ds[i]? = some d → RepT target Z h' v d) → ItAt Γ target src h₀ Z h it ds
noncomputable def plainIt (n : String) : Bool := n != "frame" && !(["enumerate","zip","dict_itemiterator","dict_reverseitemiterator","odict_iterator","itertools.zip_longest","itertools.pairwise"].contains n)
section
variable {prog : Program} {w : World} {A : Around} {E : Value → Shared → Prop} {s : Shared}
theorem lotg {target : Expr} {I : Addr} {v : Value} {o : Obj} {n : String} {Q : Unit → Shared → Prop} (ho : s.heap.get? I = some o) (hc : o.cls = .type n) (hn : plainIt n = true) (hQ : Q () s) : wpAny (model prog w) A (letOwnedTupleGo target (.ref I) v) Q E s := by
  have key : wpAny (model prog w) A (match (Value.ref I,v) with
      | (.ref r,.ref a) => do
        let o ← load r
        match o.cls,o.data with
        | .type n,.fields vs =>
          if ["enumerate","zip","dict_itemiterator","dict_reverseitemiterator","odict_iterator","itertools.zip_longest","itertools.pairwise"].contains n && vs[0]? == some (rawInt a) then do
            rule "for.unpacks-the-owned-tuple"
            updateField r 0 .none
          else pure ()
        | _,_ => pure ()
      | _ => pure ()) Q E s := by
    cases v <;> first | exact wpAny_pure hQ | skip
    refine wpAny_bind (wpAny_load ho ?_)
    rw [hc]
    have hn' : (["enumerate","zip","dict_itemiterator","dict_reverseitemiterator","odict_iterator","itertools.zip_longest","itertools.pairwise"].contains n) = false := by
      unfold plainIt at hn
      simp only [Bool.and_eq_true] at hn
      simpa using hn.2
    cases hd : o.data <;> first | exact wpAny_pure hQ | skip
    simp only [hn',Bool.false_and,Bool.false_eq_true,if_false]
    exact wpAny_pure hQ
  cases target <;> first | exact wpAny_pure hQ | skip
  · exact key
  · exact key
end
theorem turns_of {prog : Program} {w : World} {A : Around} {target : Expr} {I : Addr} {fp wr : List Addr} {n : Nat} {P : Nat → Value → Prop} {St : Nat → Heap → Prop} (W : Walks prog w A I fp wr n P St) {T : String} (hT : plainIt T = true) (hI : ∀ i h,St i h → ∃ o,h.get? I = some o ∧ o.cls = .type T) :
    PySem.W.KTurns prog w A target I fp wr n (fun i v _ => P i v) (fun i v h => P i v ∧ St (i + 1) h) St :=
  PySem.W.KTurns.ofWalks W fun i v s Q E st hQ => let ⟨_,ho,hc⟩ := hI i _ st; lotg ho hc hT hQ
section
variable {Γ : Cx} {n : Nat} {Φ : Nat → List Val → Out Val} {A : Around} {env : Env} {Z : Led} {s : Shared} {nm : Nm} {ρ : List Val} {m : Str → Option Value} {target : Expr} {src : Led → Addr → Prop}
theorem ItAt.old {Zx : Led} {h₀ h₁ h : Heap} {it : Value} {ds : List Dat} (g : Kw Zx h₀ h₁) (x : ItAt Γ target src h₁ Z h it ds) : ItAt Γ target src h₀ Z h it ds := by
  obtain ⟨I,fp,wr,P,Md,St,a,ln,b,c,d,e,i⟩ := x
  refine ⟨I,fp,wr,P,Md,St,a,ln,b,c,fun b hb => ⟨g.none (d b hb).1,(d b hb).2⟩,fun b hb => ?_,i⟩
  rcases e b hb with e | e
  · exact .inl ⟨g.none e.1,e.2⟩
  · exact .inr e
theorem signOk' {x : Str} {c : Nat} {i : Nat} (o : PyData.strOk x = true) (h : x.cps[i]? = some c) : PyData.strOk ⟨#[c]⟩ = true := by
  unfold PyData.strOk at o ⊢
  rw [Array.all_eq_true'] at o ⊢
  intro y hy
  have : y = c := by simpa using hy
  subst this
  exact o y (Array.mem_of_getElem? h)
theorem it_lst {v : Value} {l : List Dat} (sub : ∀ a o,Z a = some o → s.heap.get? a = some o) (ok : ∀ a o,Z a = some o → Tt o) (r : RepB Z s.heap v (.lst l)) (hs : ∀ b,v = .ref b → src Z b) : EvT Γ A env Z s (ItAt Γ target src s.heap) (.ok l) (wpt Γ A (pyIter v)) := by
  have fresh : s.heap.get? s.heap.objs.size = none ∧ Z s.heap.objs.size = none := ⟨get_size _,led_none sub (get_size _)⟩
  obtain ⟨a,vs,rfl,p,z,rl⟩ := r.list sub
  refine EvT.now sub ok fun Q E hQ => wpAny_pyIter_list p.isList (hQ _ _ _ (kp_push _ _) ?_)
  have hne : a ≠ s.heap.objs.size := fun e => by obtain ⟨k,q⟩ := p; rw [e,get_size] at q; cases q
  refine ⟨s.heap.objs.size,[s.heap.objs.size,a],[s.heap.objs.size],fun i v _ => vs.toArray[i]? = some v,fun i v h => vs.toArray[i]? = some v ∧ (h.IsListIter s.heap.objs.size a (i + 1) ∧ h.IsList a vs.toArray),fun i h => h.IsListIter s.heap.objs.size a i ∧ h.IsList a vs.toArray,rfl,(by rw [← rl.length]; exact z),⟨fun A' hA => ?_,fun i h st b hb => ?_,fun A' s' Q' E' st hq => wpAny_pyIter_listiter st.1 hq⟩,⟨⟨_,Heap.get?_push_size _ rfl,rfl,rfl⟩,Heap.IsList.push p.isList _⟩,fun b hb => ?_,fun b hb => ?_,fun i v h' d' hP hd => ?_⟩
  · have := turns_of (target := target) (Walks.list (prog := Γ.prog) (w := Γ.w) (A := A') hA s.heap.objs.size a hne vs.toArray) (T := "list_iterator") (by decide) fun i h st => let ⟨o,ho,hc,_⟩ := st.1; ⟨o,ho,hc⟩
    rw [show vs.toArray.size = l.length by simp [rl.length]] at this
    exact this
  · rcases List.mem_cons.mp hb with rfl | hb
    · obtain ⟨o,ho,hc,hd⟩ := st.1; exact ⟨o,ho,nd_fields hd,_,hc⟩
    · obtain rfl := List.mem_singleton.mp hb; obtain ⟨o,ho,hc,hd⟩ := st.2; exact ⟨o,ho,nd_seq hd,_,hc⟩
  · obtain rfl := List.mem_singleton.mp hb; exact fresh
  · rcases List.mem_cons.mp hb with rfl | hb
    · exact .inl fresh
    · obtain rfl := List.mem_singleton.mp hb; exact .inr (hs _ rfl)
  · have hP : vs.toArray[i]? = some v := hP
    obtain ⟨d2,e2,r2⟩ := rl.get' (k := i) (v := v) (by simpa using hP)
    rw [hd] at e2; cases e2; exact .inl r2
theorem it_tup {v : Value} {l : List Dat} (sub : ∀ a o,Z a = some o → s.heap.get? a = some o) (ok : ∀ a o,Z a = some o → Tt o) (r : RepB Z s.heap v (.tup l)) (hs : ∀ b,v = .ref b → src Z b) : EvT Γ A env Z s (ItAt Γ target src s.heap) (.ok l) (wpt Γ A (pyIter v)) := by
  have fresh : s.heap.get? s.heap.objs.size = none ∧ Z s.heap.objs.size = none := ⟨get_size _,led_none sub (get_size _)⟩
  obtain ⟨a,vs,k,rfl,p,z,rl⟩ := Rep.tuple sub (r.rep nofun)
  have p' : s.heap.IsTuple a vs.toArray := ⟨_,p,rfl,_,rfl⟩
  refine EvT.now sub ok fun Q E hQ => wpAny_pyIter_tuple p' (hQ _ _ _ (kp_push _ _) ?_)
  have hne : a ≠ s.heap.objs.size := fun e => by rw [e,get_size] at p; cases p
  refine ⟨s.heap.objs.size,[s.heap.objs.size,a],[s.heap.objs.size],fun i v _ => vs.toArray[i]? = some v,fun i v h => vs.toArray[i]? = some v ∧ (h.IsTupleIter s.heap.objs.size a (i + 1) ∧ h.IsTuple a vs.toArray),fun i h => h.IsTupleIter s.heap.objs.size a i ∧ h.IsTuple a vs.toArray,rfl,(by rw [← rl.length]; exact z),⟨fun A' hA => ?_,fun i h st b hb => ?_,fun A' s' Q' E' st hq => wpAny_pyIter_tupleiter st.1 hq⟩,⟨⟨_,Heap.get?_push_size _ rfl,rfl,rfl⟩,p'.at fun o e => Heap.get?_push_of_some _ e⟩,fun b hb => ?_,fun b hb => ?_,fun i v h' d' hP hd => ?_⟩
  · have := turns_of (target := target) (Walks.tuple (prog := Γ.prog) (w := Γ.w) (A := A') hA s.heap.objs.size a hne vs.toArray) (T := "tuple_iterator") (by decide) fun i h st => let ⟨o,ho,hc,_⟩ := st.1; ⟨o,ho,hc⟩
    rw [show vs.toArray.size = l.length by simp [rl.length]] at this
    exact this
  · rcases List.mem_cons.mp hb with rfl | hb
    · obtain ⟨o,ho,hc,hd⟩ := st.1; exact ⟨o,ho,nd_fields hd,_,hc⟩
    · obtain rfl := List.mem_singleton.mp hb; obtain ⟨o,ho,hc,hd⟩ := st.2; exact ⟨o,ho,nd_seq hd,_,hc⟩
  · obtain rfl := List.mem_singleton.mp hb; exact fresh
  · rcases List.mem_cons.mp hb with rfl | hb
    · exact .inl fresh
    · obtain rfl := List.mem_singleton.mp hb; exact .inr (hs _ rfl)
  · have hP : vs.toArray[i]? = some v := hP
    obtain ⟨d2,e2,r2⟩ := rl.get' (k := i) (v := v) (by simpa using hP)
    rw [hd] at e2; cases e2; exact .inl r2
theorem it_str {x : Str} {t : Tok} (sub : ∀ a o,Z a = some o → s.heap.get? a = some o) (ok : ∀ a o,Z a = some o → Tt o) (ox : PyData.strOk x = true) (lx : x.length ≤ line) : EvT Γ A env Z s (ItAt Γ target src s.heap) (.ok (signs x.cps.toList)) (wpt Γ A (pyIter (.str x t))) := by
  have fresh : s.heap.get? s.heap.objs.size = none ∧ Z s.heap.objs.size = none := ⟨get_size _,led_none sub (get_size _)⟩
  have hlen : x.cps.size = (signs x.cps.toList).length := by simp [signs]
  have key : ∀ (o : Obj) (St : Nat → Heap → Prop) (T : String),plainIt T = true → (∀ A' : Around,A'.handled = none → Walks Γ.prog Γ.w A' s.heap.objs.size [s.heap.objs.size] [s.heap.objs.size] x.cps.size (SignAt x) St) → (∀ i h,St i h → ∃ o,h.get? s.heap.objs.size = some o ∧ o.cls = .type T ∧ NoDict o) → (∀ (A' : Around) (s' : Shared) (Q' E' : Value → Shared → Prop),St 0 s'.heap → Q' (.ref s.heap.objs.size) s' → wpAny (model Γ.prog Γ.w) A' (pyIter (.ref s.heap.objs.size)) Q' E' s') → St 0 (s.heap.push o) →
      ItAt Γ target src s.heap Z (s.heap.push o) (.ref s.heap.objs.size) (signs x.cps.toList) := by
    intro o St T hT W hI hself hst
    refine ⟨s.heap.objs.size,[s.heap.objs.size],[s.heap.objs.size],fun i v _ => SignAt x i v,fun i v h => SignAt x i v ∧ St (i + 1) h,St,rfl,(by rw [← hlen]; exact lx),⟨fun A' hA => ?_,fun i h st b hb => ?_,fun A' s' Q' E' st hq => hself A' s' Q' E' st hq⟩,hst,fun b hb => ?_,fun b hb => ?_,fun i v h' d' hP hd => ?_⟩
    · rw [← hlen]; exact turns_of (W A' hA) hT fun i h st => let ⟨o,a,b,_⟩ := hI i h st; ⟨o,a,b⟩
    · obtain rfl := List.mem_singleton.mp hb
      obtain ⟨o',ho,hc,hd⟩ := hI _ _ st
      exact ⟨o',ho,hd,_,hc⟩
    · obtain rfl := List.mem_singleton.mp hb; exact fresh
    · obtain rfl := List.mem_singleton.mp hb; exact .inl fresh
    · obtain ⟨c,u,hc,rfl⟩ := hP
      have : d' = .str [c] := by
        simp only [signs,List.getElem?_map,Array.getElem?_toList,hc,Option.map_some,Option.some.injEq] at hd
        exact hd.symm
      subst this
      exact .inl (.str ⟨#[c]⟩ u (signOk' ox hc) (by show 1 ≤ line; decide))
  refine EvT.now sub ok fun Q E hQ => ?_
  cases ha : x.cps.all (· < 128)
  · exact wpAny_pyIter_wide ha (hQ _ _ _ (kp_push _ _) (key _ _ "str_iterator" (by decide) (fun A' hA => Walks.strWide hA _ x t) (fun i h st => let ⟨o,ho,hc,hd⟩ := st; ⟨o,ho,hc,nd_fields hd⟩) (fun A' s' Q' E' st hq => wpAny_pyIter_striter_wide st hq) ⟨_,Heap.get?_push_size _ rfl,rfl,rfl⟩))
  · exact wpAny_pyIter_ascii ha (hQ _ _ _ (kp_push _ _) (key _ _ "str_ascii_iterator" (by decide) (fun A' hA => Walks.strAscii hA _ x t) (fun i h st => let ⟨o,ho,hc,hd⟩ := st; ⟨o,ho,hc,nd_fields hd⟩) (fun A' s' Q' E' st hq => wpAny_pyIter_striter_ascii st hq) ⟨_,Heap.get?_push_size _ rfl,rfl,rfl⟩))
noncomputable def RIt (Z : Led) (h : Heap) (v : Value) (l : List Dat) : Prop := RepB Z h v (.lst l) ∨ RepB Z h v (.tup l) ∨ ∃ x t,v = .str x t ∧ PyData.strOk x = true ∧ x.length ≤ line ∧ l = signs x.cps.toList
theorem it_val {v : Value} {l : List Dat} (sub : ∀ a o,Z a = some o → s.heap.get? a = some o) (ok : ∀ a o,Z a = some o → Tt o) (r : RIt Z s.heap v l) (hs : ∀ b,v = .ref b → src Z b) : EvT Γ A env Z s (ItAt Γ target src s.heap) (.ok l) (wpt Γ A (pyIter v)) := by
  rcases r with r | r | ⟨x,t,rfl,ox,lx,rfl⟩
  · exact it_lst sub ok r hs
  · exact it_tup sub ok r hs
  · exact it_str sub ok ox lx
end
end Mine
namespace Mine
open PySem PySem.Calls PyProof.Rows
section
variable {Γ : Cx} {n : Nat} {Φ : Nat → List Val → Out Val} {A : Around} {env : Env} {Z : Led} {s : Shared} {nm : Nm} {ρ : List Val} {m : Str → Option Value} {target : Expr} {src : Led → Addr → Prop}
noncomputable abbrev itT (Γ : Cx) (A : Around) (iter : Expr) (env : Env) : Tr Value := fun Q E s => wpAny (model Γ.prog Γ.w) A (eval iter env) (fun xv s₁ => wpAny (model Γ.prog Γ.w) A (pyIter xv) Q E s₁) E s
theorem ItAt.intro {h₀ h : Heap} {ds : List Dat} {I : Addr} {fp wr : List Addr} {P Md : Nat → Value → Heap → Prop} {St : Nat → Heap → Prop}
    (K : ∀ A : Around,A.handled = none → PySem.W.KTurns Γ.prog Γ.w A target I fp wr ds.length P Md St) (h0 : St 0 h) (h1 : ∀ b ∈ wr,h₀.get? b = none ∧ Z b = none) (h2 : ∀ b ∈ fp,(h₀.get? b = none ∧ Z b = none) ∨ src Z b) (h3 : ∀ i h,St i h → ∀ b ∈ fp,∃ o,h.get? b = some o ∧ Pl o) (hl : ds.length ≤ line)
    (h5 : ∀ (A : Around) (s : Shared) (Q E : Value → Shared → Prop),St 0 s.heap → Q (.ref I) s → wpAny (model Γ.prog Γ.w) A (pyIter (.ref I)) Q E s)
    (h4 : ∀ i v h' d,P i v h' → ds[i]? = some d → RepT target Z h' v d) : ItAt Γ target src h₀ Z h (.ref I) ds := ⟨I,fp,wr,P,Md,St,rfl,hl,⟨K,h3,h5⟩,h0,h1,h2,h4⟩
theorem rangeL_get (a : Int) : ∀ (k i : Nat) (d : Dat),(rangeL a 1 k)[i]? = some d → d = .int (a + i * 1)
  | 0,_,_,h => by simp [rangeL] at h
  | k + 1,0,d,h => by simp [rangeL] at h; simp [← h]
  | k + 1,i + 1,d,h => by
    simp only [rangeL,List.getElem?_cons_succ] at h
    have aux : ∀ (a : Int) (k i : Nat) (d : Dat),(rangeL a 1 k)[i]? = some d → d = .int (a + i) := by
      intro a k
      induction k generalizing a with
      | zero => intro i d h; simp [rangeL] at h
      | succ k ih =>
        intro i d h
        cases i with
        | zero => simp [rangeL] at h; simp [← h]
        | succ i => simp only [rangeL,List.getElem?_cons_succ] at h; rw [ih _ _ _ h]; congr 1; push_cast; lia
    rw [aux _ _ _ _ h]; congr 1; push_cast; lia
theorem rangeL_len (a c : Int) : ∀ k,(rangeL a c k).length = k := by
  intro k
  induction k generalizing a with
  | zero => rfl
  | succ k ih => simp [rangeL,ih]
theorem it_range {r : Addr} {a b : Int} {t u v : Tok} (sub : ∀ a o,Z a = some o → s.heap.get? a = some o) (ok : ∀ a o,Z a = some o → Tt o) (hr : IsRange s.heap r a b 1 t u v) (h1 : 0 ≤ a) (h2 : a < 2 ^ 20) (h3 : -(2 ^ 20) ≤ b) (h4 : b < 2 ^ 20) :
    EvT Γ A env Z s (ItAt Γ target src s.heap) (.ok (rangeL a 1 (b - a).toNat)) (wpt Γ A (pyIter (.ref r))) := by
  have fresh : s.heap.get? s.heap.objs.size = none ∧ Z s.heap.objs.size = none := ⟨get_size _,led_none sub (get_size _)⟩
  refine EvT.now sub ok fun Q E hQ => wpAny_pyIter_range hr (small_one (by lia) (by lia) (by lia) (by lia)) (hQ _ _ _ (kp_push _ _) ?_)
  have hsz : Builtin.Range.rangeSize a b 1 = ((b - a).toNat : Int) := by rw [rangeSize_one]; split <;> lia
  have K := fun (A' : Around) (hA : A'.handled = none) => turns_of (target := target) (Walks.range (prog := Γ.prog) (w := Γ.w) (A := A') hA s.heap.objs.size a 1 (b - a).toNat) (T := "range_iterator") (by decide) fun i h st => ⟨_,st,rfl⟩
  rw [← rangeL_len a 1 (b - a).toNat] at K
  refine ItAt.intro K ?_ (fun b hb => ?_) (fun b hb => ?_) (fun i h st b hb => ?_) (by rw [rangeL_len]; unfold line; lia) (fun A' s' Q' E' st hq => wpAny_pyIter_rangeiter st hq) ?_
  · show IsRangeIter _ _ _ _ _
    rw [hsz,rangeL_len]
    have := Heap.get?_push_size (h := s.heap) (o := { cls := .type "range_iterator",data := .fields #[rawInt a,rawInt ((b - a).toNat : Int),rawInt 1] }) rfl
    simpa using this
  · obtain rfl := List.mem_singleton.mp hb; exact fresh
  · obtain rfl := List.mem_singleton.mp hb; exact .inl fresh
  · obtain rfl := List.mem_singleton.mp hb; exact ⟨_,st,nd_fields rfl,_,rfl⟩
  · intro i v h' d hP hd
    obtain ⟨t,rfl⟩ := hP
    rw [rangeL_get _ _ _ _ hd]
    exact .inl (.int _ _)
noncomputable def itC : Bool → String
  | false => "list_iterator"
  | true => "tuple_iterator"
noncomputable def seqC : Bool → String
  | false => "list"
  | true => "tuple"
noncomputable def SeqAt (h : Heap) (b : Bool) (l : Addr) (xs : Array Value) : Prop := ∃ k,h.get? l = some { cls := .type (seqC b),data := .seq xs k }
noncomputable def SeqSt (b : Bool) (it l : Addr) (xs : Array Value) (i : Nat) (h : Heap) : Prop := match b with
  | false => h.IsListIter it l i ∧ h.IsList l xs
  | true => h.IsTupleIter it l i ∧ h.IsTuple l xs
theorem draws_seq {prog : Program} {w : World} {A : Around} (hh : A.handled = none) (b : Bool) (it l : Addr) (hne : l ≠ it) (items : Array Value) : Draws prog w A it [it,l] items.size (fun i v => items[i]? = some v) (SeqSt b it l items) := by
  cases b
  · exact Draws.list hh it l hne items
  · exact draws_tuple hh it l hne items
theorem SeqAt.push {h : Heap} {b : Bool} {l : Addr} {xs : Array Value} (x : SeqAt h b l xs) (o : Obj) : SeqAt (h.push o) b l xs := let ⟨k,e⟩ := x; ⟨k,Heap.get?_push_of_some _ e⟩
theorem pyIter_seq {prog : Program} {w : World} {A : Around} {E : Value → Shared → Prop} {s : Shared} {b : Bool} {l : Addr} {xs : Array Value} {Q : Value → Shared → Prop} (h : SeqAt s.heap b l xs)
    (hQ : Q (.ref s.heap.objs.size) { s with heap := s.heap.push { cls := .type (itC b),data := .fields #[.ref l,.int 0 0] } }) : wpAny (model prog w) A (pyIter (.ref l)) Q E s := by
  obtain ⟨k,e⟩ := h
  cases b
  · exact wpAny_pyIter_list ⟨_,e,rfl,_,rfl⟩ hQ
  · exact wpAny_pyIter_tuple ⟨_,e,rfl,_,rfl⟩ hQ
noncomputable def zh1 (h : Heap) (b1 : Bool) (l1 : Addr) : Heap := h.push { cls := .type (itC b1),data := .fields #[.ref l1,.int 0 0] }
noncomputable def zh2 (h : Heap) (b1 b2 : Bool) (l1 l2 : Addr) : Heap := (zh1 h b1 l1).push { cls := .type (itC b2),data := .fields #[.ref l2,.int 0 0] }
noncomputable def zh3 (h : Heap) (b1 b2 : Bool) (l1 l2 : Addr) : Heap := (zh2 h b1 b2 l1 l2).push { cls := .type "tuple",data := .seq #[.ref h.objs.size,.ref (zh1 h b1 l1).objs.size] }
noncomputable def zh4 (h : Heap) (b1 b2 : Bool) (l1 l2 : Addr) : Heap := (zh3 h b1 b2 l1 l2).push { cls := .type "tuple",data := .seq #[.none,.none] }
noncomputable def zh5 (h : Heap) (b1 b2 : Bool) (l1 l2 : Addr) : Heap := (zh4 h b1 b2 l1 l2).push { cls := .type "zip",data := .fields #[.none,.bool false,.bool false,.ref (zh2 h b1 b2 l1 l2).objs.size,.ref (zh3 h b1 b2 l1 l2).objs.size] }
theorem meets_zip (b1 b2 : Bool) (l1 l2 : Addr) (xs ys : Array Value) :
    Meets (Builtin.«zip.__new__» ⟨[.type "zip",.ref l1,.ref l2],[]⟩) (fun _ R s => SeqAt s.heap b1 l1 xs ∧ SeqAt s.heap b2 l2 ys ∧
      R (.ok (.ret (.ref (zh4 s.heap b1 b2 l1 l2).objs.size))) { s with heap := zh5 s.heap b1 b2 l1 l2 }) :=
  .of_wp fun prog w A R s h => by
    obtain ⟨hp,g,d,tk,os⟩ := s; obtain ⟨hl1,hl2,h⟩ := h
    have hsub := sub_zip
    have hL1 : SeqAt (Shared.heap ⟨hp,g,d,tk,os⟩) b1 l1 xs := hl1
    have hL2 : SeqAt (Shared.heap ⟨hp.push { cls := .type (itC b1),data := .fields #[.ref l1,.int 0 0] },g,d,tk,os⟩) b2 l2 ys := hl2.push _
    wp_walk using pyIter_seq hL1,pyIter_seq hL2
    exact ⟨_,rfl,h⟩
theorem zip_call {b1 b2 : Bool} {l1 l2 : Addr} {xs ys : Array Value} {Q : Value → Shared → Prop} {E : Value → Shared → Prop} (hl1 : SeqAt s.heap b1 l1 xs) (hl2 : SeqAt s.heap b2 l2 ys)
    (h : ∀ h',IsZip h' (s.heap.objs.size + 4) (s.heap.objs.size + 2) (s.heap.objs.size + 3) .none → IsPair h' (s.heap.objs.size + 2) (.ref s.heap.objs.size) (.ref (s.heap.objs.size + 1)) →
      IsPair h' (s.heap.objs.size + 3) .none .none → SeqSt b1 s.heap.objs.size l1 xs 0 h' → SeqSt b2 (s.heap.objs.size + 1) l2 ys 0 h' →
      (∀ c o,s.heap.get? c = some o → h'.get? c = some o) → Q (.ref (s.heap.objs.size + 4)) { s with heap := h' }) :
    wpAny (model Γ.prog Γ.w) A (call (.type "zip") [.ref l1,.ref l2]) Q E s := by
  refine callType_new F.called_zip (by decide) (F.typeCall_zip_2 _ _) (F.newCall_zip_2 _ _) (fun obj => F.args_object_init_3 obj _ _) F.entry_zip_new
    (meets_zip b1 b2 l1 l2 xs ys) ⟨hl1,hl2,?_⟩
  have z1 : (zh1 s.heap b1 l1).objs.size = s.heap.objs.size + 1 := Heap.size_push ..
  have z2 : (zh2 s.heap b1 b2 l1 l2).objs.size = s.heap.objs.size + 2 := by rw [zh2,Heap.size_push,z1]
  have z3 : (zh3 s.heap b1 b2 l1 l2).objs.size = s.heap.objs.size + 3 := by rw [zh3,Heap.size_push,z2]
  have z4 : (zh4 s.heap b1 b2 l1 l2).objs.size = s.heap.objs.size + 4 := by rw [zh4,Heap.size_push,z3]
  have g5 : (zh5 s.heap b1 b2 l1 l2).get? (zh4 s.heap b1 b2 l1 l2).objs.size = some _ := Heap.get?_push_size _ rfl
  have g4 : (zh5 s.heap b1 b2 l1 l2).get? (zh3 s.heap b1 b2 l1 l2).objs.size = some _ := Heap.get?_push_of_some _ (Heap.get?_push_size _ rfl)
  have g3 : (zh5 s.heap b1 b2 l1 l2).get? (zh2 s.heap b1 b2 l1 l2).objs.size = some _ := Heap.get?_push_of_some _ (Heap.get?_push_of_some _ (Heap.get?_push_size _ rfl))
  have g2 : (zh5 s.heap b1 b2 l1 l2).get? (zh1 s.heap b1 l1).objs.size = some _ := Heap.get?_push_of_some _ (Heap.get?_push_of_some _ (Heap.get?_push_of_some _ (Heap.get?_push_size _ rfl)))
  have g1 : (zh5 s.heap b1 b2 l1 l2).get? s.heap.objs.size = some _ := Heap.get?_push_of_some _ (Heap.get?_push_of_some _ (Heap.get?_push_of_some _ (Heap.get?_push_of_some _ (Heap.get?_push_size _ rfl))))
  have keep : ∀ c o,s.heap.get? c = some o → (zh5 s.heap b1 b2 l1 l2).get? c = some o := fun c o x => Heap.get?_push_of_some _ (Heap.get?_push_of_some _ (Heap.get?_push_of_some _ (Heap.get?_push_of_some _ (Heap.get?_push_of_some _ x))))
  show _ ∧ _
  rw [z2,z3,z4] at g5
  rw [z1,z2] at g3
  rw [z3] at g4
  rw [z1] at g2
  rw [z4]
  refine ⟨⟨_,g5,rfl⟩,h _ g5 g3 g4 ?_ ?_ keep⟩
  · obtain ⟨k,e⟩ := hl1
    cases b1
    · exact ⟨⟨_,g1,rfl,rfl⟩,⟨_,keep _ _ e,rfl,_,rfl⟩⟩
    · exact ⟨⟨_,g1,rfl,rfl⟩,⟨_,keep _ _ e,rfl,_,rfl⟩⟩
  · obtain ⟨k,e⟩ := hl2
    cases b2
    · exact ⟨⟨_,g2,rfl,rfl⟩,⟨_,keep _ _ e,rfl,_,rfl⟩⟩
    · exact ⟨⟨_,g2,rfl,rfl⟩,⟨_,keep _ _ e,rfl,_,rfl⟩⟩
inductive SeqIn (Z : Led) (h : Heap) (v : Value) (l : List Dat) : Prop
  | mk (a : _) (b : _) (vs : _) : v = .ref a → SeqAt h b a vs.toArray → vs.length ≤ line → RepL Z vs l → SeqIn Z h v l
theorem RepB.seqAt {h : Heap} {v : Value} {l : List Dat} (sub : ∀ a o,Z a = some o → h.get? a = some o) (r : RepB Z h v (.lst l) ∨ RepB Z h v (.tup l)) :
    SeqIn Z h v l := by
  obtain ⟨a,T,k,vs,e,hT,ho,z,rl⟩ := RepB.seq sub r
  rcases hT with rfl | rfl
  · exact ⟨a,false,vs,e,⟨k,ho⟩,z,rl⟩
  · exact ⟨a,true,vs,e,⟨k,ho⟩,z,rl⟩
theorem mem4 {p : Addr → Prop} {a b c d : Addr} (h1 : p a) (h2 : p b) (h3 : p c) (h4 : p d) : ∀ x ∈ [a,b,c,d],p x := fun x hx => by
  cases hx with
  | head => exact h1
  | tail _ hx => cases hx with
    | head => exact h2
    | tail _ hx => cases hx with
      | head => exact h3
      | tail _ hx => exact (List.mem_singleton.mp hx) ▸ h4
theorem mem7 {p : Addr → Prop} {a b c d e f g : Addr} (h1 : p a) (h2 : p b) (h3 : p c) (h4 : p d) (h5 : p e) (h6 : p f) (h7 : p g) : ∀ x ∈ [a,b,c,d,e,f,g],p x := fun x hx => by
  cases hx with
  | head => exact h1
  | tail _ hx => cases hx with
    | head => exact h2
    | tail _ hx => cases hx with
      | head => exact h3
      | tail _ hx => exact mem4 h4 h5 h6 h7 x hx
noncomputable def Liv (h : Heap) (b : Addr) : Prop := ∃ o,h.get? b = some o ∧ Pl o
theorem seqSt_live {h : Heap} {b : Bool} {it l : Addr} {xs : Array Value} {i : Nat} (q : SeqSt b it l xs i h) : Liv h it ∧ Liv h l := by
  cases b <;> (obtain ⟨⟨o,ho,hc,hd⟩,⟨o',ho',hc',hd'⟩⟩ := q; exact ⟨⟨o,ho,nd_fields hd,_,hc⟩,⟨o',ho',nd_seq hd',_,hc'⟩⟩)
theorem it_zip {v u : Value} {x y : List Dat} {elts : List Expr} {q : Nat} {pos : Pos} (sub : ∀ a o,Z a = some o → s.heap.get? a = some o) (ok : ∀ a o,Z a = some o → Tt o) (r1 : RepB Z s.heap v (.lst x) ∨ RepB Z s.heap v (.tup x)) (r2 : RepB Z s.heap u (.lst y) ∨ RepB Z s.heap u (.tup y)) (h1 : ∀ b,v = .ref b → src Z b) (h2 : ∀ b,u = .ref b → src Z b) :
    EvT Γ A env Z s (ItAt Γ (.Tuple elts q pos) src s.heap) (.ok (zipD x y))
      (fun Q E s => wpAny (model Γ.prog Γ.w) A (call (.type "zip") [v,u]) (fun xv s₁ => wpAny (model Γ.prog Γ.w) A (pyIter xv) Q E s₁) E s) := by
  obtain ⟨a1,b1,vs,rfl,sa1,z1,rl1⟩ := RepB.seqAt sub r1
  obtain ⟨a2,b2,us,rfl,sa2,z2,rl2⟩ := RepB.seqAt sub r2
  have lt1 : a1 < s.heap.objs.size := let ⟨_,e⟩ := sa1; Heap.lt_size e
  have lt2 : a2 < s.heap.objs.size := let ⟨_,e⟩ := sa2; Heap.lt_size e
  have fr : ∀ k,s.heap.get? (s.heap.objs.size + k) = none ∧ Z (s.heap.objs.size + k) = none := fun k => by
    have : s.heap.get? (s.heap.objs.size + k) = none := Heap.get?_none_of_le (Nat.le_add_right ..)
    exact ⟨this,led_none sub this⟩
  refine EvT.now sub ok fun Q E hQ => zip_call sa1 sa2 fun h' hz hTI hTO st1 st2 keep => wpAny_pyIter_zip hz (hQ _ h' s.toks (Kp.of keep) ?_)
  have D : ZA (s.heap.objs.size + 4) (s.heap.objs.size + 2) (s.heap.objs.size + 3) s.heap.objs.size (s.heap.objs.size + 1) [s.heap.objs.size,a1] [s.heap.objs.size + 1,a2] := by
    have ne1 : ∀ k,a1 ≠ s.heap.objs.size + k := fun k => Nat.ne_of_lt (Nat.lt_of_lt_of_le lt1 (Nat.le_add_right ..))
    have ne2 : ∀ k,a2 ≠ s.heap.objs.size + k := fun k => Nat.ne_of_lt (Nat.lt_of_lt_of_le lt2 (Nat.le_add_right ..))
    have nk : ∀ j k : Nat,j ≠ k → s.heap.objs.size + j ≠ s.heap.objs.size + k := fun j k h e => h (Nat.add_left_cancel e)
    have nin : ∀ k i a,s.heap.objs.size + k ≠ i → a ≠ s.heap.objs.size + k → s.heap.objs.size + k ∉ [i,a] := fun k i a h1 h2 hm => by
      rcases List.mem_cons.mp hm with e | hm
      · exact h1 e
      · exact h2 (List.mem_singleton.mp hm).symm
    exact ⟨nk 2 4 (by decide),nk 3 4 (by decide),nk 2 3 (by decide),nk 2 0 (by decide),nk 2 1 (by decide),by simp,by simp,nin 4 _ _ (nk 4 0 (by decide)) (ne1 4),nin 4 _ _ (nk 4 1 (by decide)) (ne2 4),nin 3 _ _ (nk 3 0 (by decide)) (ne1 3),nin 3 _ _ (nk 3 1 (by decide)) (ne2 3),nin 0 _ _ (nk 0 1 (by decide)) (ne2 0),nin 1 _ _ (nk 1 0 (by decide)) (ne1 1)⟩
  have K := fun (A' : Around) (hA : A'.handled = none) => turns_zip (elts := elts) (q := q) (pos := pos) (A := A') (prog := Γ.prog) (w := Γ.w) D (draws_seq (A := A'.in1) hA b1 s.heap.objs.size a1 (Nat.ne_of_lt lt1) vs.toArray) (draws_seq (A := A'.in1) hA b2 (s.heap.objs.size + 1) a2 (Nat.ne_of_lt (Nat.lt_of_lt_of_le lt2 (Nat.le_add_right ..))) us.toArray)
  have e : min vs.toArray.size us.toArray.size = (zipD x y).length := by simp [zipD,rl1.length,rl2.length]
  rw [e] at K
  refine ItAt.intro K ?_ ?_ ?_ ?_ (by rw [← e]; simp; lia) (fun A' s' Q' E' st hq => wpAny_pyIter_zip st.1 hq) ?_
  · exact ⟨hz,hTI,⟨_,_,hTO⟩,st1,st2⟩
  · exact mem4 (fr 4) (fr 3) (fr 0) (fr 1)
  · exact mem7 (.inl (fr 4)) (.inl (fr 2)) (.inl (fr 3)) (.inl (fr 0)) (.inr (h1 _ rfl)) (.inl (fr 1)) (.inr (h2 _ rfl))
  · intro i h st
    refine cps fun P_ hP_ => ?_
    obtain ⟨q1,q2,⟨_,_,q3⟩,q4,q5⟩ := st
    refine hP_ ?_
    clear hP_ P_
    exact mem7 ⟨_,q1,nd_fields rfl,_,rfl⟩ ⟨_,q2,nd_seq ⟨_,rfl⟩,_,rfl⟩ ⟨_,q3,nd_seq ⟨_,rfl⟩,_,rfl⟩ (seqSt_live q4).1 (seqSt_live q4).2 (seqSt_live q5).1 (seqSt_live q5).2
  · rintro i v h'' d' ⟨T,p,q,rfl,hp,hq,hT⟩ hd
    have hp : vs.toArray[i]? = some p := hp
    have hq : us.toArray[i]? = some q := hq
    obtain ⟨dx,ex,rx⟩ := rl1.get' (k := i) (v := p) (by simpa using hp)
    obtain ⟨dy,ey,ry⟩ := rl2.get' (k := i) (v := q) (by simpa using hq)
    have : d' = .tup [dx,dy] := by
      simp only [zipD,List.getElem?_map,List.zip,List.getElem?_zipWith,ex,ey] at hd
      simpa using hd.symm
    subst this
    exact .inr ⟨⟨_,_,_,rfl⟩,T,[p,q],[dx,dy],_,rfl,rfl,hT,.cons rx (.one ry),by show 2 ≤ line; decide⟩
end
end Mine
namespace Mine
open PySem PySem.Calls PyProof.Rows
inductive BorAt (nm : Nm) (ρ : List Val) (m : Str → Option Value) (a : Addr) : Prop
  | mk (x : _) (i : _) (ds : _) : (nm.lookup x = some i) → (ρ.getD i .un = .bor ds) → (m x = some (.ref a)) → BorAt nm ρ m a
noncomputable def srcF (nm : Nm) (ρ : List Val) (m : Str → Option Value) (Z : Led) (b : Addr) : Prop := (∃ o,Z b = some o) ∨ BorAt nm ρ m b
noncomputable def srcT (_ : Led) (_ : Addr) : Prop := True
noncomputable def PS {α : Type} (src : Led → Addr → Prop) (R : Led → Heap → Value → α → Prop) : Led → Heap → Value → α → Prop := fun Z h v d => R Z h v d ∧ ∀ b,v = .ref b → src Z b
noncomputable abbrev RSq (Z : Led) (h : Heap) (v : Value) (l : List Dat) : Prop := RepB Z h v (.lst l) ∨ RepB Z h v (.tup l)
noncomputable def RAr (Γ : Cx) (Z : Led) (h : Heap) (v : Value) (x : Val) : Prop := RepV Γ Z (fun _ => True) h v x ∧ argOk x = true
noncomputable def zipTg (t : T) (target : Expr) : Prop := t.isZip = true → ∃ elts q pos,target = .Tuple elts q pos
noncomputable def SndI (Γ : Cx) (n : Nat) (Φ : Nat → List Val → Out Val) (t : T) : Prop :=
  ∀ (nm : Nm) (ρ : List Val) (A : Around) (env : Env) (Z : Led) (s : Shared) (m : Str → Option Value) (target e : Expr),chkI Γ.gs t nm env.scope e = true → zipTg t target → EnvOk env → AOx Γ nm n A env → Inv Γ nm ρ env Z s.heap m →
    EvT Γ A env Z s (ItAt Γ target srcT s.heap) (its Φ t ρ) (itT Γ A e env)
noncomputable def SndF (Γ : Cx) (n : Nat) (Φ : Nat → List Val → Out Val) (t : T) : Prop :=
  ∀ (nm : Nm) (ρ : List Val) (A : Around) (env : Env) (Z : Led) (s : Shared) (m : Str → Option Value) (target e : Expr),chkI Γ.gs t nm env.scope e = true → zipTg t target → EnvOk env → AOx Γ nm n A env → Inv Γ nm ρ env Z s.heap m →
    EvT Γ A env Z s (ItAt Γ target (srcF nm ρ m) s.heap) (itsF Φ t ρ) (itT Γ A e env)
section
variable {Γ : Cx} {n : Nat} {Φ : Nat → List Val → Out Val} {A : Around} {env : Env} {Z : Led} {s : Shared} {nm : Nm} {ρ : List Val} {m : Str → Option Value} {target : Expr} {src : Led → Addr → Prop}
theorem Rep.atZ {b : Addr} {d : Dat} (r : Rep Z (.ref b) d) : ∃ o,Z b = some o := by
  cases r with
  | tup z _ _ => exact ⟨_,z⟩
  | lst z _ _ => exact ⟨_,z⟩
  | dic z _ => exact ⟨_,z⟩
theorem snd_srcV {i : Nat} {e : Expr} (hc : chk Γ.gs (.v i) nm env.scope e = true) (O : EnvOk env) (I : Inv Γ nm ρ env Z s.heap m) :
    EvT Γ A env Z s (PS (srcF nm ρ m) (RAr Γ)) (srcF1 (ρ.getD i .un)) (wpt Γ A (eval e env)) := inv_v hc fun x p he h1 h2 => by
  subst he
  obtain ⟨kd,nl⟩ := varOf_kind h2
  intro hne Q E hQ hE
  obtain ⟨v,e,r⟩ := I.var x i nl fun q => hne (by rw [q]; rfl)
  cases hy : ρ.getD i .un with
  | sh d =>
    rw [hy] at hQ r
    exact load_var O.kind I.fr kd e h1 (hQ (.sh d) v Z s.heap s.toks rfl I.refl ⟨⟨r,rfl⟩,fun b hb => by subst hb; exact .inl (Rep.atZ r)⟩)
  | bor ds =>
    rw [hy] at hQ r
    have r' := r
    obtain ⟨a,vs,rfl,p,z,rl⟩ := r
    exact load_var O.kind I.fr kd e h1 (hQ (.bor ds) _ Z s.heap s.toks rfl I.refl ⟨⟨r',rfl⟩,fun b hb => by cases hb; exact .inr ⟨x,i,ds,nl,hy,e⟩⟩)
  | _ => rw [hy] at hne; exact absurd rfl hne
theorem snd_srcE {r : Out Val} {W : Tr Value} (H : EvT Γ A env Z s (PW Γ s.heap) r W) : EvT Γ A env Z s (PS (srcF nm ρ m) (RAr Γ)) (r >>= srcE1) W := by
  refine H.conv fun Z' h' v x g p => ?_
  cases x with
  | sh d => exact .inr ⟨_,Z',rfl,g,⟨p,rfl⟩,fun b hb => by subst hb; exact .inl (Rep.atZ p)⟩
  | own ds =>
    obtain ⟨a,rfl,f,o⟩ := p
    obtain ⟨Z'',g',_,r,_⟩ := freeze_own g f o
    exact .inr ⟨_,Z'',rfl,g',⟨r,rfl⟩,fun b hb => by cases hb; exact .inl (Rep.atZ r)⟩
  | _ => exact .inl rfl
noncomputable def SndV (Γ : Cx) (n : Nat) (Φ : Nat → List Val → Out Val) (t : T) : Prop :=
  ∀ (nm : Nm) (ρ : List Val) (A : Around) (env : Env) (Z : Led) (s : Shared) (m : Str → Option Value) (e : Expr),chk Γ.gs t nm env.scope e = true → EnvOk env → AOx Γ nm n A env → Inv Γ nm ρ env Z s.heap m →
    EvT Γ A env Z s (PS (srcF nm ρ m) (RAr Γ)) (srcV Φ t ρ) (wpt Γ A (eval e env))
theorem snd_srcT {r : Out Val} {W : Tr Value} (H : EvT Γ A env Z s (PW Γ s.heap) r W) : EvT Γ A env Z s (PS srcT (RAr Γ)) (r >>= argV) W :=
  H.toA.mono fun _ _ _ _ _ _ p => ⟨p,fun _ _ => trivial⟩
theorem bor_list {x : Val} {l : List Dat} {h : Heap} {v : Value} (e : x = .sh (.lst l) ∨ x = .bor l) (r : RAr Γ Z h v x) : RepB Z h v (.lst l) := by
  rcases e with rfl | rfl
  · exact .inl r.1
  · exact r.1.toB rfl nofun
theorem EvT.itV {r : Out Val} {W : Tr Value} (H : EvT Γ A env Z s (PS src (RAr Γ)) r W) : EvT Γ A env Z s (PS src RIt) (r >>= itemsV) W := by
  refine H.conv fun Z' h' v x g p => ?_
  cases x with
  | sh d =>
    cases d with
    | lst l => exact .inr ⟨l,Z',rfl,g,.inl (.inl p.1.1),p.2⟩
    | tup l => exact .inr ⟨l,Z',rfl,g,.inr (.inl (.inl p.1.1)),p.2⟩
    | str l =>
      obtain ⟨x,t,e,rfl,o,le⟩ := Rep.str_inv p.1.1
      exact .inr ⟨_,Z',rfl,g,.inr (.inr ⟨x,t,e,o,le,rfl⟩),p.2⟩
    | _ => exact .inl rfl
  | bor l => exact .inr ⟨l,Z',rfl,g,.inl (bor_list (.inr rfl) p.1),p.2⟩
  | own l => cases p.1.2
  | _ => exact .inl rfl
theorem EvT.itS {r : Out Val} {W : Tr Value} (H : EvT Γ A env Z s (PS src (RAr Γ)) r W) : EvT Γ A env Z s (PS src RSq) (r >>= itemsS) W := by
  refine H.conv fun Z' h' v x g p => ?_
  cases x with
  | sh d =>
    cases d with
    | lst l => exact .inr ⟨l,Z',rfl,g,.inl (.inl p.1.1),p.2⟩
    | tup l => exact .inr ⟨l,Z',rfl,g,.inr (.inl p.1.1),p.2⟩
    | _ => exact .inl rfl
  | bor l => exact .inr ⟨l,Z',rfl,g,.inl (bor_list (.inr rfl) p.1),p.2⟩
  | own l => cases p.1.2
  | _ => exact .inl rfl
theorem iter_val {e : Expr} {r : Out (List Dat)} (H : EvT Γ A env Z s (PS src RIt) r (wpt Γ A (eval e env))) : EvT Γ A env Z s (ItAt Γ target src s.heap) r (itT Γ A e env) :=
  EvT.then (W2 := fun xv => wpt Γ A (pyIter xv)) H fun d v Z' h' tk _ g p => (it_val g.sub g.ok p.1 p.2).mono fun _ _ _ _ _ _ q => q.old g.kp
theorem iter_zip (C : CxOk Γ) {x : Str} {px pos : Pos} {y z : Expr} {elts : List Expr} {q : Nat} {pt : Pos} (hd : notDebug x = true) (hg : globOf Γ.gs env.scope x = some (.bi (.type "zip"))) (hy : notStar y = true) (hz : notStar z = true) (O : EnvOk env) (I : Inv Γ nm ρ env Z s.heap m)
    (hm : ∀ Z Z' b,Led.le Z Z' → src Z b → src Z' b) {r1 r2 : Out (List Dat)} (H1 : EvT Γ A env Z s (PS src RSq) r1 (wpt Γ A (eval y env))) (H2 : ∀ Z' h' tk,Grow Z s.heap Z' h' → EvT Γ A env Z' { s with heap := h',toks := tk } (PS src RSq) r2 (wpt Γ A (eval z env))) :
    EvT Γ A env Z s (ItAt Γ (.Tuple elts q pt) src s.heap) (r1 >>= fun x => r2 >>= fun y => .ok (zipD x y)) (itT Γ A (.Call (.Name x px) [y,z] [] pos) env) := by
  obtain ⟨k,l⟩ := globOf_kind hg
  obtain ⟨e1,e2⟩ := C.gl _ _ l
  have hs : backTo pos (starEach [y,z] env) = [(false,eval y env),(false,eval z env)] := by rw [star_cons hy,star_cons hz]; rfl
  refine EvT.rule (fun Q E h => Call_ (load_bui O C.g C.b I k e1 e2 hd (by rw [hs]; exact callWith_bt' rfl rfl (evalArgs_plain (spliced_cons h)))))
    (EvT.bind (W2 := fun v Q E s => wpAny (model Γ.prog Γ.w) A (spliced [(false,eval z env)]) (fun vs s₂ => wpAny (model Γ.prog Γ.w) A (call (.type "zip") ([] ++ (v :: vs))) (fun xv s₁ => wpAny (model Γ.prog Γ.w) A (pyIter xv) Q E s₁) E s₂) E s) H1 fun d v Z' h' tk _ g p => ?_)
  refine EvT.rule (fun Q E h => spliced_cons h) (EvT.bind (W2 := fun u Q E s => wpAny (model Γ.prog Γ.w) A (spliced []) (fun vs s₂ => wpAny (model Γ.prog Γ.w) A (call (.type "zip") ([] ++ (v :: u :: vs))) (fun xv s₁ => wpAny (model Γ.prog Γ.w) A (pyIter xv) Q E s₁) E s₂) E s) (H2 Z' h' tk g) fun e u Z2 h2 tk2 _ g2 p2 => ?_)
  exact EvT.rule (fun Q E h => spliced_nil h) ((it_zip g2.sub g2.ok (p.1.imp (·.grow g2) (·.grow g2)) p2.1 (fun b hb => hm _ _ _ g2.le (p.2 b hb)) p2.2).mono fun _ _ _ _ _ _ q => q.old (g.trans g2).kp)
theorem iter_rng1 (C : CxOk Γ) {x : Str} {px pos : Pos} {y : Expr} (hd : notDebug x = true) (hg : globOf Γ.gs env.scope x = some (.bi (.type "range"))) (hy : notStar y = true) (O : EnvOk env) (I : Inv Γ nm ρ env Z s.heap m)
    {r : Out Int} (H : EvT Γ A env Z s PI r (wpt Γ A (eval y env))) : EvT Γ A env Z s (ItAt Γ target src s.heap) (r >>= rngD) (itT Γ A (.Call (.Name x px) [y] [] pos) env) := by
  obtain ⟨k,l⟩ := globOf_kind hg
  obtain ⟨e1,e2⟩ := C.gl _ _ l
  have hs : backTo pos (starEach [y] env) = [(false,eval y env)] := by rw [star_cons hy]; rfl
  refine EvT.rule (fun Q E h => Call_ (load_bui O C.g C.b I k e1 e2 hd (by rw [hs]; exact callWith_bt' rfl rfl (evalArgs_plain (spliced_cons h)))))
    (EvT.bind (W2 := fun v Q E s => wpAny (model Γ.prog Γ.w) A (spliced []) (fun vs s₂ => wpAny (model Γ.prog Γ.w) A (call (.type "range") ([] ++ (v :: vs))) (fun xv s₁ => wpAny (model Γ.prog Γ.w) A (pyIter xv) Q E s₁) E s₂) E s) H fun i v Z' h' tk _ g p => ?_)
  obtain ⟨t,rfl⟩ := p
  rw [rngD_eq]
  refine EvT.guard fun hi => ?_
  · skip
    have g2 : Grow Z' h' Z' (h'.push { cls := .type "range",data := .fields #[.int 0 tk,.int i t,.int 1 (tk + 1)] }) := Grow.keep g.sub g.ok (kp_push _ _)
    have K := it_range (Γ := Γ) (A := A) (env := env) (target := target) (src := src) (s := { s with heap := h'.push { cls := .type "range",data := .fields #[.int 0 tk,.int i t,.int 1 (tk + 1)] },toks := tk + 1 + 1 }) g2.sub g2.ok (IsRange.new h' 0 i 1 _ _ _) (by lia) (by lia) hi.1 hi.2
    rw [Int.sub_zero] at K
    intro hne Q E hQ hE
    refine spliced_nil (call_range_1 (K hne Q E (fun x v Z3 h3 tk3 e g3 q => hQ x v Z3 h3 tk3 e (g2.trans g3) ((q.old g2.kp).old g.kp)) fun c e Z3 h3 tk3 q g3 xp => hE c e Z3 h3 tk3 q (g2.trans g3) (xp.old fun a q => g2.kp.none q)))
theorem iter_rng2 (C : CxOk Γ) {x : Str} {px pos : Pos} {y z : Expr} (hd : notDebug x = true) (hg : globOf Γ.gs env.scope x = some (.bi (.type "range"))) (hy : notStar y = true) (hz : notStar z = true) (O : EnvOk env) (I : Inv Γ nm ρ env Z s.heap m)
    {r1 r2 : Out Int} (H1 : EvT Γ A env Z s PI r1 (wpt Γ A (eval y env))) (H2 : ∀ Z' h' tk,Grow Z s.heap Z' h' → EvT Γ A env Z' { s with heap := h',toks := tk } PI r2 (wpt Γ A (eval z env))) :
    EvT Γ A env Z s (ItAt Γ target src s.heap) (r1 >>= fun x => r2 >>= fun y => rngD2 x y) (itT Γ A (.Call (.Name x px) [y,z] [] pos) env) := by
  refine cps fun P_ hP_ => ?_
  obtain ⟨k,l⟩ := globOf_kind hg
  obtain ⟨e1,e2⟩ := C.gl _ _ l
  refine hP_ ?_
  clear hP_ P_
  have hs : backTo pos (starEach [y,z] env) = [(false,eval y env),(false,eval z env)] := by rw [star_cons hy,star_cons hz]; rfl
  refine EvT.rule (fun Q E h => Call_ (load_bui O C.g C.b I k e1 e2 hd (by rw [hs]; exact callWith_bt' rfl rfl (evalArgs_plain (spliced_cons h)))))
    (EvT.bind (W2 := fun v Q E s => wpAny (model Γ.prog Γ.w) A (spliced [(false,eval z env)]) (fun vs s₂ => wpAny (model Γ.prog Γ.w) A (call (.type "range") ([] ++ (v :: vs))) (fun xv s₁ => wpAny (model Γ.prog Γ.w) A (pyIter xv) Q E s₁) E s₂) E s) H1 fun i v Z' h' tk _ g p => ?_)
  refine EvT.rule (fun Q E h => spliced_cons h) (EvT.bind (W2 := fun u Q E s => wpAny (model Γ.prog Γ.w) A (spliced []) (fun vs s₂ => wpAny (model Γ.prog Γ.w) A (call (.type "range") ([] ++ (v :: u :: vs))) (fun xv s₁ => wpAny (model Γ.prog Γ.w) A (pyIter xv) Q E s₁) E s₂) E s) (H2 Z' h' tk g) fun j u Z2 h2 tk2 _ g2 p2 => ?_)
  obtain ⟨t,rfl⟩ := p
  obtain ⟨t2,rfl⟩ := p2
  rw [rngD2_eq]
  refine EvT.guard fun hi => ?_
  · skip
    have g3 : Grow Z2 h2 Z2 (h2.push { cls := .type "range",data := .fields #[.int i t,.int j t2,.int 1 tk2] }) := Grow.keep g2.sub g2.ok (kp_push _ _)
    have K := it_range (Γ := Γ) (A := A) (env := env) (target := target) (src := src) (s := { s with heap := h2.push { cls := .type "range",data := .fields #[.int i t,.int j t2,.int 1 tk2] },toks := tk2 + 1 }) g3.sub g3.ok (IsRange.new h2 i j 1 _ _ _) hi.1 hi.2.1 hi.2.2.1 hi.2.2.2
    intro hne Q E hQ hE
    refine spliced_nil (call_range_2 (K hne Q E (fun x v Z3 h3 tk3 e g4 q => hQ x v Z3 h3 tk3 e (g3.trans g4) (((q.old g3.kp).old g2.kp).old g.kp)) fun c e Z3 h3 tk3 q g4 xp => hE c e Z3 h3 tk3 q (g3.trans g4) (xp.old fun a q => g3.kp.none q)))
end
end Mine
namespace Mine
open PySem PySem.Calls PyProof.Rows
section
variable {Γ : Cx} {n : Nat} {Φ : Nat → List Val → Out Val} {A : Around} {env : Env} {Z : Led} {s : Shared} {nm : Nm} {ρ : List Val} {m : Str → Option Value} {target : Expr} {src : Led → Addr → Prop}
theorem snd_rng_any (C : CxOk Γ) {a b c : T} (ha : SndE Γ n Φ a) (hb : SndE Γ n Φ b) {e : Expr} (hc : chkI Γ.gs (.rng a b c) nm env.scope e = true) (O : EnvOk env) (AO : AOx Γ nm n A env) (I : Inv Γ nm ρ env Z s.heap m) :
    EvT Γ A env Z s (ItAt Γ target src s.heap) (rngS a c (evA Φ a) (evA Φ b) ρ) (itT Γ A e env) := inv_rng hc fun hn x p q h1 h2 => by
  subst hn
  constructor
  · intro y he ha' h3 h4
    subst he ha'
    exact iter_rng1 C h1 h2 h3 O I (hb nm ρ A env Z s m y h4 O AO I).toI
  · intro y z he ha' h3 h4 h5 h6
    subst he
    show EvT Γ A env Z s _ (cond a.isNil (ev Φ b ρ >>= intD >>= rngD) (ev Φ a ρ >>= intD >>= fun x => ev Φ b ρ >>= intD >>= fun y => rngD2 x y)) _
    rw [ha']
    exact iter_rng2 C h1 h2 h3 h4 O I (ha nm ρ A env Z s m y h5 O AO I).toI fun Z' h' tk g => (hb nm ρ A env Z' _ m z h6 O AO (I.grow g)).toI
theorem srcF_mono (Z Z' : Led) (b : Addr) (h : Led.le Z Z') (x : srcF nm ρ m Z b) : srcF nm ρ m Z' b := by
  rcases x with ⟨o,e⟩ | x
  · exact .inl ⟨o,h _ _ e⟩
  · exact .inr x
structure ValT (Γ : Cx) (Φ : Nat → List Val → Out Val) (t : T) : Prop where
  c : ∀ nm sc e,chkI Γ.gs t nm sc e = true → chk Γ.gs t nm sc e = true
  i : ∀ ρ,its Φ t ρ = (ev Φ t ρ >>= argV >>= itemsV)
  f : ∀ ρ,itsF Φ t ρ = (srcV Φ t ρ >>= itemsV)
  k : ∀ ρ,itsK Φ t ρ = (ev Φ t ρ >>= itemsS)
theorem snd_I_val {t : T} (V : ValT Γ Φ t) (H : SndE Γ n Φ t) : SndI Γ n Φ t := fun nm ρ A env Z s m target e hc _ O AO I => by
  rw [V.i]
  exact iter_val (EvT.itV (snd_srcT (H nm ρ A env Z s m e (V.c _ _ _ hc) O AO I)))
theorem snd_F_val {t : T} (V : ValT Γ Φ t) (H : SndV Γ n Φ t) : SndF Γ n Φ t := fun nm ρ A env Z s m target e hc _ O AO I => by
  rw [V.f]
  exact iter_val (EvT.itV (H nm ρ A env Z s m e (V.c _ _ _ hc) O AO I))
theorem snd_I_rng (C : CxOk Γ) {a b c : T} (ha : SndE Γ n Φ a) (hb : SndE Γ n Φ b) : SndI Γ n Φ (.rng a b c) :=
  fun nm ρ A env Z s m target e hc _ O AO I => snd_rng_any C ha hb hc O AO I
theorem snd_F_rng (C : CxOk Γ) {a b c : T} (ha : SndE Γ n Φ a) (hb : SndE Γ n Φ b) : SndF Γ n Φ (.rng a b c) :=
  fun nm ρ A env Z s m target e hc _ O AO I => snd_rng_any C ha hb hc O AO I
theorem snd_I_zip (C : CxOk Γ) {a b : T} (ha : SndE Γ n Φ a) (hb : SndE Γ n Φ b) : SndI Γ n Φ (.zip a b) := fun nm ρ A env Z s m target e hc ht O AO I => inv_zip hc fun x p y z q he h1 h2 h3 h4 h5 h6 => by
  obtain ⟨elts,q,pt,rfl⟩ := ht rfl
  subst he
  exact iter_zip C h1 h2 h3 h4 O I (fun _ _ _ _ _ => trivial) (EvT.itS (snd_srcT (ha nm ρ A env Z s m y h5 O AO I))) fun Z' h' tk g => EvT.itS (snd_srcT (hb nm ρ A env Z' _ m z h6 O AO (I.grow g)))
theorem snd_F_zip (C : CxOk Γ) {a b : T} (ha : SndV Γ n Φ a) (hb : SndV Γ n Φ b) : SndF Γ n Φ (.zip a b) := fun nm ρ A env Z s m target e hc ht O AO I => inv_zip hc fun x p y z q he h1 h2 h3 h4 h5 h6 => by
  obtain ⟨elts,q,pt,rfl⟩ := ht rfl
  subst he
  exact iter_zip C h1 h2 h3 h4 O I srcF_mono (EvT.itS (ha nm ρ A env Z s m y h5 O AO I)) fun Z' h' tk g => EvT.itS (hb nm ρ A env Z' _ m z h6 O AO (I.grow g))
end
end Mine
namespace Mine
open PySem PySem.Calls PyProof.Rows
section
variable {Γ : Cx} {n : Nat} {Φ : Nat → List Val → Out Val} {A : Around} {env : Env} {Z : Led} {s : Shared} {nm : Nm} {ρ : List Val} {m : Str → Option Value}
theorem base_plain {o : Expr} (h : notCall o = true) (name : Str) (env : Env) (whole : Sem Value) : attributeBase o name env whole = whole := by
  cases o <;> first | rfl | exact (Bool.false_ne_true h).elim
theorem Call_meth {o : Expr} {name : Str} {apos pos : Pos} {args : List Expr} {Q E : Value → Shared → Prop} (hb : notCall o = true) (hl : (apos.endLine == pos.line) = true) (hp : (backTo pos (starEach args env)).any (·.1) = false) (hn : args.length < 30)
    (h : wpAny (model Γ.prog Γ.w) A (eval o env) (fun ov s₁ => ∀ pl,wpAny (model Γ.prog Γ.w) A (getMethod ov name pl) (fun fx s₂ => wpAny (model Γ.prog Γ.w) A (callWith pos fx.1 fx.2 (backTo pos (starEach args env)) []) Q E s₂) E s₁) E s) :
    wpAny (model Γ.prog Γ.w) A (eval (.Call (.Attribute o name apos) args [] pos) env) Q E s := by
  rw [arm_eval_Call,base_plain hb]
  refine wpAny_bind (wpAny_mono h (fun ov s₁ h₁ => ?_) fun _ _ e => e)
  refine wpAny_bind (wpAny_standAt ?_)
  have hform : methodCallForm (args.length + ([] : List Keyword).length) (backTo pos (starEach args env)) (backToKw pos (keywordEach [] env)) = true := by
    unfold methodCallForm
    have : (backTo pos (starEach args env)).all (!·.1) = true := by
      rw [List.all_eq_not_any_not]; simpa using hp
    rw [this]
    show (true && true && decide (args.length + 0 + 0 < 30)) = true
    simpa using hn
  have hpos : methodCallPos true o env apos pos = pure pos := by unfold methodCallPos; simp [hl]
  unfold methodCall
  rw [hform]
  exact wpAny_bind (wpAny_holding (wpAny_mono (h₁ _) (fun fx s₂ h₂ => wpAny_bind (wpAny_of_eq hpos h₂)) fun _ _ e => e))
theorem findIdx_spec {ds : List Dat} {a : Dat} {i : Nat} (h : ds.findIdx? (fun x => Dat.eq x a) = some i) : ∃ d,ds[i]? = some d ∧ Dat.eq d a = true ∧ ∀ j,j < i → ∀ d,ds[j]? = some d → Dat.eq d a = false := by
  obtain ⟨hi,h1,h2⟩ := List.findIdx?_eq_some_iff_getElem.mp h
  refine ⟨ds[i],List.getElem?_eq_getElem hi,h1,fun j hj d hd => ?_⟩
  obtain ⟨hj',e⟩ := List.getElem?_eq_some_iff.mp hd
  have := h2 j hj
  rw [e] at this
  simpa using this
theorem ev_index {v u : Value} {l : List Dat} {a : Dat} (AO : AOk n A) (sub : ∀ a o,Z a = some o → s.heap.get? a = some o) (ok : ∀ a o,Z a = some o → Tt o) (hx : RepB Z s.heap v (.lst l)) (hy : RepB Z s.heap u a) {h₀ : Heap} :
    EvT Γ A env Z s (PW Γ h₀) (indexD l a) (wpt Γ A (call (.builtin "list.index") [v,u])) :=
  EvT.guard fun f => by
    cases hi : l.findIdx? (fun x => Dat.eq x a) with
    | none => exact .bad
    | some i =>
      have fl : ∀ d ∈ l,d.fine 20 = true := List.all_eq_true.mp (and_inv f).2
      refine cps fun P_ hP_ => ?_
      obtain ⟨b,vs,rfl,⟨k,p⟩,z,rl⟩ := hx.list sub
      obtain ⟨⟨as,ra⟩,la,da⟩ := hy.reads sub (and_inv f).1
      obtain ⟨⟨bs,rb⟩,lb,db⟩ := (rl_both sub).2 rl 20 fl
      obtain ⟨d,hd,e1,e2⟩ := findIdx_spec hi
      refine hP_ ?_
      clear hP_ P_
      have hlen := rl.length
      have hil : i < l.length := (List.getElem?_eq_some_iff.mp hd).1
      have key : ∀ j (hj : j < vs.toArray.size) d,l[j]? = some d → PyData.eqv (SeqAt.readOf s.heap vs.toArray[j]) (pyOf a) = Dat.eq d a := fun j hj d hd => by
        obtain ⟨w',hw,rw'⟩ := rl.get hd
        have hw' : vs.toArray[j] = w' := by
          have : vs[j]? = some vs.toArray[j] := by simp
          rw [this] at hw; exact Option.some.inj hw
        have fd := fl d (List.mem_of_getElem? hd)
        obtain ⟨cs,rd⟩ := reads_of sub 20 rw' fd
        rw [hw',SeqAt.readOf_eq ((rl_both sub).1 rw' 20 fd).2.1 rd]; rfl
      refine EvT.data sub ok (fun Q E hQ => call_meets PySem.F.slot_list_index ⟨_,p,rfl⟩ PySem.F.entry_list_index (PySem.F.args_list_index_2 _ _)
        (PySem.SeqAt.list_indexAt b vs.toArray k none #[] u (fun y => PyData.eqv (SeqAt.readOf s.heap y) (pyOf a)) i (by simp; lia) ?_ ?_ ?_) ⟨p,SeqAt.items_eqAt rb ra lb la (AO.deep (Nat.le_refl _) (.inr da)),hQ _ _ _ (.refl _) (.int _ _)⟩)
      · unfold line at z; lia
      · exact (key i _ d hd).trans e1
      · intro j hj hlt
        have hj' : j < l.length := by simp at hj; lia
        exact (key j hj _ (List.getElem?_eq_getElem hj')).trans (e2 j hlt _ (List.getElem?_eq_getElem hj'))
theorem count_eq (sub : ∀ a o,Z a = some o → s.heap.get? a = some o) {a : Dat} : ∀ {vs : List Value} {l : List Dat},RepL Z vs l → (∀ d ∈ l,d.fine 20 = true) → vs.countP (fun y => PyData.eqv (SeqAt.readOf s.heap y) (pyOf a)) = l.countP fun x => Dat.eq x a := by
  intro vs
  induction vs with
  | nil => intro l r _; cases r; rfl
  | cons v vs ih =>
    intro l r fl
    cases r with
    | @cons _ d _ ds r1 r2 =>
      have fd := fl d (List.mem_cons_self ..)
      obtain ⟨cs,rd⟩ := reads_of sub 20 r1 fd
      rw [List.countP_cons,List.countP_cons,ih r2 fun d hd => fl d (List.mem_cons_of_mem _ hd),SeqAt.readOf_eq ((rl_both sub).1 r1 20 fd).2.1 rd]
      rfl
theorem ev_count {v u : Value} {l : List Dat} {a : Dat} (AO : AOk n A) (sub : ∀ a o,Z a = some o → s.heap.get? a = some o) (ok : ∀ a o,Z a = some o → Tt o) (hx : RepB Z s.heap v (.lst l)) (hy : RepB Z s.heap u a) {h₀ : Heap} :
    EvT Γ A env Z s (PW Γ h₀) (countD l a) (wpt Γ A (call (.builtin "list.count") [v,u])) :=
  EvT.guard fun f => by
    have fl : ∀ d ∈ l,d.fine 20 = true := List.all_eq_true.mp (and_inv f).2
    refine cps fun P_ hP_ => ?_
    obtain ⟨b,vs,rfl,⟨k,p⟩,z,rl⟩ := hx.list sub
    obtain ⟨⟨as,ra⟩,la,da⟩ := hy.reads sub (and_inv f).1
    obtain ⟨⟨bs,rb⟩,lb,db⟩ := (rl_both sub).2 rl 20 fl
    refine hP_ ?_
    clear hP_ P_
    refine EvT.data sub ok (fun Q E hQ => call_meets PySem.F.slot_list_count ⟨_,p,rfl⟩ PySem.F.entry_list_count (PySem.F.args_list_count_2 _ _)
      (PySem.SeqAt.list_countAt b vs.toArray k none #[] u (fun y => PyData.eqv (SeqAt.readOf s.heap y) (pyOf a))) ⟨p,SeqAt.items_eqAt rb ra lb la (AO.deep (Nat.le_refl _) (.inr da)),hQ _ _ _ (.refl _) ?_⟩)
    have := count_eq (a := a) sub rl fl
    rw [show vs.toArray.toList = vs from rfl,this]
    exact .int _ _
theorem up128 : ∀ c,c < 128 → Unicode.upperOf c = [upperC c] := by decide +kernel
theorem ev_upper {x : Str} {t : Tok} {y : List Nat} (sub : ∀ a o,Z a = some o → s.heap.get? a = some o) (ok : ∀ a o,Z a = some o → Tt o) (hx : x.cps.toList = y) (ox : PyData.strOk x = true) (lx : x.length ≤ line) {h₀ : Heap} :
    EvT Γ A env Z s (PW Γ h₀) (upper1 y []) (wpt Γ A (call (.builtin "str.upper") [.str x t])) :=
  EvT.guard fun f => by
    have hc : ∀ c ∈ x.cps.toList,c < 128 := fun c h => Nat.le_of_ble_eq_true (List.all_eq_true.mp (and_inv f).1 c (hx ▸ h))
    have hu : Txt.upper x = ⟨x.cps.map upperC⟩ := by
      show (⟨_⟩ : Str) = _
      rw [placed_single x _ upperC fun i c h => up128 c (hc c (List.mem_of_getElem? h))]
    have hl : (Txt.upper x).length ≤ line := by rw [hu]; show (x.cps.map upperC).size ≤ line; rw [Array.size_map]; exact lx
    have hr : y.map upperC = (Txt.upper x).cps.toList := by rw [hu,← hx]; exact (Array.toList_map ..).symm
    have ho : PyData.strOk (Txt.upper x) = true := by
      rw [hu]
      show (x.cps.map upperC).all (· < 0x110000) = true
      rw [← Array.all_toList,Array.toList_map,List.all_map]
      refine List.all_eq_true.mpr fun c h => decide_eq_true ?_
      have := hc c h
      show upperC c < _
      unfold upperC
      split <;> lia
    have hlen : x.length ≤ 1000 := by
      have : y.length ≤ 1000 := Nat.le_of_ble_eq_true (and_inv f).2
      rw [← hx,Array.length_toList] at this
      exact this
    rw [hr]
    exact EvT.data sub ok fun Q E hQ => SC.upper (fit_upper (Nat.le_trans hlen (by decide))) (hQ _ _ _ (.refl _) (.str _ _ ho hl))
section
variable {Γ : Cx} {A : Around} {env : Env} {Z : Led} {s : Shared} {h₀ : Heap}
theorem strs_of {vs : List Value} {l : List Dat} {ws : List (List Nat)} (r : RepL Z vs l) (e : strsOf l = some ws) : ∃ ys : List Str,StrsAre vs ys ∧ ys.map (fun y => y.cps.toList) = ws ∧ ∀ y ∈ ys,PyData.strOk y = true := by
  induction vs generalizing l ws with
  | nil => cases r; cases e; exact ⟨[],.nil,rfl,fun _ h => (nomatch h)⟩
  | cons v vs ih =>
    cases r with
    | @cons _ d _ ds a r =>
      cases d with
      | str x =>
        obtain ⟨w,e1,rfl⟩ := Option.map_eq_some_iff.mp (show (strsOf ds).map (x :: ·) = some ws from e)
        obtain ⟨ys,h1,h2,h3⟩ := ih r e1
        obtain ⟨y,t,rfl,hx,ok,le⟩ := Rep.str_inv a
        refine ⟨y :: ys,.cons y t h1,by rw [List.map_cons,hx,h2],fun z hz => ?_⟩
        rcases List.mem_cons.1 hz with rfl | hz
        · exact ok
        · exact h3 z hz
      | _ => cases e
theorem join_list_of (x : Str) (ok : PyData.strOk x = true) : ∀ (ys : List Str),(∀ y ∈ ys,PyData.strOk y = true) → (Str.join x ys).cps.toList = joinW x.cps.toList (ys.map (fun y => y.cps.toList)) ∧ PyData.strOk (Str.join x ys) = true ∧ (Str.join x ys).length ≤ (ys.map (·.length)).sum + ys.length * x.length
  | [],_ => ⟨rfl,by simp [Str.join,Str.empty,PyData.strOk],Nat.zero_le _⟩
  | [y],h => ⟨rfl,h y (.head _),by show y.length ≤ _; simp⟩
  | y :: z :: r,h => by
    obtain ⟨h1,h2,h3⟩ := join_list_of x ok (z :: r) fun q hq => h q (.tail _ hq)
    have e : Str.join x (y :: z :: r) = y ++ x ++ Str.join x (z :: r) := rfl
    rw [e]
    refine ⟨?_,strOk_append (strOk_append (h y (.head _)) ok) h2,?_⟩
    · show ((y.cps ++ x.cps) ++ (Str.join x (z :: r)).cps).toList = _
      rw [Array.toList_append,Array.toList_append,h1]; rfl
    · rw [Str.length_append,Str.length_append,List.map_cons,List.sum_cons,List.length_cons,Nat.succ_mul]; omega
theorem ev_join {v u : Value} {sep : List Nat} {l : List Dat} (sub : ∀ a o,Z a = some o → s.heap.get? a = some o) (ok : ∀ a o,Z a = some o → Tt o) (hx : RepB Z s.heap v (.str sep)) (hy : RepB Z s.heap u (.lst l)) :
    EvT Γ A env Z s (PW Γ h₀) (joinD sep l) (wpt Γ A (call (.builtin "str.join") [v,u])) := by
  unfold joinD
  cases hs : strsOf l with
  | none => exact .bad
  | some ws =>
    show EvT Γ A env Z s (PW Γ h₀) (if _ then _ else _) _
    by_cases hc : (ws.map List.length).sum + ws.length * sep.length ≤ line
    · rw [if_pos hc]
      obtain ⟨x,t,rfl,rfl,ox,lx⟩ := hx.str
      obtain ⟨b,vs,rfl,p,z,rl⟩ := hy.list sub
      obtain ⟨ys,h1,rfl,h3⟩ := strs_of rl hs
      obtain ⟨j1,j2,j3⟩ := join_list_of x ox ys h3
      have hl : (ys.map (·.length)).sum + ys.length * x.length ≤ line := by
        have e : (List.map List.length (ys.map fun y => y.cps.toList)) = ys.map (·.length) := by
          rw [List.map_map]; exact List.map_congr_left fun y _ => Array.length_toList
        rw [e,List.length_map] at hc
        have e2 : x.cps.toList.length = x.length := Array.length_toList
        rw [e2] at hc; exact hc
      refine EvT.data sub ok fun Q E hQ => join_list p.isList (by simpa using h1) hl fun t' k => hQ _ _ _ (Kp.refl _) ?_
      rw [← j1]
      exact (congrArg (fun q => Rep Z (.str q t') (.str (Str.join x ys).cps.toList)) (StrLaws.glued_eq_join x ys)).mpr (Rep.str (Str.join x ys) t' j2 (Nat.le_trans j3 hl))
    · rw [if_neg hc]; exact .bad
end
theorem snd_meth {me : Me} {a ts : T} (ha : SndE Γ n Φ a) (hl : SndL Γ n Φ ts) : SndE Γ n Φ (.meth me a ts) := fun nm ρ A env Z s m e hc O AO I => inv_meth hc fun o ap es cp he h3 h2 h4 h5 h6 => by
  subst he
  show EvT Γ A env Z s (PW Γ s.heap) (ev Φ a ρ >>= needB >>= fun x => if meOk me x then evT Φ ts ρ >>= allB >>= meD me x else .bad) _
  refine EvT.rule (fun Q E h => Call_meth h2 h3 (chkT_plain h6) h4 h) (EvT.bind (W2 := fun ov Q E s₁ => ∀ pl,wpAny (model Γ.prog Γ.w) A (getMethod ov (meN me) pl) (fun fx s₂ => wpAny (model Γ.prog Γ.w) A (callWith cp fx.1 fx.2 (backTo cp (starEach es env)) []) Q E s₂) E s₁) (ha nm ρ A env Z s m o h5 O AO I).toB fun d v Z' h' tk _ g p => ?_)
  refine EvT.guard fun hm => ?_
  cases me <;> cases d <;> first | exact (Bool.false_ne_true hm).elim | skip
  · rename_i l
    obtain ⟨b,vs0,rfl,pl0,z0,_⟩ := p.list g.sub
    refine EvT.rule (fun Q E h pl => getMethod_list_of PySem.F.slot_list_index PySem.F.type_list_index pl0.isList (by obtain ⟨k,q⟩ := pl0; exact ⟨_,q,rfl⟩) (callWith_bt rfl h6 h)) (EvT.eq (EvT.bind (W2 := fun vs => wpt Γ A (call (.builtin "list.index") ([.ref b] ++ vs))) (hl nm ρ A env Z' _ m es cp h6 O AO (I.grow g)) fun xs vs Z2 h2' tk2 _ g2 q => EvT.allB q.1 fun ds r => ?_) (Out.bind_assoc _ _ _))
    cases r with
    | nil => exact .bad
    | cons r1 r2 =>
      cases r2 with
      | nil => exact ev_index AO.toAOk g2.sub g2.ok (p.grow g2) r1
      | cons => exact .bad
  · rename_i y
    obtain ⟨x,t,rfl,hxy,ox,lx⟩ := RepB.str p
    refine EvT.rule (fun Q E h pl => GM.join (callWith_bt rfl h6 h)) (EvT.eq (EvT.bind (W2 := fun vs => wpt Γ A (call (.builtin "str.join") ([.str x t] ++ vs))) (hl nm ρ A env Z' _ m es cp h6 O AO (I.grow g)) fun xs vs Z2 h2' tk2 _ g2 q => EvT.allB q.1 fun ds r => ?_) (Out.bind_assoc _ _ _))
    cases r with
    | nil => exact .bad
    | @cons _ d _ _ r1 r2 =>
      cases r2 with
      | nil =>
        cases d with
        | lst l => exact ev_join g2.sub g2.ok (p.grow g2) r1
        | _ => exact .bad
      | cons => exact .bad
  · rename_i y
    obtain ⟨x,t,rfl,hxy,ox,lx⟩ := RepB.str p
    refine EvT.rule (fun Q E h pl => GM.upper (callWith_bt rfl h6 h)) (EvT.eq (EvT.bind (W2 := fun vs => wpt Γ A (call (.builtin "str.upper") ([.str x t] ++ vs))) (hl nm ρ A env Z' _ m es cp h6 O AO (I.grow g)) fun xs vs Z2 h2' tk2 _ g2 q => EvT.allB q.1 fun ds r => ?_) (Out.bind_assoc _ _ _))
    cases r with
    | nil => exact ev_upper g2.sub g2.ok hxy ox lx
    | cons => exact .bad
  · rename_i l
    obtain ⟨b,vs0,rfl,pl0,z0,_⟩ := p.list g.sub
    refine EvT.rule (fun Q E h pl => getMethod_list_of PySem.F.slot_list_count PySem.F.type_list_count pl0.isList (by obtain ⟨k,q⟩ := pl0; exact ⟨_,q,rfl⟩) (callWith_bt rfl h6 h)) (EvT.eq (EvT.bind (W2 := fun vs => wpt Γ A (call (.builtin "list.count") ([.ref b] ++ vs))) (hl nm ρ A env Z' _ m es cp h6 O AO (I.grow g)) fun xs vs Z2 h2' tk2 _ g2 q => EvT.allB q.1 fun ds r => ?_) (Out.bind_assoc _ _ _))
    cases r with
    | nil => exact .bad
    | cons r1 r2 =>
      cases r2 with
      | nil => exact ev_count AO.toAOk g2.sub g2.ok (p.grow g2) r1
      | cons => exact .bad
end
end Mine
namespace Mine
open PySem PySem.Calls PyProof.Rows
noncomputable def upd (m : Str → Option Value) (x : Str) (v : Value) : Str → Option Value := fun y => if y = x then some v else m y
theorem upd_self (m : Str → Option Value) (x : Str) (v : Value) : upd m x v x = some v := by simp [upd]
theorem upd_ne {m : Str → Option Value} {x y : Str} {v : Value} (h : y ≠ x) : upd m x v y = m y := by simp [upd,h]
section
variable {Γ : Cx} {n : Nat} {Φ : Nat → List Val → Out Val} {A : Around} {env : Env} {Z : Led} {s : Shared} {nm : Nm} {ρ : List Val} {m : Str → Option Value} {h h' : Heap}
theorem FrS.noSeq (F : FrS env h m) {a : Addr} (p : FP env a) {o : Obj} (e : h.get? a = some o) : ∀ vs k,o.data ≠ .seq vs k := by
  rcases p with rfl | ⟨x,k,l⟩
  · obtain ⟨⟨ml,⟨o',es,ep,e',hd,_⟩,_⟩,_,_⟩ := F
    rw [e] at e'; cases e'; rw [hd]; simp
  · obtain ⟨c,l',o',e',hd⟩ := F.cel x k
    rw [l] at l'; cases l'; rw [e] at e'; cases e'; rw [hd]; simp
theorem FrS.noFld (F : FrS env h m) {a : Addr} (p : FP env a) {o : Obj} (e : h.get? a = some o) : ∀ vs,o.data ≠ .fields vs := by
  rcases p with rfl | ⟨x,k,l⟩
  · obtain ⟨⟨ml,⟨o',es,ep,e',hd,_⟩,_⟩,_,_⟩ := F
    rw [e] at e'; cases e'; rw [hd]; simp
  · obtain ⟨c,l',o',e',hd⟩ := F.cel x k
    rw [l] at l'; cases l'; rw [e] at e'; cases e'; rw [hd]; simp
theorem FrS.dict {m' : Str → Option Value} (F : FrS env h m) (F' : FrS env h' m') {a L : Addr} (p : FP env a) (hs : Heap.SameBut a h h') (q : ∃ o es k,h.get? L = some o ∧ o.data = .dict es k) : ∃ o es k,h'.get? L = some o ∧ o.data = .dict es k := by
  refine cps fun P_ hP_ => ?_
  obtain ⟨o,es,k,e,d⟩ := q
  refine hP_ ?_
  clear hP_ P_
  by_cases ha : L = a
  · subst ha
    rcases p with rfl | ⟨x,kx,l⟩
    · obtain ⟨⟨ml,⟨o',es,ep,e',hd,_⟩,_⟩,_,_⟩ := F'
      exact ⟨o',es,ep,e',hd⟩
    · obtain ⟨c,l',o',e',hd⟩ := F.cel x kx
      rw [l] at l'; cases l'; rw [e] at e'; cases e'; rw [hd] at d; cases d
  · exact ⟨o,es,k,hs.extBut L o ha e,d⟩
theorem FrS.cellNe (F : FrS env h m) {x : Str} {c : Addr} (k : env.kindOf x = some .cell) (l : env.cells.lookup x = some c) : c ≠ env.locals := by
  rintro rfl
  obtain ⟨c',l',o,e,hd⟩ := F.cel x k
  rw [l] at l'; cases l'
  obtain ⟨ml,⟨o',es,ep,e',hd',_⟩,_⟩ := F.loc
  rw [e] at e'; cases e'; rw [hd] at hd'; cases hd'
noncomputable def StW (W : Addr → Prop) (env : Env) (x : Str) : Prop := (env.kindOf x = some .local → W env.locals) ∧ ∀ c,env.kindOf x = some .cell → env.cells.lookup x = some c → W c
theorem StW.fp (env : Env) (x : Str) : StW (FP env) env x := ⟨fun _ => .inl rfl,fun c k l => .inr ⟨x,k,l⟩⟩
theorem store_var (hk : env.scope.kind = .function) (F : FrS env s.heap m) {x : Str} (hx : env.kindOf x = some .local ∨ env.kindOf x = some .cell) {v : Value} {Q : Unit → Shared → Prop} {E : Value → Shared → Prop}
    (h : ∀ h' tk a,FP env a → (∀ W,StW W env x → W a) → Heap.SameBut a s.heap h' → (∃ o,h'.get? a = some o) → FrS env h' (upd m x v) → Q () { s with heap := h',toks := tk }) : wpAny (model Γ.prog Γ.w) A (storeName env x v) Q E s := by
  rcases hx with hx | hx
  · obtain ⟨ml,a,b⟩ := F.loc
    refine wpAny_storeName_local hx a (fun h' hn hs => h h' _ env.locals (.inl rfl) (fun W w => w.1 hx) hs (by obtain ⟨o,_,_,e,_⟩ := hn; exact ⟨o,e⟩) ⟨⟨_,hn,fun y hy => ?_⟩,fun y hy => ?_,F.inj⟩) (by rw [hk]; rfl)
    · unfold upd
      split
      · rfl
      · exact b y hy
    · obtain ⟨c,l,i⟩ := F.cel y hy
      refine ⟨c,l,?_⟩
      have : upd m x v y = m y := upd_ne fun e => by subst e; rw [hx] at hy; cases hy
      rw [this]
      exact i.sameBut hs (F.cellNe hy l)
  · obtain ⟨c,l,i⟩ := F.cel x hx
    refine wpAny_storeName_cell hk hx l i fun h' hn hs => h h' _ c (.inr ⟨x,hx,l⟩) (fun W w => w.2 c hx l) hs (by obtain ⟨o,e,_⟩ := hn; exact ⟨o,e⟩) ⟨?_,fun y hy => ?_,F.inj⟩
    · obtain ⟨ml,a,b⟩ := F.loc
      refine ⟨ml,a.sameBut hs (F.cellNe hx l).symm,fun y hy => ?_⟩
      rw [upd_ne fun e => by subst e; rw [hx] at hy; cases hy]
      exact b y hy
    · by_cases e : y = x
      · subst e; exact ⟨c,l,(upd_self m y v).symm ▸ hn⟩
      · obtain ⟨c',l',i'⟩ := F.cel y hy
        rw [upd_ne e]
        exact ⟨c',l',i'.sameBut hs fun q => e (F.inj y x c' hy hx l' (q ▸ l))⟩
theorem RepV.store {fr : Addr → Prop} {v : Value} {y : Val} (F : FrS env h m) {a : Addr} (p : FP env a) (hs : Heap.SameBut a h h') (r : RepV Γ Z fr h v y) : RepV Γ Z fr h' v y := by
  have key : ∀ b o,h.get? b = some o → (∃ vs k,o.data = .seq vs k) → h'.get? b = some o := fun b o e ⟨vs,k,hd⟩ => hs.extBut b o (fun q => by subst q; exact F.noSeq p e vs k hd) e
  have pl : ∀ b vs,h.PlainList b vs → h'.PlainList b vs := fun b vs ⟨k,e⟩ => ⟨k,key b _ e ⟨_,_,rfl⟩⟩
  cases y with
  | own ds => obtain ⟨b,e,f,vs,z,q,l,rr⟩ := r; exact ⟨b,e,f,vs,z,pl _ _ q,l,rr⟩
  | bor ds => obtain ⟨b,vs,e,q,l,rr⟩ := r; exact ⟨b,vs,e,pl _ _ q,l,rr⟩
  | pr d ds => obtain ⟨t,b,u,k,e,ne,f1,f2,z,o,rr,vs,z',q,l,r'⟩ := r; exact ⟨t,b,u,k,e,ne,f1,f2,z,key _ _ o ⟨_,_,rfl⟩,rr,vs,z',pl _ _ q,l,r'⟩
  | un => exact r
  | sh d => exact r
  | shop a b => exact r
  | exc c => obtain ⟨e,oe,vs,C,h1,h2,h3,h4,h5⟩ := r; exact ⟨e,oe,vs,C,h1,h2,hs.extBut e oe (fun q => by subst q; exact F.noFld p h3 vs h5) h3,h4,h5⟩
noncomputable def stoOk : Val → Bool
  | .own _ => false
  | .bor _ => false
  | .pr _ _ => false
  | _ => true
theorem Inv.store (I : Inv Γ nm ρ env Z h m) {x : Str} {i : Nat} (hx : nm.lookup x = some i) {v : Value} {y : Val} (r : RepV Γ Z (fun _ => True) h v y)
    (hy : stoOk y = true ∨ ∃ ds a,y = .own ds ∧ v = .ref a ∧ Γ.base.get? a = none ∧ ∀ x' j es,x' ≠ x → nm.lookup x' = some j → (ρ.getD j .un = .own es ∨ ρ.getD j .un = .bor es) → m x' ≠ some (.ref a))
    {a : Addr} (p : FP env a) (hs : Heap.SameBut a h h') (F' : FrS env h' (upd m x v)) : Inv Γ nm (ρ.set i y) env Z h' (upd m x v) := by
  have get_ne : ∀ j,j ≠ i → (ρ.set i y).getD j .un = ρ.getD j .un := fun j hj => by simp [List.getD,List.getElem?_set,Ne.symm hj]
  have get_i : (ρ.set i y).getD i .un = y ∨ (ρ.set i y).getD i .un = .un := by
    by_cases hi : i < ρ.length
    · left; simp [List.getD,hi]
    · right; simp [List.getD,Nat.not_lt.mp hi]
  have idx : ∀ x' j,nm.lookup x' = some j → x' ≠ x → j ≠ i := fun x' j l ne q => ne (I.inj x' x i (q ▸ l) hx)
  refine ⟨F',fun b o e => hs.extBut b o (fun q => by subst q; rw [I.zfp b p] at e; cases e) (I.sub b o e),I.ok,I.zfp,I.kz,fun L hL => ⟨(I.ups L hL).1,I.fr.dict F' p hs (I.ups L hL).2⟩,?_,?_,I.inj,I.fpb,?_,?_⟩
  · intro x' j l hn
    by_cases e : x' = x
    · subst e
      rw [hx] at l; cases l
      rcases get_i with q | q
      · rw [q]; exact ⟨v,upd_self m x' v,r.store I.fr p hs⟩
      · exact absurd q hn
    · have hj := idx x' j l e
      rw [get_ne j hj] at hn ⊢
      obtain ⟨u,hu,ru⟩ := I.var x' j l hn
      exact ⟨u,(upd_ne e).trans hu,ru.store I.fr p hs⟩
  · intro j d ds q
    by_cases ej : j = i
    · subst ej
      rcases get_i with g | g
      · rw [g] at q; subst q
        rcases hy with hy | ⟨_,_,e1,_⟩
        · cases hy
        · cases e1
      · rw [g] at q; cases q
    · rw [get_ne j ej] at q; exact I.nopr j d ds q
  · rintro b ⟨x',j,ds,l,ho,hm⟩
    by_cases e : x' = x
    · subst e
      rw [hx] at l; cases l
      rcases get_i with q | q
      · rw [q] at ho
        rcases hy with hy | ⟨_,b',e1,e2,e3,_⟩
        · rw [ho] at hy; cases hy
        · rw [upd_self,e2] at hm; cases hm; exact e3
      · rw [q] at ho; cases ho
    · rw [get_ne j (idx x' j l e)] at ho
      rw [upd_ne e] at hm
      exact I.ownb b ⟨x',j,ds,l,ho,hm⟩
  · intro x1 x2 i1 i2 b ds es l1 l2 h1 h2 m1 m2
    by_cases e1 : x1 = x
    · subst e1
      rw [hx] at l1; cases l1
      rcases get_i with q | q
      · rw [q] at h1
        rcases hy with hy | ⟨_,b',c1,c2,c3,c4⟩
        · rw [h1] at hy; cases hy
        · rw [upd_self,c2] at m1; cases m1
          by_cases e2 : x2 = x1
          · exact e2.symm
          · rw [get_ne i2 (idx x2 i2 l2 e2)] at h2
            rw [upd_ne e2] at m2
            exact absurd m2 (c4 x2 i2 es e2 l2 h2)
      · rw [q] at h1; cases h1
    · rw [get_ne i1 (idx x1 i1 l1 e1)] at h1
      rw [upd_ne e1] at m1
      by_cases e2 : x2 = x
      · subst e2
        rw [hx] at l2; cases l2
        rcases get_i with q | q
        · rw [q] at h2
          rcases hy with hy | ⟨_,b',c1,c2,c3,c4⟩
          · rcases h2 with h2 | h2 <;> (rw [h2] at hy; cases hy)
          · rw [upd_self,c2] at m2; cases m2
            exact absurd m1 (c4 x1 i1 ds e1 l1 (.inl h1))
        · rw [q] at h2; rcases h2 with h2 | h2 <;> cases h2
      · rw [get_ne i2 (idx x2 i2 l2 e2)] at h2
        rw [upd_ne e2] at m2
        exact I.apart x1 x2 i1 i2 b ds es l1 l2 h1 h2 m1 m2
end
end Mine
namespace Mine
open PySem PySem.Calls PyProof.Rows
structure Post (Γ : Cx) (nm : Nm) (env : Env) (Z : Led) (h : Heap) (ρ : List Val) (m : Str → Option Value) (Z' : Led) (h' : Heap) (ρ' : List Val) (m' : Str → Option Value) : Prop where
  inv : Inv Γ nm ρ' env Z' h' m'
  le : Led.le Z Z'
  new : ∀ a o,Z' a = some o → Z a = some o ∨ h.get? a = none ∨ OwnAt nm ρ m a
  kp : KpB Z (fun a => FP env a ∨ OwnAt nm ρ m a) h h'
  own : ∀ a,OwnAt nm ρ' m' a → OwnAt nm ρ m a ∨ h.get? a = none
  ex : ∀ a,h'.get? a = none → h.get? a = none
  bor : ∀ a,BorAt nm ρ' m' a → BorAt nm ρ m a
  oth : ∀ x,nm.lookup x = none → m' x = m x
theorem BorAt.set {nm : Nm} {ρ : List Val} {m m' : Str → Option Value} {i : Nat} {y : Val} {a : Addr} (hy : ∀ ds,y ≠ .bor ds) (hm : ∀ x j,nm.lookup x = some j → j ≠ i → m' x = m x) (o : BorAt nm (ρ.set i y) m' a) : BorAt nm ρ m a := by
  obtain ⟨x',j,ds,l,ho,hmx⟩ := o
  by_cases hj : j = i
  · subst hj
    by_cases hi : j < ρ.length
    · have : (ρ.set j y).getD j .un = y := by simp [List.getD,hi]
      rw [this] at ho; exact absurd ho (hy ds)
    · have : (ρ.set j y).getD j .un = .un := by simp [List.getD,Nat.not_lt.mp hi]
      rw [this] at ho; cases ho
  · have : (ρ.set i y).getD j .un = ρ.getD j .un := by simp [List.getD,List.getElem?_set,Ne.symm hj]
    rw [this] at ho; rw [hm x' j l hj] at hmx
    exact ⟨x',j,ds,l,ho,hmx⟩
theorem upd_off {Γ : Cx} {env : Env} {Z : Led} {h : Heap} {nm : Nm} {ρ : List Val} {m : Str → Option Value} (I : Inv Γ nm ρ env Z h m) {x : Str} {i : Nat} (hx : nm.lookup x = some i) (v : Value) : ∀ y j,nm.lookup y = some j → j ≠ i → upd m x v y = m y := fun y j l ne => upd_ne fun e => ne (by subst e; rw [hx] at l; exact (Option.some.inj l).symm)
section
variable {Γ : Cx} {n : Nat} {Φ : Nat → List Val → Out Val} {A : Around} {env : Env} {Z Z' Z'' : Led} {s : Shared} {nm : Nm} {ρ ρ' ρ'' : List Val} {m m' m'' : Str → Option Value} {h h' h'' : Heap}
theorem Post.trans (p : Post Γ nm env Z h ρ m Z' h' ρ' m') (q : Post Γ nm env Z' h' ρ' m' Z'' h'' ρ'' m'') : Post Γ nm env Z h ρ m Z'' h'' ρ'' m'' where
  inv := q.inv
  le := fun a o e => q.le a o (p.le a o e)
  new := fun a o e => by
    rcases q.new a o e with e | e | e
    · exact p.new a o e
    · exact .inr (.inl (p.ex a e))
    · rcases p.own a e with e | e
      · exact .inr (.inr e)
      · exact .inr (.inl e)
  kp := fun b o nb e => by
    refine cps fun P_ hP_ => ?_
    obtain ⟨k1,o1,e1,d1,c1⟩ := p.kp b o nb e
    refine hP_ ?_
    clear hP_ P_
    have nb' : ¬ (FP env b ∨ OwnAt nm ρ' m' b) := fun q => by
      rcases q with q | q
      · exact nb (.inl q)
      · rcases p.own b q with q | q
        · exact nb (.inr q)
        · rw [q] at e; cases e
    refine cps fun P_ hP_ => ?_
    obtain ⟨k2,o2,e2,d2,c2⟩ := q.kp b o1 nb' e1
    refine hP_ ?_
    clear hP_ P_
    refine ⟨fun nf => ?_,o2,e2,d2.trans d1,c2.trans c1⟩
    have := k1 nf
    rw [e1] at this
    cases this
    exact k2 (nf.imp (p.le _ _) id)
  own := fun a e => by
    rcases q.own a e with e | e
    · exact p.own a e
    · exact .inr (p.ex a e)
  ex := fun a e => p.ex a (q.ex a e)
  bor := fun a e => p.bor a (q.bor a e)
  oth := fun x l => (q.oth x l).trans (p.oth x l)
theorem Post.grow (I : Inv Γ nm ρ env Z h m) (g : Grow Z h Z' h') : Post Γ nm env Z h ρ m Z' h' ρ m where
  inv := I.grow g
  le := g.le
  new := fun a o e => (g.new a o e).elim .inl fun e => .inr (.inl e)
  kp := g.kp.but
  own := fun a e => .inl e
  ex := fun a e => g.kp.none e
  bor := fun a e => e
  oth := fun _ _ => rfl
theorem sameBut_ex {a : Addr} (hs : Heap.SameBut a h h') (e : ∃ o,h'.get? a = some o) : ∀ b,h'.get? b = none → h.get? b = none := fun b q => by
  by_cases hb : b = a
  · subst hb; obtain ⟨o,e⟩ := e; rw [q] at e; cases e
  · rw [← hs.2 b hb]; exact q
theorem OwnAt.set_sub {x : Str} {i : Nat} {y : Val} {v : Value} (I : Inv Γ nm ρ env Z h m) (hx : nm.lookup x = some i) (hy : stoOk y = true) {a : Addr} (o : OwnAt nm (ρ.set i y) (upd m x v) a) : OwnAt nm ρ m a := by
  obtain ⟨x',j,ds,l,ho,hm⟩ := o
  by_cases e : x' = x
  · subst e
    rw [hx] at l; cases l
    by_cases hi : i < ρ.length
    · have : (ρ.set i y).getD i .un = y := by simp [List.getD,hi]
      rw [this] at ho; rw [ho] at hy; cases hy
    · have : (ρ.set i y).getD i .un = .un := by simp [List.getD,Nat.not_lt.mp hi]
      rw [this] at ho; cases ho
  · have hj : j ≠ i := fun q => e (I.inj x' x i (q ▸ l) hx)
    have : (ρ.set i y).getD j .un = ρ.getD j .un := by simp [List.getD,List.getElem?_set,Ne.symm hj]
    rw [this] at ho; rw [upd_ne e] at hm
    exact ⟨x',j,ds,l,ho,hm⟩
theorem Post.store (I : Inv Γ nm ρ env Z h m) {x : Str} {i : Nat} (hx : nm.lookup x = some i) {v : Value} {y : Val} (r : RepV Γ Z (fun _ => True) h v y) (hy : stoOk y = true)
    {a : Addr} (p : FP env a) (hs : Heap.SameBut a h h') (he : ∃ o,h'.get? a = some o) (F' : FrS env h' (upd m x v)) : Post Γ nm env Z h ρ m Z h' (ρ.set i y) (upd m x v) where
  inv := I.store hx r (.inl hy) p hs F'
  le := fun _ _ e => e
  new := fun _ _ e => .inl e
  kp := fun b o nb e => by
    have hb : b ≠ a := fun q => nb (.inl (q ▸ p))
    exact ⟨fun _ => hs.extBut b o hb e,o,hs.extBut b o hb e,rfl,rfl⟩
  own := fun a o => .inl (o.set_sub I hx hy)
  ex := sameBut_ex hs he
  bor := fun a o => o.set (fun ds e => by subst e; cases hy) (upd_off I hx v)
  oth := fun y l => upd_ne fun e => by subst e; rw [hx] at l; cases l
noncomputable def TgOk (nm : Nm) (env : Env) (xs : List Str) (is : List Nat) : Prop := xs.length = is.length ∧ ∀ (k : Nat) (x : Str) (i : Nat),xs[k]? = some x → is[k]? = some i → nm.lookup x = some i ∧ (env.kindOf x = some .local ∨ env.kindOf x = some .cell)
theorem tgNames_inv {P : Prop} {e : Expr} {es : List Expr} {xs : List Str} (h : tgNames (e :: es) xs = true) (f : ∀ x p ys,e = .Name x p → xs = x :: ys → tgNames es ys = true → P) : P :=
  onName_inv (k := fun x _ => onCons xs fun y ys => x == y && tgNames es ys) h fun x p he g => onCons_inv g fun _ ys hx g => f x p ys he (beq_inv (and_inv g).1 ▸ hx) (and_inv g).2
theorem assign_each (hk : env.scope.kind = .function) {W : Addr → Prop} : ∀ (es : List Expr) (xs : List Str) (is : List Nat) (vs : List Value) (ds : List Dat) (ρ ρ' : List Val) (m : Str → Option Value) (s : Shared) (Q : Unit → Shared → Prop) (E : Value → Shared → Prop),
    tgNames es xs = true → TgOk nm env xs is → (∀ x ∈ xs,StW W env x) → RepL Z vs ds → setAll ρ is ds = some ρ' → Inv Γ nm ρ env Z s.heap m →
    (∀ h' tk m',Post Γ nm env Z s.heap ρ m Z h' ρ' m' → (∀ b,¬ W b → h'.get? b = s.heap.get? b) → Q () { s with heap := h',toks := tk }) →
    wpAny (model Γ.prog Γ.w) A (assignInOrder ((assignEach es env).map (·.2)) vs) Q E s
  | [],xs,is,vs,ds,ρ,ρ',m,s,Q,E,hn,ht,hw,hr,ha,I,h => by
    cases nil_inv hn
    cases is with
    | cons i is => exact absurd ht.1 (by simp)
    | nil =>
      cases ds with
      | cons d ds => cases ha
      | nil =>
        cases hr; cases ha
        exact wpAny_pure (h s.heap s.toks m (Post.grow I I.refl) fun b _ => rfl)
  | e :: es,xs,is,vs,ds,ρ,ρ',m,s,Q,E,hn,ht,hw,hr,ha,I,h => tgNames_inv hn fun x px xs' he hx hn' => by
    subst he hx
    cases is with
    | nil => exact absurd ht.1 (by simp)
    | cons i is =>
      cases ds with
      | nil => cases ha
      | cons d ds =>
        cases hr with
        | cons r1 r2 =>
          have ha : setAll (ρ.set i (.sh d)) is ds = some ρ' := ha
          obtain ⟨l,kd⟩ := ht.2 0 x i rfl rfl
          refine wpAny_assignInOrder_more (wpAny_assign_Name (store_var hk I.fr kd fun h1 tk1 a p pw hs he F1 => ?_))
          have P1 := Post.store I l (v := _) (y := .sh d) r1 rfl p hs he F1
          refine assign_each hk es xs' is _ ds _ ρ' _ _ Q E hn' ⟨by have := ht.1; simpa using this,fun k x i h1 h2 => ht.2 (k + 1) x i h1 h2⟩ (fun y hy => hw y (List.mem_cons_of_mem _ hy)) r2 ha P1.inv fun h2 tk2 m2 P2 k2 => ?_
          exact h h2 tk2 m2 (P1.trans P2) fun b nb => (k2 b nb).trans (hs.2 b fun q => nb (q ▸ pw W (hw _ List.mem_cons_self)))
theorem assignEach_len : ∀ (es : List Expr) (xs : List Str),tgNames es xs = true → (assignEach es env).length = xs.length ∧ (assignEach es env).findIdx? (·.1) = none
  | [],xs,hn => by cases nil_inv hn; exact ⟨rfl,rfl⟩
  | e :: es,xs,hn => tgNames_inv hn fun x px xs' he hx hn' => by
    subst he hx
    obtain ⟨h1,h2⟩ := assignEach_len es xs' hn'
    refine ⟨congrArg (· + 1) h1,?_⟩
    show List.findIdx? (·.1) ((false,_) :: assignEach es env) = none
    simp [List.findIdx?_cons,h2]
theorem setAll_len : ∀ (is : List Nat) (ds : List Dat) (ρ ρ' : List Val),setAll ρ is ds = some ρ' → is.length = ds.length
  | [],[],_,_,_ => rfl
  | [],_ :: _,_,_,h => by cases h
  | _ :: _,[],_,_,h => by cases h
  | i :: is,d :: ds,ρ,ρ',h => by
    have h : setAll (ρ.set i (.sh d)) is ds = some ρ' := h
    simp [setAll_len is ds _ _ h]
theorem assign_tuple (hk : env.scope.kind = .function) (hh : A.handled = none) {W : Addr → Prop} {es : List Expr} {q : Nat} {pt : Pos} {xs : List Str} {is : List Nat} {t : Addr} {vs : List Value} {ds : List Dat} (hn : tgNames es xs = true) (ht : TgOk nm env xs is) (hw : ∀ x ∈ xs,StW W env x) (htu : s.heap.IsTuple t vs.toArray) (hr : RepL Z vs ds)
    (ha : setAll ρ is ds = some ρ') (I : Inv Γ nm ρ env Z s.heap m) {Q : Unit → Shared → Prop} {E : Value → Shared → Prop}
    (h : ∀ h' tk m',Post Γ nm env Z s.heap ρ m Z h' ρ' m' → (∀ b o,¬ W b → s.heap.get? b = some o → h'.get? b = some o) → Q () { s with heap := h',toks := tk }) :
    wpAny (model Γ.prog Γ.w) A (assign (.Tuple es q pt) env (.ref t)) Q E s := by
  obtain ⟨l1,l2⟩ := assignEach_len (env := env) es xs hn
  refine wpAny_assign_Tuple hh htu (by rw [l1,ht.1,setAll_len _ _ _ _ ha,← hr.length]; simp) l2 fun h1 e1 => ?_
  have k1 : ∀ b o,s.heap.get? b = some o → h1.get? b = some o := fun b o e => e1 b o (Nat.ne_of_lt (Heap.lt_size e)) e
  have g1 : Grow Z s.heap Z h1 := Grow.keep I.sub I.ok (Kp.of k1)
  exact assign_each hk es xs is vs ds ρ ρ' m { s with heap := h1 } Q E hn ht hw hr ha (I.grow g1) fun h2 tk2 m2 P2 k2 => h h2 tk2 m2 ((Post.grow I g1).trans P2) fun b o nb e => (k2 b nb).trans (k1 b o e)
theorem bindM_inv {x y : Str} {xs : List Str} {tg : List Nat} {d : Dat} (hl : (x :: y :: xs).length = tg.length) (hb : bindT tg d ρ = .ok ρ') : ∃ ds,d = .tup ds ∧ setAll ρ tg ds = some ρ' := by
  cases tg with
  | nil => cases hl
  | cons i r =>
    cases r with
    | nil => simp at hl
    | cons j r =>
      replace hb : bindM (i :: j :: r) d ρ = .ok ρ' := hb
      cases d with
      | tup ds =>
        unfold bindM at hb
        cases hs : setAll ρ (i :: j :: r) ds with
        | none => simp only [hs] at hb; cases hb
        | some ρ2 => simp only [hs] at hb; cases hb; exact ⟨ds,rfl,hs⟩
      | _ => cases hb
theorem assign_tgt (hk : env.scope.kind = .function) (hh : A.handled = none) {W : Addr → Prop} {target : Expr} {xs : List Str} {tg : List Nat} (ht : tgtOk target xs = true) (hx : TgOk nm env xs tg) (hw : ∀ x ∈ xs,StW W env x) {v : Value} {d : Dat} (r : RepT target Z s.heap v d) (hb : bindT tg d ρ = .ok ρ')
    (I : Inv Γ nm ρ env Z s.heap m) {Q : Unit → Shared → Prop} {E : Value → Shared → Prop}
    (h : ∀ h' tk m',Post Γ nm env Z s.heap ρ m Z h' ρ' m' → (∀ b o,¬ W b → s.heap.get? b = some o → h'.get? b = some o) → Q () { s with heap := h',toks := tk }) :
    wpAny (model Γ.prog Γ.w) A (assign target env v) Q E s := by
  cases xs with
  | nil => cases ht
  | cons x xs =>
    cases xs with
    | nil =>
      refine onName_inv ht fun y px he g => ?_
      replace g := beq_inv g
      subst g he
      obtain ⟨i,rfl⟩ := List.length_eq_one_iff.mp hx.1.symm
      cases hb
      have r' : Rep Z v d := by
        rcases r with r | ⟨⟨_,_,_,e⟩,_⟩
        · exact r
        · cases e
      obtain ⟨l,kd⟩ := hx.2 0 y i rfl rfl
      refine wpAny_assign_Name (store_var hk I.fr kd fun h1 tk1 a p pw hs he F1 => ?_)
      exact h h1 tk1 _ (Post.store I l (y := .sh d) r' rfl p hs he F1) fun b o nb e => hs.extBut b o (fun q => nb (q ▸ pw W (hw _ List.mem_cons_self))) e
    | cons x2 xs =>
      refine onTuple_inv ht fun es q pt he hn => ?_
      subst he
      obtain ⟨ds,rfl,ha⟩ := bindM_inv hx.1 hb
      have : ∃ t vs,v = .ref t ∧ s.heap.IsTuple t vs.toArray ∧ RepL Z vs ds := by
        rcases r with r | ⟨_,T,vs,ds',k,e1,e2,e3,e4,_⟩
        · obtain ⟨a,vs,k,e,p,z,rl⟩ := Rep.tuple I.sub r
          exact ⟨a,vs,e,⟨_,p,rfl,_,rfl⟩,rl⟩
        · cases e2; exact ⟨T,vs,e1,⟨_,e3,rfl,_,rfl⟩,e4⟩
      obtain ⟨t,vs,rfl,htu,hr⟩ := this
      exact assign_tuple hk hh hn hx hw htu hr ha I h
end
end Mine
namespace Mine
open PySem PySem.Calls PyProof.Rows
section
variable {Γ : Cx} {n : Nat} {Φ : Nat → List Val → Out Val} {A : Around} {env : Env} {Z : Led} {s : Shared} {nm : Nm} {ρ : List Val} {m : Str → Option Value}
theorem rep_rng : ∀ {vs : List Value} (a : Int),(∀ (i : Nat) (v : Value),vs[i]? = some v → ∃ t : Tok,v = Value.int (a + i * 1) t) → RepL Z vs (rangeL a 1 vs.length)
  | [],a,_ => .nil
  | v :: vs,a,h => by
    obtain ⟨t,rfl⟩ := h 0 v rfl
    refine .cons (by rw [show a + ((0 : Nat) : Int) * 1 = a by lia]; exact Rep.int a t) (rep_rng (a + 1) fun i v hv => ?_)
    obtain ⟨t,e⟩ := h (i + 1) v (by rw [List.getElem?_cons_succ]; exact hv)
    exact ⟨t,by rw [e]; congr 1; lia⟩
theorem ev_listRng {i : Int} {t : Tok} (hh : A.handled = none) (sub : ∀ a o,Z a = some o → s.heap.get? a = some o) (ok : ∀ a o,Z a = some o → Tt o) :
    EvT Γ A env Z s (PW Γ s.heap) (rngD i >>= fun ds => .ok (.own ds)) (fun Q E s => wpAny (model Γ.prog Γ.w) A (call (.type "range") [.int i t]) (fun u s₃ => wpAny (model Γ.prog Γ.w) A (spliced []) (fun ws s₄ => wpAny (model Γ.prog Γ.w) A (call (.type "list") ([] ++ (u :: ws))) Q E s₄) E s₃) E s) := by
  rw [rngD_eq]
  by_cases hi : -(2 ^ 20) ≤ i ∧ i < 2 ^ 20
  · rw [if_pos hi]
    have hsz : Builtin.Range.rangeSize 0 i 1 = (i.toNat : Int) := by rw [rangeSize_one]; split <;> lia
    refine EvT.now sub ok fun Q E hQ => call_range_1 (spliced_nil (call_list_range hh (IsRange.new s.heap 0 i 1 _ _ _) (small_one (by lia) (by lia) (by lia) (by lia)) hsz (by lia) fun h' tk acc c' hk he hi' => ?_))
    obtain ⟨vs⟩ := acc
    obtain ⟨h1,h2⟩ := hi'
    have h1 : vs.length = i.toNat := h1
    have kp : ∀ b o,s.heap.get? b = some o → h'.get? b = some o := fun b o e => hk b o (Heap.get?_push_of_some _ e)
    have r := rep_rng (Z := Z) (vs := vs) 0 fun j v hj => h2 j v (by simpa using hj)
    rw [h1] at r
    refine hQ _ h' tk (Kp.of kp) (own_at sub ?_ he (by rw [h1]; unfold line; lia) r)
    cases q : s.heap.get? (s.heap.push { cls := .type "range",data := .fields #[.int 0 s.toks,.int i t,.int 1 (s.toks + 1)] }).objs.size with
    | none => rfl
    | some o => have := Heap.get?_push_of_some { cls := .type "range",data := .fields #[.int 0 s.toks,.int i t,.int 1 (s.toks + 1)] } q; rw [get_size] at this; cases this
  · rw [if_neg hi]; exact .bad
theorem snd_K_rng (C : CxOk Γ) {a b c : T} (hb : SndE Γ n Φ b) : SndE Γ n Φ (.mkL (.rng a b c)) := fun nm ρ A env Z s m e hc O AO I => inv_mkL hc fun x p v pos he h1 h2 h3 h4 => inv_rng h4 fun hn x' p' q i1 i2 => by
  subst he hn
  constructor
  · intro y he' ha' i3 i4
    subst he' ha'
    show EvT Γ A env Z s (PW Γ s.heap) ((ev Φ b ρ >>= intD >>= rngD) >>= fun ds => .ok (.own ds)) _
    obtain ⟨k,l⟩ := globOf_kind h2
    obtain ⟨e1,e2⟩ := C.gl _ _ l
    obtain ⟨k',l'⟩ := globOf_kind i2
    obtain ⟨f1,f2⟩ := C.gl _ _ l'
    have hs : backTo pos (starEach [.Call (.Name x' p') [y] [] q] env) = [(false,eval (.Call (.Name x' p') [y] [] q) env)] := by rw [star_cons h3]; rfl
    have hs2 : backTo q (starEach [y] env) = [(false,eval y env)] := by rw [star_cons i3]; rfl
    rw [Out.bind_assoc (ev Φ b ρ >>= intD)]
    refine EvT.rule (fun Q E h => Call_ (load_bui O C.g C.b I k e1 e2 h1 (by rw [hs]; exact callWith_bt' rfl rfl (evalArgs_plain (spliced_cons (Call_ (load_bui O C.g C.b I k' f1 f2 i1 (by rw [hs2]; exact callWith_bt' rfl rfl (evalArgs_plain (spliced_cons h))))))))))
      (EvT.bind (W2 := fun v Q E s => wpAny (model Γ.prog Γ.w) A (spliced []) (fun vs s₂ => wpAny (model Γ.prog Γ.w) A (call (.type "range") ([] ++ (v :: vs))) (fun u s₃ => wpAny (model Γ.prog Γ.w) A (spliced []) (fun ws s₄ => wpAny (model Γ.prog Γ.w) A (call (.type "list") ([] ++ (u :: ws))) Q E s₄) E s₃) E s₂) E s) (hb nm ρ A env Z s m y i4 O AO I).toI fun d v Z' h' tk _ g q => ?_)
    obtain ⟨t,rfl⟩ := q
    exact EvT.old g (EvT.rule (fun Q E h => spliced_nil h) (ev_listRng (s := { s with heap := h',toks := tk }) (AO.hd (loud_rng h4)) g.sub g.ok))
  · intro y z _ ha' _ _ _ _
    refine EvT.badE ?_
    show (cond (a.isNil && true) _ Out.bad >>= _) = _
    rw [ha']; rfl
end
end Mine
namespace Mine
open PySem PySem.Calls PyProof.Rows
noncomputable def clOf (env : Env) : List (Str × NameKind) → List (Str × Addr) → List (Str × Addr)
  | [],acc => acc
  | (n,k) :: r,acc => clOf env r (if k == .free then (n,(env.cells.lookup n).getD 0) :: acc else acc)
theorem clOf_loop (env : Env) (names : List (Str × NameKind)) (hf : ∀ p ∈ names,p.2 = .free → ∃ c,env.cells.lookup p.1 = some c) (acc : List (Str × Addr)) :
    (forIn names acc fun (x : Str × NameKind) (cs : List (Str × Addr)) => (if (x.2 == .free) = true then do let c ← cellOf env x.1; pure (ForInStep.yield ((x.1,c) :: cs)) else pure (ForInStep.yield cs) : Sem (ForInStep (List (Str × Addr))))) = pure (clOf env names acc) := by
  induction names generalizing acc with
  | nil => rfl
  | cons p r ih =>
    obtain ⟨n,k⟩ := p
    rw [List.forIn_cons]
    by_cases hk : (k == .free) = true
    · obtain ⟨c,hc⟩ := hf (n,k) List.mem_cons_self (beq_iff_eq.mp hk)
      have e : cellOf env n = pure c := by unfold cellOf; rw [hc]
      simp only [hk,if_true,e,pure_bind]
      rw [ih (fun p hp => hf p (List.mem_cons_of_mem _ hp))]
      show _ = pure (clOf env r (if k == .free then _ else _))
      rw [if_pos hk,hc]; rfl
    · simp only [hk,Bool.false_eq_true,if_false,pure_bind]
      rw [ih (fun p hp => hf p (List.mem_cons_of_mem _ hp))]
      show _ = pure (clOf env r (if k == .free then _ else _))
      rw [if_neg hk]
theorem closure_is (env : Env) (scope : Scope) (hf : ∀ p ∈ scope.names,p.2 = .free → ∃ c,env.cells.lookup p.1 = some c) : closureFor scope env = pure (clOf env scope.names []) := by
  have := clOf_loop env scope.names hf []
  exact (congrArg (· >>= fun s => pure s) this).trans (pure_bind _ _)
theorem clOf_lookup (env : Env) : ∀ (names : List (Str × NameKind)) (acc : List (Str × Addr)),(∀ p ∈ names,p.2 = .free → ∃ c,env.cells.lookup p.1 = some c) → (∀ x c,acc.lookup x = some c → env.cells.lookup x = some c) →
    (∀ x c,(clOf env names acc).lookup x = some c → env.cells.lookup x = some c) ∧ ∀ x,((∃ c,acc.lookup x = some c) ∨ (x,NameKind.free) ∈ names) → ∃ c,(clOf env names acc).lookup x = some c
  | [],acc,hf,ha => ⟨ha,fun x hx => by rcases hx with hx | hx; exact hx; cases hx⟩
  | (n,k) :: r,acc,hf,ha => by
    have hf' : ∀ p ∈ r,p.2 = .free → ∃ c,env.cells.lookup p.1 = some c := fun p hp => hf p (List.mem_cons_of_mem _ hp)
    by_cases hk : (k == .free) = true
    · obtain ⟨c,hc⟩ := hf (n,k) List.mem_cons_self (beq_iff_eq.mp hk)
      have e : clOf env ((n,k) :: r) acc = clOf env r ((n,c) :: acc) := by show clOf env r (if k == .free then _ else _) = _; rw [if_pos hk,hc]; rfl
      rw [e]
      obtain ⟨h1,h2⟩ := clOf_lookup env r ((n,c) :: acc) hf' fun x c' hx => by
        rw [List.lookup_cons] at hx
        cases hb : x == n with
        | true => rw [hb] at hx; cases hx; rw [beq_iff_eq.mp hb]; exact hc
        | false => rw [hb] at hx; exact ha x c' hx
      refine ⟨h1,fun x hx => h2 x ?_⟩
      cases hb : x == n with
      | true => left; exact ⟨c,by rw [List.lookup_cons,hb]⟩
      | false =>
        rcases hx with ⟨c',hx⟩ | hx
        · left; exact ⟨c',by rw [List.lookup_cons,hb]; exact hx⟩
        · rcases List.mem_cons.mp hx with q | q
          · cases q; simp at hb
          · exact .inr q
    · have e : clOf env ((n,k) :: r) acc = clOf env r acc := by show clOf env r (if k == .free then _ else _) = _; rw [if_neg hk]
      rw [e]
      obtain ⟨h1,h2⟩ := clOf_lookup env r acc hf' ha
      refine ⟨h1,fun x hx => h2 x ?_⟩
      rcases hx with hx | hx
      · exact .inl hx
      · rcases List.mem_cons.mp hx with q | q
        · cases q; simp at hk
        · exact .inr q
theorem relab_cell (sc : Scope) : ∀ (names : List (Str × NameKind)) (x : Str),(∀ p ∈ names,p.2 ≠ .cell) →
    (names.map fun (n,k) => if (k == NameKind.free && sc.kind == .function && sc.names.lookup n == some .cell) then (n,NameKind.cell) else (n,k)).lookup x = some .cell → names.lookup x = some .free ∧ sc.names.lookup x = some .cell
  | [],x,_,h => by cases h
  | (n,k) :: r,x,hc,h => by
    rw [List.map_cons] at h
    dsimp only at h
    by_cases hk : (k == NameKind.free && sc.kind == .function && sc.names.lookup n == some .cell) = true
    · simp only [hk,if_true] at h
      rw [List.lookup_cons] at h ⊢
      cases hb : x == n with
      | true =>
        simp only [Bool.and_eq_true] at hk
        rw [beq_iff_eq.mp hb]
        exact ⟨by rw [beq_iff_eq.mp hk.1.1],beq_iff_eq.mp hk.2⟩
      | false => rw [hb] at h; exact relab_cell sc r x (fun p hp => hc p (List.mem_cons_of_mem _ hp)) h
    · rw [if_neg hk] at h
      rw [List.lookup_cons] at h ⊢
      cases hb : x == n with
      | true => rw [hb] at h; simp only at h; cases h; exact absurd rfl (hc _ List.mem_cons_self)
      | false => rw [hb] at h; exact relab_cell sc r x (fun p hp => hc p (List.mem_cons_of_mem _ hp)) h
theorem keep_lookup (sc : Scope) : ∀ (nm : Nm) (x : Str) (i : Nat),(keepNm sc nm).lookup x = some i → nm.lookup x = some i ∧ sc.names.lookup x = some .cell
  | [],x,i,h => by cases h
  | (y,j) :: r,x,i,h => by
    unfold keepNm at h
    rw [List.filter_cons] at h
    by_cases hk : (sc.names.lookup y == some .cell) = true
    · rw [if_pos hk] at h
      rw [List.lookup_cons] at h ⊢
      cases hb : x == y with
      | true => rw [hb] at h; rw [beq_iff_eq.mp hb]; exact ⟨h,beq_iff_eq.mp hk⟩
      | false => rw [hb] at h; exact keep_lookup sc r x i h
    · rw [if_neg hk] at h
      have := keep_lookup sc r x i h
      refine ⟨?_,this.2⟩
      rw [List.lookup_cons]
      cases hb : x == y with
      | true => rw [← beq_iff_eq.mp hb,this.2] at hk; simp at hk
      | false => exact this.1
theorem zip_lookup : ∀ (xs : List Str) (tg : List Nat) (r : Nm) (x : Str) (i : Nat),(xs.zip tg ++ r).lookup x = some i → (∃ k : Nat,xs[k]? = some x ∧ tg[k]? = some i) ∨ (r.lookup x = some i ∧ (xs.length = tg.length → x ∉ xs))
  | [],tg,r,x,i,h => .inr ⟨h,fun _ h => by cases h⟩
  | y :: ys,[],r,x,i,h => .inr ⟨h,fun h => by simp at h⟩
  | y :: ys,j :: js,r,x,i,h => by
    rw [List.zip_cons_cons,List.cons_append,List.lookup_cons] at h
    cases hb : x == y with
    | true => rw [hb] at h; cases h; exact .inl ⟨0,by rw [beq_iff_eq.mp hb]; rfl,rfl⟩
    | false =>
      rw [hb] at h
      rcases zip_lookup ys js r x i h with ⟨k,h1,h2⟩ | ⟨h1,h2⟩
      · exact .inl ⟨k + 1,h1,h2⟩
      · refine .inr ⟨h1,fun hl hm => ?_⟩
        rcases List.mem_cons.mp hm with rfl | hm
        · simp at hb
        · exact h2 (by simpa using hl) hm
theorem zip_lookup_self : ∀ (xs : List Str) (tg : List Nat) (r : Nm) (k : Nat) (x : Str) (i : Nat),xs.Nodup → xs[k]? = some x → tg[k]? = some i → (xs.zip tg ++ r).lookup x = some i
  | [],_,_,_,_,_,_,h,_ => by simp at h
  | _ :: _,[],_,_,_,_,_,_,h => by simp at h
  | y :: ys,j :: js,r,0,x,i,nd,h1,h2 => by
    simp at h1 h2; subst h1 h2
    rw [List.zip_cons_cons,List.cons_append,List.lookup_cons]; simp
  | y :: ys,j :: js,r,k + 1,x,i,nd,h1,h2 => by
    obtain ⟨n1,n2⟩ := List.nodup_cons.mp nd
    rw [List.zip_cons_cons,List.cons_append,List.lookup_cons]
    have : (x == y) = false := by
      cases hb : x == y with
      | false => rfl
      | true => rw [beq_iff_eq.mp hb,List.getElem?_cons_succ] at h1; exact absurd (List.mem_of_getElem? h1) n1
    rw [this]
    exact zip_lookup_self ys js r k x i n2 h1 h2
noncomputable def unAll : List Nat → List Val → List Val
  | [],ρ => ρ
  | i :: is,ρ => unAll is (ρ.set i .un)
theorem unAll_in : ∀ (is : List Nat) (ρ : List Val) (i : Nat),i ∈ is → (unAll is ρ).getD i .un = .un
  | [],_,_,h => by cases h
  | j :: js,ρ,i,h => by
    show (unAll js (ρ.set j .un)).getD i .un = .un
    by_cases hj : i ∈ js
    · exact unAll_in js _ i hj
    · have : i = j := by rcases List.mem_cons.mp h with h | h; exact h; exact absurd h hj
      subst this
      have aux : ∀ (js : List Nat) (ρ : List Val),i ∉ js → (unAll js ρ).getD i .un = ρ.getD i .un := by
        intro js
        induction js with
        | nil => intro ρ _; rfl
        | cons k ks ih =>
          intro ρ hn
          show (unAll ks (ρ.set k .un)).getD i .un = _
          rw [ih _ fun h => hn (List.mem_cons_of_mem _ h)]
          have : k ≠ i := fun e => hn (e ▸ List.mem_cons_self)
          simp [List.getD,List.getElem?_set,this]
      rw [aux js _ hj]
      by_cases hl : i < ρ.length <;> simp [List.getD,hl]
theorem unAll_out : ∀ (is : List Nat) (ρ : List Val) (i : Nat),i ∉ is → (unAll is ρ).getD i .un = ρ.getD i .un
  | [],_,_,_ => rfl
  | j :: js,ρ,i,h => by
    show (unAll js (ρ.set j .un)).getD i .un = _
    rw [unAll_out js _ i fun q => h (List.mem_cons_of_mem _ q)]
    have : j ≠ i := fun e => h (e ▸ List.mem_cons_self)
    simp [List.getD,List.getElem?_set,this]
theorem unAll_set (is : List Nat) : ∀ (ρ : List Val) (i : Nat) (y : Val),i ∉ is → unAll is (ρ.set i y) = (unAll is ρ).set i y := by
  induction is with
  | nil => intro ρ i y _; rfl
  | cons j js ih =>
    intro ρ i y h
    show unAll js ((ρ.set i y).set j .un) = (unAll js (ρ.set j .un)).set i y
    have hij : i ≠ j := fun e => h (e ▸ List.mem_cons_self)
    rw [List.set_comm _ _ hij,ih _ _ _ fun q => h (List.mem_cons_of_mem _ q)]
theorem setAll_un : ∀ (is : List Nat) (ds : List Dat) (ρ : List Val),is.Nodup → setAll (unAll is ρ) is ds = setAll ρ is ds
  | [],_,_,_ => rfl
  | _ :: _,[],_,_ => rfl
  | i :: is,d :: ds,ρ,nd => by
    obtain ⟨n1,n2⟩ := List.nodup_cons.mp nd
    show setAll ((unAll is (ρ.set i .un)).set i (.sh d)) is ds = setAll (ρ.set i (.sh d)) is ds
    rw [← unAll_set is _ _ _ n1,setAll_un is ds _ n2]
    simp
theorem bindT_un {tg : List Nat} (nd : tg.Nodup) (d : Dat) (ρ : List Val) : bindT tg d (unAll tg ρ) = bindT tg d ρ := by
  have hM : ∀ tg : List Nat,tg.Nodup → bindM tg d (unAll tg ρ) = bindM tg d ρ := fun tg nd => by
    cases d with
    | tup ds => unfold bindM; simp only; rw [setAll_un _ _ _ nd]
    | _ => rfl
  cases tg with
  | nil => rfl
  | cons i r =>
    cases r with
    | nil => show Out.ok ((ρ.set i .un).set i (.sh d)) = Out.ok (ρ.set i (.sh d)); rw [List.set_set]
    | cons j r => exact hM _ nd
end Mine
namespace Mine
open PySem PySem.Calls PyProof.Rows
structure CompOk (nm : Nm) (env : Env) (cs : Scope) (xs : List Str) (tg : List Nat) : Prop where
  kind : cs.kind = .function
  nocell : ∀ p ∈ cs.names,p.2 ≠ .cell
  locs : ∀ p ∈ cs.names,p.2 = .local → cs.names.lookup p.1 = some .local
  free : ∀ p ∈ cs.names,p.2 = .free → env.scope.names.lookup p.1 = some .cell
  loc : ∀ x ∈ xs,(relabS cs env.scope).names.lookup x = some .local
  nd : xs.Nodup
  ndt : tg.Nodup
  len : xs.length = tg.length
  off : ∀ i ∈ tg,∀ p ∈ nm,p.2 ≠ i
section
variable {Γ : Cx} {n : Nat} {Φ : Nat → List Val → Out Val} {A : Around} {env : Env} {Z Z' : Led} {s : Shared} {nm : Nm} {ρ : List Val} {m : Str → Option Value} {h h' h₀ : Heap} {cs : Scope} {xs : List Str} {tg : List Nat}
noncomputable abbrev cNm (nm : Nm) (env : Env) (cs : Scope) (xs : List Str) (tg : List Nat) : Nm := xs.zip tg ++ keepNm (relabS cs env.scope) nm
noncomputable abbrev cEnv (env : Env) (cs : Scope) (C : Addr) : Env := compEnvC cs (clOf env cs.names []) C env
noncomputable def cMap (env : Env) (cs : Scope) (m ml : Str → Option Value) : Str → Option Value := fun x => if (relabS cs env.scope).names.lookup x = some .cell then m x else ml x
theorem mem_of_lookup' {α : Type} {l : List (Str × α)} {x : Str} {c : α} (h : l.lookup x = some c) : (x,c) ∈ l := mem_of_lookup h
theorem CompOk.cl (K : CompOk nm env cs xs tg) (F : FrS env h m) : ∀ p ∈ cs.names,p.2 = .free → ∃ c,env.cells.lookup p.1 = some c := fun p hp e => by
  obtain ⟨c,l,_⟩ := F.cel p.1 (K.free p hp e)
  exact ⟨c,l⟩
theorem CompOk.cell (K : CompOk nm env cs xs tg) (F : FrS env h m) {x : Str} (hx : (relabS cs env.scope).names.lookup x = some .cell) :
    env.kindOf x = some .cell ∧ ∃ c,env.cells.lookup x = some c ∧ (clOf env cs.names []).lookup x = some c := by
  refine cps fun P_ hP_ => ?_
  obtain ⟨h1,h2⟩ := relab_cell env.scope cs.names x K.nocell hx
  obtain ⟨q1,q2⟩ := clOf_lookup env cs.names [] (K.cl F) (fun _ _ e => by cases e)
  obtain ⟨c,hc⟩ := q2 x (.inr (mem_of_lookup' h1))
  refine hP_ ?_
  clear hP_ P_
  exact ⟨h2,c,q1 x c hc,hc⟩
theorem Inv.comp (I : Inv Γ nm ρ env Z h m) (K : CompOk nm env cs xs tg) {C : Addr} {ml : Str → Option Value} (hn : h.Ns C ml) (zC : Z C = none) (bC : Γ.base.get? C = none) :
    Inv Γ (cNm nm env cs xs tg) (unAll tg ρ) (cEnv env cs C) Z h (cMap env cs m ml) := by
  have kd : ∀ x,(cEnv env cs C).kindOf x = (relabS cs env.scope).names.lookup x := fun x => rfl
  have look : ∀ x i,(cNm nm env cs xs tg).lookup x = some i → (unAll tg ρ).getD i .un ≠ .un → nm.lookup x = some i ∧ (relabS cs env.scope).names.lookup x = some .cell ∧ (unAll tg ρ).getD i .un = ρ.getD i .un := fun x i l nu => by
    rcases zip_lookup xs tg _ x i l with ⟨k,h1,h2⟩ | ⟨h1,_⟩
    · exact absurd (unAll_in tg ρ i (List.mem_of_getElem? h2)) nu
    · obtain ⟨l1,l2⟩ := keep_lookup _ nm x i h1
      exact ⟨l1,l2,unAll_out tg ρ i fun hm => K.off i hm (x,i) (mem_of_lookup' l1) rfl⟩
  have own : ∀ a,OwnAt (cNm nm env cs xs tg) (unAll tg ρ) (cMap env cs m ml) a → OwnAt nm ρ m a := fun a ⟨x,i,ds,l,ho,hm⟩ => by
    obtain ⟨l1,l2,l3⟩ := look x i l (by rw [ho]; simp)
    rw [l3] at ho
    unfold cMap at hm
    rw [if_pos l2] at hm
    exact ⟨x,i,ds,l1,ho,hm⟩
  refine ⟨⟨⟨ml,hn,fun x hx => ?_⟩,fun x hx => ?_,fun x y c hx hy lx ly => ?_⟩,I.sub,I.ok,?_,I.kz,I.ups,fun x i l nu => ?_,fun i d ds q => ?_,fun x y k lx ly => ?_,?_,fun a o => I.ownb a (own a o),?_⟩
  · rw [kd] at hx
    unfold cMap
    rw [hx,if_neg (by simp)]
  · rw [kd] at hx
    refine cps fun P_ hP_ => ?_
    obtain ⟨k,c,l1,l2⟩ := K.cell I.fr hx
    obtain ⟨c',l',ic⟩ := I.fr.cel x k
    refine hP_ ?_
    clear hP_ P_
    rw [l1] at l'; cases l'
    refine ⟨c,l2,?_⟩
    unfold cMap
    rw [if_pos hx]; exact ic
  · rw [kd] at hx hy
    obtain ⟨k,c1,l1,l2⟩ := K.cell I.fr hx
    obtain ⟨k',c2,l1',l2'⟩ := K.cell I.fr hy
    have e1 : c1 = c := by have : (clOf env cs.names []).lookup x = some c := lx; rw [l2] at this; cases this; rfl
    have e2 : c2 = c := by have : (clOf env cs.names []).lookup y = some c := ly; rw [l2'] at this; cases this; rfl
    subst e1; subst e2
    exact I.fr.inj x y _ k k' l1 l1'
  · intro a p
    rcases p with rfl | ⟨x,k,l⟩
    · exact zC
    · rw [kd] at k
      obtain ⟨k',c,l1,l2⟩ := K.cell I.fr k
      have : (clOf env cs.names []).lookup x = some a := l
      have e : c = a := by rw [l2] at this; exact Option.some.inj this
      exact I.zfp a (.inr ⟨x,k',e ▸ l1⟩)
  · obtain ⟨l1,l2,l3⟩ := look x i l nu
    rw [l3] at nu ⊢
    obtain ⟨v,e,r⟩ := I.var x i l1 nu
    exact ⟨v,by unfold cMap; rw [if_pos l2]; exact e,r⟩
  · by_cases hi : i ∈ tg
    · rw [unAll_in tg ρ i hi] at q; cases q
    · rw [unAll_out tg ρ i hi] at q; exact I.nopr i d ds q
  · rcases zip_lookup xs tg _ x k lx with ⟨j,h1,h2⟩ | ⟨h1,_⟩
    · rcases zip_lookup xs tg _ y k ly with ⟨j',h1',h2'⟩ | ⟨h1',_⟩
      · have : j = j' := (List.getElem?_inj (List.getElem?_eq_some_iff.mp h2).1 K.ndt).mp (h2.trans h2'.symm)
        subst this
        rw [h1] at h1'; exact Option.some.inj h1'
      · obtain ⟨l1,_⟩ := keep_lookup _ nm y k h1'
        exact absurd rfl (K.off k (List.mem_of_getElem? h2) (y,k) (mem_of_lookup' l1))
    · rcases zip_lookup xs tg _ y k ly with ⟨j',h1',h2'⟩ | ⟨h1',_⟩
      · obtain ⟨l1,_⟩ := keep_lookup _ nm x k h1
        exact absurd rfl (K.off k (List.mem_of_getElem? h2') (x,k) (mem_of_lookup' l1))
      · exact I.inj x y k (keep_lookup _ nm x k h1).1 (keep_lookup _ nm y k h1').1
  · intro a p
    rcases p with rfl | ⟨x,k,l⟩
    · exact bC
    · rw [kd] at k
      obtain ⟨k',c,l1,l2⟩ := K.cell I.fr k
      have : (clOf env cs.names []).lookup x = some a := l
      have e : c = a := by rw [l2] at this; exact Option.some.inj this
      exact I.fpb a (.inr ⟨x,k',e ▸ l1⟩)
  · intro x y i j a ds es lx ly hx hy mx my
    obtain ⟨l1,l2,l3⟩ := look x i lx (by rw [hx]; simp)
    obtain ⟨l1',l2',l3'⟩ := look y j ly (by rcases hy with hy | hy <;> (rw [hy]; simp))
    rw [l3] at hx; rw [l3'] at hy
    unfold cMap at mx my
    rw [if_pos l2] at mx; rw [if_pos l2'] at my
    exact I.apart x y i j a ds es l1 l1' hx hy mx my
theorem Grow.write (g : Grow Z h₀ Z' h) {W : Addr → Prop} (hk : ∀ b o,¬ W b → h.get? b = some o → h'.get? b = some o) (hw : ∀ b,W b → h₀.get? b = none ∧ Z' b = none) : Grow Z h₀ Z' h' := by
  refine ⟨fun b o e => ?_,g.le,g.new,fun a o e => ?_,g.ok⟩
  · have nb : ¬ W b := fun q => by rw [(hw b q).1] at e; cases e
    refine cps fun P_ hP_ => ?_
    obtain ⟨k1,o',e',d',c'⟩ := g.kp b o e
    refine hP_ ?_
    clear hP_ P_
    exact ⟨fun nf => hk b o nb (k1 nf),o',hk b o' nb e',d',c'⟩
  · have nb : ¬ W a := fun q => by rw [(hw a q).2] at e; cases e
    exact hk a o nb (g.sub a o e)
theorem Grow.none (g : Grow Z h Z' h') {b : Addr} (z : Z b = none) {o : Obj} (e : h.get? b = some o) : Z' b = none := by
  cases q : Z' b with
  | none => rfl
  | some o' =>
    rcases g.new b o' q with w | w
    · rw [z] at w; cases w
    · rw [e] at w; cases w
end
section
variable {prog : Program} {w : World} {A : Around} {R : Result → Shared → Prop} {s : Shared}
theorem compLoop_any {elt target iter : Expr} {ifs : List Expr} {scope : Scope} {pos : Pos} {it acc : Value} {env : Env} (I : Nat → Shared → Prop)
    (turn : ∀ n s,I n s → wpAny (model prog w) A (pyNext it) (fun r s₁ => match r with
      | none => R (.ok .next) s₁
      | some v => wpAny (model prog w) A (letOwnedTupleGo target it v) (fun _ s₁' => wpAny (model prog w) A (assign target env v) (fun _ s₂ =>
          wpAny (model prog w) A (forIn ifs true fun c r => if r = true then do let ok ← isTrue c env (eval c env); pure (ForInStep.yield ok) else pure (ForInStep.yield r)) (fun ok s₃ =>
            if ok = true then wpAny (model prog w) A (eval elt env) (fun x s₄ =>
              wpAny (model prog w) A (call (.builtin "list.append") [acc,x]) (fun _ s₅ => ∃ m,m < n ∧ I m s₅) (notedBy (model prog w) A env fun e s' => R (.error e) s') s₄) (notedBy (model prog w) A env fun e s' => R (.error e) s') s₃
            else ∃ m,m < n ∧ I m s₃) (notedBy (model prog w) A env fun e s' => R (.error e) s') s₂) (notedBy (model prog w) A env fun e s' => R (.error e) s') s₁') (notedBy (model prog w) A env fun e s' => R (.error e) s') s₁) (notedBy (model prog w) A env fun e s' => R (.error e) s') s)
    (n : Nat) (h : I n s) : codeAny (model prog w) A (.compLoop (.ListComp elt [⟨target,iter,ifs,0⟩] scope pos) 0 it acc env) R s := by
  refine codeAny_loop rfl I (fun n s hI => ?_) n h
  show wpAny _ A ((compTurn (.ListComp elt [⟨target,iter,ifs,0⟩] scope pos) 0 it acc env).onRaise (fun x => do noteFrame x env; theTreesLotGoes x)) _ _ s
  refine wpAny_noted ?_
  rw [compTurn_list]
  refine wpAny_bind (wpAny_standAt (wpAny_bind (wpAny_mono (turn n s hI) (fun r s₁ h₁ => ?_) fun _ _ h' => h')))
  cases r with
  | none => exact wpAny_pure h₁
  | some v =>
    refine wpAny_bind (wpAny_mono h₁ (fun _ s₁' h₁' => ?_) fun _ _ h' => h')
    refine wpAny_bind (wpAny_mono h₁' (fun _ s₂ h₂ => wpAny_bind (wpAny_mono h₂ (fun ok s₃ h₃ => ?_) fun _ _ h' => h')) fun _ _ h' => h')
    cases ok with
    | false => exact wpAny_pure ⟨rfl,h₃⟩
    | true =>
      exact wpAny_bind (wpAny_bind (wpAny_mono h₃ (fun x s₄ h₄ => wpAny_bind (wpAny_mono h₄ (fun _ s₅ h₅ => wpAny_pure (wpAny_pure ⟨rfl,h₅⟩)) fun _ _ h' => h')) fun _ _ h' => h'))
end
end Mine
namespace Mine
open PySem PySem.Calls PyProof.Rows
noncomputable def testR (Φ : Nat → List Val → Out Val) (c : T) (ρ : List Val) : Out Bool := ifS c (evA Φ c) ρ
noncomputable def compF (Φ : Nat → List Val → Out Val) (elt : T) (tg : List Nat) (c : T) (ρ : List Val) (d : Dat) : Out (Option Dat) :=
  noX (bindT tg d ρ >>= fun ρ' => testR Φ c ρ' >>= fun b => if b then (ev Φ elt ρ' >>= needD) >>= fun x => .ok (some x) else .ok Option.none)
theorem ev_comp_eq {Φ : Nat → List Val → Out Val} (elt : T) (tg : List Nat) (it c : T) (ρ : List Val) : ev Φ (.comp elt tg it c) ρ = (its Φ it ρ >>= fun ds => compL (compF Φ elt tg c ρ) ds >>= fun r => .ok (.own r)) :=
  Out.bind_assoc (its Φ it ρ) (compL (compF Φ elt tg c ρ)) _
theorem testR_some {Φ : Nat → List Val → Out Val} {c : T} {ρ : List Val} (h : c.isNil = false) : testR Φ c ρ = (ev Φ c ρ >>= boolD) := by
  show cond c.isNil _ _ = _
  rw [h]; rfl
theorem bindM_cases (tg : List Nat) (d : Dat) (ρ : List Val) : bindM tg d ρ = .bad ∨ ∃ ρ',bindM tg d ρ = .ok ρ' := by
  unfold bindM
  cases d with
  | tup ds =>
    cases hs : setAll ρ tg ds with
    | none => simp [hs]
    | some ρ' => simp [hs]
  | _ => exact .inl rfl
theorem bindT_cases (tg : List Nat) (d : Dat) (ρ : List Val) : bindT tg d ρ = .bad ∨ ∃ ρ',bindT tg d ρ = .ok ρ' := by
  cases tg with
  | nil => exact bindM_cases _ _ _
  | cons i r =>
    cases r with
    | nil => exact .inr ⟨_,rfl⟩
    | cons j r => exact bindM_cases _ _ _
theorem RepT.mono {target : Expr} {Z Z' : Led} {h : Heap} {v : Value} {d : Dat} (le : Led.le Z Z') (r : RepT target Z h v d) : RepT target Z' h v d := by
  rcases r with r | ⟨e,T,vs,ds,k,a,b,c,d,f⟩
  · exact .inl (r.mono le)
  · exact .inr ⟨e,T,vs,ds,k,a,b,c,d.mono le,f⟩
theorem Kw.exact {Z : Led} {h h' : Heap} (k : Kw Z h h') {b : Addr} {o o' : Obj} (e : h.get? b = some o') (nf : NoDict o') (e2 : h.get? b = some o) : h'.get? b = some o := by
  rw [e] at e2; cases e2; exact (k b _ e).1 (.inr nf)
section
variable {Γ : Cx} {n : Nat} {Φ : Nat → List Val → Out Val} {A : Around} {env : Env} {Z Z₂ : Led} {s : Shared} {nm : Nm} {ρ : List Val} {m : Str → Option Value} {cs : Scope} {xs : List Str} {tg : List Nat} {target : Expr} {elt c : T}
inductive CAt (s : Shared) (Z Z₂ : Led) (St : Nat → Heap → Prop) (wr : List Addr) (D C : Addr) (F : Dat → Out (Option Dat)) (ds : List Dat) (k : Nat) (s' : Shared) : Prop
  | mk (i : _) (h' : _) (tk : _) (Z' : _) (ys : _) (r : _) (ml : _) : (s' = { s with heap := h',toks := tk }) → (i ≤ ds.length) → (k = ds.length + 1 - i) → St i h' → Grow Z s.heap Z' h' → Led.le Z₂ Z' → ((∀ b ∈ wr,Z' b = none)) → h'.Ns C ml → (Z' C = none) → h'.PlainList D ys.toArray → (Z' D = none) → RepL Z' ys r → (ys.length ≤ i) → ((∀ t,compL F (ds.drop i) = .ok t → compL F ds = .ok (r ++ t))) → (compL F (ds.drop i) ≠ .bad) → CAt s Z Z₂ St wr D C F ds k s'
set_option maxHeartbeats 1000000 in
theorem comp_core (hh : A.handled = none) (K : CompOk nm env cs xs tg) (htg : tgtOk target xs = true) (O : EnvOk env) (AO : AOx Γ nm n A env) (I : Inv Γ nm ρ env Z s.heap m) (helt : SndE Γ n Φ elt) (htst : SndT Γ n Φ c)
    {x : Expr} {ifs : List Expr} (hce : chk Γ.gs elt (cNm nm env cs xs tg) (relabS cs env.scope) x = true) (hct : (ifs = [] ∧ c = .nil) ∨ ∃ t,ifs = [t] ∧ c.isNil = false ∧ chk Γ.gs c (cNm nm env cs xs tg) (relabS cs env.scope) t = true)
    {h₂ : Heap} {tk₂ : Nat} (g₂ : Grow Z s.heap Z₂ h₂) {itv : Value} {ds : List Dat} (hit : ItAt Γ target srcT s.heap Z₂ h₂ itv ds) (hne : compL (compF Φ elt tg c ρ) ds ≠ .bad) {iter : Expr} {pos : Pos} {RR : Value → Addr → Result → Shared → Prop} {E : Value → Shared → Prop}
    (hRR : ∀ D C h' Z' tk ml ys r,compL (compF Φ elt tg c ρ) ds = .ok r → Grow Z s.heap Z' h' → s.heap.get? D = none → s.heap.get? C = none → D ≠ C → Z' D = none → Z' C = none → h'.Ns C ml → h'.PlainList D ys.toArray → ys.length ≤ line → RepL Z' ys r →
      RR (.ref D) C (.ok .next) { s with heap := h',toks := tk }) :
    wpAny (model Γ.prog Γ.w) A (newList []) (fun acc s₃ => wpAny (model Γ.prog Γ.w) A (newFunctionEnv cs env.globals (clOf env cs.names []) [] env.qual none .none (some env)) (fun cenv s₄ =>
      codeAny (model Γ.prog Γ.w) A (.compStart (.ListComp x [⟨target,iter,ifs,0⟩] cs pos) 0 itv acc { cenv with scope := relabel cs env }) (RR acc cenv.locals) s₄) E s₃) E { s with heap := h₂,toks := tk₂ } := by
  obtain ⟨J,fp,wr,P,Md,St,rfl,hlen,W,hst,hwr,hfp,hP⟩ := hit
  have KT := W.k A hh
  refine wpAny_newObj_type (wpAny_newFunctionEnv K.nocell (by intro y hy; simp at hy) (fun h₁ hns₁ hsb₁ => ?_) K.kind)
  dsimp only at hns₁ hsb₁ ⊢
  generalize hH2 : h₂.push { cls := .type "list",dict := none,data := .seq ([] : List Value).toArray } = H2 at hns₁ hsb₁ ⊢
  have hC : H2.objs.size = h₂.objs.size + 1 := by rw [← hH2,Heap.size_push]
  have hDC : h₂.objs.size ≠ H2.objs.size := by rw [hC]; exact Nat.ne_of_lt (Nat.lt_succ_self _)
  have below : ∀ b,b < h₂.objs.size → b ≠ H2.objs.size ∧ b ≠ h₂.objs.size := fun b hb => ⟨by rw [hC]; exact Nat.ne_of_lt (Nat.lt_succ_of_lt hb),Nat.ne_of_lt hb⟩
  have old : ∀ b o,h₂.get? b = some o → h₁.get? b = some o := fun b o e => hsb₁.extBut b o (below b (Heap.lt_size e)).1 (Heap.get?_push_of_some _ (hH2 ▸ Heap.get?_push_of_some _ e))
  have fpl : ∀ b ∈ fp,b < h₂.objs.size := fun b hb => let ⟨o,e,_⟩ := W.live 0 h₂ hst b hb; Heap.lt_size e
  have hDf : h₂.objs.size ∉ fp := fun hm => Nat.lt_irrefl _ (fpl _ hm)
  have hCf : H2.objs.size ∉ fp := fun hm => by have := fpl _ hm; rw [hC] at this; exact Nat.lt_irrefl _ (Nat.lt_of_succ_lt this)
  have freshD : h₂.get? h₂.objs.size = none := get_size _
  have freshC : h₂.get? H2.objs.size = none := Heap.get?_none_of_le (by rw [hC]; exact Nat.le_succ _)
  generalize hCn : H2.objs.size = C at *
  generalize hDn : h₂.objs.size = D at *
  have sD : s.heap.get? D = none := g₂.kp.none freshD
  have sC : s.heap.get? C = none := g₂.kp.none freshC
  have bC : Γ.base.get? C = none := I.kb.none sC
  have hacc : h₁.PlainList D #[] := ⟨_,hsb₁.extBut _ _ hDC (Heap.get?_push_of_some _ (hH2 ▸ hDn ▸ Heap.get?_push_size _ rfl))⟩
  have hst₁ : St 0 h₁ := KT.frame _ _ _ hst fun b _ o e => old b o e
  have g₁ : Grow Z s.heap Z₂ h₁ := g₂.trans (Grow.keep g₂.sub g₂.ok (Kp.of old))
  have hDw : D ∉ wr := fun h => hDf (KT.sub _ h)
  have hCw : C ∉ wr := fun h => hCf (KT.sub _ h)
  have O' : EnvOk (cEnv env cs C) := ⟨K.kind,O.glob,O.bui⟩
  have AO' : AOx Γ (cNm nm env cs xs tg) n A (cEnv env cs C) := ⟨AO.toAOk,fun _ => hh,AO.fr⟩
  have TG : TgOk (cNm nm env cs xs tg) (cEnv env cs C) xs tg := ⟨K.len,fun k y i h1 h2 => ⟨zip_lookup_self xs tg _ k y i K.nd h1 h2,.inl (K.loc y (List.mem_of_getElem? h1))⟩⟩
  have HW : ∀ y ∈ xs,StW (fun b => b = C) (cEnv env cs C) y := fun y hy => ⟨fun _ => rfl,fun c k _ => by
    have : (relabS cs env.scope).names.lookup y = some .cell := k
    rw [K.loc y hy] at this; cases this⟩
  have loop : ∀ s₃ : Shared,s₃ = { s with heap := h₁,toks := tk₂ + ([] : List (Str × Value)).length } →
      codeAny (model Γ.prog Γ.w) A (.compLoop (.ListComp x [⟨target,iter,ifs,0⟩] cs pos) 0 (.ref J) (.ref D) (cEnv env cs C)) (RR (.ref D) C) s₃ := by
    rintro s₃ rfl
    refine compLoop_any (CAt s Z Z₂ St wr D C (compF Φ elt tg c ρ) ds) ?_ (ds.length + 1)
      ⟨0,h₁,_,Z₂,[],[],_,rfl,Nat.zero_le _,rfl,hst₁,g₁,fun _ _ e => e,fun b hb => (hwr b hb).2,hns₁,led_none g₂.sub freshC,hacc,led_none g₂.sub freshD,.nil,Nat.le_refl _,fun t e => e,hne⟩
    rintro k s' ⟨i,H,tk,Z',ys,r,ml,rfl,hi,rfl,st,G,le,zw,hns,zC,pl,zD,rl,hys,htail,hnb⟩
    by_cases hlt : i < ds.length
    · refine KT.item i _ _ _ hlt st fun v H1 tk1 hMd keep1 => KT.go i v _ _ _ hMd fun H2 hPv st2 keep2 => ?_
      have kp2 : ∀ b o,¬ b ∈ wr → H.get? b = some o → H2.get? b = some o := fun b o hb e => keep2 b o hb (keep1 b o hb e)
      have G2 : Grow Z s.heap Z' H2 := G.write kp2 fun b hb => ⟨(hwr b hb).1,zw b hb⟩
      have hns2 : H2.Ns C ml := hns.at' fun o e => kp2 _ o hCw e
      have pl2 : H2.PlainList D ys.toArray := pl.at fun o e => kp2 _ o hDw e
      have hd : ds[i]? = some ds[i] := List.getElem?_eq_getElem hlt
      have hdrop : ds.drop i = ds[i] :: ds.drop (i + 1) := List.drop_eq_getElem_cons hlt
      generalize hdi : ds[i] = d at hd hdrop
      have hfd : compF Φ elt tg c ρ d ≠ .bad := fun q => hnb (by rw [hdrop,compL,q]; rfl)
      have IN := (I.grow G2).comp K hns2 zC bC
      rcases bindT_cases tg d ρ with q | ⟨ρ',hb⟩
      · exact absurd (by unfold compF; rw [q]; rfl) hfd
      have hfd' : (testR Φ c ρ' >>= fun b => if b then (ev Φ elt ρ' >>= needD) >>= fun x => .ok (some x) else .ok Option.none) ≠ .bad := fun q => hfd (by unfold compF; rw [hb]; show noX _ = _; rw [Out.bind_ok,q]; rfl)
      have hnx : ∀ k,(testR Φ c ρ' >>= fun b => if b then (ev Φ elt ρ' >>= needD) >>= fun x => .ok (some x) else .ok Option.none) ≠ .exn k := fun k q => hfd (by unfold compF; rw [hb]; show noX _ = _; rw [Out.bind_ok,q]; rfl)
      refine assign_tgt (s := { s with heap := H2,toks := tk1 }) O'.kind hh htg TG HW ((hP i v H2 d hPv hd).mono le) (by rw [bindT_un K.ndt]; exact hb) IN fun H3 tk3 m3 P3 keep3 => ?_
      have G3 : Grow Z s.heap Z' H3 := G2.write keep3 fun b hb => by subst hb; exact ⟨sC,zC⟩
      have pl3 : H3.PlainList D ys.toArray := pl2.at fun o e => keep3 _ o hDC e
      have st3 : St (i + 1) H3 := KT.frame _ _ _ st2 fun b hb o e => keep3 b o (fun q => hCf (q ▸ hb)) e
      obtain ⟨ml3,hns3,_⟩ := P3.inv.fr.loc
      have hns3 : H3.Ns C ml3 := hns3
      have exC : ∃ o,H3.get? C = some o := let ⟨o,_,_,e,_⟩ := hns3; ⟨o,e⟩
      have exD : ∃ o,H3.get? D = some o := let ⟨_,e⟩ := pl3; ⟨_,e⟩
      have next : ∀ Z4 h4 tk4 ys' r',Grow Z' H3 Z4 h4 → (∀ (h5 : Heap),(∀ b o,¬ b = D → h4.get? b = some o → h5.get? b = some o) → h5.PlainList D ys'.toArray → RepL Z4 ys' r' → ys'.length ≤ i + 1 →
          (∀ t,compL (compF Φ elt tg c ρ) (ds.drop (i + 1)) = .ok t → compL (compF Φ elt tg c ρ) ds = .ok (r' ++ t)) → compL (compF Φ elt tg c ρ) (ds.drop (i + 1)) ≠ .bad →
          ∃ k,k < ds.length + 1 - i ∧ CAt s Z Z₂ St wr D C (compF Φ elt tg c ρ) ds k { s with heap := h5,toks := tk4 }) := by
        intro Z4 h4 tk4 ys' r' g4 h5 k5 pl5 rl5 hl5 ht5 hn5
        obtain ⟨oC,eC⟩ := exC
        obtain ⟨oD,eD⟩ := exD
        have zD4 : Z4 D = none := g4.none zD eD
        have zC4 : Z4 C = none := g4.none zC eC
        have zw4 : ∀ b ∈ wr,Z4 b = none := fun b hb => let ⟨o,e,_⟩ := W.live _ _ st3 b (KT.sub b hb); g4.none (zw b hb) e
        have G5 : Grow Z s.heap Z4 h5 := (G3.trans g4).write k5 fun b hb => by subst hb; exact ⟨sD,zD4⟩
        refine ⟨ds.length + 1 - (i + 1),by lia,i + 1,h5,tk4,Z4,ys',r',ml3,rfl,hlt,rfl,?_,G5,fun a o e => g4.le a o (le a o e),zw4,?_,zC4,pl5,zD4,rl5,hl5,ht5,hn5⟩
        · refine KT.frame _ _ _ st3 fun b hb o e => ?_
          obtain ⟨o',e',nf⟩ := W.live _ _ st3 b hb
          exact k5 b o (fun q => hDf (q ▸ hb)) (g4.kp.exact e' nf.1 e)
        · exact (g4.kp.ns hns3).at' fun o e => k5 C o hDC.symm e
      have takes : ∀ Z4 h4 tk4,Grow Z' H3 Z4 h4 → testR Φ c ρ' = .ok true → wpAny (model Γ.prog Γ.w) A (eval x (cEnv env cs C)) (fun u s₄ => wpAny (model Γ.prog Γ.w) A (call (.builtin "list.append") [.ref D,u]) (fun _ s₅ => ∃ k,k < ds.length + 1 - i ∧ CAt s Z Z₂ St wr D C (compF Φ elt tg c ρ) ds k s₅)
          (notedBy (model Γ.prog Γ.w) A (cEnv env cs C) fun e s' => RR (.ref D) C (.error e) s') s₄) (notedBy (model Γ.prog Γ.w) A (cEnv env cs C) fun e s' => RR (.ref D) C (.error e) s') { s with heap := h4,toks := tk4 } := by
        intro Z4 h4 tk4 g4 ht
        rw [ht] at hfd' hnx
        simp only [Out.bind_ok,if_true] at hfd' hnx
        refine (helt _ ρ' A (cEnv env cs C) Z4 { s with heap := h4,toks := tk4 } m3 x hce O' AO' (P3.inv.grow g4)).toD (fun q => hfd' (by rw [q]; rfl)) _ _ (fun y u Z5 h5 tk5 e5 g5 r5 => ?_) fun k _ _ _ _ q _ _ => absurd (by rw [q]; rfl) (hnx k)
        have g45 := g4.trans g5
        have e6 : compF Φ elt tg c ρ d = .ok (some y) := by unfold compF; rw [hb,Out.bind_ok,ht,Out.bind_ok,if_pos rfl,e5]; rfl
        have pl5 : h5.PlainList D ys.toArray := g45.kp.plain pl3
        refine wpAny_list_append_plain (s := { s with heap := h5,toks := tk5 }) (hsz := by simp [sizeLine]; unfold line at hlen; lia) pl5 fun h6 pl6 hs6 => ?_
        have e7 : ∀ t,compL (compF Φ elt tg c ρ) (ds.drop (i + 1)) = .ok t → compL (compF Φ elt tg c ρ) ds = .ok ((r ++ [y]) ++ t) := fun t et => by
          have := htail (y :: t) (by rw [hdrop,compL,e6]; show (compL _ _ >>= _) = _; rw [et]; rfl)
          rw [this,List.append_assoc]; rfl
        refine next Z5 h5 tk5 (ys ++ [u]) (r ++ [y]) g45 h6 (fun b o hb e => hs6.extBut b o hb e) (by simpa using pl6) ((rl.mono g45.le).append (.one r5)) (by simp; lia) e7 (fun q => hnb ?_)
        rw [hdrop,compL,e6]; show (compL _ _ >>= _) = _; rw [q]; rfl
      rcases hct with ⟨rfl,rfl⟩ | ⟨t,rfl,hcn,hct⟩
      · refine wpAny_tests_nil ?_
        rw [if_pos rfl]
        exact takes Z' H3 tk3 (Grow.refl G3.sub G3.ok) rfl
      · refine wpAny_tests_one ?_
        have et : testR Φ c ρ' = (ev Φ c ρ' >>= boolD) := testR_some hcn
        refine htst _ ρ' A (cEnv env cs C) Z' { s with heap := H3,toks := tk3 } m3 t hct O' AO' P3.inv (fun q => hfd' (by rw [et,q]; rfl)) _ _ (fun b b' Z4 h4 tk4 e4 g4 hbb => ?_) fun k _ _ _ _ q _ _ => absurd (by rw [et,q]; rfl) (hnx k)
        have hbb : b' = b := hbb
        subst hbb
        cases b' with
        | true => rw [if_pos rfl]; exact takes Z4 h4 tk4 g4 (et.trans e4)
        | false =>
          rw [if_neg (by decide)]
          have e6 : compF Φ elt tg c ρ d = .ok Option.none := by unfold compF; rw [hb,Out.bind_ok,et,e4]; rfl
          exact next Z4 h4 tk4 ys r g4 h4 (fun _ _ _ e => e) (g4.kp.plain pl3) (rl.mono g4.le) (by lia) (fun t' e' => htail t' (by rw [hdrop,compL,e6]; exact e')) (fun q => hnb (by rw [hdrop,compL,e6]; exact q))
    · have hin : i = ds.length := by lia
      subst hin
      refine KT.done _ _ _ st fun H1 tk1 keep1 => ?_
      have e0 := htail [] (by rw [List.drop_length]; rfl)
      rw [List.append_nil] at e0
      exact hRR D C H1 Z' tk1 ml ys r e0 (G.write keep1 fun b hb => ⟨(hwr b hb).1,zw b hb⟩) sD sC hDC zD zC (hns.at' fun o e => keep1 _ o hCw e) (pl.at fun o e => keep1 _ o hDw e) (Nat.le_trans hys hlen) rl
  exact codeAny_compStart_list (loop _ rfl) (W.self A _ _ _ hst₁ (loop _ rfl))
end
end Mine
namespace Mine
open PySem PySem.Calls PyProof.Rows
theorem notSet_folded {iter : Expr} (h : notSet iter = true) (env : Env) : ∀ x,foldedSetIterable iter env x = pure x := by
  intro x
  cases iter <;> first | rfl | exact (Bool.false_ne_true h).elim
section
variable {Γ : Cx} {n : Nat} {Φ : Nat → List Val → Out Val} {A : Around} {env : Env} {Z Z₂ : Led} {s : Shared} {nm : Nm} {ρ : List Val} {m : Str → Option Value} {cs : Scope} {xs : List Str} {tg : List Nat} {target : Expr} {elt it c : T}
theorem zipTo_tg {it : T} (hz : (!it.isZip || tg.length == 2) = true) (ht : tgtOk target xs = true) (hl : xs.length = tg.length) : zipTg it target := fun h => by
  rw [h] at hz
  have hz : tg.length = 2 := beq_inv hz
  rw [hz] at hl
  cases xs with
  | nil => cases hl
  | cons x r => cases r with
    | nil => cases hl
    | cons => exact onTuple_inv ht fun es q p he _ => ⟨es,q,p,he⟩
theorem notb {a b : Bool} (h : (!a || b) = true) (ha : a = true) : b = true := by subst ha; exact h
theorem comp_ok {x iter : Expr} {ifs : List Expr} (K : CompChk Γ.gs elt it c tg nm env.scope x target iter ifs cs xs) : CompOk nm env cs xs tg ∧ zipTg it target := by
  have k := and4 K.sco
  have t := and4 (and_inv K.tgs).1
  have hl : xs.length = tg.length := beq_inv t.2.2.2
  refine ⟨⟨beq_inv k.1,fun p hp e => ?_,fun p hp e => ?_,fun p hp e => ?_,fun y hy => ?_,of_decide_eq_true t.2.1,of_decide_eq_true t.2.2.1,hl,fun i hi p hp e => ?_⟩,zipTo_tg K.zip K.tgt hl⟩
  · have := List.all_eq_true.mp k.2.1 p hp; rw [e] at this; cases this
  · exact beq_inv (notb (List.all_eq_true.mp k.2.2.1 p hp) (by rw [e]; rfl))
  · exact beq_inv (and_inv (notb (List.all_eq_true.mp k.2.2.2 p hp) (by rw [e]; rfl))).2
  · exact beq_inv (and_inv (List.all_eq_true.mp t.1 y hy)).1
  · have := List.all_eq_true.mp (List.all_eq_true.mp (and_inv K.tgs).2 i hi) p hp
    rw [e] at this
    simp at this
theorem snd_comp (helt : SndE Γ n Φ elt) (hit : SndI Γ n Φ it) (hc' : SndT Γ n Φ c) : SndE Γ n Φ (.comp elt tg it c) := fun nm ρ A env Z s m e hc O AO I => inv_comp hc fun x target iter ifs cs pos xs he CK => by
  subst he
  obtain ⟨K,hz⟩ := comp_ok CK
  rw [ev_comp_eq]
  intro hne Q E hQ hE
  show wpAny _ _ (eval (.ListComp x [⟨target,iter,ifs,0⟩] cs pos) env) Q E s
  rw [eval_ListComp]
  refine wpAny_comprehension_free (use := none) rfl (notSet_folded CK.set env) (closure_is env cs (K.cl I.fr)) K.kind K.locs ?_
  refine hit nm ρ A env Z s m target iter CK.iter hz O AO I (fun b => hne (by rw [b]; rfl)) _ E (fun ds itv Z₂ h₂ tk₂ e₂ g₂ q => ?_) fun k e Z₂ h₂ tk₂ q g xp => hE k e Z₂ h₂ tk₂ (by rw [q]; rfl) g xp
  rw [e₂] at hne hQ
  refine comp_core (RR := fun acc C => compPost (model Γ.prog Γ.w) A E none Q acc C) (AO.hd (loud_comp hc)) K CK.tgt O AO I helt hc' CK.elt CK.ifs g₂ q (fun b => hne (by rw [Out.bind_ok,b]; rfl)) fun D C h' Z' tk ml ys r er G sD sC hDC zD zC hns pl hl rl => ⟨ml,hns,fun h'' hs => ?_⟩
  have G' : Grow Z s.heap Z' h'' := G.write (W := fun b => b = C) (fun b o hb e => hs.extBut b o hb e) fun b hb => by subst hb; exact ⟨sC,zC⟩
  exact hQ (.own r) (.ref D) Z' h'' tk (by rw [Out.bind_ok,er]; rfl) G' ⟨D,rfl,sD,ys,zD,pl.at fun o e => hs.extBut D o hDC e,hl,rl⟩
theorem ShopIs.inst {h : Heap} {v : Value} {ns ps : List Dat} (sub : ∀ a o,Z a = some o → h.get? a = some o) (x : ShopIs Γ.shopC Z v ns ps) :
    ∃ a dx od es n e₁ e₂,v = .ref a ∧ PySem.W.InstAt h a (shopObj Γ.shopC dx) Γ.shopC (some (dictObj od es n)) ∧ es.find? (·.key.isStr "names") = some e₁ ∧ es.find? (·.key.isStr "prices") = some e₂ ∧ es.find? (·.key.isStr "place") = none ∧ es.any (·.refKey) = false ∧ Rep Z e₁.val (.lst ns) ∧ Rep Z e₂.val (.lst ps) := by
  obtain ⟨a,dx,od,es,n,e₁,e₂,rfl,h1,h2,h3,h4,h5,h6,h7,h8⟩ := x
  exact ⟨a,dx,od,es,n,e₁,e₂,rfl,⟨sub _ _ h1,rfl,rfl,sub _ _ h2⟩,h3,h4,h5,h6,h7,h8⟩
theorem handed_rep {v : Value} {d : Dat} (r : Rep Z v d) : PySem.W.handedIn v = true := by cases r <;> rfl
theorem snd_attr (C : CxOk Γ) {k : Bool} {a : T} (ha : SndE Γ n Φ a) : SndE Γ n Φ (.attr k a) := fun nm ρ A env Z s m e hc O AO I => inv_attr hc fun o pos he h1 h2 => by
  subst he
  show EvT Γ A env Z s _ (ev Φ a ρ >>= attr1 k) _
  refine EvT.rule (fun Q E h => Attribute_any_ h (by rw [arm_eval_Attribute,base_plain h1])) (EvT.bind (W2 := fun v => wpt Γ A (getAttr v (attrN k) true)) (ha nm ρ A env Z s m o h2 O AO I) fun x v Z' h' tk ex g p => ?_)
  clear ex
  cases x <;> first | exact .bad | skip
  rename_i ns ps
  refine cps fun P_ hP_ => ?_
  obtain ⟨b,dx,od,es,nn,e₁,e₂,rfl,IA,f1,f2,f3,f4,r1,r2⟩ := ShopIs.inst g.sub p
  refine hP_ ?_
  clear hP_ P_
  have X := C.kin h' (I.grow g).kb
  obtain ⟨cd,hcd,hdict⟩ := C.shop.cd
  have key : ∀ e : DictEntry,es.find? (·.key.isStr (attrN k)) = some e → PySem.W.findObj Γ.K Γ.shopC (some (dictObj od es nn)) (attrN k) = some (.value e.val) := fun e he => by
    have : PySem.W.ownOf cd (some (dictObj od es nn)) (attrN k) = some (some e.val) := by
      refine (if_pos hdict).trans ?_
      show (match es.find? (·.key.isStr (attrN k)) with | some e => some (some e.val) | none => if es.any (·.refKey) then none else some none) = _
      rw [he]
    unfold PySem.W.findObj
    rw [hcd,Option.bind_some,C.shop.at_ k,Option.bind_some]
    exact (congrArg (Option.bind · _) this).trans rfl
  cases k with
  | false => exact EvT.data g.sub g.ok fun Q E hQ => PySem.W.get_value X IA C.shop.ga (key e₁ f1) (handed_rep r1) (hQ _ _ _ (.refl _) r1)
  | true => exact EvT.data g.sub g.ok fun Q E hQ => PySem.W.get_value X IA C.shop.ga (key e₂ f2) (handed_rep r2) (hQ _ _ _ (.refl _) r2)
structure AOc (Γ : Cx) (i n : Nat) (A : Around) : Prop extends AOk n A where
  hd : quietFn i = false → A.handled = none
  fr : ∃ l,A.frames = some l ∧ ∀ e ∈ l,e.scope.kind ≠ .module ∧ ∃ L,e.frame = some L ∧ L ∈ Γ.up
structure Gnd (Γ : Cx) (Z : Led) (h : Heap) : Prop where
  sub : ∀ a o,Z a = some o → h.get? a = some o
  ok : ∀ a o,Z a = some o → Tt o
  kz : ∀ a o,Γ.base.get? a = some o → Z a = some o
  ups : ∀ L ∈ Γ.up,Z L = none ∧ ∃ o es k,h.get? L = some o ∧ o.data = .dict es k
theorem Inv.gnd {h : Heap} (I : Inv Γ nm ρ env Z h m) : Gnd Γ Z h := ⟨I.sub,I.ok,I.kz,I.ups⟩
theorem Gnd.kb {h : Heap} (G : Gnd Γ Z h) : Kp Γ.base h := fun a o e => G.sub a o (G.kz a o e)
theorem AOx.call (AO : AOx Γ nm n A env) {f : Nat} (h : loud nm = true ∨ quietFn f = true) : AOc Γ f n A := by
  obtain ⟨e₀,l,h1,_,h3⟩ := AO.fr
  exact ⟨AO.toAOk,fun q => h.elim AO.hd (fun w => by rw [w] at q; cases q),e₀ :: l,h1,h3⟩
noncomputable def SndC (Γ : Cx) (n : Nat) (Φ : Nat → List Val → Out Val) : Prop :=
  ∀ (i : Nat) (f : Addr),FnIs Γ f i → ∀ (A : Around) (env : Env) (Z : Led) (s : Shared) (vs : List Value) (xs : List Val),AOc Γ i n A → Gnd Γ Z s.heap → RepVs Γ Z s.heap vs xs →
    EvT Γ A env Z s (PW Γ s.heap) (Φ i xs) (wpt Γ A (call (.ref f) vs))
theorem FnIs.at_ {f : Addr} {i : Nat} (F : FnIs Γ f i) {h : Heap} (k : Kp Γ.base h) : h.get? f = some F.o := k f F.o F.here
theorem callWith_fn {f : Addr} {i : Nat} (F : FnIs Γ f i) {first : List Value} {pos : Pos} {es : List Expr} {ts : T} (hc : chkT Γ.gs ts nm env.scope es = true) {Q E : Value → Shared → Prop}
    (h : wpAny (model Γ.prog Γ.w) A (spliced (backTo pos (starEach es env))) (fun vs s' => Kp Γ.base s'.heap ∧ wpAny (model Γ.prog Γ.w) A (call (.ref f) (first ++ vs)) Q E s') E s) :
    wpAny (model Γ.prog Γ.w) A (callWith pos (.ref f) first (backTo pos (starEach es env)) []) Q E s :=
  callWith_function (o := F.o) (fd := F.fd) (evalArgs_all hc (wpAny_mono h (fun vs s' h' => ⟨⟨F.at_ h'.1,F.data⟩,h'.2⟩) fun _ _ e => e))
theorem snd_call (C : CxOk Γ) (HC : SndC Γ n Φ) {f : Nat} {ts : T} (H : SndL Γ n Φ ts) : SndE Γ n Φ (.call f ts) := fun nm ρ A env Z s m e hc O AO I => inv_call hc fun x p es pos he h1 h2 h3 => by
  subst he
  obtain ⟨k,l⟩ := globOf_kind h2
  obtain ⟨a,ha,⟨F⟩⟩ := C.gl _ _ l
  show EvT Γ A env Z s _ (evT Φ ts ρ >>= Φ f) _
  refine EvT.rule (fun Q E h => Call_ (load_glob O C.g I k ha h1 (callWith_fn F h3 h))) (EvT.bind (W2 := fun vs Q E s' => Kp Γ.base s'.heap ∧ wpAny (model Γ.prog Γ.w) A (call (.ref a) ([] ++ vs)) Q E s') (H nm ρ A env Z s m es pos h3 O AO I) fun xs vs Z' h' tk _ g q => ?_)
  have kb := (I.grow g).kb
  have := EvT.old g (HC f a F A env Z' { s with heap := h',toks := tk } vs xs (AO.call (loud_call hc)) (I.grow g).gnd q.1)
  exact fun hne Q E hQ hE => ⟨kb,this hne Q E hQ hE⟩
theorem snd_mcall (C : CxOk Γ) (HC : SndC Γ n Φ) {f : Nat} {a ts : T} (ha : SndE Γ n Φ a) (H : SndL Γ n Φ ts) : SndE Γ n Φ (.mcall f a ts) := fun nm ρ A env Z s m e hc O AO I => inv_mcall hc fun o ap es cp he h3 h2 h4 h5 h6 h7 => by
  subst he
  refine cps fun P_ hP_ => ?_
  obtain ⟨b,hb,hty,⟨F⟩⟩ := C.gl _ _ h5
  refine hP_ ?_
  clear hP_ P_
  show EvT Γ A env Z s _ (ev Φ a ρ >>= mcall1 Φ f (evT Φ ts ρ)) _
  refine EvT.rule (fun Q E h => Call_meth h2 h3 (chkT_plain h7) h4 h) (EvT.bind (W2 := fun ov Q E s₁ => ∀ pl,wpAny (model Γ.prog Γ.w) A (getMethod ov "place" pl) (fun fx s₂ => wpAny (model Γ.prog Γ.w) A (callWith cp fx.1 fx.2 (backTo cp (starEach es env)) []) Q E s₂) E s₁) (ha nm ρ A env Z s m o h6 O AO I) fun x v Z' h' tk ex g p => ?_)
  clear ex
  cases x <;> first | exact .bad | skip
  rename_i ns ps
  refine cps fun P_ hP_ => ?_
  obtain ⟨q,dx,od,es',nn,e₁,e₂,rfl,IA,f1,f2,f3,f4,r1,r2⟩ := ShopIs.inst g.sub p
  refine hP_ ?_
  clear hP_ P_
  have kb := (I.grow g).kb
  have X := C.kin h' kb
  have hsh : PySem.W.shadowIn (some (dictObj od es' nn)) "place" = some false := by
    simp only [PySem.W.shadowIn,PySem.W.lookIn,dictObj,f3,f4]
    rfl
  refine EvT.rule (fun Q E h pl => PySem.W.method_fn X IA C.shop.ga C.shop.gk hb hty hsh (callWith_fn F h7 h)) (EvT.bind (W2 := fun vs Q E s' => Kp Γ.base s'.heap ∧ wpAny (model Γ.prog Γ.w) A (call (.ref b) ([.ref q] ++ vs)) Q E s') (H nm ρ A env Z' _ m es cp h7 O AO (I.grow g)) fun xs vs Z2 h2' tk2 _ g2 r => ?_)
  have kb2 := ((I.grow g).grow g2).kb
  have := EvT.old (g.trans g2) (HC f b F A env Z2 { s with heap := h2',toks := tk2 } (.ref q :: vs) (.shop ns ps :: xs) (AO.call (.inl (loud_mcall hc))) ((I.grow g).grow g2).gnd (.cons (ShopIs.mono g2.le p) rfl r.1))
  exact fun hne Q E hQ hE => ⟨kb2,this hne Q E hQ hE⟩
end
end Mine
namespace Mine
open PySem PySem.Calls PyProof.Rows
section
variable {Γ : Cx} {n : Nat} {Φ : Nat → List Val → Out Val} {A : Around} {env : Env} {Z Z₂ : Led} {s : Shared} {nm : Nm} {ρ : List Val} {m : Str → Option Value}
theorem snd_dget (C : CxOk Γ) {k : List (List Nat × Int)} {a : T} (ha : SndE Γ n Φ a) : SndE Γ n Φ (.dget k a) := fun nm ρ A env Z s m e hc O AO I => inv_dget hc fun x px slice pos he h1 h2 h3 h4 => by
  subst he
  refine cps fun P_ hP_ => ?_
  obtain ⟨kk,l⟩ := globOf_kind h3
  obtain ⟨b,f,hb,hsys,hmap,hf⟩ := C.gl _ _ l
  refine hP_ ?_
  clear hP_ P_
  refine EvT.rule (fun Q E h => Subscript_ (load_glob O C.g I kk hb h1 h)) (EvT.bind (f := dg1 k) (W2 := fun i => wpt Γ A (subscriptTail (.Name x px) slice (.ref b) i)) (ha nm ρ A env Z s m slice h4 O AO I).toB fun d v Z' h' tk ex g p => ?_)
  clear ex
  cases d <;> first | exact .bad | skip
  obtain ⟨z,t,rfl,rfl,oz,lz⟩ := p.str
  have hm := hmap h' (I.grow g).kb
  show EvT Γ A env Z' _ _ (lkI (k.lookup z.cps.toList)) _
  rcases hf z with ⟨h1,h2⟩ | ⟨i,t',h1,h2'⟩
  · rw [h1]; exact .bad
  · rw [h1]
    exact EvT.data g.sub g.ok fun Q E hQ => tail_any (s := { s with heap := h',toks := tk }) hm.typeIs slot_dict_getitem.lookup (wpAny_getItem_of (strKind_is Γ.prog Γ.w z t) hm h2' (hQ _ _ _ (.refl _) (.int i t'))) (subscripted_plain h2 _ _)
theorem snd_dinK (C : CxOk Γ) {k : List (List Nat × Int)} {nn : Bool} {a : T} (ha : SndE Γ n Φ a) {l : Expr} {x : Str} {px : Pos} (hl : chk Γ.gs a nm env.scope l = true) (hd : notDebug x = true) (hg : globOf Γ.gs env.scope x = some (.dict k)) (O : EnvOk env) (AO : AOx Γ nm n A env) (I : Inv Γ nm ρ env Z s.heap m) :
    EvT Γ A env Z s PBo (ev Φ a ρ >>= needB >>= din1 k nn)
      (fun Q E s => wpAny (model Γ.prog Γ.w) A (eval l env) (fun v s₁ => wpAny (model Γ.prog Γ.w) A (eval (.Name x px) env) (fun u s₂ => wpAny (model Γ.prog Γ.w) A (compareOp (cond nn .NotIn .In) v u) Q E s₂) E s₁) E s) := by
  refine cps fun P_ hP_ => ?_
  obtain ⟨kk,lk⟩ := globOf_kind hg
  obtain ⟨b,f,hb,hsys,hmap,hf⟩ := C.gl _ _ lk
  refine hP_ ?_
  clear hP_ P_
  refine EvT.bind (ha nm ρ A env Z s m l hl O AO I).toB fun d v Z' h' tk ex g p => ?_
  clear ex
  cases d <;> first | exact .bad | skip
  obtain ⟨z,t,rfl,rfl,oz,lz⟩ := p.str
  have hm := hmap h' (I.grow g).kb
  have e0 : (f z).isSome = (k.lookup z.cps.toList).isSome := by
    rcases hf z with ⟨h1,h2⟩ | ⟨i,t',h1,h2⟩ <;> rw [h1,h2] <;> rfl
  refine EvT.rule (fun Q E h => load_glob O C.g (I.grow g) kk hb hd h) ?_
  show EvT Γ A env Z' _ PBo (.ok ((k.lookup z.cps.toList).isSome != nn)) _
  rw [← e0]
  cases nn
  · exact EvT.now g.sub g.ok fun Q E hQ => wpAny_in_of (strKind_is Γ.prog Γ.w z t) hsys hm (hQ _ _ _ (.refl _) (by cases f z <;> rfl))
  · exact EvT.now g.sub g.ok fun Q E hQ => wpAny_notIn_of (strKind_is Γ.prog Γ.w z t) hsys hm (hQ _ _ _ (.refl _) (by cases f z <;> rfl))
theorem snd_din (C : CxOk Γ) {k : List (List Nat × Int)} {nn : Bool} {a : T} (ha : SndE Γ n Φ a) : SndE Γ n Φ (.din k nn a) ∧ SndT Γ n Φ (.din k nn a) :=
  have hm : ∀ x p,behindInMarks (cond nn .NotIn .In) (.Name x p) = false := fun _ _ => by cases nn <;> rfl
  ⟨fun nm ρ A env Z s m e hc O AO I => inv_din hc fun l x q p he h1 h2 h3 => by
    subst he
    exact EvT.rule (fun Q E h => wpAny_Compare1 h (hm _ _)) (EvT.ofBool (snd_dinK C ha h3 h1 h2 O AO I)),
  fun nm ρ A env Z s m e hc O AO I => inv_din hc fun l x q p he h1 h2 h3 => by
    subst he
    exact EvT.rule (fun Q E h => wpAny_isTrue_Compare1 h (hm _ _)) (EvT.test (snd_dinK C ha h3 h1 h2 O AO I))⟩
end
end Mine
namespace Mine
open PySem PySem.Calls PyProof.Rows
noncomputable def FlIs (Γ : Cx) (nm : Nm) (ρ : List Val) (m : Str → Option Value) (h₀ : Heap) (Z : Led) (h : Heap) : Fl → Flow → Prop
  | .next,f => f = .next
  | .ret v,f => ∃ u,f = .ret u ∧ RepV Γ Z (fun a => h₀.get? a = none ∨ OwnAt nm ρ m a) h u v
noncomputable def Lv (Γ : Cx) (nm : Nm) (env : Env) (Z : Led) (h : Heap) (ρ : List Val) (m : Str → Option Value) (c : Nat) (e : Value) (Z' : Led) (h' : Heap) : Prop := (∃ m',Post Γ nm env Z h ρ m Z' h' [] m') ∧ XP Γ env.frame c e Z' h h'
noncomputable abbrev OnQ (Γ : Cx) (nm : Nm) (env : Env) (Z : Led) (s : Shared) (ρ : List Val) (m : Str → Option Value) (r : Out (Fl × List Val)) (Q : Flow → Shared → Prop) : Prop := ∀ fl ρ' f Z' h' tk m',r = .ok (fl,ρ') → Post Γ nm env Z s.heap ρ m Z' h' ρ' m' → FlIs Γ nm ρ m s.heap Z' h' fl f → Q f { s with heap := h',toks := tk }
noncomputable abbrev OnE (Γ : Cx) (nm : Nm) (env : Env) (Z : Led) (s : Shared) (ρ : List Val) (m : Str → Option Value) (r : Out (Fl × List Val)) (E : Value → Shared → Prop) : Prop := ∀ c e Z' h' tk,r = .exn c → Lv Γ nm env Z s.heap ρ m c e Z' h' → E e { s with heap := h',toks := tk }
noncomputable def StT (Γ : Cx) (nm : Nm) (env : Env) (Z : Led) (s : Shared) (ρ : List Val) (m : Str → Option Value) (r : Out (Fl × List Val)) (W : Tr Flow) : Prop :=
  r ≠ .bad → ∀ Q E,OnQ Γ nm env Z s ρ m r Q → OnE Γ nm env Z s ρ m r E → W Q E s
noncomputable def SndS (Γ : Cx) (n : Nat) (Φ : Nat → List Val → Out Val) (t : T) : Prop :=
  ∀ (nm : Nm) (ρ : List Val) (A : Around) (env : Env) (Z : Led) (s : Shared) (m : Str → Option Value) (st : Stmt),chkS Γ.gs t nm env.scope st = true → EnvOk env → AOx Γ nm n A env → Inv Γ nm ρ env Z s.heap m →
    StT Γ nm env Z s ρ m (ex Φ t ρ) (wpt Γ A (exec st env))
noncomputable def SndB (Γ : Cx) (n : Nat) (Φ : Nat → List Val → Out Val) (t : T) : Prop :=
  ∀ (nm : Nm) (ρ : List Val) (A : Around) (env : Env) (Z : Led) (s : Shared) (m : Str → Option Value) (ss : List Stmt),chkB Γ.gs t nm env.scope ss = true → EnvOk env → AOx Γ nm n A env → Inv Γ nm ρ env Z s.heap m →
    StT Γ nm env Z s ρ m (ex Φ t ρ) (wpt Γ A (execs ss env))
section
variable {Γ : Cx} {n : Nat} {Φ : Nat → List Val → Out Val} {A : Around} {env : Env} {Z Z' : Led} {s : Shared} {nm : Nm} {ρ ρ' : List Val} {m m' : Str → Option Value} {h h' : Heap}
theorem FlIs.back (p : Post Γ nm env Z h ρ m Z' h' ρ' m') {Z2 : Led} {h2 : Heap} {fl : Fl} {f : Flow} (x : FlIs Γ nm ρ' m' h' Z2 h2 fl f) : FlIs Γ nm ρ m h Z2 h2 fl f := by
  cases fl with
  | next => exact x
  | ret v =>
    obtain ⟨u,e,r⟩ := x
    refine ⟨u,e,RepV.weak r fun a q => ?_⟩
    rcases q with q | q
    · exact .inl (p.ex a q)
    · rcases p.own a q with q | q
      · exact .inr q
      · exact .inl q
theorem StT.rule {r : Out (Fl × List Val)} {W W' : Tr Flow} (hr : ∀ Q E,W Q E s → W' Q E s) (H : StT Γ nm env Z s ρ m r W) : StT Γ nm env Z s ρ m r W' := fun hne Q E hQ hE => hr Q E (H hne Q E hQ hE)
theorem StT.badE {W : Tr Flow} {r : Out (Fl × List Val)} (e : r = .bad) : StT Γ nm env Z s ρ m r W := fun h => absurd e h
theorem Inv.forget (I : Inv Γ nm ρ env Z h m) : Inv Γ nm [] env Z h m where
  fr := I.fr
  sub := I.sub
  ok := I.ok
  zfp := I.zfp
  kz := I.kz
  ups := I.ups
  var := fun _ _ _ hn => absurd rfl hn
  nopr := fun _ _ _ q => nomatch q
  inj := I.inj
  fpb := I.fpb
  ownb := fun _ ⟨_,_,_,_,q,_⟩ => nomatch q
  apart := fun _ _ _ _ _ _ _ _ _ q => nomatch q
theorem Post.forget (p : Post Γ nm env Z h ρ m Z' h' ρ' m') : Post Γ nm env Z h ρ m Z' h' [] m' :=
  ⟨p.inv.forget,p.le,p.new,p.kp,fun _ q => (by obtain ⟨_,_,_,_,q,_⟩ := q; cases q),p.ex,fun _ q => (by obtain ⟨_,_,_,_,q,_⟩ := q; cases q),p.oth⟩
theorem Lv.back (p : Post Γ nm env Z h ρ m Z' h' ρ' m') {c : Nat} {e : Value} {Z2 : Led} {h2 : Heap} (x : Lv Γ nm env Z' h' ρ' m' c e Z2 h2) : Lv Γ nm env Z h ρ m c e Z2 h2 := by
  obtain ⟨⟨m2,p2⟩,xp⟩ := x
  exact ⟨⟨m2,p.trans p2⟩,xp.old p.ex⟩
theorem Lv.of (I : Inv Γ nm ρ env Z h m) (g : Grow Z h Z' h') {c : Nat} {e : Value} (x : XP Γ env.frame c e Z' h h') : Lv Γ nm env Z h ρ m c e Z' h' := ⟨⟨m,(Post.grow I g).forget⟩,x⟩
theorem StT.later (p : Post Γ nm env Z s.heap ρ m Z' h' ρ' m') {tk : Nat} {r : Out (Fl × List Val)} {W : Tr Flow} (H : StT Γ nm env Z' { s with heap := h',toks := tk } ρ' m' r W) (hne : r ≠ .bad) {Q : Flow → Shared → Prop} {E : Value → Shared → Prop}
    (hQ : OnQ Γ nm env Z s ρ m r Q) (hE : OnE Γ nm env Z s ρ m r E) : W Q E { s with heap := h',toks := tk } :=
  H hne Q E (fun fl ρ2 f Z2 h2 tk2 m2 e p2 x => hQ fl ρ2 f Z2 h2 tk2 m2 e (p.trans p2) (x.back p)) fun c e Z2 h2 tk2 q l => hE c e Z2 h2 tk2 q (l.back p)
theorem StT.bad {W : Tr Flow} : StT Γ nm env Z s ρ m .bad W := fun h => absurd rfl h
theorem StT.own {W : Tr Flow} {f : List Dat → Out (Fl × List Val)} {i : Nat} (H : ∀ l,ρ.getD i .un = .own l → StT Γ nm env Z s ρ m (f l) W) : StT Γ nm env Z s ρ m (ownX f (ρ.getD i .un)) W := by
  cases ho : ρ.getD i .un with
  | own l => exact H l ho
  | _ => exact .bad
theorem StT.guard {W : Tr Flow} {r : Out (Fl × List Val)} {c : Prop} [Decidable c] (H : c → StT Γ nm env Z s ρ m r W) : StT Γ nm env Z s ρ m (if c then r else .bad) W := by
  by_cases h : c
  · rw [if_pos h]; exact H h
  · rw [if_neg h]; exact .bad
theorem sndB_nil : SndB Γ n Φ .nil := fun nm ρ A env Z s m ss hc O AO I => by
  cases inv_nilB hc
  exact fun _ Q E hQ _ => wpAny_execs_nil (hQ .next ρ .next Z s.heap s.toks m rfl (Post.grow I I.refl) rfl)
theorem sndB_cons {a b : T} (ha : SndS Γ n Φ a) (hb : SndB Γ n Φ b) : SndB Γ n Φ (.cons a b) := fun nm ρ A env Z s m ss hc O AO I => inv_consB hc fun st r he h1 h2 => by
  subst he
  show StT Γ nm env Z s ρ m (seq (ex Φ a ρ) (ex Φ b)) _
  intro hne Q E hQ hE
  refine wpAny_execs_cons ((ha nm ρ A env Z s m st h1 O AO I) (fun q => hne (by rw [q]; rfl)) _ _ (fun fl ρ' f Z' h' tk m' e p x => ?_) fun c e Z' h' tk q l => hE c e Z' h' tk (by rw [q]; rfl) l)
  rw [e] at hne hQ hE
  cases fl with
  | next =>
    have : f = .next := x
    subst this
    exact (hb nm ρ' A env Z' { s with heap := h',toks := tk } m' r h2 O AO p.inv).later p hne hQ hE
  | ret v =>
    obtain ⟨u,rfl,rr⟩ := x
    exact hQ (.ret v) ρ' (.ret u) Z' h' tk m' rfl p ⟨u,rfl,rr⟩
theorem Post.freeze (I : Inv Γ nm ρ env Z h m) {i : Nat} {l : List Dat} (ho : ρ.getD i .un = .own l) : ∃ Z',Post Γ nm env Z h ρ m Z' h (ρ.set i (.sh (.lst l))) m := by
  have get_ne : ∀ j,j ≠ i → (ρ.set i (Val.sh (.lst l))).getD j .un = ρ.getD j .un := fun j hj => by simp [List.getD,List.getElem?_set,Ne.symm hj]
  have hi : i < ρ.length := by
    by_cases hi : i < ρ.length
    · exact hi
    · have : ρ.getD i .un = .un := by simp [List.getD,Nat.not_lt.mp hi]
      rw [this] at ho; cases ho
  have get_i : (ρ.set i (Val.sh (.lst l))).getD i .un = .sh (.lst l) := by simp [List.getD,hi]
  have ownsub : ∀ a,OwnAt nm (ρ.set i (.sh (.lst l))) m a → OwnAt nm ρ m a := fun a ⟨x',j,ds,lk,hj,hm⟩ => by
    by_cases e : j = i
    · subst e; rw [get_i] at hj; cases hj
    · rw [get_ne j e] at hj; exact ⟨x',j,ds,lk,hj,hm⟩
  have nopr : ∀ j d ds,(ρ.set i (Val.sh (.lst l))).getD j .un ≠ .pr d ds := fun j d ds q => by
    by_cases e : j = i
    · subst e; rw [get_i] at q; cases q
    · rw [get_ne j e] at q; exact I.nopr j d ds q
  by_cases hx : ∃ x,nm.lookup x = some i
  · obtain ⟨x,hx⟩ := hx
    obtain ⟨v,hv,r⟩ := I.var x i hx (by rw [ho]; simp)
    rw [ho] at r
    obtain ⟨a,rfl,_,vs,zn,⟨k,e⟩,hl,rl⟩ := r
    have oa : OwnAt nm ρ m a := ⟨x,i,l,hx,ho,hv⟩
    let Z' := Led.put Z a { cls := .type "list",data := .seq vs.toArray k }
    have le : Led.le Z Z' := Led.put_le zn
    have rep : Rep Z' (.ref a) (.lst l) := .lst (Led.put_self _ _ _) hl (rl.mono le)
    have other : ∀ b,b ≠ a → Z' b = Z b := fun b hb => if_neg hb
    have nup : ∀ L ∈ Γ.up,L ≠ a := fun L hL q => by subst q; obtain ⟨_,o',_,_,e',d'⟩ := I.ups L hL; rw [e] at e'; cases e'; cases d'
    have nfp : ∀ b,FP env b → b ≠ a := fun b p q => by subst q; exact I.fr.noSeq p e _ _ rfl
    have ap : ∀ x' j ds b,x' ≠ x → nm.lookup x' = some j → (ρ.getD j .un = .own ds ∨ ρ.getD j .un = .bor ds) → m x' = some (.ref b) → b ≠ a := fun x' j ds b ne lk hj hm q => by
      subst q; exact ne (I.apart x x' i j b l ds hx lk ho hj hv hm).symm
    refine ⟨Z',⟨I.fr,fun b o q => ?_,fun b o q => ?_,fun b p => (other b (nfp b p)).trans (I.zfp b p),fun b o q => le b o (I.kz b o q),fun L hL => ⟨(other L (nup L hL)).trans (I.ups L hL).1,(I.ups L hL).2⟩,fun x' j lk nu => ?_,nopr,I.inj,I.fpb,fun b ob => I.ownb b (ownsub b ob),fun x1 x2 i1 i2 b ds es l1 l2 h1 h2 m1 m2 => ?_⟩,le,fun b o q => ?_,((Kp.refl h).w Z).but,fun b ob => .inl (ownsub b ob),fun b q => q,fun b ob => ob.set (fun _ e => by cases e) fun _ _ _ _ => rfl,fun _ _ => rfl⟩
    · by_cases hb : b = a
      · subst hb
        have : Z' b = some _ := Led.put_self _ _ _
        rw [this] at q; cases q; exact e
      · rw [other b hb] at q; exact I.sub b o q
    · by_cases hb : b = a
      · subst hb
        trivial
      · rw [other b hb] at q; exact I.ok b o q
    · by_cases ej : j = i
      · subst ej
        rw [get_i]
        have : x' = x := I.inj x' x j lk hx
        subst this
        exact ⟨_,hv,rep⟩
      · rw [get_ne j ej] at nu ⊢
        obtain ⟨u,hu,ru⟩ := I.var x' j lk nu
        refine ⟨u,hu,?_⟩
        have ne : x' ≠ x := fun q => by subst q; rw [hx] at lk; cases lk; exact ej rfl
        generalize hy : ρ.getD j .un = y at *
        cases y with
        | own ds =>
          obtain ⟨b,rfl,f,ws,zb,p,hw,rw'⟩ := ru
          exact ⟨b,rfl,f,ws,(other b (ap x' j ds b ne lk (.inl hy) hu)).trans zb,p,hw,rw'.mono le⟩
        | bor ds => obtain ⟨b,ws,e',p,hw,rw'⟩ := ru; exact ⟨b,ws,e',p,hw,rw'.mono le⟩
        | sh d => exact Rep.mono le ru
        | shop a b => exact ShopIs.mono le ru
        | exc c => exact ru
        | un => exact ru
        | pr d ds => exact absurd hy (I.nopr j d ds)
    · by_cases e1 : i1 = i
      · subst e1; rw [get_i] at h1; cases h1
      · by_cases e2 : i2 = i
        · subst e2; rw [get_i] at h2; rcases h2 with h2 | h2 <;> cases h2
        · rw [get_ne i1 e1] at h1; rw [get_ne i2 e2] at h2
          exact I.apart x1 x2 i1 i2 b ds es l1 l2 h1 h2 m1 m2
    · by_cases hb : b = a
      · subst hb; exact .inr (.inr oa)
      · rw [other b hb] at q; exact .inl q
  · refine ⟨Z,⟨I.fr,I.sub,I.ok,I.zfp,I.kz,I.ups,fun x' j lk nu => ?_,nopr,I.inj,I.fpb,fun b ob => I.ownb b (ownsub b ob),fun x1 x2 i1 i2 b ds es l1 l2 h1 h2 m1 m2 => ?_⟩,fun _ _ q => q,fun _ _ q => .inl q,((Kp.refl h).w Z).but,fun b ob => .inl (ownsub b ob),fun b q => q,fun b ob => ob.set (fun _ e => by cases e) fun _ _ _ _ => rfl,fun _ _ => rfl⟩
    · have ej : j ≠ i := fun q => hx ⟨x',q ▸ lk⟩
      rw [get_ne j ej] at nu ⊢
      exact I.var x' j lk nu
    · have e1 : i1 ≠ i := fun q => hx ⟨x1,q ▸ l1⟩
      have e2 : i2 ≠ i := fun q => hx ⟨x2,q ▸ l2⟩
      rw [get_ne i1 e1] at h1; rw [get_ne i2 e2] at h2
      exact I.apart x1 x2 i1 i2 b ds es l1 l2 h1 h2 m1 m2
end
end Mine
namespace Mine
open PySem PySem.Calls PyProof.Rows
section
variable {Γ : Cx} {n : Nat} {Φ : Nat → List Val → Out Val} {A : Around} {env : Env} {Z Z' : Led} {s : Shared} {nm : Nm} {ρ ρ' : List Val} {m m' : Str → Option Value} {h h' h'' : Heap}
theorem StT.bind {α β : Type} {P : Led → Heap → β → α → Prop} {r1 : Out α} {f : α → Out (Fl × List Val)} {W1 : Tr β} {W2 : β → Tr Flow} (I : Inv Γ nm ρ env Z s.heap m) (H1 : EvT Γ A env Z s P r1 W1)
    (H2 : ∀ x v Z' h' tk,r1 = .ok x → Grow Z s.heap Z' h' → P Z' h' v x → StT Γ nm env Z' { s with heap := h',toks := tk } ρ m (f x) (W2 v)) : StT Γ nm env Z s ρ m (r1 >>= f) (fun Q E s => W1 (fun v s' => W2 v Q E s') E s) := by
  intro hne Q E hQ hE
  refine H1 (fun q => hne (by rw [q]; rfl)) _ E (fun x v Z' h' tk e g p => ?_) fun c e Z' h' tk q g xp => hE c e Z' h' tk (by rw [q]; rfl) (.of I g xp)
  rw [e] at hne hQ hE
  exact (H2 x v Z' h' tk e g p).later (Post.grow I g) hne hQ hE
theorem notComp_swaps {e : Expr} (hc : notComp e = true) (tg : Option Expr) (line : Nat) (env : Env) : swapsWith e tg line env = pure false := by
  cases e <;> first | rfl | exact (Bool.false_ne_true hc).elim
theorem EnvOk.inter (O : EnvOk env) : interactive env = false := by unfold interactive; rw [O.kind]; rfl
theorem sndS_ex {e : T} (he : SndE Γ n Φ e) : SndS Γ n Φ (.ex e) := fun nm ρ A env Z s m st hc O AO I => inv_ex hc fun v pos hs h1 h2 => by
  subst hs
  refine StT.rule (fun Q E h => wpAny_Expr_any h O.inter (notComp_swaps h1 _ _ _)) (StT.bind (f := un1 ρ) (W2 := fun _ Q _ s => Q .next s) I (he nm ρ A env Z s m v h2 O AO I) fun x u Z' h' tk _ g p => ?_)
  have fin : StT Γ nm env Z' { s with heap := h',toks := tk } ρ m (.ok (.next,ρ)) (fun Q _ s => Q .next s) := fun _ Q E hQ _ => hQ .next ρ .next Z' h' tk m rfl (Post.grow (I.grow g) (I.grow g).refl) rfl
  cases x <;> first | exact .bad | exact fin
theorem sndS_iff {c a b : T} (hc' : SndT Γ n Φ c) (ha : SndB Γ n Φ a) (hb : SndB Γ n Φ b) : SndS Γ n Φ (.iff c a b) := fun nm ρ A env Z s m st hc O AO I => inv_iff hc fun t x y pos hs h1 h2 h3 => by
  subst hs
  show StT Γ nm env Z s ρ m (ev Φ c ρ >>= boolD >>= fun x => if x then ex Φ a ρ else ex Φ b ρ) _
  refine StT.rule (fun Q E h => wpAny_If h) (StT.bind (W2 := fun d Q E s' => if d = true then wpAny (model Γ.prog Γ.w) A (execs x env) Q E s' else wpAny (model Γ.prog Γ.w) A (execs y env) Q E s') I (hc' nm ρ A env Z s m t h1 O AO I) fun d v Z' h' tk _ g p => ?_)
  have p : v = d := p
  subst p
  cases v with
  | true => exact StT.rule (fun Q E h => by rw [if_pos rfl]; exact h) (ha nm ρ A env Z' _ m x h2 O AO (I.grow g))
  | false => exact StT.rule (fun Q E h => by rw [if_neg (by decide)]; exact h) (hb nm ρ A env Z' _ m y h3 O AO (I.grow g))
theorem EvT.toR {r : Out Val} {W : Tr Value} (H : EvT Γ A env Z s (PW Γ s.heap) r W) : EvT Γ A env Z s (PW Γ s.heap) (r >>= retV) W :=
  H.conv fun Z' h' v x g p => by cases x <;> first | exact .inl rfl | exact .inr ⟨_,Z',rfl,g,p⟩
theorem sndS_ret {e : T} (he : SndE Γ n Φ e) : SndS Γ n Φ (.ret e) := fun nm ρ A env Z s m st hc O AO I => inv_ret hc fun v pos hs h1 => by
  subst hs
  show StT Γ nm env Z s ρ m (ev Φ e ρ >>= retV >>= fun x => .ok (.ret x,ρ)) _
  intro hne Q E hQ hE
  refine wpAny_Return_some ((he nm ρ A env Z s m v h1 O AO I).toR (fun q => hne (by rw [q]; rfl)) _ E (fun x u Z' h' tk ex g p => ?_) fun c e Z' h' tk q g xp => hE c e Z' h' tk (by rw [q]; rfl) (.of I g xp))
  rw [ex] at hQ
  exact hQ _ ρ _ Z' h' tk m rfl (Post.grow I g) ⟨u,rfl,RepV.weak p fun a q => .inl q⟩
theorem load_own (O : EnvOk env) (I : Inv Γ nm ρ env Z s.heap m) {x : Str} {i : Nat} (hv : varOf nm env.scope x = some i) (hd : notDebug x = true) {l : List Dat} (ho : ρ.getD i .un = .own l) {pos : Pos} {Q E : Value → Shared → Prop}
    (h : ∀ a,OwnAt nm ρ m a → m x = some (.ref a) → OwnIs Z s.heap a l → Q (.ref a) s) : wpAny (model Γ.prog Γ.w) A (eval (.Name x pos) env) Q E s := by
  obtain ⟨kd,nl⟩ := varOf_kind hv
  obtain ⟨v,e,r⟩ := I.var x i nl (by rw [ho]; exact nofun)
  rw [ho] at r
  obtain ⟨a,rfl,_,o⟩ := r
  exact load_var O.kind I.fr kd e hd (h a ⟨x,i,l,nl,ho,e⟩ e o)
theorem sndS_retO {i : Nat} : SndS Γ n Φ (.retO i) := fun nm ρ A env Z s m st hc O AO I => inv_retO hc fun x q pos hs h1 h2 => by
  subst hs
  exact StT.own fun l ho _ Q E hQ _ => wpAny_Return_some (load_own O I h2 h1 ho fun a oa _ oi => hQ _ ρ _ Z s.heap s.toks m rfl (Post.grow I I.refl) ⟨.ref a,rfl,a,rfl,.inr oa,oi⟩)
theorem sndS_retP {e : T} {i : Nat} (he : SndE Γ n Φ e) : SndS Γ n Φ (.retP e i) := fun nm ρ A env Z s m st hc O AO I => inv_retP hc fun v x px kt pt pos hst h1 h2 h3 h4 => by
  subst hst
  have hs : backTo pt (starEach [v,.Name x px] env) = [(false,eval v env),(false,eval (.Name x px) env)] := by rw [star_cons h2]; rfl
  refine StT.rule (fun Q E h => wpAny_Return_some (Tuple_ (by rw [hs]; exact spliced_cons h))) (StT.bind (f := fun d => ownX (fun l => .ok (.ret (.pr d l),ρ)) (ρ.getD i .un)) (W2 := fun u Q E s' => wpAny (model Γ.prog Γ.w) A (spliced [(false,eval (.Name x px) env)]) (fun vs s₂ => wpAny (model Γ.prog Γ.w) A (newTuple (u :: vs)) (fun v => Q (.ret v)) E s₂) E s') I (he nm ρ A env Z s m v h4 O AO I).toD fun d u Z' h' tk _ g p => StT.own fun l ho => ?_)
  have I' := I.grow g
  intro hne Q E hQ _
  refine spliced_cons (load_own (s := { s with heap := h',toks := tk }) O I' h3 h1 ho fun a oa _ oi => spliced_nil (newTuple_wp (by show 2 ≤ line; decide) ?_))
  have g2 : Grow Z' h' Z' (h'.push { cls := .type "tuple",data := .seq [u,.ref a].toArray }) := Grow.keep I'.sub I'.ok (kp_push _ _)
  have ne : h'.objs.size ≠ a := fun q => by obtain ⟨_,_,⟨k,e⟩,_⟩ := oi; rw [← q,get_size] at e; cases e
  exact hQ _ ρ _ Z' _ tk m rfl (Post.grow I' g2) ⟨_,rfl,h'.objs.size,a,u,0,rfl,ne,.inl (get_size _),.inr oa,led_none I'.sub (get_size _),Heap.get?_push_size _ rfl,p,oi.grow g2⟩
theorem sto_conv {v : Value} {x : Val} (g : Grow Z h Z' h') (p : RepV Γ Z' (fun a => h.get? a = none) h' v x) {y : Val} (hy : stoV x = .ok y) : ∃ Z'',Grow Z h Z'' h' ∧ RepV Γ Z'' (fun _ => True) h' v y ∧ stoOk y = true := by
  cases x with
  | sh d => cases hy; exact ⟨Z',g,p,rfl⟩
  | own ds =>
    cases hy
    obtain ⟨a,rfl,f,o⟩ := p
    obtain ⟨Z'',g',_,r,_⟩ := freeze_own g f o
    exact ⟨Z'',g',r,rfl⟩
  | pr d ds =>
    cases hy
    obtain ⟨Z'',g',r⟩ := freeze_pr g p
    exact ⟨Z'',g',r,rfl⟩
  | shop a b => cases hy; exact ⟨Z',g,p,rfl⟩
  | _ => cases hy
theorem Post.storeOwn (I : Inv Γ nm ρ env Z h m) (g : Grow Z h Z' h') {x : Str} {i : Nat} (hx : nm.lookup x = some i) {b : Addr} {ds : List Dat} (f : h.get? b = none) (o : OwnIs Z' h' b ds)
    {a : Addr} (p : FP env a) (hs : Heap.SameBut a h' h'') (he : ∃ o,h''.get? a = some o) (F' : FrS env h'' (upd m x (.ref b))) : Post Γ nm env Z h ρ m Z' h'' (ρ.set i (.own ds)) (upd m x (.ref b)) := by
  have I' := I.grow g
  have there : ∀ x' j es c,nm.lookup x' = some j → (ρ.getD j .un = .own es ∨ ρ.getD j .un = .bor es) → m x' = some (.ref c) → c ≠ b := fun x' j es c l hj hm q => by
    subst q
    obtain ⟨v,hv,r⟩ := I.var x' j l (by rcases hj with hj | hj <;> (rw [hj]; simp))
    rw [hm] at hv; cases hv
    rcases hj with hj | hj
    · rw [hj] at r
      obtain ⟨c',e,_,vs,_,⟨k,pp⟩,_⟩ := r
      cases e; rw [f] at pp; cases pp
    · rw [hj] at r
      obtain ⟨c',vs,e,⟨k,pp⟩,_⟩ := r
      cases e; rw [f] at pp; cases pp
  refine ⟨I'.store hx (v := .ref b) (y := .own ds) ⟨b,rfl,trivial,o⟩ (.inr ⟨ds,b,rfl,rfl,I.kb.none f,fun x' j es ne l hj hm => there x' j es b l hj hm rfl⟩) p hs F',g.le,fun c o e => (g.new c o e).elim .inl fun e => .inr (.inl e),?_,?_,?_,fun c ob => ob.set (fun _ e => by cases e) (upd_off I hx _),fun y l => upd_ne fun e => by subst e; rw [hx] at l; cases l⟩
  · intro c oc nc e
    refine cps fun P_ hP_ => ?_
    obtain ⟨k1,o',e',d',c'⟩ := g.kp c oc e
    refine hP_ ?_
    clear hP_ P_
    have hc : c ≠ a := fun q => nc (.inl (q ▸ p))
    exact ⟨fun nf => hs.extBut c oc hc (k1 nf),o',hs.extBut c o' hc e',d',c'⟩
  · rintro c ⟨x',j,es,l,hj,hm⟩
    by_cases e : x' = x
    · subst e
      rw [upd_self] at hm; cases hm; exact .inr f
    · have ne : j ≠ i := fun q => e (I.inj x' x i (q ▸ l) hx)
      have : (ρ.set i (Val.own ds)).getD j .un = ρ.getD j .un := by simp [List.getD,List.getElem?_set,Ne.symm ne]
      rw [this] at hj; rw [upd_ne e] at hm
      exact .inl ⟨x',j,es,l,hj,hm⟩
  · intro c q
    exact g.kp.none (sameBut_ex hs he c q)
theorem Inv.notUp (I : Inv Γ nm ρ env Z h m) {C : Addr} (e : h.get? C = none) : C ∉ Γ.up := fun q => by
  obtain ⟨_,o,_,_,e',_⟩ := I.ups C q
  rw [e] at e'; cases e'
theorem Post.junk {Z₀ : Led} {h₀ : Heap} {ρ₀ : List Val} {m₀ : Str → Option Value} (P : Post Γ nm env Z₀ h₀ ρ₀ m₀ Z h ρ m) {C : Addr} {ml : Str → Option Value} (hn : h.Ns C ml) (zC : Z C = none) (fC : h₀.get? C = none) (bC : Γ.base.get? C = none) (nC : ¬ FP env C) (hs : Heap.SameBut C h h') (uC : C ∉ Γ.up) :
    Post Γ nm env Z₀ h₀ ρ₀ m₀ Z h' ρ m := by
  have noseq : ∀ b o vs k,h.get? b = some o → o.data = .seq vs k → b ≠ C := fun b o vs k e hd q => by
    subst q
    obtain ⟨o',es,ep,e',hd',_⟩ := hn
    rw [e] at e'; cases e'; rw [hd] at hd'; cases hd'
  have pl : ∀ b vs,h.PlainList b vs → h'.PlainList b vs := fun b vs ⟨k,e⟩ => ⟨k,hs.extBut b _ (noseq b _ _ _ e rfl) e⟩
  have I := P.inv
  refine ⟨⟨⟨?_,?_,I.fr.inj⟩,fun b o e => hs.extBut b o (fun q => by subst q; rw [zC] at e; cases e) (I.sub b o e),I.ok,I.zfp,I.kz,?_,?_,I.nopr,I.inj,I.fpb,I.ownb,I.apart⟩,P.le,P.new,?_,P.own,fun c q => ?_,P.bor,P.oth⟩
  · obtain ⟨ml',a,b⟩ := I.fr.loc
    exact ⟨ml',a.sameBut hs fun q => nC (.inl q.symm),b⟩
  · intro x k
    obtain ⟨c,l,i⟩ := I.fr.cel x k
    exact ⟨c,l,i.sameBut hs fun q => nC (.inr ⟨x,k,q ▸ l⟩)⟩
  · intro L hL
    refine cps fun P_ hP_ => ?_
    obtain ⟨z,o,es,k,e,d⟩ := I.ups L hL
    refine hP_ ?_
    clear hP_ P_
    exact ⟨z,o,es,k,hs.extBut L o (fun q => uC (q ▸ hL)) e,d⟩
  · intro x j l nu
    obtain ⟨v,hv,r⟩ := I.var x j l nu
    refine ⟨v,hv,?_⟩
    generalize hy : ρ.getD j .un = y at *
    cases y with
    | own ds => obtain ⟨b,e,f,vs,z,q,ll,rr⟩ := r; exact ⟨b,e,f,vs,z,pl _ _ q,ll,rr⟩
    | bor ds => obtain ⟨b,vs,e,q,ll,rr⟩ := r; exact ⟨b,vs,e,pl _ _ q,ll,rr⟩
    | pr d ds => exact absurd hy (I.nopr j d ds)
    | un => exact r
    | sh d => exact r
    | shop a b => exact r
    | exc c =>
      obtain ⟨e,oe,vs,D,h1,h2,h3,h4,h5⟩ := r
      refine ⟨e,oe,vs,D,h1,h2,hs.extBut e oe (fun q => ?_) h3,h4,h5⟩
      subst q
      obtain ⟨o',es,ep,e',hd',_⟩ := hn
      rw [h3] at e'; cases e'; rw [h5] at hd'; cases hd'
  · intro b o nb e
    have hb : b ≠ C := fun q => by subst q; rw [fC] at e; cases e
    refine cps fun P_ hP_ => ?_
    obtain ⟨k1,o',e',d',c'⟩ := P.kp b o nb e
    refine hP_ ?_
    clear hP_ P_
    exact ⟨fun nf => hs.extBut b o hb (k1 nf),o',hs.extBut b o' hb e',d',c'⟩
  · by_cases hc : c = C
    · subst hc; exact fC
    · exact P.ex c (by rw [← hs.2 c hc]; exact q)
end
end Mine
namespace Mine
open PySem PySem.Calls PyProof.Rows
section
variable {Γ : Cx} {n : Nat} {Φ : Nat → List Val → Out Val} {A : Around} {env : Env} {Z Z' : Led} {s : Shared} {nm : Nm} {ρ ρ' : List Val} {m m' : Str → Option Value} {h h' h'' : Heap}
theorem swaps_cases (v : Expr) (x : Str) (px : Pos) (line : Nat) (env : Env) : swapsWith v (some (.Name x px)) line env = pure false ∨ (swapsWith v (some (.Name x px)) line env = pure true ∧ notComp v = false ∧ env.kindOf x = some .local) := by
  have key : notComp v = false → ∀ b : Bool,swapsWith v (some (.Name x px)) line env = pure b → (b = true → env.kindOf x = some .local) → swapsWith v (some (.Name x px)) line env = pure false ∨ (swapsWith v (some (.Name x px)) line env = pure true ∧ notComp v = false ∧ env.kindOf x = some .local) := fun hn b e hb => by
    cases b with
    | false => exact .inl e
    | true => exact .inr ⟨e,hn,hb rfl⟩
  cases v <;> first | exact .inl (notComp_swaps rfl _ _ _) | exact key rfl _ rfl fun hb => beq_iff_eq.mp (and_inv (and_inv (and_inv hb).1).1).2
theorem chk_isComp {e : T} {v : Expr} (h : (notComp v || e.isComp) = true) (hn : notComp v = false) : ∃ elt tg it c,e = .comp elt tg it c := by
  rw [hn] at h; exact isComp_inv h
theorem comp_used {elt it c : T} {tg : List Nat} (helt : SndE Γ n Φ elt) (hit : SndI Γ n Φ it) (hc' : SndT Γ n Φ c) {e : Expr} (hc : chk Γ.gs (.comp elt tg it c) nm env.scope e = true) (O : EnvOk env) (AO : AOx Γ nm n A env) (I : Inv Γ nm ρ env Z s.heap m)
    {x : Str} {px pos : Pos} (hsw : swapsWith e (some (.Name x px)) pos.line env = pure true) (kd : env.kindOf x = some .local ∨ env.kindOf x = some .cell) (hne : ev Φ (.comp elt tg it c) ρ ≠ .bad) {Q : Flow → Shared → Prop} {E : Value → Shared → Prop} (hE : ∀ k e Z' h' tk,ev Φ (.comp elt tg it c) ρ = .exn k → Grow Z s.heap Z' h' → XP Γ env.frame k e Z' s.heap h' → E e { s with heap := h',toks := tk })
    (fin : ∀ D C r Z' h' h1 tk ml a,ev Φ (.comp elt tg it c) ρ = .ok (.own r) → Grow Z s.heap Z' h' → s.heap.get? D = none → s.heap.get? C = none → D ≠ C → Z' C = none → OwnIs Z' h' D r → FP env a → Heap.SameBut a h' h1 → (∃ o,h1.get? a = some o) → FrS env h1 (upd m x (.ref D)) → h1.Ns C ml → ¬ FP env C →
      ∀ h2,Heap.SameBut C h1 h2 → Q .next { s with heap := h2,toks := tk }) :
    wpAny (model Γ.prog Γ.w) A (exec (.Assign [.Name x px] e pos) env) Q E s := by
  refine inv_comp hc fun y target iter ifs cs cpos xs he CK => ?_
  subst he
  obtain ⟨K,hz⟩ := comp_ok CK
  rw [exec_Assign_Name_used _ _ _ _ hsw]
  rw [ev_comp_eq] at hne fin hE
  refine wpAny_bind (wpAny_standAt (wpAny_bind ?_))
  show wpAny _ A (do let _ ← comprehension (.ListComp y [⟨target,iter,ifs,0⟩] cs cpos) cs env _ (newList []) false (eval iter env) (some (assign (.Name x px) env))) _ _ s
  refine wpAny_bind (wpAny_mono (wpAny_comprehension_free (use := some (assign (.Name x px) env)) (Q := fun _ s' => Q .next s') rfl (notSet_folded CK.set env) (closure_is env cs (K.cl I.fr)) K.kind K.locs ?_) (fun _ s' hq => wpAny_pure (wpAny_pure hq)) fun _ _ e => e)
  refine hit nm ρ A env Z s m target iter CK.iter hz O AO I (fun b => hne (by rw [b]; rfl)) _ E (fun ds itv Z₂ h₂ tk₂ e₂ g₂ q => ?_) fun k e Z₂ h₂ tk₂ q g xp => hE k e Z₂ h₂ tk₂ (by rw [q]; rfl) g xp
  rw [e₂] at hne fin
  refine comp_core (RR := fun acc C => compPost (model Γ.prog Γ.w) A E (some (assign (.Name x px) env)) (fun _ s' => Q .next s') acc C) (AO.hd (loud_comp hc)) K CK.tgt O AO I helt hc' CK.elt CK.ifs g₂ q (fun b => hne (by rw [Out.bind_ok,b]; rfl)) fun D C h' Z' tk ml ys r er G sD sC hDC zD zC hns pl hl rl => ?_
  show wpAny _ A (assign (.Name x px) env (.ref D)) _ _ _
  have nC : ¬ FP env C := fun p => by obtain ⟨o,e⟩ := I.fr.there p; rw [sC] at e; cases e
  refine wpAny_assign_Name (store_var (s := { s with heap := h',toks := tk }) O.kind (I.grow G).fr kd fun h1 tk1 a p pw hs he F1 => ?_)
  have hns1 : h1.Ns C ml := hns.sameBut hs fun q => nC (q ▸ p)
  exact ⟨ml,hns1,fun h2 hs2 => fin D C r Z' h' h1 tk1 ml a (by rw [Out.bind_ok,er]; rfl) G sD sC hDC zC ⟨ys,zD,pl,hl,rl⟩ p hs he F1 hns1 nC h2 hs2⟩
theorem sndS_asg {i : Nat} {e : T} (he : SndE Γ n Φ e) (hcomp : ∀ elt tg it c,e = .comp elt tg it c → SndE Γ n Φ elt ∧ SndI Γ n Φ it ∧ SndT Γ n Φ c) : SndS Γ n Φ (.asg i e) := fun nm ρ A env Z s m st hc O AO I => inv_asg hc fun x px v pos hst h1 h2 h3 => by
  subst hst
  obtain ⟨kd,nl⟩ := varOf_kind h1
  refine fun hne Q E hQ hE => ?_
  replace hne : (ev Φ e ρ >>= stoV >>= fun x => Out.ok (Fl.next,ρ.set i x)) ≠ .bad := hne
  replace hQ : OnQ Γ nm env Z s ρ m (ev Φ e ρ >>= stoV >>= fun x => Out.ok (Fl.next,ρ.set i x)) Q := hQ
  replace hE : OnE Γ nm env Z s ρ m (ev Φ e ρ >>= stoV >>= fun x => Out.ok (Fl.next,ρ.set i x)) E := hE
  have hne1 : ev Φ e ρ ≠ .bad := fun q => hne (by rw [q]; rfl)
  rcases swaps_cases v x px pos.line env with hs | ⟨hs,hn,kl⟩
  · refine wpAny_Assign_Name (he nm ρ A env Z s m v h3 O AO I hne1 _ E (fun y u Z' h' tk ey g p => ?_) fun c e Z' h' tk q g xp => hE c e Z' h' tk (by rw [q]; rfl) (.of I g xp)) hs
    rw [ey,Out.bind_ok] at hne hQ
    cases hy : stoV y with
    | bad => rw [hy] at hne; exact absurd rfl hne
    | exn c => cases y <;> cases hy
    | ok z =>
      rw [hy] at hQ
      obtain ⟨Z'',g',r,so⟩ := sto_conv g p hy
      have I' := I.grow g'
      exact store_var (s := { s with heap := h',toks := tk }) O.kind I'.fr kd fun h1 tk1 a pa pw hs1 he1 F1 => hQ .next _ .next Z'' h1 tk1 _ rfl ((Post.grow I g').trans (Post.store I' nl r so pa hs1 he1 F1)) rfl
  · obtain ⟨elt,tg,it,c,rfl⟩ := chk_isComp h2 hn
    obtain ⟨k1,k2,k3⟩ := hcomp elt tg it c rfl
    refine comp_used k1 k2 k3 h3 O AO I hs (.inl kl) hne1 (fun k e Z' h' tk q g xp => hE k e Z' h' tk (by rw [q]; rfl) (.of I g xp)) fun D C r Z' h' h1 tk ml a er G sD sC hDC zC oi pa hs1 he1 F1 hns nC h2 hs2 => ?_
    rw [er] at hQ
    obtain ⟨Z'',g',le,rr,oth⟩ := freeze_own G sD oi
    have P := (Post.grow I g').trans (Post.store (I.grow g') nl (v := .ref D) (y := .sh (.lst r)) rr rfl pa hs1 he1 F1)
    exact hQ .next _ .next Z'' h2 tk _ rfl (P.junk hns ((oth C hDC.symm).trans zC) sC (I.kb.none sC) nC hs2 (I.notUp sC)) rfl
theorem sndS_asgO {i : Nat} {e : T} (he : SndE Γ n Φ e) (hcomp : ∀ elt tg it c,e = .comp elt tg it c → SndE Γ n Φ elt ∧ SndI Γ n Φ it ∧ SndT Γ n Φ c) : SndS Γ n Φ (.asgO i e) := fun nm ρ A env Z s m st hc O AO I => inv_asgO hc fun x px v pos hst h1 h2 h3 => by
  subst hst
  obtain ⟨kd,nl⟩ := varOf_kind h1
  refine fun hne Q E hQ hE => ?_
  replace hne : (ev Φ e ρ >>= own1 >>= fun x => Out.ok (Fl.next,ρ.set i x)) ≠ .bad := hne
  replace hQ : OnQ Γ nm env Z s ρ m (ev Φ e ρ >>= own1 >>= fun x => Out.ok (Fl.next,ρ.set i x)) Q := hQ
  replace hE : OnE Γ nm env Z s ρ m (ev Φ e ρ >>= own1 >>= fun x => Out.ok (Fl.next,ρ.set i x)) E := hE
  have hne1 : ev Φ e ρ ≠ .bad := fun q => hne (by rw [q]; rfl)
  rcases swaps_cases v x px pos.line env with hs | ⟨hs,hn,kl⟩
  · refine wpAny_Assign_Name (he nm ρ A env Z s m v h3 O AO I hne1 _ E (fun y u Z' h' tk ey g p => ?_) fun c e Z' h' tk q g xp => hE c e Z' h' tk (by rw [q]; rfl) (.of I g xp)) hs
    rw [ey,Out.bind_ok] at hne hQ
    cases y <;> first | exact absurd rfl hne | skip
    · exact store_var (s := { s with heap := h',toks := tk }) O.kind (I.grow g).fr kd fun h1 tk1 a pa pw hs1 he1 F1 => hQ .next _ .next Z' h1 tk1 _ rfl ((Post.grow I g).trans (Post.store (I.grow g) nl (RepV.weak p fun _ _ => trivial) rfl pa hs1 he1 F1)) rfl
    · obtain ⟨b,rfl,f,oi⟩ := p
      exact store_var (s := { s with heap := h',toks := tk }) O.kind (I.grow g).fr kd fun h1 tk1 a pa pw hs1 he1 F1 => hQ .next _ .next Z' h1 tk1 _ rfl (Post.storeOwn I g nl f oi pa hs1 he1 F1) rfl
  · obtain ⟨elt,tg,it,c,rfl⟩ := chk_isComp h2 hn
    obtain ⟨k1,k2,k3⟩ := hcomp elt tg it c rfl
    refine comp_used k1 k2 k3 h3 O AO I hs (.inl kl) hne1 (fun k e Z' h' tk q g xp => hE k e Z' h' tk (by rw [q]; rfl) (.of I g xp)) fun D C r Z' h' h1 tk ml a er G sD sC hDC zC oi pa hs1 he1 F1 hns nC h2 hs2 => ?_
    rw [er] at hQ
    exact hQ .next _ .next Z' h2 tk _ rfl ((Post.storeOwn I G nl sD oi pa hs1 he1 F1).junk hns zC sC (I.kb.none sC) nC hs2 (I.notUp sC)) rfl
end
end Mine
namespace Mine
open PySem PySem.Calls PyProof.Rows
section
variable {Γ : Cx} {n : Nat} {Φ : Nat → List Val → Out Val} {A : Around} {env : Env} {Z Z' : Led} {s : Shared} {nm : Nm} {ρ ρ' : List Val} {m m' : Str → Option Value} {h h' h'' : Heap}
theorem Post.mutate (I : Inv Γ nm ρ env Z h m) {x : Str} {i : Nat} {l : List Dat} {a : Addr} (hx : nm.lookup x = some i) (ho : ρ.getD i .un = .own l) (hm : m x = some (.ref a)) {ds : List Dat} {vs : List Value}
    (hs : Heap.SameBut a h h') (hp : h'.PlainList a vs.toArray) (hl : vs.length ≤ line) (hr : RepL Z vs ds) : Post Γ nm env Z h ρ m Z h' (ρ.set i (.own ds)) m := by
  have get_ne : ∀ j,j ≠ i → (ρ.set i (Val.own ds)).getD j .un = ρ.getD j .un := fun j hj => by simp [List.getD,List.getElem?_set,Ne.symm hj]
  have hi : i < ρ.length := by
    by_cases hi : i < ρ.length
    · exact hi
    · have : ρ.getD i .un = .un := by simp [List.getD,Nat.not_lt.mp hi]
      rw [this] at ho; cases ho
  have get_i : (ρ.set i (Val.own ds)).getD i .un = .own ds := by simp [List.getD,hi]
  obtain ⟨v,hv,r⟩ := I.var x i hx (by rw [ho]; simp)
  rw [ho] at r
  rw [hm] at hv; cases hv
  obtain ⟨a',ea,_,vs0,zn,⟨k0,e0⟩,hl0,rl0⟩ := r
  cases ea
  have oa : OwnAt nm ρ m a := ⟨x,i,l,hx,ho,hm⟩
  have nfp : ∀ b,FP env b → b ≠ a := fun b p q => by subst q; exact I.fr.noSeq p e0 _ _ rfl
  have ba := I.ownb a oa
  have ap : ∀ x' j es b,x' ≠ x → nm.lookup x' = some j → (ρ.getD j .un = .own es ∨ ρ.getD j .un = .bor es) → m x' = some (.ref b) → b ≠ a := fun x' j es b ne lk hj hm' q => by
    subst q; exact ne (I.apart x x' i j b l es hx lk ho hj hm hm').symm
  have idx : ∀ x' j,nm.lookup x' = some j → x' ≠ x → j ≠ i := fun x' j l ne q => ne (I.inj x' x i (q ▸ l) hx)
  have ownsub : ∀ b,OwnAt nm (ρ.set i (.own ds)) m b → OwnAt nm ρ m b := fun b ⟨x',j,es,lk,hj,hmj⟩ => by
    by_cases e : x' = x
    · subst e; rw [hx] at lk; cases lk; exact ⟨x',i,l,hx,ho,hmj⟩
    · rw [get_ne j (idx x' j lk e)] at hj; exact ⟨x',j,es,lk,hj,hmj⟩
  refine ⟨⟨⟨?_,?_,I.fr.inj⟩,fun b o e => hs.extBut b o (fun q => by subst q; rw [zn] at e; cases e) (I.sub b o e),I.ok,I.zfp,I.kz,?_,?_,?_,I.inj,I.fpb,fun b ob => I.ownb b (ownsub b ob),?_⟩,fun _ _ e => e,fun _ _ e => .inl e,?_,fun b ob => .inl (ownsub b ob),?_,fun b ob => ob.set (fun _ e => by cases e) fun _ _ _ _ => rfl,fun _ _ => rfl⟩
  · obtain ⟨ml',c,b⟩ := I.fr.loc
    exact ⟨ml',c.sameBut hs (nfp _ (.inl rfl)),b⟩
  · intro y k
    obtain ⟨c,lk,ic⟩ := I.fr.cel y k
    exact ⟨c,lk,ic.sameBut hs (nfp _ (.inr ⟨y,k,lk⟩))⟩
  · intro L hL
    refine cps fun P_ hP_ => ?_
    obtain ⟨z,o,es,k,e,d⟩ := I.ups L hL
    refine hP_ ?_
    clear hP_ P_
    exact ⟨z,o,es,k,hs.extBut L o (fun q => by subst q; rw [e0] at e; cases e; cases d) e,d⟩
  · intro x' j lk nu
    by_cases e : x' = x
    · subst e
      rw [hx] at lk; cases lk
      rw [get_i]
      exact ⟨_,hm,a,rfl,trivial,vs,zn,hp,hl,hr⟩
    · have hj := idx x' j lk e
      rw [get_ne j hj] at nu ⊢
      obtain ⟨u,hu,ru⟩ := I.var x' j lk nu
      refine ⟨u,hu,?_⟩
      generalize hy : ρ.getD j .un = y at *
      cases y with
      | own es => obtain ⟨b,e1,f,ws,zb,⟨k,p⟩,hw,rw'⟩ := ru; subst e1; exact ⟨b,rfl,f,ws,zb,⟨k,hs.extBut b _ (ap x' j es b e lk (.inl hy) hu) p⟩,hw,rw'⟩
      | bor es => obtain ⟨b,ws,e1,⟨k,p⟩,hw,rw'⟩ := ru; subst e1; exact ⟨b,ws,rfl,⟨k,hs.extBut b _ (ap x' j es b e lk (.inr hy) hu) p⟩,hw,rw'⟩
      | sh d => exact ru
      | shop a b => exact ru
      | exc c => obtain ⟨e,oe,vs,D,h1,h2,h3,h4,h5⟩ := ru; exact ⟨e,oe,vs,D,h1,h2,hs.extBut e oe (fun q => by subst q; rw [e0] at h3; cases h3; cases h5) h3,h4,h5⟩
      | un => exact ru
      | pr d es => exact absurd hy (I.nopr j d es)
  · intro j d es q
    by_cases ej : j = i
    · subst ej; rw [get_i] at q; cases q
    · rw [get_ne j ej] at q; exact I.nopr j d es q
  · intro x1 x2 i1 i2 b ds1 es l1 l2 h1 h2 m1 m2
    have f1 : ∃ ds',ρ.getD i1 .un = .own ds' := by
      by_cases e1 : i1 = i
      · subst e1; exact ⟨l,ho⟩
      · rw [get_ne i1 e1] at h1; exact ⟨_,h1⟩
    have f2 : ∃ es',ρ.getD i2 .un = .own es' ∨ ρ.getD i2 .un = .bor es' := by
      by_cases e2 : i2 = i
      · subst e2; exact ⟨l,.inl ho⟩
      · rw [get_ne i2 e2] at h2; exact ⟨_,h2⟩
    obtain ⟨ds',f1⟩ := f1
    obtain ⟨es',f2⟩ := f2
    exact I.apart x1 x2 i1 i2 b ds' es' l1 l2 f1 f2 m1 m2
  · intro b o nb e
    have hb : b ≠ a := fun q => nb (.inr (q ▸ oa))
    exact ⟨fun _ => hs.extBut b o hb e,o,hs.extBut b o hb e,rfl,rfl⟩
  · exact sameBut_ex hs (by obtain ⟨k,e⟩ := hp; exact ⟨_,e⟩)
theorem plain_update {a : Addr} {vs : Array Value} (f : Array Value → Array Value) (hp : h.PlainList a vs) : (h.update a (Obj.mapSeq f)).PlainList a (f vs) := by
  obtain ⟨k,e⟩ := hp
  exact ⟨if (f vs).size == vs.size then k else k + 1,by rw [Heap.get?_update_self _ e rfl]; rfl⟩
theorem setItem_plain {l : Addr} {items : Array Value} {k : Int} {t : Tok} {v : Value} {Q : Unit → Shared → Prop} {E : Value → Shared → Prop} (hl : s.heap.PlainList l items)
    (h0 : 0 ≤ k) (hfit : k < 2 ^ 63) (hn : k < items.size)
    (hQ : ∀ h',h'.PlainList l (items.setIfInBounds k.toNat v) → Heap.SameBut l s.heap h' → Q () { s with heap := h' }) :
    wpAny (model Γ.prog Γ.w) A (setItem (.ref l) (.int k t) v) Q E s := by
  obtain ⟨c,e⟩ := id hl
  have hT := hl.isList.typeIs
  unfold setItem
  refine wpAny_holding ?_
  refine wpAny_bind (wpAny_sequenceKey hT (by decide) ?_)
  refine wpAny_bind (wpAny_callSpecial?_slot (name := Str.ofString "__setitem__") hT slot_list_setitem (wpAny_call_entry slot_list_setitem hT entry_list_setitem ?_ (args_list_setitem _ _ _)))
  show wpAny _ _ (Builtin.List.listSubscript? (.int k t) >>= _) _ _ s
  refine wpAny_bind (wpAny_listSubscript_int (fitsIndex_of h0 hfit) ?_)
  clear hfit
  obtain ⟨j,rfl⟩ := Int.eq_ofNat_of_zero_le h0
  have hj : j < items.size := by lia
  have hp' := plain_update (·.setIfInBounds j v) hl
  show wpAny _ _ ((seqItemAt l j >>= fun r => pure (r.map (j,·))) >>= _) _ _ s
  refine wpAny_bind (wpAny_bind (wpAny_seqItemAt e rfl (wpAny_pure ?_)))
  rw [Array.getElem?_eq_getElem hj]
  show wpAny _ _ (setSeqItemAt l j v >>= _) _ _ s
  exact wpAny_bind (wpAny_setSeqItemAt e rfl (wpAny_pure ⟨.none,rfl,wpAny_pure (hQ _ hp' (Heap.SameBut.update ..))⟩))
end
end Mine
namespace Mine
open PySem PySem.Calls PyProof.Rows
section
variable {Γ : Cx} {n : Nat} {Φ : Nat → List Val → Out Val} {A : Around} {env : Env} {Z Z' : Led} {s : Shared} {nm : Nm} {ρ ρ' : List Val} {m m' : Str → Option Value} {h h' h'' : Heap}
theorem sizeLine_line {vs : List Value} (hl : vs.length ≤ line) : vs.toArray.size ≤ sizeLine := by
  simp only [List.size_toArray]
  exact Nat.le_trans hl (by decide)
theorem own_var (I : Inv Γ nm ρ env Z h m) {x : Str} {i : Nat} {l : List Dat} (nl : nm.lookup x = some i) (ho : ρ.getD i .un = .own l) : ∃ a,m x = some (.ref a) ∧ OwnIs Z h a l := by
  obtain ⟨v,e,r⟩ := I.var x i nl (by rw [ho]; exact nofun)
  rw [ho] at r
  obtain ⟨a,rfl,_,o⟩ := r
  exact ⟨a,e,o⟩
theorem sndS_app {i : Nat} {e : T} (he : SndE Γ n Φ e) : SndS Γ n Φ (.app i e) := fun nm ρ A env Z s m st hc O AO I => inv_app hc fun x px ap y cp pos hst h1 h2 h4 h5 h6 => by
  subst hst
  obtain ⟨kd,nl⟩ := varOf_kind h4
  have hs : backTo cp (starEach [y] env) = [(false,eval y env)] := by rw [star_cons h5]; rfl
  refine StT.own fun l ho => ?_
  refine cps fun P_ hP_ => ?_
  obtain ⟨a,hma,oi⟩ := own_var I nl ho
  obtain ⟨vs0,_,pl0,_⟩ := id oi
  refine hP_ ?_
  clear hP_ P_
  refine StT.rule (fun Q E h => wpAny_Expr_any (Call_meth rfl h2 (by rw [hs]; rfl) (by show 1 < 30; decide) (load_var O.kind I.fr kd hma h1 fun pl => getMethod_list_of PySem.F.slot_list_append PySem.F.type_list_append pl0.isList (by obtain ⟨k,q⟩ := pl0; exact ⟨_,q,rfl⟩) (by rw [hs]; exact callWith_builtin rfl (evalArgs_plain (spliced_cons h))))) O.inter (notComp_swaps rfl _ _ _))
    (StT.bind (W2 := fun v Q E s => wpAny (model Γ.prog Γ.w) A (spliced []) (fun vs s₂ => wpAny (model Γ.prog Γ.w) A (call (.builtin "list.append") ([.ref a] ++ (v :: vs))) (fun _ s' => Q .next s') E s₂) E s) I (he nm ρ A env Z s m y h6 O AO I).toD fun d v Z' h' tk _ g p => StT.guard fun hlt => fun _ Q E hQ _ => spliced_nil ?_)
  obtain ⟨vs,zn,pl1,hl1,rl1⟩ := oi.grow g
  exact wpAny_list_append_plain (s := { s with heap := h',toks := tk }) pl1 (fun h2 hp2 hs2 => hQ .next _ .next Z' h2 tk m rfl (Post.mutate (I.grow g) nl ho hma (vs := vs ++ [v]) hs2 (by simpa using hp2) (by rw [List.length_append,rl1.length]; exact hlt) (rl1.append (.one p))) rfl) (sizeLine_line hl1)
theorem sndS_seti {i : Nat} {k e : T} (hk : SndE Γ n Φ k) (he : SndE Γ n Φ e) : SndS Γ n Φ (.seti i k e) := fun nm ρ A env Z s m st hc O AO I => inv_seti hc fun x px y pt v pos hst h1 h2 h3 h4 h5 h6 => by
  subst hst
  obtain ⟨kd,nl⟩ := varOf_kind h4
  show StT Γ nm env Z s ρ m (ev Φ e ρ >>= needD >>= fun d => ownX (fun l => ev Φ k ρ >>= intD >>= fun j => if 0 ≤ j ∧ j < l.length then .ok (.next,ρ.set i (.own (l.set j.toNat d))) else .bad) (ρ.getD i .un)) _
  refine StT.rule (fun Q E h => wpAny_Assign_Subscript h (notComp_swaps h3 _ _ _)) (StT.bind (W2 := fun u Q E s₁ => wpAny (model Γ.prog Γ.w) A (eval (.Name x px) env) (fun o s₂ => wpAny (model Γ.prog Γ.w) A (eval y env) (fun j s₃ => wpAny (model Γ.prog Γ.w) A (setItem o j u) (fun _ s' => Q .next s') E s₃) E s₂) E s₁) I (he nm ρ A env Z s m v h6 O AO I).toD fun d u Z' h' tk _ g p => StT.own fun l ho => ?_)
  have I' := I.grow g
  obtain ⟨a,hma,oi⟩ := own_var I' nl ho
  refine StT.rule (fun Q E h => load_var (s := { s with heap := h',toks := tk }) O.kind I'.fr kd hma h1 h) (StT.bind (W2 := fun j Q E s₃ => wpAny (model Γ.prog Γ.w) A (setItem (.ref a) j u) (fun _ s' => Q .next s') E s₃) I' (hk nm ρ A env Z' { s with heap := h',toks := tk } m y h5 O AO I').toI fun j u2 Z2 h2 tk2 _ g2 p2 => StT.guard fun hj => fun _ Q E hQ _ => ?_)
  obtain ⟨t,rfl⟩ := p2
  obtain ⟨vs,zn,pl1,hl1,rl1⟩ := oi.grow g2
  have hlen := rl1.length
  exact setItem_plain (s := { s with heap := h2,toks := tk2 }) pl1 hj.1 (by unfold line at hl1; lia) (by simp only [List.size_toArray]; lia) fun h3 hp3 hs3 =>
    hQ .next _ .next Z2 h3 tk2 m rfl (Post.mutate (I'.grow g2) nl ho hma (vs := vs.set j.toNat u) hs3 (by simpa using hp3) (by simpa using hl1) (rl1.set j.toNat (p.mono g2.le))) rfl
end
end Mine
namespace Mine
open PySem PySem.Calls PyProof.Rows
noncomputable def Nt (Z : Led) (h₀ H H' : Heap) : Prop := ∀ b o,H.get? b = some o → ((∃ vs,o.data = .fields vs) ∧ h₀.get? b = none ∧ Z b = none) ∨ (((Z b = some o ∨ NoDict o) → H'.get? b = some o) ∧ ∃ o',H'.get? b = some o' ∧ o'.data = o.data ∧ o'.cls = o.cls)
inductive XPe (Γ : Cx) (g : Value) (c : Nat) (v : Value) (Z : Led) (h₀ h : Heap) : Prop
  | mk (e : _) (oe : _) (vs : _) (C : _) (T : _) (oT : _) (ts : _) : (v = .ref e) → (Γ.exc c = some C) → (h₀.get? e = none) → (Z e = none) → (h.get? e = some oe) → (oe.cls = .ref C) → (oe.data = .fields vs) → (vs[1]? = some (.ref T)) → (h₀.get? T = none) → (Z T = none) → (T ≠ e) → (h.get? T = some oT) → (oT.data = .fields ts) → (ts[3]? = some g) → XPe Γ g c v Z h₀ h
section
variable {Γ : Cx} {n : Nat} {A : Around} {env : Env} {Z Z' : Led} {s : Shared} {nm : Nm} {ρ ρ' : List Val} {m m' : Str → Option Value} {h₀ h H H' H'' : Heap} {c : Nat} {v g : Value}
theorem Nt.refl : Nt Z h₀ H H := fun b o e => .inr ⟨fun _ => e,o,e,rfl,rfl⟩
theorem Nt.trans (a : Nt Z h₀ H H') (b : Nt Z h₀ H' H'') : Nt Z h₀ H H'' := fun x o e => by
  rcases a x o e with q | ⟨p,o',e',d',c'⟩
  · exact .inl q
  · rcases b x o' e' with ⟨⟨vs,f⟩,q⟩ | ⟨p2,o'',e'',d'',c''⟩
    · exact .inl ⟨⟨vs,d'.symm.trans f⟩,q⟩
    · refine .inr ⟨fun n => ?_,o'',e'',d''.trans d',c''.trans c'⟩
      have := p n
      rw [e'] at this
      cases this
      exact p2 n
theorem Nt.ex (a : Nt Z h₀ H H') (ex : ∀ b,H.get? b = none → h₀.get? b = none) : ∀ b,H'.get? b = none → h₀.get? b = none := fun b e => by
  cases q : H.get? b with
  | none => exact ex b q
  | some o =>
    rcases a b o q with ⟨_,q,_⟩ | ⟨_,o',e',_⟩
    · exact q
    · rw [e] at e'; cases e'
theorem Nt.sub (a : Nt Z h₀ H H') (sub : ∀ b o,Z b = some o → H.get? b = some o) : ∀ b o,Z b = some o → H'.get? b = some o := fun b o e => by
  rcases a b o (sub b o e) with ⟨_,_,q⟩ | ⟨q,_⟩
  · rw [e] at q; cases q
  · exact q (.inl e)
theorem Nt.noRec (a : Nt Z h₀ H H') {b : Addr} {o : Obj} (e : H.get? b = some o) (nf : ∀ vs,o.data ≠ .fields vs) : ∃ o',H'.get? b = some o' ∧ o'.data = o.data ∧ o'.cls = o.cls := by
  rcases a b o e with ⟨⟨vs,q⟩,_⟩ | ⟨_,q⟩
  · exact absurd q (nf vs)
  · exact q
theorem Nt.kw (a : Nt Z' h₀ H H') (le : Led.le Z Z') (k : Kw Z h₀ H) : Kw Z h₀ H' := fun b o e => by
  obtain ⟨p,o',e',d',c'⟩ := k b o e
  rcases a b o' e' with ⟨_,q,_⟩ | ⟨p2,o'',e'',d'',c''⟩
  · rw [q] at e; cases e
  · refine ⟨fun n => ?_,o'',e'',d''.trans d',c''.trans c'⟩
    have := p n
    rw [e'] at this
    cases this
    exact p2 (n.imp (le _ _) id)
theorem Post.note (p : Post Γ nm env Z h ρ m Z' H [] m') (a : Nt Z' h H H') : Post Γ nm env Z h ρ m Z' H' [] m' := by
  have I := p.inv
  refine ⟨⟨⟨?_,fun x k => ?_,I.fr.inj⟩,a.sub I.sub,I.ok,I.zfp,I.kz,fun L hL => ?_,fun _ _ _ hn => absurd rfl hn,I.nopr,I.inj,I.fpb,I.ownb,I.apart⟩,p.le,p.new,fun b o nb e => ?_,p.own,a.ex p.ex,p.bor,p.oth⟩
  · obtain ⟨ml,⟨o,es,ep,e,d,r⟩,q⟩ := I.fr.loc
    obtain ⟨o',e',d',_⟩ := a.noRec e (fun vs q => by rw [d] at q; cases q)
    exact ⟨ml,⟨o',es,ep,e',d'.trans d,r⟩,q⟩
  · obtain ⟨c,l,o,e,d⟩ := I.fr.cel x k
    obtain ⟨o',e',d',_⟩ := a.noRec e (fun vs q => by rw [d] at q; cases q)
    exact ⟨c,l,o',e',d'.trans d⟩
  · obtain ⟨z,o,es,k,e,d⟩ := I.ups L hL
    refine cps fun P_ hP_ => ?_
    obtain ⟨o',e',d',_⟩ := a.noRec e (fun vs q => by rw [d] at q; cases q)
    refine hP_ ?_
    clear hP_ P_
    exact ⟨z,o',es,k,e',d'.trans d⟩
  · obtain ⟨k1,o',e',d',c'⟩ := p.kp b o nb e
    rcases a b o' e' with ⟨_,q,_⟩ | ⟨p2,o'',e'',d'',c''⟩
    · rw [q] at e; cases e
    · refine ⟨fun n => ?_,o'',e'',d''.trans d',c''.trans c'⟩
      have := k1 n
      rw [e'] at this
      cases this
      exact p2 (n.imp (p.le _ _) id)
theorem XPe.xp {f : Option Addr} (x : XPe Γ g c v Z h₀ h) (hg : g = .none ∨ ∃ L,f = some L ∧ g = rawInt L) : XP Γ f c v Z h₀ h := by
  obtain ⟨e,oe,vs,C,T,oT,ts,a1,a2,a3,a4,a5,a6,a7,a8,b1,b2,b3,b4,b5,b6⟩ := x
  refine ⟨e,oe,vs,C,_,a1,a2,a3,a4,a5,a6,a7,a8,.inr ⟨T,oT,ts,rfl,b1,b2,b3,b4,b5,?_⟩⟩
  rcases hg with rfl | ⟨L,q,rfl⟩
  · exact .inl b6
  · exact .inr ⟨L,q,b6⟩
theorem funFrames {base : Heap} (ups : ∀ L ∈ Γ.up,Z L = none ∧ ∃ o es k,h.get? L = some o ∧ o.data = .dict es k) : ∀ l : List Env,(∀ e ∈ l,e.scope.kind ≠ .module ∧ ∃ L,e.frame = some L ∧ L ∈ Γ.up) → (∀ b ∈ l.filterMap (·.frame),base.get? b = none) → h.FunFrames base l
  | [],_,_ => trivial
  | e :: l,hl,hb => by
    obtain ⟨hk,L,hf,hu⟩ := hl e (List.mem_cons_self ..)
    rw [List.filterMap_cons,hf] at hb
    obtain ⟨_,o,es,k,e1,d1⟩ := ups L hu
    exact ⟨hk,⟨L,o,hf,hb L (List.mem_cons_self ..),e1,fun vs q => by rw [d1] at q; cases q⟩,funFrames ups l (fun e' h' => hl e' (List.mem_cons_of_mem _ h')) fun b h' => hb b (List.mem_cons_of_mem _ h')⟩
theorem of_noted {D : List Addr} {l : List Env} {e C : Addr} {oe : Obj} {vs : Array Value} {a0 : Value} (sub : ∀ a o,Z a = some o → H.get? a = some o) (ex : ∀ a,H.get? a = none → h₀.get? a = none) (ups : ∀ L ∈ Γ.up,Z L = none ∧ ∃ o es k,H.get? L = some o ∧ o.data = .dict es k)
    (hD : ∀ b ∈ D,b = e ∨ (h₀.get? b = none ∧ Z b = none ∧ ∃ o ts,H.get? b = some o ∧ o.data = .fields ts) ∨ b ∈ Γ.up) (hc : Γ.exc c = some C) (h0 : h₀.get? e = none) (hz : Z e = none) (he : H.get? e = some oe) (hd : oe.data = .fields vs)
    (hN : Heap.NotedW (TI.gone H D) l e (.ref C) a0 g H H') : Nt Z h₀ H H' ∧ XPe Γ g c (.ref e) Z h₀ H' := by
  obtain ⟨n1,n2,n3,n4⟩ := hN
  have dict : ∀ b ∈ Γ.up,Z b = none ∧ ∃ o sl es k,H.get? b = some o ∧ H'.get? b = some { o with slots := sl } ∧ o.data = .dict es k := fun b hu => by
    refine cps fun P_ hP_ => ?_
    obtain ⟨z,o,es,k,e1,d1⟩ := ups b hu
    obtain ⟨sl,q⟩ := n4 b o e1 fun vs q => by rw [d1] at q; cases q
    refine hP_ ?_
    clear hP_ P_
    exact ⟨z,o,sl,es,k,e1,q,d1⟩
  refine ⟨fun b o eb => ?_,?_⟩
  · by_cases hb : b ∈ D
    · rcases hD b hb with rfl | ⟨q1,q2,o',ts,q3,q4⟩ | hu
      · rw [he] at eb; cases eb
        exact .inl ⟨⟨vs,hd⟩,h0,hz⟩
      · rw [q3] at eb; cases eb
        exact .inl ⟨⟨ts,q4⟩,q1,q2⟩
      · obtain ⟨z,o',sl,es,k,e1,e2,d1⟩ := dict b hu
        rw [eb] at e1; cases e1
        refine .inr ⟨fun n => ?_,_,e2,rfl,rfl⟩
        rcases n with n | n
        · rw [z] at n; cases n
        · exact absurd d1 (n es k)
    · have := n1 b o ((TI.gone_get hb).trans eb)
      exact .inr ⟨fun _ => this,o,this,rfl,rfl⟩
  · obtain ⟨oe',vs',T',oT',ts',p1,⟨p2,_⟩,p3,p4,p5,p6,p7,p8,p9⟩ := n3
    have hT : h₀.get? T' = none ∧ Z T' = none := by
      cases q : H.get? T' with
      | none =>
        refine ⟨ex T' q,?_⟩
        cases q2 : Z T' with
        | none => rfl
        | some o => have := sub T' o q2; rw [q] at this; cases this
      | some o =>
        by_cases hb : T' ∈ D
        · rcases hD T' hb with r | ⟨q1,q2,_⟩ | hu
          · exact absurd r p6
          · exact ⟨q1,q2⟩
          · obtain ⟨z,o',sl,es,k,e1,e2,d1⟩ := dict T' hu
            rw [p7] at e2; cases e2
            rw [d1] at p8; cases p8
        · rw [TI.gone_get hb,q] at p5; cases p5
    exact ⟨e,oe',vs',C,T',oT',ts',rfl,hc,h0,hz,p1,p2,p3,p4,hT.1,hT.2,p6,p7,p8,p9⟩
theorem note_same {e₀ : Env} (h : e₀.frame = env.frame) (v : Value) : noteFrame v env = noteFrame v e₀ := by
  unfold noteFrame PySem.frameOf
  rw [h]
theorem wp_note {Q : Unit → Shared → Prop} {E : Value → Shared → Prop} (AO : AOx Γ nm n A env) (sub : ∀ a o,Z a = some o → s.heap.get? a = some o) (ex : ∀ a,s.heap.get? a = none → h₀.get? a = none)
    (ups : ∀ L ∈ Γ.up,Z L = none ∧ ∃ o es k,s.heap.get? L = some o ∧ o.data = .dict es k) (x : XP Γ env.frame c v Z h₀ s.heap)
    (h : ∀ L H',env.frame = some L → Nt Z h₀ s.heap H' → XPe Γ (rawInt L) c v Z h₀ H' → Q () { s with heap := H' }) :
    wpAny (model Γ.prog Γ.w) A (noteFrame v env) Q E s := by
  refine cps fun P_ hP_ => ?_
  obtain ⟨e₀,l,hfr,hef,hl⟩ := AO.fr
  obtain ⟨hk,L,hL,hLu⟩ := hl e₀ (List.mem_cons_self ..)
  refine hP_ ?_
  clear hP_ P_
  rw [note_same hef]
  obtain ⟨e,oe,vs,C,u,rfl,a2,a3,a4,a5,a6,a7,a8,tr⟩ := x
  have hsz : 1 < vs.size := (Array.getElem?_eq_some_iff.mp a8).1
  obtain ⟨a0,h0⟩ : ∃ a0,vs[0]? = some a0 := ⟨vs[0],Array.getElem?_eq_getElem (by lia)⟩
  have upm : ∀ b ∈ (e₀ :: l).filterMap (·.frame),b ∈ Γ.up := fun b hb => by
    obtain ⟨e',he',q⟩ := List.mem_filterMap.mp hb
    obtain ⟨_,L',q',hu⟩ := hl e' he'
    rw [q] at q'; cases q'; exact hu
  rcases tr with rfl | ⟨T,oT,ts,rfl,t1,t2,t3,t4,t5,t6⟩
  · have FF := funFrames (base := TI.gone s.heap (e :: (e₀ :: l).filterMap (·.frame))) ups (e₀ :: l) hl fun b hb => TI.gone_none (List.mem_cons_of_mem _ hb)
    unfold noteFrame
    simp only [hL]
    refine wpAny_bind (wpAny_field a5 a7 a8 ?_)
    rw [if_neg (by decide)]
    refine wpAny_entryW hfr FF hL a5 (fun b o eb => (TI.gone_some eb).2) (TI.gone_none (List.mem_cons_self ..)) a7 hsz h0 fun h' hN => ?_
    rw [a6] at hN
    obtain ⟨q1,q2⟩ := of_noted (Γ := Γ) sub ex ups (fun b hb => by
      rcases List.mem_cons.mp hb with q | q
      · exact .inl q
      · exact .inr (.inr (upm b q))) a2 a3 a4 a5 a7 hN
    exact h L h' (hef ▸ hL) q1 q2
  · rcases t6 with t6 | ⟨L',q,t6⟩
    · have FF := funFrames (base := TI.gone s.heap (e :: T :: (e₀ :: l).filterMap (·.frame))) ups (e₀ :: l) hl fun b hb => TI.gone_none (List.mem_cons_of_mem _ (List.mem_cons_of_mem _ hb))
      refine wpAny_noteFrame_onW hfr FF hL ⟨oe,vs,T,oT,ts,a5,⟨a6,h0⟩,a7,a8,TI.gone_none (List.mem_cons_of_mem _ (List.mem_cons_self ..)),t3,t4,t5,t6⟩ (fun b o eb => (TI.gone_some eb).2) (TI.gone_none (List.mem_cons_self ..)) fun h' hN => ?_
      obtain ⟨q1,q2⟩ := of_noted (Γ := Γ) sub ex ups (fun b hb => by
        rcases List.mem_cons.mp hb with q | q
        · exact .inl q
        · rcases List.mem_cons.mp q with q | q
          · subst q; exact .inr (.inl ⟨t1,t2,oT,ts,t4,t5⟩)
          · exact .inr (.inr (upm b q))) a2 a3 a4 a5 a7 hN
      exact h L h' (hef ▸ hL) q1 q2
    · rw [← hef,hL] at q; cases q
      exact wpAny_noteFrame_inFlight hL a5 a7 a8 t4 t5 t6 (h L s.heap (hef ▸ hL) .refl ⟨e,oe,vs,C,T,oT,ts,rfl,a2,a3,a4,a5,a6,a7,a8,t1,t2,t3,t4,t5,t6⟩)
theorem wp_setFlight {Q : Unit → Shared → Prop} {E : Value → Shared → Prop} (x : XPe Γ g c v Z h₀ s.heap) (fr : Option Addr)
    (h : ∀ H',Nt Z h₀ s.heap H' → XPe Γ (fr.elim .none fun f => rawInt f) c v Z h₀ H' → Q () { s with heap := H' }) : wpAny (model Γ.prog Γ.w) A (setFlight v fr) Q E s := by
  obtain ⟨e,oe,vs,C,T,oT,ts,rfl,a2,a3,a4,a5,a6,a7,a8,b1,b2,b3,b4,b5,b6⟩ := x
  have hsz : 3 < ts.size := (Array.getElem?_eq_some_iff.mp b6).1
  unfold setFlight
  refine wpAny_bind (wpAny_field a5 a7 a8 ?_)
  rw [if_pos (show (Value.ref T != Value.none) = true from by simp)]
  refine wpAny_setField b4 b5 hsz (h _ (fun b o eb => ?_) ?_)
  · by_cases hb : b = T
    · subst hb; rw [b4] at eb; cases eb
      exact .inl ⟨⟨ts,b5⟩,b1,b2⟩
    · have := (Heap.get?_update_other s.heap (Obj.mapFields (·.setIfInBounds 3 (fr.elim Value.none fun f => rawInt f))) (Ne.symm hb)).trans eb
      exact .inr ⟨fun _ => this,o,this,rfl,rfl⟩
  · refine ⟨e,oe,vs,C,T,_,_,rfl,a2,a3,a4,(Heap.get?_update_other s.heap _ b3).trans a5,a6,a7,a8,b1,b2,b3,Heap.get?_update_self _ b4 (Obj.isFreed_of_fields (Obj.data_mapFields b5 _)),Obj.data_mapFields b5 _,?_⟩
    simp [hsz]
theorem wp_cameBack {E : Value → Shared → Prop} (x : XPe Γ g c v Z h₀ s.heap) (h : ∀ H',Nt Z h₀ s.heap H' → XPe Γ (env.frame.elim .none fun f => rawInt f) c v Z h₀ H' → E v { s with heap := H' }) : cameBackBy (model Γ.prog Γ.w) A env E v s := by
  unfold cameBackBy
  have x' := x
  obtain ⟨e,oe,vs,C,T,oT,ts,rfl,a2,a3,a4,a5,a6,a7,a8,_⟩ := x'
  refine wpAny_bind (wpAny_field a5 a7 a8 ?_)
  rw [if_neg (show ¬ ((Value.ref T == Value.none) = true) from by simp)]
  exact wp_setFlight x env.frame h
theorem Lv.noted {e : Value} {E : Value → Shared → Prop} (AO : AOx Γ nm n A env) (l : Lv Γ nm env Z h₀ ρ m c e Z' s.heap) (hE : ∀ H',Lv Γ nm env Z h₀ ρ m c e Z' H' → E e { s with heap := H' }) : notedBy (model Γ.prog Γ.w) A env (fun e s' => cameBackBy (model Γ.prog Γ.w) A env E e s') e s := by
  refine cps fun P_ hP_ => ?_
  obtain ⟨⟨m',p⟩,x⟩ := l
  refine hP_ ?_
  clear hP_ P_
  refine wp_note AO p.inv.sub p.ex p.inv.ups x fun L H' hL n1 x1 => ?_
  refine wp_cameBack (s := { s with heap := H' }) x1 fun H'' n2 x2 => hE H'' ⟨⟨m',p.note (n1.trans n2)⟩,x2.xp (.inr ⟨L,hL,?_⟩)⟩
  rw [hL]; rfl
theorem Lv.leaves {e : Value} {Q : Unit → Shared → Prop} {E : Value → Shared → Prop} (AO : AOx Γ nm n A env) (l : Lv Γ nm env Z h₀ ρ m c e Z' s.heap) (f : Option Addr) (hQ : ∀ H' m',Post Γ nm env Z h₀ ρ m Z' H' [] m' → XP Γ f c e Z' h₀ H' → Q () { s with heap := H' }) : wpAny (model Γ.prog Γ.w) A (leaving env e) Q E s := by
  obtain ⟨⟨m',p⟩,x⟩ := l
  unfold leaving
  refine wpAny_bind (wp_note AO p.inv.sub p.ex p.inv.ups x fun L H' hL n1 x1 => ?_)
  exact wp_setFlight (s := { s with heap := H' }) x1 none fun H'' n2 x2 => hQ H'' m' (p.note (n1.trans n2)) (x2.xp (.inl rfl))
end
end Mine
namespace Mine
open PySem PySem.Calls PyProof.Rows
section
variable {Γ : Cx} {n : Nat} {Φ : Nat → List Val → Out Val} {A : Around} {env : Env} {Z Z' : Led} {s : Shared} {nm : Nm} {ρ ρ' : List Val} {m m' : Str → Option Value} {h₀ h h' h'' : Heap}
theorem Post.walk (P : Post Γ nm env Z h₀ ρ m Z' h ρ' m') (W : Addr → Prop) (hk : ∀ b o,¬ W b → h.get? b = some o → h'.get? b = some o) (hu : ∀ b,W b → b ∉ Γ.up) (hx : ∀ b o C,W b → h.get? b = some o → o.cls ≠ .ref C) (h0 : ∀ b,W b → h₀.get? b = none) (hz : ∀ b,W b → Z' b = none) (hf : ∀ b,W b → ¬ FP env b) (ho : ∀ b,W b → ¬ OwnAt nm ρ' m' b) (hr : ∀ b,W b → ¬ BorAt nm ρ' m' b) :
    Post Γ nm env Z h₀ ρ m Z' h' ρ' m' := by
  have I := P.inv
  refine ⟨⟨⟨?_,?_,I.fr.inj⟩,fun b o e => hk b o (fun q => by rw [hz b q] at e; cases e) (I.sub b o e),I.ok,I.zfp,I.kz,?_,?_,I.nopr,I.inj,I.fpb,I.ownb,I.apart⟩,P.le,P.new,?_,P.own,fun c q => ?_,P.bor,P.oth⟩
  · obtain ⟨ml',a,b⟩ := I.fr.loc
    exact ⟨ml',a.at' fun o e => hk _ o (fun q => hf _ q (.inl rfl)) e,b⟩
  · intro x k
    obtain ⟨c,l,o,e,hd⟩ := I.fr.cel x k
    exact ⟨c,l,o,hk _ o (fun q => hf _ q (.inr ⟨x,k,l⟩)) e,hd⟩
  · intro L hL
    refine cps fun P_ hP_ => ?_
    obtain ⟨z,o,es,k,e,d⟩ := I.ups L hL
    refine hP_ ?_
    clear hP_ P_
    exact ⟨z,o,es,k,hk L o (fun q => hu L q hL) e,d⟩
  · intro x j l nu
    obtain ⟨v,hv,r⟩ := I.var x j l nu
    refine ⟨v,hv,?_⟩
    generalize hy : ρ'.getD j .un = y at *
    cases y with
    | own ds => obtain ⟨b,e,f,vs,z,⟨k,q⟩,ll,rr⟩ := r; subst e; exact ⟨b,rfl,f,vs,z,⟨k,hk _ _ (fun w => ho b w ⟨x,j,ds,l,hy,hv⟩) q⟩,ll,rr⟩
    | bor ds => obtain ⟨b,vs,e,⟨k,q⟩,ll,rr⟩ := r; subst e; exact ⟨b,vs,rfl,⟨k,hk _ _ (fun w => hr b w ⟨x,j,ds,l,hy,hv⟩) q⟩,ll,rr⟩
    | pr d ds => exact absurd hy (I.nopr j d ds)
    | un => exact r
    | sh d => exact r
    | shop a b => exact r
    | exc c => obtain ⟨e,oe,vs,D,h1,h2,h3,h4,h5⟩ := r; exact ⟨e,oe,vs,D,h1,h2,hk e oe (fun q => hx e oe D q h3 h4) h3,h4,h5⟩
  · intro b o nb e
    have nw : ¬ W b := fun q => by rw [h0 b q] at e; cases e
    refine cps fun P_ hP_ => ?_
    obtain ⟨k1,o',e',d',c'⟩ := P.kp b o nb e
    refine hP_ ?_
    clear hP_ P_
    exact ⟨fun nf => hk b o nw (k1 nf),o',hk b o' nw e',d',c'⟩
  · by_cases hc : W c
    · exact h0 c hc
    · refine P.ex c ?_
      cases q' : h.get? c with
      | none => rfl
      | some o => rw [hk c o hc q'] at q; cases q
noncomputable def forF (Φ : Nat → List Val → Out Val) (tg : List Nat) (b : T) (ρ : List Val) (d : Dat) : Out (Fl × List Val) := bindT tg d ρ >>= ex Φ b
theorem ex_for_eq (tg : List Nat) (it b : T) (ρ : List Val) : ex Φ (.for_ tg it b) ρ = (itsF Φ it ρ >>= fun ds => forL (forF Φ tg b) ds ρ) := rfl
theorem tgVars_ok {xs : List Str} {is : List Nat} (h : tgVars nm env.scope xs is = true) : TgOk nm env xs is :=
  ⟨beq_inv (and_inv h).1,fun k x i h1 h2 => by
    have hm : (x,i) ∈ xs.zip is := List.mem_of_getElem? (i := k) (List.getElem?_zip_eq_some.mpr ⟨h1,h2⟩)
    obtain ⟨kd,nl⟩ := varOf_kind (beq_inv (and_inv (List.all_eq_true.mp (and_inv h).2 _ hm)).1)
    exact ⟨nl,kd⟩⟩
inductive FAt (Γ : Cx) (nm : Nm) (env : Env) (Z Z₂ : Led) (s : Shared) (ρ : List Val) (m : Str → Option Value) (St : Nat → Heap → Prop) (fp wr : List Addr) (F : List Val → Dat → Out (Fl × List Val)) (ds : List Dat) (k : Nat) (s' : Shared) : Prop
  | mk (i : _) (h' : _) (tk : _) (Z' : _) (ρ' : _) (m' : _) : (s' = { s with heap := h',toks := tk }) → (i ≤ ds.length) → (k = ds.length + 1 - i) → St i h' → Post Γ nm env Z s.heap ρ m Z' h' ρ' m' → Led.le Z₂ Z' → ((∀ b ∈ wr,Z' b = none)) → ((∀ b ∈ fp,¬ OwnAt nm ρ' m' b)) → (forL F (ds.drop i) ρ' = forL F ds ρ) → FAt Γ nm env Z Z₂ s ρ m St fp wr F ds k s'
theorem own_ex {Z : Led} {h : Heap} {ρ : List Val} {m : Str → Option Value} (I : Inv Γ nm ρ env Z h m) {b : Addr} (x : OwnAt nm ρ m b) : Z b = none ∧ ∃ o,h.get? b = some o := by
  refine cps fun P_ hP_ => ?_
  obtain ⟨x,i,es,lx,hx,hm⟩ := x
  obtain ⟨a,e,vs,zn,⟨k,pl⟩,_⟩ := own_var I lx hx
  refine hP_ ?_
  clear hP_ P_
  rw [hm] at e; cases e
  exact ⟨zn,_,pl⟩
theorem bor_ex {Z : Led} {h : Heap} {ρ : List Val} {m : Str → Option Value} (I : Inv Γ nm ρ env Z h m) {b : Addr} (x : BorAt nm ρ m b) : ∃ vs,h.PlainList b vs := by
  obtain ⟨x,i,es,lx,hx,hm⟩ := x
  obtain ⟨v,hv,r⟩ := I.var x i lx (by rw [hx]; exact nofun)
  rw [hx] at r; rw [hm] at hv; cases hv
  obtain ⟨c,vs,e,pl,_⟩ := r
  cases e
  exact ⟨_,pl⟩
theorem PlainList.ex {b : Addr} {vs : Array Value} (p : h.PlainList b vs) (e : h.get? b = none) : False := by obtain ⟨k,q⟩ := p; rw [e] at q; cases q
set_option maxHeartbeats 1000000 in
theorem sndS_for {tg : List Nat} {it b : T} (hit : SndF Γ n Φ it) (hb : SndB Γ n Φ b) : SndS Γ n Φ (.for_ tg it b) := fun nm ρ A env Z s m st hc O AO I => inv_for hc fun target iter body pos xs hst h1 h2 h3 hxs h4 _ _ h5 => by
  subst hst
  have TG : TgOk nm env xs tg := tgVars_ok h4
  rw [ex_for_eq]
  intro hne Q E hQ hE
  have hA := AO.hd (loud_for hc)
  refine wpAny_For ?_ (notSet_folded h1 env)
  refine hit nm ρ A env Z s m target iter h3 (zipTo_tg h2 hxs TG.1) O AO I (fun q => hne (by rw [q]; rfl)) _ E (fun ds itv Z₂ h₂ tk₂ e₂ g₂ q => ?_) fun c e Z' h' tk q g xp => hE c e Z' h' tk (by rw [q]; rfl) (.of I g xp)
  rw [e₂,Out.bind_ok] at hne hQ hE
  obtain ⟨J,fp,wr,P,Md,St,rfl,hlen,W,hst,hwr,hfp,hP⟩ := q
  have KT := W.k A hA
  have I2 := I.grow g₂
  have fpFP : ∀ b ∈ fp,¬ FP env b := fun b hb p => by
    rcases hfp b hb with q | ⟨o,q⟩ | q
    · obtain ⟨o,e⟩ := I.fr.there p; rw [q.1] at e; cases e
    · rw [I2.zfp b p] at q; cases q
    · obtain ⟨vs,k,pl⟩ := bor_ex I2 q
      exact I2.fr.noSeq p pl _ _ rfl
  have fpOwn : ∀ b ∈ fp,¬ OwnAt nm ρ m b := fun b hb p => by
    rcases hfp b hb with q | ⟨o,q⟩ | ⟨x,i,es,lx,hx,hm⟩
    · obtain ⟨o,e⟩ := (own_ex I p).2; rw [q.1] at e; cases e
    · rw [(own_ex I2 p).1] at q; cases q
    · obtain ⟨y,j,es',ly,hy,hm'⟩ := p
      have := I.apart y x j i b es' es ly lx hy (.inr hx) hm' hm
      subst this
      rw [ly] at lx; cases lx; rw [hx] at hy; cases hy
  have wrBor : ∀ b ∈ wr,¬ BorAt nm ρ m b := fun b hb q => let ⟨_,pl⟩ := bor_ex I q; PlainList.ex pl (hwr b hb).1
  refine codeAny_forLoop_any (FAt Γ nm env Z Z₂ s ρ m St fp wr (forF Φ tg b) ds) ?_ (ds.length + 1)
    ⟨0,h₂,tk₂,Z₂,ρ,m,rfl,Nat.zero_le _,rfl,hst,Post.grow I g₂,fun _ _ e => e,fun b hb => (hwr b hb).2,fpOwn,rfl⟩
  rintro k s' ⟨i,H,tk,Z',ρ',m',rfl,hi,rfl,st,PP,le,zw,fo,hrest⟩
  have mk : ∀ H' : Heap,(∀ b o,b ∉ wr → H.get? b = some o → H'.get? b = some o) → Post Γ nm env Z s.heap ρ m Z' H' ρ' m' := fun H' hk =>
    PP.walk (fun b => b ∈ wr) hk (fun b hb => I.notUp (hwr b hb).1) (fun b o C hb e q => by obtain ⟨o',e',_,T,hT⟩ := W.live _ _ st b (KT.sub b hb); rw [e] at e'; cases e'; rw [hT] at q; cases q) (fun b hb => (hwr b hb).1) zw (fun b hb => fpFP b (KT.sub b hb)) (fun b hb => fo b (KT.sub b hb)) (fun b hb q => wrBor b hb (PP.bor b q))
  by_cases hlt : i < ds.length
  · refine KT.item i _ _ _ hlt st fun v H1 tk1 hMd keep1 => KT.go i v _ _ _ hMd fun H2 hPv st2 keep2 => ?_
    have PP2 := mk H2 fun b o hb e => keep2 b o hb (keep1 b o hb e)
    have hd : ds[i]? = some ds[i] := List.getElem?_eq_getElem hlt
    have hdrop : ds.drop i = ds[i] :: ds.drop (i + 1) := List.drop_eq_getElem_cons hlt
    generalize hdi : ds[i] = d at hd hdrop
    rw [hdrop,forL] at hrest
    have hfd : forF Φ tg b ρ' d ≠ .bad := fun q => hne (by rw [← hrest,q]; rfl)
    rcases bindT_cases tg d ρ' with q | ⟨ρ1,hbt⟩
    · exact absurd (by unfold forF; rw [q]; rfl) hfd
    have ef : forF Φ tg b ρ' d = ex Φ b ρ1 := by unfold forF; rw [hbt]; rfl
    rw [ef] at hrest hfd
    refine assign_tgt (s := { s with heap := H2,toks := tk1 }) (W := FP env) O.kind hA hxs TG (fun x _ => StW.fp env x) ((hP i v H2 d hPv hd).mono le) hbt PP2.inv fun H3 tk3 m3 P3 keep3 => ?_
    have PP3 := PP2.trans P3
    have fo3 : ∀ b ∈ fp,¬ OwnAt nm ρ1 m3 b := fun b hb q => by
      rcases P3.own b q with q | q
      · exact fo b hb q
      · obtain ⟨o,e,_⟩ := W.live _ _ st2 b hb; rw [q] at e; cases e
    have st3 : St (i + 1) H3 := KT.frame _ _ _ st2 fun b hb o e => keep3 b o (fpFP b hb) e
    refine hb nm ρ1 A env Z' { s with heap := H3,toks := tk3 } m3 body h5 O AO P3.inv hfd _ _ (fun fl ρ2 f Z4 h4 tk4 m4 e4 P4 x4 => ?_) fun c e Z4 h4 tk4 q l => Lv.noted (s := { s with heap := h4,toks := tk4 }) AO (l.back PP3) fun H' l' => hE c e Z4 H' tk4 (by rw [← hrest,q]; rfl) l'
    rw [e4] at hrest
    have PP4 := PP3.trans P4
    cases fl with
    | next =>
      have : f = .next := x4
      subst this
      refine ⟨ds.length + 1 - (i + 1),by lia,i + 1,h4,tk4,Z4,ρ2,m4,rfl,hlt,rfl,?_,PP4,fun a o e => P4.le a o (le a o e),?_,?_,hrest⟩
      · refine KT.frame _ _ _ st3 fun b hb o e => ?_
        obtain ⟨o',e',nf⟩ := W.live _ _ st3 b hb
        rw [e] at e'; cases e'
        exact (P4.kp b o (fun q => q.elim (fpFP b hb) (fo3 b hb)) e).1 (.inr nf.1)
      · intro b hb
        cases q : Z4 b with
        | none => rfl
        | some o =>
          obtain ⟨o',e',_⟩ := W.live _ _ st3 b (KT.sub b hb)
          rcases P4.new b o q with q | q | q
          · rw [zw b hb] at q; cases q
          · have q : H3.get? b = none := q
            rw [q] at e'; cases e'
          · exact absurd q (fo3 b (KT.sub b hb))
      · intro b hb q
        rcases P4.own b q with q | q
        · exact fo3 b hb q
        · have q : H3.get? b = none := q
          obtain ⟨o',e',_⟩ := W.live _ _ st3 b hb; rw [q] at e'; cases e'
    | ret u =>
      obtain ⟨w,rfl,rr⟩ := x4
      have hrest : Out.ok (Fl.ret u,ρ2) = forL (forF Φ tg b) ds ρ := hrest
      exact hQ (.ret u) ρ2 (.ret w) Z4 h4 tk4 m4 hrest.symm PP4 (FlIs.back PP3 ⟨w,rfl,rr⟩)
  · have hin : i = ds.length := by lia
    subst hin
    refine KT.done _ _ _ st fun H1 tk1 keep1 => wpAny_execs_nil ?_
    rw [List.drop_length] at hrest
    exact hQ .next ρ' .next Z' H1 tk1 m' hrest.symm (mk H1 keep1) rfl
noncomputable def whlF (Φ : Nat → List Val → Out Val) (c b : T) (ρ : List Val) : Out (Option (Fl × List Val)) := (ev Φ c ρ >>= boolD) >>= fun x => if x then ex Φ b ρ >>= fun r => .ok (some r) else .ok Option.none
theorem ex_whl_eq (c b : T) (ρ : List Val) : ex Φ (.whl c b) ρ = whlL (whlF Φ c b) turns ρ := rfl
theorem sndS_whl {c b : T} (hc' : SndT Γ n Φ c) (hb : SndB Γ n Φ b) : SndS Γ n Φ (.whl c b) := fun nm ρ A env Z s m st hc O AO I => inv_whl hc fun t x pos hst k1 k2 => by
  subst hst
  rw [ex_whl_eq]
  intro hne Q E hQ hE
  refine wpAny_While (codeAny_whileLoop (fun k s' => ∃ h' tk Z' ρ' m',s' = { s with heap := h',toks := tk } ∧ Post Γ nm env Z s.heap ρ m Z' h' ρ' m' ∧ whlL (whlF Φ c b) k ρ' = whlL (whlF Φ c b) turns ρ) ?_ turns ⟨s.heap,s.toks,Z,ρ,m,rfl,Post.grow I I.refl,rfl⟩)
  rintro k s' ⟨H,tk,Z',ρ',m',rfl,PP,hrest⟩
  cases k with
  | zero => rw [whlL] at hrest; exact absurd hrest.symm hne
  | succ k =>
    rw [whlL] at hrest
    have hfd : whlF Φ c b ρ' ≠ .bad := fun q => hne (by rw [← hrest,q]; rfl)
    refine hc' nm ρ' A env Z' { s with heap := H,toks := tk } m' t k1 O AO PP.inv (fun q => hfd (by unfold whlF; rw [q]; rfl)) _ _ (fun d v Z2 h2 tk2 ed g p => ?_) fun c' e Z4 h4 tk4 q g xp => Lv.noted (s := { s with heap := h4,toks := tk4 }) AO (.back PP (.of PP.inv g xp)) fun H' l' => hE c' e Z4 H' tk4 (by rw [← hrest,show whlF Φ c b ρ' = .exn c' by unfold whlF; rw [q]; rfl]; rfl) l'
    have p : v = d := p
    subst p
    have PP2 := PP.trans (Post.grow PP.inv g)
    cases v with
    | true =>
      have e1 : whlF Φ c b ρ' = (ex Φ b ρ' >>= fun r => .ok (some r)) := by unfold whlF; rw [ed]; rfl
      rw [e1] at hrest hfd
      rw [if_pos rfl]
      refine hb nm ρ' A env Z2 { s with heap := h2,toks := tk2 } m' x k2 O AO PP2.inv (fun q => hfd (by rw [q]; rfl)) _ _ (fun fl ρ2 f Z4 h4 tk4 m4 e4 P4 x4 => ?_) fun c' e Z4 h4 tk4 q l => Lv.noted (s := { s with heap := h4,toks := tk4 }) AO (l.back PP2) fun H' l' => hE c' e Z4 H' tk4 (by rw [← hrest,q]; rfl) l'
      rw [e4] at hrest
      have PP4 := PP2.trans P4
      cases fl with
      | next =>
        have : f = .next := x4
        subst this
        exact ⟨k,Nat.lt_succ_self k,h4,tk4,Z4,ρ2,m4,rfl,PP4,hrest⟩
      | ret u =>
        obtain ⟨w,rfl,rr⟩ := x4
        have hrest : Out.ok (Fl.ret u,ρ2) = whlL (whlF Φ c b) turns ρ := hrest
        exact hQ (.ret u) ρ2 (.ret w) Z4 h4 tk4 m4 hrest.symm PP4 (FlIs.back PP2 ⟨w,rfl,rr⟩)
    | false =>
      have e1 : whlF Φ c b ρ' = .ok Option.none := by unfold whlF; rw [ed]; rfl
      rw [e1] at hrest
      rw [if_neg (by decide)]
      have hrest : Out.ok (Fl.next,ρ') = whlL (whlF Φ c b) turns ρ := hrest
      exact wpAny_execs_nil (hQ .next ρ' .next Z2 h2 tk2 m' hrest.symm PP2 rfl)
end
end Mine
namespace Mine
open PySem PySem.Calls PyProof.Rows
section
variable {Γ : Cx} {n : Nat} {Φ : Nat → List Val → Out Val} {A : Around} {env : Env} {Z Z' Z'' : Led} {s : Shared} {nm : Nm} {ρ ρ' ρ'' : List Val} {m m' m'' : Str → Option Value} {h₀ h h' h'' : Heap}
theorem sndS_raise (C : CxOk Γ) {k : Nat} {y : List Nat} : SndS Γ n Φ (.raise k y) := fun nm ρ A env Z s m st hc O AO I => inv_raise hc fun x px v q p hst hl h1 h2 h4 => by
  subst hst
  obtain ⟨hlo,hk⟩ := and_inv hl
  obtain ⟨kd,l⟩ := globOf_kind h2
  cases k with
  | zero => exact (Bool.false_ne_true hk).elim
  | succ k =>
    refine cps fun P_ hP_ => ?_
    obtain ⟨Cc,hm,hcx,⟨_,ow⟩⟩ := C.gl _ _ l
    obtain ⟨tl,N,nm',q',bs,hdct,sn,sub,ab,col,dd,k0,k1,k2,k3,k5,mN,e1,e2,e3,e4⟩ := ow
    refine hP_ ?_
    clear hP_ P_
    have ct : chkT Γ.gs (.cons (.cS y) .nil) nm env.scope [v] = true := by
      refine inv_cS h4 fun a0 a1 a2 hv g1 g2 g3 => ?_
      show (notStar v && chk Γ.gs (.cS y) nm env.scope v && true) = true
      rw [h4,hv]; rfl
    intro _ Q E hQ hE
    refine wpAny_Raise_call_subT (C := Cc) (nm := nm') (q := q') (N := N) (bs := bs) (bm := tl) (hdct := hdct) (sn := sn) (sub := sub) (ab := ab) (col := col) (dd := dd) (k0 := k0) (k1 := k1) (k2 := k2) (k3 := k3) (k5 := k5) PySem.F.excBase_ValueError (e4.hasType rfl) (AO.hd hlo) (chkT_plain ct) e3 (load_glob O C.g I kd hm h1 ⟨rfl,evalArgs_all ct ?_⟩)
    have ev1 : evT Φ (.cons (.cS y) .nil) ρ = .ok [.sh (.str y)] := rfl
    have HL := snd_cons (Γ := Γ) (n := n) (Φ := Φ) (snd_cS (x := y)) snd_nil nm ρ A env Z s m [v] q ct O AO I
    rw [ev1] at HL
    refine HL nofun _ _ (fun xs vs Z' h' tk ex g r => ?_) fun c e Z' h' tk ex _ _ => nomatch ex
    have kb : Kp Γ.base h' := (I.grow g).kb
    refine ⟨rfl,?_,kb _ _ e1,kb.ns e2,e4.keeps kb,fun h'' e hme => ?_⟩
    · show vs.length ≤ sizeLine
      rw [r.2]; show 1 ≤ sizeLine; decide
    · have g2 := g.trans (Grow.keep g.sub g.ok (Kp.of hme.keeps))
      obtain ⟨t,ht,_⟩ := hme.there
      exact hE (k + 1) (.ref e) Z' h'' tk rfl (Lv.of I g2 ⟨e,_,_,Cc,.none,rfl,hcx,g.kp.none hme.new,led_none g.sub hme.new,ht,rfl,rfl,rfl,.inl rfl⟩)
theorem Inv.blank (I : Inv Γ nm [] env Z h m) (hu : ∀ i,ρ.getD i .un = .un) : Inv Γ nm ρ env Z h m :=
  ⟨I.fr,I.sub,I.ok,I.zfp,I.kz,I.ups,fun x i l hn => absurd (hu i) hn,fun i d ds q => (by rw [hu i] at q; cases q),I.inj,I.fpb,fun a ⟨x,i,ds,l,q,_⟩ => (by rw [hu i] at q; cases q),fun x y i j a ds es _ _ q => (by rw [hu i] at q; cases q)⟩
theorem Post.blank (p : Post Γ nm env Z h ρ m Z' h' [] m') (hu : ∀ i,ρ'.getD i .un = .un) : Post Γ nm env Z h ρ m Z' h' ρ' m' :=
  ⟨p.inv.blank hu,p.le,p.new,p.kp,fun a ⟨x,i,ds,l,q,_⟩ => (by rw [hu i] at q; cases q),p.ex,fun a ⟨x,i,ds,l,q,_⟩ => (by rw [hu i] at q; cases q),p.oth⟩
theorem quiet_of {x : Str} {i : Nat} (h : nm.lookup x = some i) : (quietNm nm).lookup x = some i := by
  unfold quietNm; rw [List.lookup_append,h]; rfl
theorem quiet_lookup {x : Str} {i : Nat} (h : (quietNm nm).lookup x = some i) : nm.lookup x = some i ∨ (x = quietS ∧ i = 1000) := by
  unfold quietNm at h
  rw [List.lookup_append] at h
  cases q : nm.lookup x with
  | some j => rw [q] at h; exact .inl h
  | none =>
    rw [q,Option.none_or,List.lookup_cons] at h
    by_cases e : x = quietS
    · rw [beq_iff_eq.mpr e] at h; cases h; exact .inr ⟨e,rfl⟩
    · rw [beq_eq_false_iff_ne.mpr e] at h; cases h
theorem quiet_none {x : Str} (h : nm.lookup x = none) (hx : x ≠ quietS) : (quietNm nm).lookup x = none := by
  unfold quietNm; rw [List.lookup_append,h,Option.none_or,List.lookup_cons,beq_eq_false_iff_ne.mpr hx]; rfl
theorem quiet_loud : loud (quietNm nm) = true → False := fun h => by
  unfold loud quietNm at h
  rw [List.lookup_append,List.lookup_cons,beq_self_eq_true] at h
  cases q : nm.lookup quietS <;> (rw [q] at h; cases h)
theorem Inv.quiet (I : Inv Γ nm ρ env Z h m) (hs : ∀ x i,nm.lookup x = some i → i < 1000) (hu : ρ.getD 1000 .un = .un) : Inv Γ (quietNm nm) ρ env Z h m := by
  have own : ∀ x i ds,(quietNm nm).lookup x = some i → (ρ.getD i .un = .own ds ∨ ρ.getD i .un = .bor ds) → nm.lookup x = some i := fun x i ds l q => by
    rcases quiet_lookup l with l | ⟨_,rfl⟩
    · exact l
    · rw [hu] at q; rcases q with q | q <;> cases q
  refine ⟨I.fr,I.sub,I.ok,I.zfp,I.kz,I.ups,fun x i l hn => ?_,I.nopr,fun x y k lx ly => ?_,I.fpb,fun a ⟨x,i,ds,l,q,e⟩ => I.ownb a ⟨x,i,ds,own x i ds l (.inl q),q,e⟩,fun x y i j a ds es l1 l2 q1 q2 => I.apart x y i j a ds es (own x i ds l1 (.inl q1)) (own y j es l2 q2) q1 q2⟩
  · rcases quiet_lookup l with l | ⟨_,rfl⟩
    · exact I.var x i l hn
    · exact absurd hu hn
  · rcases quiet_lookup lx with lx | ⟨ex,kx⟩ <;> rcases quiet_lookup ly with ly | ⟨ey,ky⟩
    · exact I.inj x y k lx ly
    · exact absurd (hs x k lx) (by rw [ky]; decide)
    · exact absurd (hs y k ly) (by rw [kx]; decide)
    · rw [ex,ey]
theorem Post.loud (P : Post Γ (quietNm nm) env Z h ρ m Z' h' ρ' m') (hl : loud nm = true) (hk : env.kindOf quietS = none) (hno : ∀ i ds,ρ.getD i .un ≠ .own ds ∧ ρ.getD i .un ≠ .bor ds) : Post Γ nm env Z h ρ m Z' h' ρ' (fun x => if x = quietS then m x else m' x) := by
  have I := P.inv
  have ql : nm.lookup quietS = none := Option.isNone_iff_eq_none.mp hl
  have ne : ∀ {x : Str} {i : Nat},nm.lookup x = some i → x ≠ quietS := fun l q => by rw [q,ql] at l; cases l
  have nk : ∀ {x : Str} {k : NameKind},env.kindOf x = some k → x ≠ quietS := fun l q => by rw [q,hk] at l; cases l
  have mm : ∀ {x : Str},x ≠ quietS → (fun x => if x = quietS then m x else m' x) x = m' x := fun q => if_neg q
  have ow : ∀ {a : Addr},OwnAt nm ρ' (fun x => if x = quietS then m x else m' x) a → OwnAt (quietNm nm) ρ' m' a := fun ⟨x,i,ds,l,q,e⟩ => ⟨x,i,ds,quiet_of l,q,(mm (ne l)).symm.trans e⟩
  have no : ∀ a,¬ OwnAt (quietNm nm) ρ m a := fun a ⟨x,i,ds,l,q,e⟩ => (hno i ds).1 q
  refine ⟨⟨⟨?_,fun x k => ?_,I.fr.inj⟩,I.sub,I.ok,I.zfp,I.kz,I.ups,fun x i l hn => ?_,I.nopr,fun x y k lx ly => I.inj x y k (quiet_of lx) (quiet_of ly),I.fpb,fun a o => I.ownb a (ow o),fun x y i j a ds es l1 l2 q1 q2 e1 e2 => I.apart x y i j a ds es (quiet_of l1) (quiet_of l2) q1 q2 ((mm (ne l1)).symm.trans e1) ((mm (ne l2)).symm.trans e2)⟩,P.le,fun a o e => ?_,fun b o nb e => ?_,fun a o => ?_,P.ex,fun a o => ?_,fun x l => ?_⟩
  · obtain ⟨ml,a,b⟩ := I.fr.loc
    exact ⟨ml,a,fun x k => (b x k).trans (mm (nk k)).symm⟩
  · obtain ⟨c,l,i⟩ := I.fr.cel x k
    exact ⟨c,l,by rw [if_neg (nk k)]; exact i⟩
  · obtain ⟨v,e,r⟩ := I.var x i (quiet_of l) hn
    exact ⟨v,(mm (ne l)).trans e,r⟩
  · rcases P.new a o e with q | q | q
    · exact .inl q
    · exact .inr (.inl q)
    · exact absurd q (no a)
  · exact P.kp b o (fun q => q.elim (fun q => nb (.inl q)) (no b)) e
  · rcases P.own a (ow o) with q | q
    · exact absurd q (no a)
    · exact .inr q
  · obtain ⟨x,i,ds,l,q,e⟩ := o
    obtain ⟨x',i',ds',l',q',e'⟩ := P.bor a ⟨x,i,ds,quiet_of l,q,(mm (ne l)).symm.trans e⟩
    exact absurd q' (hno i' ds').2
  · by_cases q : x = quietS
    · exact if_pos q
    · exact (mm q).trans (P.oth x (quiet_none l q))
theorem Post.goes (I : Inv Γ nm ρ env Z h m) {x : Str} {i : Nat} (hx : nm.lookup x = some i) {v : Option Value} (hs : Heap.SameBut env.locals h h') (F' : FrS env h' (fun y => if y = x then v else m y)) : Post Γ nm env Z h ρ m Z h' (ρ.set i .un) (fun y => if y = x then v else m y) := by
  have p : FP env env.locals := .inl rfl
  have get_ne : ∀ j,j ≠ i → (ρ.set i Val.un).getD j .un = ρ.getD j .un := fun j hj => by simp [List.getD,List.getElem?_set,Ne.symm hj]
  have get_i : (ρ.set i Val.un).getD i .un = .un := by
    by_cases hi : i < ρ.length
    · simp [List.getD,hi]
    · simp [List.getD,Nat.not_lt.mp hi]
  have mm : ∀ {y : Str},y ≠ x → (fun y => if y = x then v else m y) y = m y := fun q => if_neg q
  have jn : ∀ {y : Str} {j : Nat},nm.lookup y = some j → (ρ.set i Val.un).getD j .un ≠ .un → y ≠ x ∧ j ≠ i := fun {y j} l nu => by
    have ej : j ≠ i := fun q => nu (by rw [q]; exact get_i)
    exact ⟨fun q => by rw [q,hx] at l; cases l; exact ej rfl,ej⟩
  have ow : ∀ {a : Addr},OwnAt nm (ρ.set i .un) (fun y => if y = x then v else m y) a → OwnAt nm ρ m a := fun ⟨y,j,ds,l,q,e⟩ => by
    obtain ⟨n1,n2⟩ := jn l (by rw [q]; simp)
    exact ⟨y,j,ds,l,(get_ne j n2).symm.trans q,(mm n1).symm.trans e⟩
  refine ⟨⟨F',fun b o e => hs.extBut b o (fun q => by subst q; rw [I.zfp _ p] at e; cases e) (I.sub b o e),I.ok,I.zfp,I.kz,fun L hL => ⟨(I.ups L hL).1,I.fr.dict F' p hs (I.ups L hL).2⟩,fun y j l nu => ?_,fun j d ds q => ?_,I.inj,I.fpb,fun a o => I.ownb a (ow o),fun x1 x2 i1 i2 a ds es l1 l2 q1 q2 e1 e2 => ?_⟩,fun _ _ e => e,fun _ _ e => .inl e,fun b o nb e => ?_,fun a o => .inl (ow o),?_,fun a o => ?_,fun y l => mm fun q => by rw [q,hx] at l; cases l⟩
  · obtain ⟨n1,n2⟩ := jn l nu
    rw [get_ne j n2] at nu ⊢
    obtain ⟨u,e,r⟩ := I.var y j l nu
    exact ⟨u,(mm n1).trans e,r.store I.fr p hs⟩
  · by_cases ej : j = i
    · subst ej; rw [get_i] at q; cases q
    · rw [get_ne j ej] at q; exact I.nopr j d ds q
  · obtain ⟨a1,a2⟩ := jn l1 (by rw [q1]; simp)
    obtain ⟨b1,b2⟩ := jn l2 (by rcases q2 with q2 | q2 <;> (rw [q2]; simp))
    rw [get_ne _ a2] at q1
    rw [get_ne _ b2] at q2
    exact I.apart x1 x2 i1 i2 a ds es l1 l2 q1 q2 ((mm a1).symm.trans e1) ((mm b1).symm.trans e2)
  · have hb : b ≠ env.locals := fun q => nb (.inl (q ▸ p))
    exact ⟨fun _ => hs.extBut b o hb e,o,hs.extBut b o hb e,rfl,rfl⟩
  · obtain ⟨ml,⟨o,es,ep,e,_⟩,_⟩ := F'.loc
    exact sameBut_ex hs ⟨o,e⟩
  · obtain ⟨y,j,ds,l,q,e⟩ := o
    obtain ⟨n1,n2⟩ := jn l (by rw [q]; simp)
    exact ⟨y,j,ds,l,(get_ne j n2).symm.trans q,(mm n1).symm.trans e⟩
theorem map_un (ρ : List Val) (i : Nat) : (ρ.map fun _ => Val.un).getD i .un = .un := by
  simp only [List.getD,List.getElem?_map]
  cases ρ[i]? <;> rfl
theorem set_exc (ρ : List Val) (i c j : Nat) : ((ρ.map fun _ => Val.un).set i (.exc c)).getD j .un = .un ∨ (j = i ∧ ((ρ.map fun _ => Val.un).set i (.exc c)).getD j .un = .exc c) := by
  by_cases hj : j = i
  · subst hj
    by_cases hi : j < ρ.length
    · exact .inr ⟨rfl,by simp [List.getD,hi]⟩
    · exact .inl (by simp [List.getD,Nat.not_lt.mp hi])
  · left
    have : ((ρ.map fun _ => Val.un).set i (.exc c)).getD j .un = (ρ.map fun _ => Val.un).getD j .un := by simp only [List.getD,List.getElem?_set,Ne.symm hj,if_false]
    rw [this]; exact map_un ρ j
theorem tryS_exn {i c : Nat} {H : List Val → Out (Fl × List Val)} : tryS i H ρ (.exn c) = (noX (H ((ρ.map fun _ => Val.un).set i (.exc c))) >>= fun r => plF r.1 >>= fun f => .ok (f,r.2.set i .un)) := rfl
set_option maxHeartbeats 1000000 in
theorem sndS_try (C : CxOk Γ) {a b : T} {k i : Nat} (ha : SndB Γ n Φ a) (hb : SndB Γ n Φ b) : SndS Γ n Φ (.try_ a k i b) := fun nm ρ A env Z s m st hc O AO I => inv_try hc fun body x px nn b0 sb hp p hst hl h1 h2 h3 h4 h5 h6 h7 => by
  subst hst
  refine cps fun P_ hP_ => ?_
  obtain ⟨kd,gl⟩ := globOf_kind h2
  obtain ⟨Tc,hm,hT,_⟩ := C.gl _ _ gl
  obtain ⟨_,nl⟩ := varOf_kind h4
  obtain ⟨hkq,hsm⟩ := and_inv h5
  refine hP_ ?_
  clear hP_ P_
  have hsm : ∀ x i,nm.lookup x = some i → i < 1000 := fun x i l => Nat.le_of_ble_eq_true (List.all_eq_true.mp hsm _ (mem_of_lookup l))
  show StT Γ nm env Z s ρ m (tryS i (ex Φ b) ρ (ex Φ a ρ)) _
  intro hne Q E hQ hE
  refine wpAny_Try_except (ha nm ρ A env Z s m body h6 O AO I (fun q => hne (by rw [q]; rfl)) _ _ (fun fl ρ' f Z' h' tk m' e P x => ?_) fun c e Z' h' tk q l => ?_)
  · rw [e] at hQ
    cases fl with
    | next =>
      have : f = .next := x
      subst this
      exact wpAny_execs_nil (hQ .next ρ' .next Z' h' tk m' rfl P rfl)
    | ret u =>
      obtain ⟨w,rfl,r⟩ := x
      exact hQ (.ret u) ρ' (.ret w) Z' h' tk m' rfl P ⟨w,rfl,r⟩
  · rw [q,tryS_exn] at hne hQ
    obtain ⟨⟨m1,P1⟩,x1⟩ := l
    refine wp_note AO P1.inv.sub P1.ex P1.inv.ups x1 fun L H1 hL n1 y1 => ?_
    refine wp_setFlight (s := { s with heap := H1,toks := tk }) y1 none fun H2 n2 y2 => ?_
    have P2 := P1.note (n1.trans n2)
    obtain ⟨e0,oe,vs,Cc,Tr,oT,ts,rfl,a2,a3,a4,a5,a6,_⟩ := id y2
    have X2 := C.kin H2 P2.inv.kb
    refine wpAny_handleBy_cons (codeAny_handlers_test (load_glob (s := { s with heap := H2,toks := tk }) O C.g P2.inv kd hm h1 ?_)) (by intro q; cases q)
    have LT : PySem.W.Looks (model Γ.prog Γ.w) H2 (typeOf (.ref e0)) (.ref Cc) := a6 ▸ (PySem.W.Looks.ld a5).andThen .now
    refine PySem.W.Looks.here (s := { s with heap := H2,toks := tk }) (PySem.W.exm_one X2 LT (C.exo.cat c Cc Tc a2 hT)) ?_
    refine codeAny_handlers_suite_as (wp_setFlight (s := { s with heap := H2,toks := tk }) y2 none fun H3 n3 y3 => ?_)
    have P3 := (P2.note n3).blank (map_un ρ)
    obtain ⟨e1,oe3,vs3,C3,Tr3,oT3,ts3,ee,b2,b3,b4,b5,b6,b7,_⟩ := id y3
    cases ee
    have rx : RepV Γ Z' (fun _ => True) H3 (.ref e0) (.exc c) := ⟨e0,oe3,vs3,C3,rfl,b2,b5,b6,b7⟩
    refine store_var (s := { s with heap := H3,toks := tk }) O.kind P3.inv.fr (.inl h3) fun H4 tk4 ad p4 pw hs4 he4 F4 => ?_
    have P4 := Post.store P3.inv nl rx rfl p4 hs4 he4 F4
    have hno : ∀ j ds,((ρ.map fun _ => Val.un).set i (.exc c)).getD j .un ≠ .own ds ∧ ((ρ.map fun _ => Val.un).set i (.exc c)).getD j .un ≠ .bor ds := fun j ds => by
      rcases set_exc ρ i c j with q | ⟨_,q⟩ <;> (rw [q]; exact ⟨nofun,nofun⟩)
    have hu : ((ρ.map fun _ => Val.un).set i (.exc c)).getD 1000 .un = .un := by
      rcases set_exc ρ i c 1000 with q | ⟨q,_⟩
      · exact q
      · exact absurd (hsm nn i nl) (by rw [← q]; decide)
    have AOq : AOx Γ (quietNm nm) n (A.mark (some (.ref e0))) env := ⟨⟨AO.depth,AO.units⟩,fun q => (quiet_loud q).elim,AO.fr⟩
    refine hb (quietNm nm) _ (A.mark (some (.ref e0))) env Z' { s with heap := H4,toks := tk4 } _ (b0 :: sb) h7 O AOq (P4.inv.quiet hsm hu) (fun q => hne (by rw [q]; rfl)) _ _ (fun fl ρ5 f Z5 H5 tk5 m5 e5 P5 x5 => ?_) fun c' e' Z5 H5 tk5 q5 l5 => absurd (by rw [q5]; rfl) hne
    rw [e5] at hne hQ
    refine cps fun P_ hP_ => ?_
    obtain ⟨m5',P5'⟩ : ∃ m5',Post Γ nm env Z' H4 ((ρ.map fun _ => Val.un).set i (.exc c)) (upd m1 nn (.ref e0)) Z5 H5 ρ5 m5' := ⟨_,Post.loud P5 hl (Option.isNone_iff_eq_none.mp hkq) hno⟩
    obtain ⟨ml5,ns5,hml⟩ := P5'.inv.fr.loc
    refine hP_ ?_
    clear hP_ P_
    refine wpAny_nameGoes_keeps (s := { s with heap := H5,toks := tk5 }) h3 ns5 (by rw [O.kind]; rfl) fun H6 v6 ns6 sb6 => ?_
    have F6 : FrS env H6 (fun y => if y = nn then v6 else m5' y) := by
      refine ⟨⟨_,ns6,fun y ky => ?_⟩,fun y ky => ?_,P5'.inv.fr.inj⟩
      · by_cases q : y = nn
        · rw [if_pos q,if_pos q]
        · rw [if_neg q,if_neg q]; exact hml y ky
      · have q : y ≠ nn := fun q => by rw [q] at ky; rw [show env.kindOf nn = some .local from h3] at ky; cases ky
        obtain ⟨cc,lc,ic⟩ := P5'.inv.fr.cel y ky
        refine ⟨cc,lc,?_⟩
        rw [if_neg q]
        exact ic.sameBut sb6 fun q' => by
          obtain ⟨oc,ec,dc⟩ := ic
          obtain ⟨on,es,ep,en,dn,_⟩ := ns5
          rw [q',en] at ec; cases ec
          rw [dn] at dc; cases dc
    have PA := ((P3.trans P4).trans P5').trans (Post.goes P5'.inv nl sb6 F6)
    cases fl with
    | next =>
      have : f = .next := x5
      subst this
      exact hQ .next _ .next Z5 H6 _ _ rfl PA rfl
    | ret y =>
      obtain ⟨w,rfl,r⟩ := x5
      cases y with
      | sh d => exact hQ (.ret (.sh d)) _ (.ret w) Z5 H6 _ _ rfl PA ⟨w,rfl,r⟩
      | _ => exact absurd rfl hne
end
end Mine
namespace Mine
open PySem PySem.Calls PyProof.Rows
structure AllD (Γ : Cx) (n : Nat) (Φ : Nat → List Val → Out Val) (u : T) : Prop where
  e : SndE Γ n Φ u
  tt : SndT Γ n Φ u
  l : SndL Γ n Φ u
  i : SndI Γ n Φ u
  f : SndF Γ n Φ u
  v : SndV Γ n Φ u
  k : SndE Γ n Φ (.mkL u)
  s : SndS Γ n Φ u
  b : SndB Γ n Φ u
  cp : ∀ elt tg it c,u = .comp elt tg it c → SndE Γ n Φ elt ∧ SndI Γ n Φ it ∧ SndT Γ n Φ c
noncomputable def No {α : Type} (f : Nm → Scope → α → Bool) : Prop := ∀ nm sc e,f nm sc e = false
structure PlE (Γ : Cx) (Φ : Nat → List Val → Out Val) (t : T) : Prop where
  val : ValT Γ Φ t
  l : No (chkT Γ.gs t)
  s : No (chkS Γ.gs t)
  b : No (chkB Γ.gs t)
structure PlS (Γ : Cx) (t : T) : Prop where
  e : No (chk Γ.gs t)
  l : No (chkT Γ.gs t)
section
variable {Γ : Cx} {n : Nat} {Φ : Nat → List Val → Out Val}
theorem no_ {α : Type} {P : Prop} {f : Nm → Scope → α → Bool} (h : No f) {nm : Nm} {sc : Scope} {e : α} (q : f nm sc e = true) : P := (Bool.false_ne_true ((h nm sc e).symm.trans q)).elim
theorem triv_e {t : T} (h : No (chk Γ.gs t)) : SndE Γ n Φ t := fun _ _ _ _ _ _ _ _ hc _ _ _ => no_ h hc
theorem triv_t {t : T} (h : No (chk Γ.gs t)) : SndT Γ n Φ t := fun _ _ _ _ _ _ _ _ hc _ _ _ => no_ h hc
theorem triv_v {t : T} (h : No (chk Γ.gs t)) : SndV Γ n Φ t := fun _ _ _ _ _ _ _ _ hc _ _ _ => no_ h hc
theorem triv_l {t : T} (h : No (chkT Γ.gs t)) : SndL Γ n Φ t := fun _ _ _ _ _ _ _ _ _ hc _ _ _ => no_ h hc
theorem triv_i {t : T} (h : No (chkI Γ.gs t)) : SndI Γ n Φ t := fun _ _ _ _ _ _ _ _ _ hc _ _ _ _ => no_ h hc
theorem triv_f {t : T} (h : No (chkI Γ.gs t)) : SndF Γ n Φ t := fun _ _ _ _ _ _ _ _ _ hc _ _ _ _ => no_ h hc
theorem triv_s {t : T} (h : No (chkS Γ.gs t)) : SndS Γ n Φ t := fun _ _ _ _ _ _ _ _ hc _ _ _ => no_ h hc
theorem triv_b {t : T} (h : No (chkB Γ.gs t)) : SndB Γ n Φ t := fun _ _ _ _ _ _ _ _ hc _ _ _ => no_ h hc
theorem triv_k {t : T} (h : ∀ ρ,itsK Φ t ρ = .bad) : SndE Γ n Φ (.mkL t) := fun _ ρ _ _ _ _ _ _ _ _ _ _ => EvT.badE (show (itsK Φ t ρ >>= _) = _ by rw [h ρ]; rfl)
theorem no_comp {t : T} (h : t.isComp = false) : ∀ elt tg it c,t = .comp elt tg it c → SndE Γ n Φ elt ∧ SndI Γ n Φ it ∧ SndT Γ n Φ c := fun _ _ _ _ e => by subst e; exact (Bool.false_ne_true h.symm).elim
theorem all_v {t : T} (C : CxOk Γ) (p : PlE Γ Φ t) (e : SndE Γ n Φ t) (tt : SndT Γ n Φ t) (v : SndV Γ n Φ t) (cp : ∀ elt tg it c,t = .comp elt tg it c → SndE Γ n Φ elt ∧ SndI Γ n Φ it ∧ SndT Γ n Φ c) : AllD Γ n Φ t :=
  ⟨e,tt,triv_l p.l,snd_I_val p.val e,snd_F_val p.val v,v,snd_mkL0 C e p.val.c p.val.k,triv_s p.s,triv_b p.b,cp⟩
theorem srcE_of {t : T} (h : ∀ ρ,srcV Φ t ρ = (ev Φ t ρ >>= srcE1)) (e : SndE Γ n Φ t) : SndV Γ n Φ t := fun nm ρ A env Z s m x hc O AO I => by rw [h]; exact snd_srcE (e nm ρ A env Z s m x hc O AO I)
theorem all_e {t : T} (C : CxOk Γ) (p : PlE Γ Φ t) (h : ∀ ρ,srcV Φ t ρ = (ev Φ t ρ >>= srcE1)) (e : SndE Γ n Φ t) (hp : ∀ nm sc e,chk Γ.gs t nm sc e = true → plainTest e = true) (nc : t.isComp = false) : AllD Γ n Φ t := all_v C p e (snd_plain e hp) (srcE_of h e) (no_comp nc)
theorem all_et {t : T} (C : CxOk Γ) (p : PlE Γ Φ t) (h : ∀ ρ,srcV Φ t ρ = (ev Φ t ρ >>= srcE1)) (e : SndE Γ n Φ t ∧ SndT Γ n Φ t) (nc : t.isComp = false) : AllD Γ n Φ t := all_v C p e.1 e.2 (srcE_of h e.1) (no_comp nc)
theorem all_s {t : T} (p : PlS Γ t) (hi : No (chkI Γ.gs t)) (hb : No (chkB Γ.gs t)) (hk : ∀ ρ,itsK Φ t ρ = .bad) (s : SndS Γ n Φ t) (nc : t.isComp = false) : AllD Γ n Φ t :=
  ⟨triv_e p.e,triv_t p.e,triv_l p.l,triv_i hi,triv_f hi,triv_v p.e,triv_k hk,s,triv_b hb,no_comp nc⟩
theorem all_i {t : T} (p : PlS Γ t) (hs : No (chkS Γ.gs t)) (hb : No (chkB Γ.gs t)) (hk : ∀ ρ,itsK Φ t ρ = .bad) (i : SndI Γ n Φ t) (f : SndF Γ n Φ t) (nc : t.isComp = false) : AllD Γ n Φ t :=
  ⟨triv_e p.e,triv_t p.e,triv_l p.l,i,f,triv_v p.e,triv_k hk,triv_s hs,triv_b hb,no_comp nc⟩
theorem all_ik {t : T} (p : PlS Γ t) (hs : No (chkS Γ.gs t)) (hb : No (chkB Γ.gs t)) (k : SndE Γ n Φ (.mkL t)) (i : SndI Γ n Φ t) (f : SndF Γ n Φ t) (nc : t.isComp = false) : AllD Γ n Φ t :=
  ⟨triv_e p.e,triv_t p.e,triv_l p.l,i,f,triv_v p.e,k,triv_s hs,triv_b hb,no_comp nc⟩
theorem all_l {t : T} (e : No (chk Γ.gs t)) (hs : No (chkS Γ.gs t)) (hi : No (chkI Γ.gs t)) (hk : ∀ ρ,itsK Φ t ρ = .bad) (l : SndL Γ n Φ t) (b : SndB Γ n Φ t) (nc : t.isComp = false) : AllD Γ n Φ t :=
  ⟨triv_e e,triv_t e,l,triv_i hi,triv_f hi,triv_v e,triv_k hk,triv_s hs,b,no_comp nc⟩
theorem pl {e e' : Expr} (he : e = e') (h : plainTest e' = true) : plainTest e = true := he ▸ h
theorem snd_all (C : CxOk Γ) (HC : SndC Γ n Φ) (HN : ∀ f ts,SndL Γ n Φ ts → SndE Γ n Φ (.new f ts)) (t : T) : AllD Γ n Φ t := by
  induction t with
  | cN   => exact all_e C ⟨⟨fun _ _ _ h => h,fun _ => rfl,fun _ => rfl,fun _ => rfl⟩,fun _ _ _ => rfl,fun _ _ _ => rfl,fun _ _ _ => rfl⟩ (fun _ => rfl) (snd_cN) (fun _ _ _ h => inv_cN h fun _ _ he  => pl he rfl) rfl
  | cB x  => exact all_e C ⟨⟨fun _ _ _ h => h,fun _ => rfl,fun _ => rfl,fun _ => rfl⟩,fun _ _ _ => rfl,fun _ _ _ => rfl,fun _ _ _ => rfl⟩ (fun _ => rfl) (snd_cB) (fun _ _ _ h => inv_cB h fun _ _ he  => pl he rfl) rfl
  | cI x  => exact all_e C ⟨⟨fun _ _ _ h => h,fun _ => rfl,fun _ => rfl,fun _ => rfl⟩,fun _ _ _ => rfl,fun _ _ _ => rfl,fun _ _ _ => rfl⟩ (fun _ => rfl) (snd_cI) (fun _ _ _ h => inv_cI h fun _ _ he  => pl he rfl) rfl
  | cS x  => exact all_e C ⟨⟨fun _ _ _ h => h,fun _ => rfl,fun _ => rfl,fun _ => rfl⟩,fun _ _ _ => rfl,fun _ _ _ => rfl,fun _ _ _ => rfl⟩ (fun _ => rfl) (snd_cS) (fun _ _ _ h => inv_cS h fun _ _ _ he _ _ _ => pl he rfl) rfl
  | gI x  => exact all_e C ⟨⟨fun _ _ _ h => h,fun _ => rfl,fun _ => rfl,fun _ => rfl⟩,fun _ _ _ => rfl,fun _ _ _ => rfl,fun _ _ _ => rfl⟩ (fun _ => rfl) (snd_gI C) (fun _ _ _ h => inv_gI h fun _ _ he _ _ => pl he rfl) rfl
  | gS x  => exact all_e C ⟨⟨fun _ _ _ h => h,fun _ => rfl,fun _ => rfl,fun _ => rfl⟩,fun _ _ _ => rfl,fun _ _ _ => rfl,fun _ _ _ => rfl⟩ (fun _ => rfl) (snd_gS C) (fun _ _ _ h => inv_gS h fun _ _ he _ _ => pl he rfl) rfl
  | neg a ha => exact all_e C ⟨⟨fun _ _ _ h => h,fun _ => rfl,fun _ => rfl,fun _ => rfl⟩,fun _ _ _ => rfl,fun _ _ _ => rfl,fun _ _ _ => rfl⟩ (fun _ => rfl) (snd_neg ha.e) (fun _ _ _ h => inv_neg h fun _ _ he _ => pl he rfl) rfl
  | bin o a b ha hb => exact all_e C ⟨⟨fun _ _ _ h => h,fun _ => rfl,fun _ => rfl,fun _ => rfl⟩,fun _ _ _ => rfl,fun _ _ _ => rfl,fun _ _ _ => rfl⟩ (fun _ => rfl) (snd_bin ha.e hb.e) (fun _ _ _ h => inv_bin h fun _ _ _ he _ _ => pl he rfl) rfl
  | tup a ha => exact all_e C ⟨⟨fun _ _ _ h => h,fun _ => rfl,fun _ => rfl,fun _ => rfl⟩,fun _ _ _ => rfl,fun _ _ _ => rfl,fun _ _ _ => rfl⟩ (fun _ => rfl) (snd_tup ha.l) (fun _ _ _ h => inv_tup h fun _ _ _ he _ _ => pl he rfl) rfl
  | lst a ha => exact all_e C ⟨⟨fun _ _ _ h => h,fun _ => rfl,fun _ => rfl,fun _ => rfl⟩,fun _ _ _ => rfl,fun _ _ _ => rfl,fun _ _ _ => rfl⟩ (fun _ => rfl) (snd_lst ha.l) (fun _ _ _ h => inv_lst h fun _ _ he _ _ => pl he rfl) rfl
  | idx a b ha hb => exact all_e C ⟨⟨fun _ _ _ h => h,fun _ => rfl,fun _ => rfl,fun _ => rfl⟩,fun _ _ _ => rfl,fun _ _ _ => rfl,fun _ _ _ => rfl⟩ (fun _ => rfl) (snd_idx ha.e hb.e) (fun _ _ _ h => inv_idx h fun _ _ _ he _ _ _ => pl he rfl) rfl
  | sl a b c ha hb hc => exact all_e C ⟨⟨fun _ _ _ h => h,fun _ => rfl,fun _ => rfl,fun _ => rfl⟩,fun _ _ _ => rfl,fun _ _ _ => rfl,fun _ _ _ => rfl⟩ (fun _ => rfl) (snd_sl ha.e (snd_O hb.e) (snd_O hc.e)) (fun _ _ _ h => inv_sl h fun _ _ _ _ _ he _ _ _ => pl he rfl) rfl
  | dget x a ha => exact all_e C ⟨⟨fun _ _ _ h => h,fun _ => rfl,fun _ => rfl,fun _ => rfl⟩,fun _ _ _ => rfl,fun _ _ _ => rfl,fun _ _ _ => rfl⟩ (fun _ => rfl) (snd_dget C ha.e) (fun _ _ _ h => inv_dget h fun _ _ _ _ he _ _ _ _ => pl he rfl) rfl
  | call x a ha => exact all_e C ⟨⟨fun _ _ _ h => h,fun _ => rfl,fun _ => rfl,fun _ => rfl⟩,fun _ _ _ => rfl,fun _ _ _ => rfl,fun _ _ _ => rfl⟩ (fun _ => rfl) (snd_call C HC ha.l) (fun _ _ _ h => inv_call h fun _ _ _ _ he _ _ _ => pl he rfl) rfl
  | bi x a ha => exact all_e C ⟨⟨fun _ _ _ h => h,fun _ => rfl,fun _ => rfl,fun _ => rfl⟩,fun _ _ _ => rfl,fun _ _ _ => rfl,fun _ _ _ => rfl⟩ (fun _ => rfl) (snd_bi C ha.l) (fun _ _ _ h => inv_bi h fun _ _ _ _ he _ _ _ => pl he rfl) rfl
  | isi x a ha => exact all_e C ⟨⟨fun _ _ _ h => h,fun _ => rfl,fun _ => rfl,fun _ => rfl⟩,fun _ _ _ => rfl,fun _ _ _ => rfl,fun _ _ _ => rfl⟩ (fun _ => rfl) (snd_isi C ha.e) (fun _ _ _ h => inv_isi h fun _ _ _ _ _ _ he _ _ _ _ _ _ => pl he rfl) rfl
  | mkL a ha => exact all_e C ⟨⟨fun _ _ _ h => h,fun _ => rfl,fun _ => rfl,fun _ => rfl⟩,fun _ _ _ => rfl,fun _ _ _ => rfl,fun _ _ _ => rfl⟩ (fun _ => rfl) (ha.k) (fun _ _ _ h => inv_mkL h fun _ _ _ _ he _ _ _ _ => pl he rfl) rfl
  | mkT a ha => exact all_e C ⟨⟨fun _ _ _ h => h,fun _ => rfl,fun _ => rfl,fun _ => rfl⟩,fun _ _ _ => rfl,fun _ _ _ => rfl,fun _ _ _ => rfl⟩ (fun _ => rfl) (snd_mkT C ha.e) (fun _ _ _ h => inv_mkT h fun _ _ _ _ he _ _ _ _ => pl he rfl) rfl
  | meth x a b ha hb => exact all_e C ⟨⟨fun _ _ _ h => h,fun _ => rfl,fun _ => rfl,fun _ => rfl⟩,fun _ _ _ => rfl,fun _ _ _ => rfl,fun _ _ _ => rfl⟩ (fun _ => rfl) (snd_meth ha.e hb.l) (fun _ _ _ h => inv_meth h fun _ _ _ _ he _ _ _ _ _ => pl he rfl) rfl
  | attr x a ha => exact all_e C ⟨⟨fun _ _ _ h => h,fun _ => rfl,fun _ => rfl,fun _ => rfl⟩,fun _ _ _ => rfl,fun _ _ _ => rfl,fun _ _ _ => rfl⟩ (fun _ => rfl) (snd_attr C ha.e) (fun _ _ _ h => inv_attr h fun _ _ he _ _ => pl he rfl) rfl
  | mcall x a b ha hb => exact all_e C ⟨⟨fun _ _ _ h => h,fun _ => rfl,fun _ => rfl,fun _ => rfl⟩,fun _ _ _ => rfl,fun _ _ _ => rfl,fun _ _ _ => rfl⟩ (fun _ => rfl) (snd_mcall C HC ha.e hb.l) (fun _ _ _ h => inv_mcall h fun _ _ _ _ he _ _ _ _ _ _ => pl he rfl) rfl
  | new x a ha => exact all_e C ⟨⟨fun _ _ _ h => h,fun _ => rfl,fun _ => rfl,fun _ => rfl⟩,fun _ _ _ => rfl,fun _ _ _ => rfl,fun _ _ _ => rfl⟩ (fun _ => rfl) (HN _ _ ha.l) (fun _ _ _ h => inv_new h fun _ _ _ _ he _ _ _ => pl he rfl) rfl
  | v x  => exact all_v C ⟨⟨fun _ _ _ h => h,fun _ => rfl,fun _ => rfl,fun _ => rfl⟩,fun _ _ _ => rfl,fun _ _ _ => rfl,fun _ _ _ => rfl⟩ snd_v (snd_plain snd_v fun _ _ _ h => inv_v h fun _ _ he _ _ => pl he rfl) (fun _ _ _ _ _ _ _ _ hc O _ I => snd_srcV hc O I) (no_comp rfl)
  | comp a x b c ha hb hc => exact all_v C ⟨⟨fun _ _ _ h => h,fun _ => rfl,fun _ => rfl,fun _ => rfl⟩,fun _ _ _ => rfl,fun _ _ _ => rfl,fun _ _ _ => rfl⟩ (snd_comp ha.e hb.i hc.tt) (snd_plain (snd_comp ha.e hb.i hc.tt) fun _ _ _ h => inv_comp h fun _ _ _ _ _ _ _ he _ => pl he rfl) (srcE_of (fun _ => rfl) (snd_comp ha.e hb.i hc.tt)) (fun _ _ _ _ h => by injection h with h1 h2 h3 h4; subst h1 h3 h4; exact ⟨ha.e,hb.i,hc.tt⟩)
  | cmp o a b ha hb => exact all_et C ⟨⟨fun _ _ _ h => h,fun _ => rfl,fun _ => rfl,fun _ => rfl⟩,fun _ _ _ => rfl,fun _ _ _ => rfl,fun _ _ _ => rfl⟩ (fun _ => rfl) (snd_cmp ha.e hb.e) rfl
  | cmp2 o p a b c ha hb hc => exact all_et C ⟨⟨fun _ _ _ h => h,fun _ => rfl,fun _ => rfl,fun _ => rfl⟩,fun _ _ _ => rfl,fun _ _ _ => rfl,fun _ _ _ => rfl⟩ (fun _ => rfl) (snd_cmp2 ha.e hb.e hc.e) rfl
  | isN x a ha => exact all_et C ⟨⟨fun _ _ _ h => h,fun _ => rfl,fun _ => rfl,fun _ => rfl⟩,fun _ _ _ => rfl,fun _ _ _ => rfl,fun _ _ _ => rfl⟩ (fun _ => rfl) (snd_isN ha.e) rfl
  | not a ha => exact all_et C ⟨⟨fun _ _ _ h => h,fun _ => rfl,fun _ => rfl,fun _ => rfl⟩,fun _ _ _ => rfl,fun _ _ _ => rfl,fun _ _ _ => rfl⟩ (fun _ => rfl) (snd_not ha.e ha.tt) rfl
  | and a b ha hb => exact all_et C ⟨⟨fun _ _ _ h => h,fun _ => rfl,fun _ => rfl,fun _ => rfl⟩,fun _ _ _ => rfl,fun _ _ _ => rfl,fun _ _ _ => rfl⟩ (fun _ => rfl) (snd_and ⟨ha.e,ha.tt⟩ ⟨hb.e,hb.tt⟩) rfl
  | or a b ha hb => exact all_et C ⟨⟨fun _ _ _ h => h,fun _ => rfl,fun _ => rfl,fun _ => rfl⟩,fun _ _ _ => rfl,fun _ _ _ => rfl,fun _ _ _ => rfl⟩ (fun _ => rfl) (snd_or ⟨ha.e,ha.tt⟩ ⟨hb.e,hb.tt⟩) rfl
  | ite c a b hc ha hb => exact all_et C ⟨⟨fun _ _ _ h => h,fun _ => rfl,fun _ => rfl,fun _ => rfl⟩,fun _ _ _ => rfl,fun _ _ _ => rfl,fun _ _ _ => rfl⟩ (fun _ => rfl) (snd_ite hc.tt ⟨ha.e,ha.tt⟩ ⟨hb.e,hb.tt⟩) rfl
  | din x y a ha => exact all_et C ⟨⟨fun _ _ _ h => h,fun _ => rfl,fun _ => rfl,fun _ => rfl⟩,fun _ _ _ => rfl,fun _ _ _ => rfl,fun _ _ _ => rfl⟩ (fun _ => rfl) (snd_din C ha.e) rfl
  | dic   => exact all_e C ⟨⟨fun _ _ _ h => h,fun _ => rfl,fun _ => rfl,fun _ => rfl⟩,fun _ _ _ => rfl,fun _ _ _ => rfl,fun _ _ _ => rfl⟩ (fun _ => rfl) (snd_dic C) (fun _ _ _ h => inv_dic h fun _ he => pl he rfl) rfl
  | asg x a ha => exact all_s ⟨fun _ _ _ => rfl,fun _ _ _ => rfl⟩ (fun _ _ _ => rfl) (fun _ _ _ => rfl) (fun _ => rfl) (sndS_asg ha.e ha.cp) rfl
  | asgO x a ha => exact all_s ⟨fun _ _ _ => rfl,fun _ _ _ => rfl⟩ (fun _ _ _ => rfl) (fun _ _ _ => rfl) (fun _ => rfl) (sndS_asgO ha.e ha.cp) rfl
  | asgT x a ha => exact all_s ⟨fun _ _ _ => rfl,fun _ _ _ => rfl⟩ (fun _ _ _ => rfl) (fun _ _ _ => rfl) (fun _ => rfl) (triv_s (fun _ _ _ => rfl)) rfl
  | seti x a b ha hb => exact all_s ⟨fun _ _ _ => rfl,fun _ _ _ => rfl⟩ (fun _ _ _ => rfl) (fun _ _ _ => rfl) (fun _ => rfl) (sndS_seti ha.e hb.e) rfl
  | app x a ha => exact all_s ⟨fun _ _ _ => rfl,fun _ _ _ => rfl⟩ (fun _ _ _ => rfl) (fun _ _ _ => rfl) (fun _ => rfl) (sndS_app ha.e) rfl
  | rvs x  => exact all_s ⟨fun _ _ _ => rfl,fun _ _ _ => rfl⟩ (fun _ _ _ => rfl) (fun _ _ _ => rfl) (fun _ => rfl) (triv_s (fun _ _ _ => rfl)) rfl
  | clr x  => exact all_s ⟨fun _ _ _ => rfl,fun _ _ _ => rfl⟩ (fun _ _ _ => rfl) (fun _ _ _ => rfl) (fun _ => rfl) (triv_s (fun _ _ _ => rfl)) rfl
  | ex a ha => exact all_s ⟨fun _ _ _ => rfl,fun _ _ _ => rfl⟩ (fun _ _ _ => rfl) (fun _ _ _ => rfl) (fun _ => rfl) (sndS_ex ha.e) rfl
  | iff c a b hc ha hb => exact all_s ⟨fun _ _ _ => rfl,fun _ _ _ => rfl⟩ (fun _ _ _ => rfl) (fun _ _ _ => rfl) (fun _ => rfl) (sndS_iff hc.tt ha.b hb.b) rfl
  | for_ x a b ha hb => exact all_s ⟨fun _ _ _ => rfl,fun _ _ _ => rfl⟩ (fun _ _ _ => rfl) (fun _ _ _ => rfl) (fun _ => rfl) (sndS_for ha.f hb.b) rfl
  | whl c b hc hb => exact all_s ⟨fun _ _ _ => rfl,fun _ _ _ => rfl⟩ (fun _ _ _ => rfl) (fun _ _ _ => rfl) (fun _ => rfl) (sndS_whl hc.tt hb.b) rfl
  | ret a ha => exact all_s ⟨fun _ _ _ => rfl,fun _ _ _ => rfl⟩ (fun _ _ _ => rfl) (fun _ _ _ => rfl) (fun _ => rfl) (sndS_ret ha.e) rfl
  | retO x  => exact all_s ⟨fun _ _ _ => rfl,fun _ _ _ => rfl⟩ (fun _ _ _ => rfl) (fun _ _ _ => rfl) (fun _ => rfl) (sndS_retO) rfl
  | retP a x ha => exact all_s ⟨fun _ _ _ => rfl,fun _ _ _ => rfl⟩ (fun _ _ _ => rfl) (fun _ _ _ => rfl) (fun _ => rfl) (sndS_retP ha.e) rfl
  | frz x  => exact all_s ⟨fun _ _ _ => rfl,fun _ _ _ => rfl⟩ (fun _ _ _ => rfl) (fun _ _ _ => rfl) (fun _ => rfl) (triv_s (fun _ _ _ => rfl)) rfl
  | raise x y  => exact all_s ⟨fun _ _ _ => rfl,fun _ _ _ => rfl⟩ (fun _ _ _ => rfl) (fun _ _ _ => rfl) (fun _ => rfl) (sndS_raise C) rfl
  | try_ a x y b ha hb => exact all_s ⟨fun _ _ _ => rfl,fun _ _ _ => rfl⟩ (fun _ _ _ => rfl) (fun _ _ _ => rfl) (fun _ => rfl) (sndS_try C ha.b hb.b) rfl
  | zip a b ha hb => exact all_i ⟨fun _ _ _ => rfl,fun _ _ _ => rfl⟩ (fun _ _ _ => rfl) (fun _ _ _ => rfl) (fun _ => rfl) (snd_I_zip C ha.e hb.e) (snd_F_zip C ha.v hb.v) rfl
  | rng a b c ha hb hc => exact all_ik ⟨fun _ _ _ => rfl,fun _ _ _ => rfl⟩ (fun _ _ _ => rfl) (fun _ _ _ => rfl) (snd_K_rng C hb.e) (snd_I_rng C ha.e hb.e) (snd_F_rng C ha.e hb.e) rfl
  | rev a ha => exact all_i ⟨fun _ _ _ => rfl,fun _ _ _ => rfl⟩ (fun _ _ _ => rfl) (fun _ _ _ => rfl) (fun _ => rfl) (triv_i (fun _ _ _ => rfl)) (triv_f (fun _ _ _ => rfl)) rfl
  | nil   => exact all_l (fun _ _ _ => rfl) (fun _ _ _ => rfl) (fun _ _ _ => rfl) (fun _ => rfl) snd_nil sndB_nil rfl
  | cons a b ha hb => exact all_l (fun _ _ _ => rfl) (fun _ _ _ => rfl) (fun _ _ _ => rfl) (fun _ => rfl) (snd_cons ha.e hb.l) (sndB_cons ha.s hb.b) rfl
end
end Mine
namespace Mine
open PySem PySem.Calls PyProof.Rows
theorem bindL_eq {kindOf : Str → Option NameKind} {x : Str} (hx : kindOf x = some .local) : ∀ (binds : List (Str × Value)) (m : Str → Option Value),(binds.map (·.1)).Nodup → bindL kindOf binds m x = (binds.lookup x).or (m x)
  | [],m,_ => by simp [bindL]
  | (n,v) :: r,m,hn => by
    simp only [List.map_cons,List.nodup_cons] at hn
    rw [bindL,bindL_eq hx r _ hn.2,List.lookup_cons]
    by_cases e : x = n
    · subst e
      have : r.lookup x = none := by
        cases q : r.lookup x with
        | none => rfl
        | some u => exact absurd (List.mem_map.2 ⟨_,mem_of_lookup q,rfl⟩) hn.1
      simp [this,hx]
    · have hb : (x == n) = false := by simp [e]
      rw [hb]
      split <;> simp [e]
theorem bindC_eq {kindOf : Str → Option NameKind} {x : Str} (hx : kindOf x = some .cell) : ∀ (binds : List (Str × Value)) (m : Str → Option Value),(binds.map (·.1)).Nodup → bindC kindOf binds m x = (binds.lookup x).or (m x)
  | [],m,_ => by simp [bindC]
  | (n,v) :: r,m,hn => by
    simp only [List.map_cons,List.nodup_cons] at hn
    rw [bindC,bindC_eq hx r _ hn.2,List.lookup_cons]
    by_cases e : x = n
    · subst e
      have : r.lookup x = none := by
        cases q : r.lookup x with
        | none => rfl
        | some u => exact absurd (List.mem_map.2 ⟨_,mem_of_lookup q,rfl⟩) hn.1
      have hl : ¬ kindOf x = some .local := by rw [hx]; decide
      simp [this,hl]
    · have hb : (x == n) = false := by simp [e]
      rw [hb]
      split <;> simp [e]
theorem lookup_zip {vs : List Value} : ∀ {pn : List Str} {vs : List Value} {k : Nat} {x : Str} {v : Value},pn.Nodup → pn[k]? = some x → vs[k]? = some v → (pn.zip vs).lookup x = some v
  | [],_,_,_,_,_,h,_ => by simp at h
  | _ :: _,[],_,_,_,_,_,h => by simp at h
  | y :: pn,u :: vs,0,x,v,hn,h1,h2 => by
    simp at h1 h2; subst h1 h2; simp [List.lookup_cons]
  | y :: pn,u :: vs,k + 1,x,v,hn,h1,h2 => by
    simp only [List.nodup_cons] at hn
    simp only [List.getElem?_cons_succ] at h1 h2
    have hb : (x == y) = false := by
      simp; rintro rfl; exact hn.1 (List.mem_of_getElem? h1)
    rw [List.zip_cons_cons,List.lookup_cons,hb]
    exact lookup_zip (vs := vs) hn.2 h1 h2
section
variable {Γ : Cx} {Φ : Nat → List Val → Out Val} {Z : Led} {h : Heap}
theorem RepVs.len {vs : List Value} {xs : List Val} (r : RepVs Γ Z h vs xs) : vs.length = xs.length := by
  induction r with
  | nil => rfl
  | cons _ _ _ ih => simp [ih]
theorem RepVs.get {vs : List Value} {xs : List Val} (r : RepVs Γ Z h vs xs) : ∀ {k : Nat} {x : Val},xs[k]? = some x → ∃ v,vs[k]? = some v ∧ RepV Γ Z (fun _ => True) h v x ∧ argOk x = true := by
  induction r with
  | nil => intro k x e; simp at e
  | cons a b _ ih =>
    intro k x e
    cases k with
    | zero => simp at e; subst e; exact ⟨_,rfl,a,b⟩
    | succ k => simp only [List.getElem?_cons_succ] at e ⊢; exact ih e
theorem AOk.deeper {n : Nat} {A : Around} (h : AOk (n + 1) A) (env : Env) : AOk n (A.deeper env) := by
  obtain ⟨b,c⟩ := h
  exact ⟨by show A.depth + 1 + 2 * n < recursionLimit; lia,by show A.units + 3 + 8 * n + 200 ≤ cLine; lia⟩
noncomputable abbrev Cx.wup (Γ : Cx) (u : List Addr) : Cx := { Γ with up := u }
noncomputable def FnIs.wup {f : Addr} {i : Nat} (F : FnIs Γ f i) (u : List Addr) : FnIs (Γ.wup u) f i := ⟨F.fn,F.o,F.fd,F.body,F.nm,F.pn,F.here,F.data,F.ofi,F.bod,F.glob,F.bui,F.clos,F.co,F.gen,F.kind,F.code,F.binds,F.pnl,F.pnn,F.par,F.inj,F.low,F.le,F.cells,F.cellof,F.ini,F.quiet,F.chk⟩
theorem GOk.wup {x : Str} {g : G} (h : GOk Γ x g) (u : List Addr) : GOk (Γ.wup u) x g := by
  cases g with
  | fn i => obtain ⟨f,a,⟨F⟩⟩ := h; exact ⟨f,a,⟨F.wup u⟩⟩
  | meth i => obtain ⟨f,a,b,⟨F⟩⟩ := h; exact ⟨f,a,b,⟨F.wup u⟩⟩
  | exc c => cases c <;> exact h
  | _ => exact h
theorem CxOk.wup (C : CxOk Γ) (u : List Addr) : CxOk (Γ.wup u) := ⟨⟨C.exo.one,C.exo.get,C.exo.isi,C.exo.isv,C.exo.cat⟩,C.kin,⟨C.shop.ga,C.shop.gk,C.shop.cd,C.shop.at_⟩,C.g,C.b,C.nolimit,fun x g h => (C.gl x g h).wup u⟩
theorem RepV.wup {fr : Addr → Prop} {v : Value} {x : Val} {u : List Addr} : RepV (Γ.wup u) Z fr h v x ↔ RepV Γ Z fr h v x := by cases x <;> exact Iff.rfl
theorem AOc.deeper {i n : Nat} {A : Around} {nm : Nm} {env : Env} {L : Addr} (AO : AOc Γ i (n + 1) A) (hq : quietFn i = true → loud nm = false) (hk : env.scope.kind = .function) (hf : env.frame = some L) : AOx (Γ.wup (L :: Γ.up)) nm n (A.deeper env) env := by
  obtain ⟨l,h1,h2⟩ := AO.fr
  refine ⟨AO.toAOk.deeper env,fun hl => AO.hd ?_,env,l,?_,rfl,fun e he => ?_⟩
  · cases q : quietFn i with
    | false => rfl
    | true => rw [hq q] at hl; cases hl
  · show A.frames.map (env :: ·) = _
    rw [h1]; rfl
  · rcases List.mem_cons.mp he with rfl | he
    · exact ⟨by rw [hk]; decide,L,hf,List.mem_cons_self ..⟩
    · obtain ⟨a,L',b,c⟩ := h2 e he
      exact ⟨a,L',b,List.mem_cons_of_mem _ c⟩
theorem getD_app {xs : List Val} {k i : Nat} : (xs ++ List.replicate k Val.un).getD i .un = xs.getD i .un := by
  simp only [List.getD]
  by_cases h : i < xs.length
  · rw [List.getElem?_append_left h]
  · have h' := Nat.not_lt.mp h
    rw [List.getElem?_append_right h',List.getElem?_eq_none h',List.getElem?_replicate]
    split <;> rfl
set_option maxHeartbeats 1000000 in
theorem sndC_succ {n : Nat} (C : CxOk Γ) (HC : ∀ u,SndC (Γ.wup u) n Φ) (HN : ∀ u f ts,SndL (Γ.wup u) n Φ ts → SndE (Γ.wup u) n Φ (.new f ts)) :
    SndC Γ (n + 1) (fun f as => match Γ.fns[f]? with | some fn => runFn Φ fn as | Option.none => .bad) := by
  intro i f F A env Z s vs xs AO Gd rep
  have sub := Gd.sub
  have ok := Gd.ok
  have kb := Gd.kb
  simp only [F.ofi]
  unfold runFn
  by_cases hlen : xs.length = F.fn.pars
  · rw [if_pos hlen,F.ini]
    dsimp only
    intro hne Q E hQ hE
    have hvl : vs.length = F.fn.pars := rep.len.trans hlen
    have hlim : s.heap.NoLimit := by obtain ⟨mc,a,b⟩ := C.nolimit; exact ⟨mc,kb.ns a,b⟩
    have hcd : s.heap.CodeRec F.fd.code F.fd.qualname := by
      obtain ⟨c,o,ws,t,e1,e2,e3,e4⟩ := F.code
      exact ⟨c,o,ws,t,e1,kb c o e2,e3,e4⟩
    have hzl : (F.pn.zip vs).map (·.1) = F.pn := by rw [List.map_fst_zip]; rw [hvl,F.pnl]; exact Nat.le_refl _
    have hmem : ∀ x ∈ F.pn.zip vs,∃ k,F.pn[k]? = some x.1 := fun x hx => by
      have : x.1 ∈ F.pn := by rw [← hzl]; exact List.mem_map.2 ⟨x,hx,rfl⟩
      obtain ⟨k,hk,e⟩ := List.getElem_of_mem this
      exact ⟨k,by rw [List.getElem?_eq_getElem hk,e]⟩
    refine wpAny_call (codeAny_call_cells (by have := AO.depth; lia) (F.at_ kb) F.data hlim hcd F.bod (F.binds vs hvl) F.clos (fun x hx => ?_) (fun s₁ X => ?_) F.co F.gen F.kind)
    · obtain ⟨k,hk⟩ := hmem x hx
      rcases (F.par k x.1 hk).2 with q | q
      · exact .inl q
      · exact .inr ⟨q,F.cellof x.1 q _⟩
    generalize henv : callEnvC F.fd s.heap.objs.size f = env' at X ⊢
    have hscope : env'.scope = F.fd.scope := by rw [← henv]; rfl
    have hkof : ∀ x,env'.kindOf x = F.fd.scope.names.lookup x := fun x => by rw [← henv]; rfl
    have hloc : env'.locals = s.heap.objs.size := by rw [← henv]; rfl
    have hfrm : env'.frame = some env'.locals := by rw [← henv]; rfl
    have hcells : env'.cells = cellsFrom (s.heap.objs.size + 1) F.fd.scope.names [] := by rw [← henv]; rfl
    have O' : EnvOk env' := ⟨by rw [hscope]; exact F.kind,by rw [← henv]; exact F.glob,by rw [← henv]; exact F.bui⟩
    obtain ⟨h₁,tk₁,es₁⟩ := X.toInCall.same
    have keep := X.toInCall.keep
    have fresh : ∀ a,FP env' a → s.heap.get? a = none := fun a p => by
      rcases p with rfl | ⟨x,k,l⟩
      · rw [hloc]; exact get_size _
      · exact Heap.get?_none_of_le (Nat.le_of_lt (Nat.lt_of_le_of_lt X.toInCall.fresh (X.above x a (mem_of_lookup l))))
    let m0 : Str → Option Value := fun x => (F.pn.zip vs).lookup x
    have g1 : Grow Z s.heap Z s₁.heap := Grow.keep sub ok (Kp.of keep)
    have noOwn : ∀ i ds,(xs ++ List.replicate (F.fn.names - F.fn.pars) Val.un).getD i .un ≠ .own ds := fun i ds q => by
      rw [getD_app,List.getD] at q
      cases e : xs[i]? with
      | none => rw [e] at q; cases q
      | some y =>
        rw [e] at q
        obtain ⟨_,_,_,a⟩ := rep.get e
        have q : y = .own ds := q
        subst q; cases a
    have AO' := AO.deeper (nm := F.nm) F.quiet O'.kind hfrm
    have I0 : Inv (Γ.wup (env'.locals :: Γ.up)) F.nm (xs ++ List.replicate (F.fn.names - F.fn.pars) Val.un) env' Z s₁.heap m0 := by
      refine ⟨⟨⟨_,X.toInCall.ns,fun x hx => ?_⟩,fun x hx => ?_,fun x y c kx ky lx ly => name_of_addr X.apart (mem_of_lookup lx) (mem_of_lookup ly)⟩,g1.sub,ok,fun a p => led_none sub (fresh a p),Gd.kz,fun L hL => ?_,fun x j l nu => ?_,fun j d ds q => ?_,F.inj,fun a p => kb.none (fresh a p),fun a ⟨x,j,ds,l,ho,_⟩ => absurd ho (noOwn j ds),fun x y j k a ds es lx ly hx hy mx my => absurd hx (noOwn j ds)⟩
      · rw [bindL_eq hx _ _ (by rw [hzl]; exact F.pnn)]; simp [m0]
      · have hx' := hx
        rw [hkof] at hx'
        have := F.cellof x hx' (s.heap.objs.size + 1)
        rw [← hcells] at this
        obtain ⟨c,hc⟩ := Option.isSome_iff_exists.mp this
        refine ⟨c,hc,?_⟩
        have := X.cell x c hc
        rw [bindC_eq hx _ _ (by rw [hzl]; exact F.pnn)] at this
        simpa [m0] using this
      · rcases List.mem_cons.mp hL with rfl | hL
        · obtain ⟨o,es,ep,e,d,_⟩ := X.toInCall.ns
          exact ⟨led_none sub (fresh _ (.inl rfl)),o,es,ep,e,d⟩
        · obtain ⟨z,o,es,k,e,d⟩ := Gd.ups L hL
          exact ⟨z,o,es,k,keep L o e,d⟩
      · rw [getD_app] at nu ⊢
        simp only [List.getD] at nu ⊢
        cases e : xs[j]? with
        | none => rw [e] at nu; exact absurd rfl nu
        | some y =>
          obtain ⟨v,hv,r,_⟩ := rep.get e
          have hj : j < F.pn.length := by rw [F.pnl,← hlen]; exact (List.getElem?_eq_some_iff.mp e).1
          have hp := List.getElem?_eq_getElem hj
          have hn := (F.par j _ hp).1
          have : F.pn[j] = x := F.inj _ _ _ hn l
          rw [this] at hp
          exact ⟨v,lookup_zip (vs := vs) F.pnn hp hv,RepV.wup.mpr (r.grow g1)⟩
      · rw [getD_app,List.getD] at q
        cases e : xs[j]? with
        | none => rw [e] at q; cases q
        | some y =>
          rw [e] at q
          obtain ⟨_,_,_,a⟩ := rep.get e
          have q : y = .pr d ds := q
          subst q; cases a
    have HB := (snd_all (C.wup _) (HC _) (HN _) F.fn.body).b F.nm _ (A.deeper env') env' Z s₁ m0 F.body (by rw [hscope]; exact F.chk) O' AO' I0
    have ownF : ∀ a,¬ OwnAt F.nm (xs ++ List.replicate (F.fn.names - F.fn.pars) Val.un) m0 a := fun a ⟨x,j,ds,l,ho,_⟩ => noOwn j ds ho
    have none1 : ∀ a,s₁.heap.get? a = none → s.heap.get? a = none := fun a q => g1.kp.none q
    have G : ∀ Z' h' ρ' m',Post (Γ.wup (env'.locals :: Γ.up)) F.nm env' Z s₁.heap (xs ++ List.replicate (F.fn.names - F.fn.pars) Val.un) m0 Z' h' ρ' m' → Grow Z s.heap Z' h' := fun Z' h' ρ' m' P => by
      refine ⟨fun b o eb => ?_,P.le,fun a o ea => ?_,P.inv.sub,P.inv.ok⟩
      · exact P.kp b o (fun q => q.elim (fun q => by rw [fresh b q] at eb; cases eb) (ownF b)) (keep b o eb)
      · rcases P.new a o ea with q | q | q
        · exact .inl q
        · exact .inr (none1 a q)
        · exact absurd q (ownF a)
    have es : ∀ h' tk,({ s₁ with heap := h',toks := tk } : Shared) = { s with heap := h',toks := tk } := fun h' tk => by rw [es₁]
    refine HB (fun q => hne (by rw [q]; rfl)) _ _ (fun fl ρ' fw Z' h' tk m' e P x => ?_) fun c e Z' h' tk q l => ?_
    · rw [e] at hQ
      cases fl with
      | next =>
        have x : fw = .next := x
        subst x
        show Q .none _
        rw [es]
        exact hQ (.sh .none) .none Z' h' tk rfl (G _ _ _ _ P) Rep.none
      | ret y =>
        obtain ⟨u,rfl,r⟩ := x
        show Q u _
        rw [es]
        exact hQ y u Z' h' tk rfl (G _ _ _ _ P) (RepV.weak (RepV.wup.mp r) fun a q => q.elim (none1 a) fun q => absurd q (ownF a))
    · refine Lv.leaves (Γ := Γ.wup (env'.locals :: Γ.up)) (s := { s₁ with heap := h',toks := tk }) AO' l env.frame fun H' m' P x => ?_
      show E e { s₁ with heap := H',toks := tk }
      rw [es]
      exact hE c e Z' H' tk (by rw [q]; rfl) (G _ _ _ _ P) (XP.old none1 x)
  · rw [if_neg hlen]; exact EvT.badE rfl
end
end Mine
namespace Mine
open PySem PySem.Calls PyProof.Rows
section
variable {Γ : Cx} {A : Around} {s : Shared} {E : Value → Shared → Prop}
theorem execs_app {M : Model} {env : Env} {b : List Stmt} {Q : Flow → Shared → Prop} : ∀ (a : List Stmt) (G : Ctx) (p : _) (s : Shared),G.In A → Sem.wp M G (execs a env) (fun f _ s' => match f with | .next => wpAny M A (execs b env) Q E s' | f => Q f s') (fun e _ s' => E e s') p s →
    Sem.wp M G (execs (a ++ b) env) (fun f _ s' => Q f s') (fun e _ s' => E e s') p s
  | [],G,p,s,hG,h => by
    rw [execs_nil,Sem.wp_pure'] at h
    exact h G p hG
  | st :: a,G,p,s,hG,h => by
    rw [execs_cons,Sem.wp_bind'] at h
    rw [List.cons_append,execs_cons,Sem.wp_bind']
    refine Sem.wp_mono M G _ (fun f p' s' h' => ?_) (fun _ _ _ h' => h') _ _ h
    cases f with
    | next => exact execs_app a G p' s' hG h'
    | cont => exact h'
    | brk => exact h'
    | ret v => exact h'
theorem wpAny_execs_app {M : Model} {env : Env} {a b : List Stmt} {Q : Flow → Shared → Prop} (h : wpAny M A (execs a env) (fun f s' => match f with | .next => wpAny M A (execs b env) Q E s' | f => Q f s') E s) : wpAny M A (execs (a ++ b) env) Q E s :=
  fun G p hG => execs_app a G p s hG (h G p hG)
theorem put_dict (name : Str) (hsh : Int) (key v : Value) (o : Obj) (es : List DictEntry) (n : Nat) : Obj.putName name hsh key v (dictObj o es n) = dictObj o (PySem.W.putL name hsh key v es) (PySem.W.putN name es n) := by
  rw [Obj.putName_eq]
  unfold Obj.putNameByArray dictObj PySem.W.putN
  have h1 := PySem.W.putL_find name hsh key v es
  have h2 := PySem.W.any_of_findIdx name es
  simp only [List.findIdx?_toArray]
  cases h : List.findIdx? (fun x => x.key.isStr name) es with
  | none => rw [h] at h1 h2; rw [← h2,← h1]; simp
  | some i => rw [h] at h1 h2; rw [← h2,← h1]; simp
theorem setAttr_at {K : PySem.W.Frag} {C x dx : Addr} {ox : Obj} {o : Obj} {es : List DictEntry} {n : Nat} {name : Str} {v : Value} {Q : Unit → Shared → Prop} (X : K.In s.heap) (I : PySem.W.InstAt s.heap x ox C (some (dictObj o es n))) (hd : ox.dict = some dx)
    (hs : PySem.W.findIn K (.ref C) "__setattr__" = some (some (.builtin "object.__setattr__"))) (hp : PySem.W.plainOver K C = true) (ht : PySem.W.takerIn K C name = some none) (hh : (PySem.W.clsIn K C).any (·.hasDict) = true) (hr : es.any (·.refKey) = false) (hz : (PySem.W.putL name 0 .none v es).length ≤ 900)
    (hlen : ∀ hsh key,(PySem.W.putL name hsh key v es).length ≤ 900)
    (h : ∀ h' hsh tk,Heap.SameBut dx s.heap h' → h'.get? dx = some (dictObj o (PySem.W.putL name hsh (.str name tk) v es) (PySem.W.putN name es n)) → Q () { s with heap := h',toks := s.toks + 2 }) :
    wpAny (model Γ.prog Γ.w) A (setAttr (.ref x) name v) Q E s := by
  refine PySem.W.set_plain X I hs (PySem.W.osa_open (s := { s with toks := s.toks + 1 }) X I hp ht fun b => ?_)
  refine cps fun P_ hP_ => ?_
  obtain ⟨cd,hc,hd'⟩ := PySem.W.any_some hh
  obtain ⟨hx,hcl,hn,hdd⟩ := I
  obtain ⟨oc,odi,oda,osl⟩ := ox
  refine hP_ ?_
  clear hP_ P_
  dsimp only at hcl hd hdd
  subst hcl hd
  have D : s.heap.get? dx = some (dictObj o es n) := hdd
  refine wpAny_bind (wpAny_pure (wpAny_bind (wpAny_bind (wpAny_loadPart hx (wpAny_bind (PySem.W.Looks.here (s := { s with toks := s.toks + 1 }) (PySem.W.looks_clsIn X hc) ?_))))))
  rw [hd']
  refine wpAny_pure (a := some dx) (wpAny_bind (wpAny_pure (wpAny_bind ?_)))
  unfold nsSet
  refine wpAny_bind (wpAny_bind (wpAny_askSetting (wpAny_pure (wpAny_bind (wpAny_mkText (wpAny_bind (wpAny_loadPart D ?_)))))))
  dsimp only [dictObj]
  have c : (!es.toArray.any (·.key.isStr name) && es.toArray.any (·.refKey)) = false := by
    rw [← Array.any_toList,← Array.any_toList]
    simp [hr]
  rw [aRefKeyMayBeTheName_at,c]
  have ep := put_dict name (PyData.keyHash Γ.w.params name) (.str name (s.toks + 1)) v o es n
  have D' := Heap.get?_update_self (Obj.putName name (PyData.keyHash Γ.w.params name) (.str name (s.toks + 1)) v) D (by rw [ep]; rfl)
  rw [ep] at D'
  refine wpAny_updatePart D ?_
  refine wpAny_bind (wpAny_lookBehind D' (pastItsLine_dict (by rw [List.size_toArray]; exact Nat.le_trans (hlen _ _) (by decide))) ?_)
  exact wpAny_pure (h _ _ _ (Heap.SameBut.update ..) D')
end
end Mine
namespace Mine
open PySem PySem.Calls PyProof.Rows
set_option genSizeOf false in
set_option genInjectivity false in
structure InitIs (Γ : Cx) (f : Addr) (i : Nat) where
  fn : Fn
  o : Obj
  fd : FuncData
  body : List Stmt
  nm : Nm
  self : Str
  pn : List Str
  xn : Str
  xp : Str
  i1 : Nat
  i2 : Nat
  q1 : Pos
  q2 : Pos
  q3 : Pos
  q4 : Pos
  q5 : Pos
  q6 : Pos
  q7 : Pos
  q8 : Pos
  here : Γ.base.get? f = some o
  data : o.data = .func fd
  ofi : Γ.fns[i]? = some fn
  bod : fd.body = .stmts (body ++ [.Assign [.Attribute (.Name self q1) (attrN false) q2] (.Name xn q3) q4,.Assign [.Attribute (.Name self q5) (attrN true) q6] (.Name xp q7) q8])
  glob : fd.globals = mainGlobals
  bui : fd.builtins = builtinsNs
  clos : fd.closure = []
  co : fd.scope.isCoroutine = false
  gen : fd.scope.isGenerator = false
  kind : fd.scope.kind = .function
  code : Γ.base.CodeRec fd.code fd.qualname
  binds : ∀ vals : List Value,vals.length = fn.pars → bindArgs fd ⟨vals,[]⟩ = pure ((self :: pn).zip vals)
  pnl : (self :: pn).length = fn.pars
  pnn : (self :: pn).Nodup
  par : ∀ k x,(self :: pn)[k]? = some x → (k = 0 ∨ nm.lookup x = some k) ∧ (fd.scope.names.lookup x = some .local ∨ fd.scope.names.lookup x = some .cell)
  off : nm.lookup self = none
  sloc : fd.scope.names.lookup self = some .local
  sdeb : notDebug self = true
  inj : ∀ x y k,nm.lookup x = some k → nm.lookup y = some k → x = y
  cellof : ∀ x,fd.scope.names.lookup x = some .cell → ∀ k,((cellsFrom k fd.scope.names []).lookup x).isSome = true
  ini : fn.init = some (i1,i2)
  v1 : varOf nm fd.scope xn = some i1
  v2 : varOf nm fd.scope xp = some i2
  d1 : notDebug xn = true
  d2 : notDebug xp = true
  ne : i2 ≠ i1
  chk : chkB Γ.gs fn.body nm fd.scope body = true
structure NewOk (Γ : Cx) : Prop where
  makes : PySem.W.makesIn Γ.K Γ.shopC = true
  keep : PySem.W.keepIn Γ.K (.ref Γ.shopC) = true
  setat : PySem.W.findIn Γ.K (.ref Γ.shopC) "__setattr__" = some (some (.builtin "object.__setattr__"))
  plain : PySem.W.plainOver Γ.K Γ.shopC = true
  take : ∀ k,PySem.W.takerIn Γ.K Γ.shopC (attrN k) = some none
  dict : (PySem.W.clsIn Γ.K Γ.shopC).any (·.hasDict) = true
  init : ∀ x i,Γ.gs.lookup x = some (.cls i) → Γ.mg x = some (.ref Γ.shopC) ∧ ∃ f,PySem.W.findIn Γ.K (.ref Γ.shopC) "__init__" = some (some (.ref f)) ∧ PySem.W.typeIn Γ.K (.ref f) = some (.type "function") ∧ Nonempty (InitIs Γ f i)
noncomputable def SndN (Γ : Cx) (n : Nat) (Φ : Nat → List Val → Out Val) : Prop :=
  ∀ (x : Str) (i : Nat),Γ.gs.lookup x = some (.cls i) → ∀ (A : Around) (env : Env) (Z : Led) (s : Shared) (vs : List Value) (xs : List Val),AOc Γ i n A → A.handled = none → Gnd Γ Z s.heap → RepVs Γ Z s.heap vs xs →
    EvT Γ A env Z s (PW Γ s.heap) (Φ i (.un :: xs)) (wpt Γ A (call (.ref Γ.shopC) vs))
section
variable {Γ : Cx} {n : Nat} {Φ : Nat → List Val → Out Val} {A : Around} {env : Env} {Z Z' : Led} {s : Shared} {nm : Nm} {ρ ρ' : List Val} {m m' : Str → Option Value} {h₀ h h' h'' : Heap}
theorem callWith_shop (N : NewOk Γ) {pos : Pos} {es : List Expr} {ts : T} (hc : chkT Γ.gs ts nm env.scope es = true) {Q E : Value → Shared → Prop}
    (h : wpAny (model Γ.prog Γ.w) A (spliced (backTo pos (starEach es env))) (fun vs s' => Γ.K.In s'.heap ∧ wpAny (model Γ.prog Γ.w) A (call (.ref Γ.shopC) vs) Q E s') E s) :
    wpAny (model Γ.prog Γ.w) A (callWith pos (.ref Γ.shopC) [] (backTo pos (starEach es env)) []) Q E s :=
  PySem.W.callWith_of (P := Γ.K.In) (by rw [chkT_plain hc]; rfl) (PySem.W.keeps_K N.keep) (evalArgs_all hc h)
theorem snd_new (C : CxOk Γ) (N : NewOk Γ) (HN : SndN Γ n Φ) {f : Nat} {ts : T} (H : SndL Γ n Φ ts) : SndE Γ n Φ (.new f ts) := fun nm ρ A env Z s m e hc O AO I => inv_new hc fun x p es pos he h1 h2 h3 => by
  subst he
  obtain ⟨k,l⟩ := globOf_kind h2
  obtain ⟨ha,_⟩ := N.init x f l
  show EvT Γ A env Z s _ (evT Φ ts ρ >>= fun vs => Φ f (.un :: vs)) _
  refine EvT.rule (fun Q E h => Call_ (load_glob O C.g I k ha h1 (callWith_shop N h3 h))) (EvT.bind (W2 := fun vs Q E s' => Γ.K.In s'.heap ∧ wpAny (model Γ.prog Γ.w) A (call (.ref Γ.shopC) vs) Q E s') (H nm ρ A env Z s m es pos h3 O AO I) fun xs vs Z' h' tk _ g q => ?_)
  have kb := (I.grow g).kb
  have := EvT.old g (HN x f l A env Z' { s with heap := h',toks := tk } vs xs (AO.call (.inl (loud_new hc))) (AO.hd (loud_new hc)) (I.grow g).gnd q.1)
  exact fun hne Q E hQ hE => ⟨C.kin h' kb,this hne Q E hQ hE⟩
noncomputable def InitIs.wup {f : Addr} {i : Nat} (F : InitIs Γ f i) (u : List Addr) : InitIs (Γ.wup u) f i := ⟨F.fn,F.o,F.fd,F.body,F.nm,F.self,F.pn,F.xn,F.xp,F.i1,F.i2,F.q1,F.q2,F.q3,F.q4,F.q5,F.q6,F.q7,F.q8,F.here,F.data,F.ofi,F.bod,F.glob,F.bui,F.clos,F.co,F.gen,F.kind,F.code,F.binds,F.pnl,F.pnn,F.par,F.off,F.sloc,F.sdeb,F.inj,F.cellof,F.ini,F.v1,F.v2,F.d1,F.d2,F.ne,F.chk⟩
theorem NewOk.wup (N : NewOk Γ) (u : List Addr) : NewOk (Γ.wup u) := ⟨N.makes,N.keep,N.setat,N.plain,N.take,N.dict,fun x i h => let ⟨a,f,b,c,⟨F⟩⟩ := N.init x i h; ⟨a,f,b,c,⟨F.wup u⟩⟩⟩
inductive Settled (Γ : Cx) (nm : Nm) (env : Env) (Z : Led) (h₀ : Heap) (ρ : List Val) (m : Str → Option Value) (Z' : Led) (h : Heap) (ρ' : List Val) (m' : Str → Option Value) (x : Str) (i : Nat) (l : List Dat) : Prop
  | mk (Z2 : _) (ρ2 : _) (v : _) : Post Γ nm env Z h₀ ρ m Z2 h ρ2 m' → Led.le Z' Z2 → m' x = some v → Rep Z2 v (.lst l) → (∀ j,j ≠ i → ρ2.getD j .un = ρ'.getD j .un) → Settled Γ nm env Z h₀ ρ m Z' h ρ' m' x i l
theorem Post.settle (P : Post Γ nm env Z h₀ ρ m Z' h ρ' m') {x : Str} {i : Nat} {l : List Dat} (hx : nm.lookup x = some i) (hd : needD (ρ'.getD i .un) = .ok (.lst l)) : Settled Γ nm env Z h₀ ρ m Z' h ρ' m' x i l := by
  cases ho : ρ'.getD i .un with
  | sh d =>
    rw [ho] at hd; cases hd
    obtain ⟨v,hv,r⟩ := P.inv.var x i hx (by rw [ho]; simp)
    rw [ho] at r
    exact ⟨Z',ρ',v,P,fun _ _ e => e,hv,r,fun _ _ => rfl⟩
  | own ds =>
    rw [ho] at hd; cases hd
    obtain ⟨Z2,P2⟩ := Post.freeze P.inv ho
    have hi : i < ρ'.length := by
      by_cases hi : i < ρ'.length
      · exact hi
      · have : ρ'.getD i .un = .un := by simp [List.getD,Nat.not_lt.mp hi]
        rw [this] at ho; cases ho
    have get_i : (ρ'.set i (Val.sh (.lst l))).getD i .un = .sh (.lst l) := by simp [List.getD,hi]
    obtain ⟨v,hv,r⟩ := P2.inv.var x i hx (by rw [get_i]; simp)
    rw [get_i] at r
    exact ⟨Z2,_,v,P.trans P2,P2.le,hv,r,fun j hj => by simp [List.getD,List.getElem?_set,Ne.symm hj]⟩
  | un => rw [ho] at hd; cases hd
  | bor ds => rw [ho] at hd; cases hd
  | shop a b => rw [ho] at hd; cases hd
  | exc c => rw [ho] at hd; cases hd
  | pr d ds => exact absurd ho (P.inv.nopr i d ds)
theorem AOk.make {A : Around} (h : AOk (n + 1) A) (C : Addr) (rest : List Value) (env : Env) : AOk n ((A.under (.builtin "type.__call__" ⟨.ref C :: rest,[]⟩)).deeper env) := by
  obtain ⟨b,c⟩ := h
  have w : (Code.builtin "type.__call__" ⟨.ref C :: rest,[]⟩).weight = 1 := rfl
  have u : (Code.builtin "type.__call__" ⟨.ref C :: rest,[]⟩).cUnits = 1 := rfl
  refine ⟨?_,?_⟩
  · show A.depth + (Code.builtin "type.__call__" ⟨.ref C :: rest,[]⟩).weight + 1 + 2 * n < recursionLimit
    rw [w]; lia
  · show A.units + (Code.builtin "type.__call__" ⟨.ref C :: rest,[]⟩).cUnits + 3 + 8 * n + 200 ≤ cLine
    rw [u]; lia
theorem InitIs.at_ {f : Addr} {i : Nat} (F : InitIs Γ f i) {h : Heap} (k : Kp Γ.base h) : h.get? f = some F.o := k f F.o F.here
theorem init_store (C : CxOk Γ) (N : NewOk Γ) {A' : Around} {env' : Env} {h' : Heap} {gs0 : Array GenState} {dr : _} {tk : Nat} {os : _} {m' : Str → Option Value} {x0 dx : Addr} {od : Obj} {es : List DictEntry} {nn : Nat} {v1 : Value} {self xn : Str} {p1 p2 p3 p4 : Pos} {rest : List Stmt} {at_ : Bool} {Q : Flow → Shared → Prop} {E : Value → Shared → Prop} (hk : env'.scope.kind = .function) (FR : FrS env' h' m')
    (ks : env'.kindOf self = some .local) (k1 : env'.kindOf xn = some .local ∨ env'.kindOf xn = some .cell) (ms : m' self = some (.ref x0)) (mv1 : m' xn = some v1) (d0 : notDebug self = true) (d1 : notDebug xn = true) (kb : Kp Γ.base h') (hx : h'.get? x0 = some (shopObj Γ.shopC dx)) (hd : h'.get? dx = some (dictObj od es nn)) (hr : es.any (·.refKey) = false)
    (hlen : ∀ hsh key,(PySem.W.putL (attrN at_) hsh key v1 es).length ≤ 900)
    (h : ∀ h2 hs1 t1 n2,Heap.SameBut dx h' h2 → h2.get? dx = some (dictObj od (PySem.W.putL (attrN at_) hs1 (.str (attrN at_) t1) v1 es) n2) → wpAny (model Γ.prog Γ.w) A' (execs rest env') Q E ⟨h2,gs0,dr,tk + 2,os⟩) :
    wpAny (model Γ.prog Γ.w) A' (execs (.Assign [.Attribute (.Name self p1) (attrN at_) p2] (.Name xn p3) p4 :: rest) env') Q E ⟨h',gs0,dr,tk,os⟩ :=
  wpAny_execs_cons (plainObj_wpAny_Assign_Attribute (load_var (s := ⟨h',gs0,dr,tk,os⟩) hk FR k1 mv1 d1 (load_var (s := ⟨h',gs0,dr,tk,os⟩) hk FR (.inl ks) ms d0
    (setAttr_at (s := ⟨h',gs0,dr,tk,os⟩) (C.kin h' kb) ⟨hx,rfl,rfl,hd⟩ rfl N.setat N.plain (N.take at_) N.dict hr (hlen _ _) hlen fun h2 hs1 t1 sb1 e2 => h h2 hs1 t1 _ sb1 e2))) (notComp_swaps rfl _ _ _))
theorem FrS.other {env' : Env} {h h2 : Heap} {m' : Str → Option Value} {dx : Addr} (FR : FrS env' h m') (sb1 : Heap.SameBut dx h h2) (dfp : ¬ FP env' dx) : FrS env' h2 m' := by
  obtain ⟨⟨ml,a,b⟩,c,d⟩ := FR
  exact ⟨⟨ml,a.sameBut sb1 fun q => dfp (.inl q.symm),b⟩,fun x e => let ⟨q,l,i⟩ := c x e; ⟨q,l,i.sameBut sb1 fun q' => dfp (.inr ⟨x,e,q' ▸ l⟩)⟩,d⟩
theorem init_end (C : CxOk Γ) (N : NewOk Γ) {A' : Around} {env' : Env} {h' : Heap} {gs0 : Array GenState} {dr : _} {tk : Nat} {os : _} {m' : Str → Option Value} {x0 dx : Addr} {od : Obj} {v1 v2 : Value} {self xn xp : Str} {q1 q2 q3 q4 q5 q6 q7 q8 : Pos} {Q : Flow → Shared → Prop} {E : Value → Shared → Prop} (hk : env'.scope.kind = .function) (FR : FrS env' h' m')
    (ks : env'.kindOf self = some .local) (k1 : env'.kindOf xn = some .local ∨ env'.kindOf xn = some .cell) (k2 : env'.kindOf xp = some .local ∨ env'.kindOf xp = some .cell) (ms : m' self = some (.ref x0)) (mv1 : m' xn = some v1) (mv2 : m' xp = some v2) (d0 : notDebug self = true) (d1 : notDebug xn = true) (d2 : notDebug xp = true) (kb : Kp Γ.base h') (hx : h'.get? x0 = some (shopObj Γ.shopC dx)) (hd : h'.get? dx = some (dictObj od [] 0))
    (hne : x0 ≠ dx) (dfp : ¬ FP env' dx) (bdx : Γ.base.get? dx = none)
    (h : ∀ h3 hs1 t1 hs2 t2 n,(∀ b o,¬ b = dx → h'.get? b = some o → h3.get? b = some o) → h3.get? dx = some (dictObj od [⟨hs1,.str (attrN false) t1,v1⟩,⟨hs2,.str (attrN true) t2,v2⟩] n) → Q .next ⟨h3,gs0,dr,tk + 2 + 2,os⟩) :
    wpAny (model Γ.prog Γ.w) A' (execs [.Assign [.Attribute (.Name self q1) (attrN false) q2] (.Name xn q3) q4,.Assign [.Attribute (.Name self q5) (attrN true) q6] (.Name xp q7) q8] env') Q E ⟨h',gs0,dr,tk,os⟩ := by
  refine init_store C N hk FR ks k1 ms mv1 d0 d1 kb hx hd rfl (by simp [PySem.W.putL]) fun h2 hs1 t1 n2 sb1 e2 => ?_
  have eput : PySem.W.putL (attrN false) hs1 (.str (attrN false) t1) v1 [] = [⟨hs1,.str (attrN false) t1,v1⟩] := rfl
  rw [eput] at e2
  have kb2 : Kp Γ.base h2 := fun a o e => sb1.extBut a o (fun q => by rw [q,bdx] at e; cases e) (kb a o e)
  refine init_store C N hk (FR.other sb1 dfp) ks k2 ms mv2 d0 d2 kb2 (sb1.extBut x0 _ hne hx) e2 rfl (fun _ _ => by simp [PySem.W.putL]; split <;> simp) fun h3 hs2 t2 n3 sb2 e3 => ?_
  have eput2 : PySem.W.putL (attrN true) hs2 (.str (attrN true) t2) v2 [⟨hs1,.str (attrN false) t1,v1⟩] = [⟨hs1,.str (attrN false) t1,v1⟩,⟨hs2,.str (attrN true) t2,v2⟩] := by
    have : (Value.str (attrN false) t1).isStr (attrN true) = false := rfl
    simp [PySem.W.putL,this]
  rw [eput2] at e3
  exact wpAny_execs_nil (h h3 hs1 t1 hs2 t2 n3 (fun b o hb e => sb2.extBut b o hb (sb1.extBut b o hb e)) e3)
set_option maxHeartbeats 2000000 in
theorem sndN_succ (C : CxOk Γ) (N : NewOk Γ) (HC : ∀ u,SndC (Γ.wup u) n Φ) (HN : ∀ u f ts,SndL (Γ.wup u) n Φ ts → SndE (Γ.wup u) n Φ (.new f ts)) :
    SndN Γ (n + 1) (fun f as => match Γ.fns[f]? with | some fn => runFn Φ fn as | Option.none => .bad) := by
  intro cx i hcx A env Z s vs xs AO hhd0 Gd rep
  have sub := Gd.sub
  have ok := Gd.ok
  have kb := Gd.kb
  have kz := Gd.kz
  have ups := Gd.ups
  clear Gd
  refine cps fun P hP => ?_
  obtain ⟨_,f,hfi,hty,⟨F⟩⟩ := N.init cx i hcx
  refine hP ?_
  clear hP P
  simp only [F.ofi]
  unfold runFn
  by_cases hlen : (Val.un :: xs).length = F.fn.pars
  · rw [if_pos hlen,F.ini]
    dsimp only
    intro hne Q E hQ hE
    have X := C.kin s.heap kb
    obtain ⟨hh,gs0,dr,tks,os⟩ := s
    dsimp only at sub kb ups rep hQ hE X ⊢
    refine wpAny_call (PySem.W.make_core (PySem.W.makes_of X N.makes) (PySem.W.looks_findIn X hfi) (fun self => PySem.W.bind_fn X self hty) (.inl rfl) ?_)
    generalize hx0 : hh.objs.size + 1 = x0
    generalize hdx : hh.objs.size = dx
    generalize hH : (hh.push PySem.W.emptyDict).push (PySem.W.instObj Γ.shopC dx) = H
    have keepH : ∀ b o,hh.get? b = some o → H.get? b = some o := fun b o e => by rw [← hH]; exact Heap.get?_push_of_some _ (Heap.get?_push_of_some _ e)
    have sz1 : (hh.push PySem.W.emptyDict).objs.size = x0 := by rw [Heap.size_push,hx0]
    have Hdx : H.get? dx = some (dictObj PySem.W.emptyDict [] 0) := by rw [← hH,← hdx]; exact Heap.get?_push_of_some _ (Heap.get?_push_size _ rfl)
    have Hx : H.get? x0 = some (shopObj Γ.shopC dx) := by rw [← hH,← sz1]; exact Heap.get?_push_size _ rfl
    have hhx : hh.get? x0 = none := Heap.get?_none_of_le (by rw [← hx0]; exact Nat.le_succ _)
    have hhd : hh.get? dx = none := by rw [← hdx]; exact get_size _
    have hne0 : dx ≠ x0 := by rw [← hdx,← hx0]; exact Nat.ne_of_lt (Nat.lt_succ_self _)
    have kbH : Kp Γ.base H := kb.trans (Kp.of keepH)
    have hvl : (Value.ref x0 :: vs).length = F.fn.pars := by rw [List.length_cons,rep.len,← List.length_cons (a := Val.un)]; exact hlen
    have hlim : H.NoLimit := by obtain ⟨mc,a,b⟩ := C.nolimit; exact ⟨mc,kbH.ns a,b⟩
    have hcd : H.CodeRec F.fd.code F.fd.qualname := by
      obtain ⟨c,o,ws,t,e1,e2,e3,e4⟩ := F.code
      exact ⟨c,o,ws,t,e1,kbH c o e2,e3,e4⟩
    have hzl : ((F.self :: F.pn).zip (Value.ref x0 :: vs)).map (·.1) = F.self :: F.pn := by rw [List.map_fst_zip]; rw [hvl,F.pnl]; exact Nat.le_refl _
    have hmem : ∀ x ∈ (F.self :: F.pn).zip (Value.ref x0 :: vs),∃ k,(F.self :: F.pn)[k]? = some x.1 := fun x hx => by
      have : x.1 ∈ F.self :: F.pn := by rw [← hzl]; exact List.mem_map.2 ⟨x,hx,rfl⟩
      obtain ⟨k,hk,e⟩ := List.getElem_of_mem this
      exact ⟨k,by rw [List.getElem?_eq_getElem hk,e]⟩
    have AOm := AO.toAOk.make Γ.shopC vs
    refine codeAny_call_cells (by have := (AOm env).depth; exact Nat.lt_of_le_of_lt (by show _ ≤ (A.under _).depth + 1 + 2 * n; lia) this) (F.at_ kbH) F.data hlim hcd F.bod (F.binds _ hvl) F.clos (fun x hx => ?_) (fun s₁ XX => ?_) F.co F.gen F.kind
    · obtain ⟨k,hk⟩ := hmem x hx
      rcases (F.par k x.1 hk).2 with q | q
      · exact .inl q
      · exact .inr ⟨q,F.cellof x.1 q _⟩
    dsimp only at XX ⊢
    generalize henv : callEnvC F.fd H.objs.size f = env' at XX ⊢
    have hscope : env'.scope = F.fd.scope := by rw [← henv]; rfl
    have hkof : ∀ x,env'.kindOf x = F.fd.scope.names.lookup x := fun x => by rw [← henv]; rfl
    have hloc : env'.locals = H.objs.size := by rw [← henv]; rfl
    have hfrm : env'.frame = some env'.locals := by rw [← henv]; rfl
    have hcells : env'.cells = cellsFrom (H.objs.size + 1) F.fd.scope.names [] := by rw [← henv]; rfl
    have O' : EnvOk env' := ⟨by rw [hscope]; exact F.kind,by rw [← henv]; exact F.glob,by rw [← henv]; exact F.bui⟩
    refine cps fun P hP => ?_
    obtain ⟨h₁,tk₁,es₁⟩ := XX.toInCall.same
    refine hP ?_
    clear hP P
    have keep : ∀ b o,H.get? b = some o → s₁.heap.get? b = some o := XX.toInCall.keep
    have freshH : ∀ a,FP env' a → H.get? a = none := fun a p => by
      rcases p with rfl | ⟨x,k,l⟩
      · rw [hloc]; exact get_size _
      · exact Heap.get?_none_of_le (Nat.le_of_lt (Nat.lt_of_le_of_lt XX.toInCall.fresh (XX.above x a (mem_of_lookup l))))
    have fresh : ∀ a,FP env' a → hh.get? a = none := fun a p => (Kp.of keepH).none (freshH a p)
    let m0 : Str → Option Value := fun x => ((F.self :: F.pn).zip (Value.ref x0 :: vs)).lookup x
    have g1 : Grow Z hh Z s₁.heap := Grow.keep sub ok (Kp.of fun b o e => keep b o (keepH b o e))
    have noOwn : ∀ i ds,(Val.un :: xs ++ List.replicate (F.fn.names - F.fn.pars) Val.un).getD i .un ≠ .own ds := fun i ds q => by
      rw [getD_app,List.getD] at q
      cases i with
      | zero => cases q
      | succ i =>
        rw [List.getElem?_cons_succ] at q
        cases e : xs[i]? with
        | none => rw [e] at q; cases q
        | some y =>
          rw [e] at q
          obtain ⟨_,_,_,a⟩ := rep.get e
          have q : y = .own ds := q
          subst q; cases a
    have I0 : Inv (Γ.wup (env'.locals :: Γ.up)) F.nm (Val.un :: xs ++ List.replicate (F.fn.names - F.fn.pars) Val.un) env' Z s₁.heap m0 := by
      refine ⟨⟨⟨_,XX.toInCall.ns,fun x hx => ?_⟩,fun x hx => ?_,fun x y c kx ky lx ly => name_of_addr XX.apart (mem_of_lookup lx) (mem_of_lookup ly)⟩,g1.sub,ok,fun a p => led_none sub (fresh a p),kz,fun L hL => ?_,fun x j l nu => ?_,fun j d ds q => ?_,F.inj,fun a p => kb.none (fresh a p),fun a ⟨x,j,ds,l,ho,_⟩ => absurd ho (noOwn j ds),fun x y j k a ds es lx ly hx hy mx my => absurd hx (noOwn j ds)⟩
      · rw [bindL_eq hx _ _ (by rw [hzl]; exact F.pnn)]; simp [m0]
      · have hx' := hx
        rw [hkof] at hx'
        have := F.cellof x hx' (H.objs.size + 1)
        rw [← hcells] at this
        obtain ⟨c,hc⟩ := Option.isSome_iff_exists.mp this
        refine ⟨c,hc,?_⟩
        have := XX.cell x c hc
        rw [bindC_eq hx _ _ (by rw [hzl]; exact F.pnn)] at this
        simpa [m0] using this
      · rcases List.mem_cons.mp hL with rfl | hL
        · obtain ⟨o,es,ep,e,d,_⟩ := XX.toInCall.ns
          exact ⟨led_none sub (fresh _ (.inl rfl)),o,es,ep,e,d⟩
        · obtain ⟨z,o,es,k,e,d⟩ := ups L hL
          exact ⟨z,o,es,k,keep L o (keepH L o e),d⟩
      · rw [getD_app] at nu ⊢
        simp only [List.getD] at nu ⊢
        cases j with
        | zero => exact absurd rfl nu
        | succ j =>
          rw [List.getElem?_cons_succ] at nu ⊢
          cases e : xs[j]? with
          | none => rw [e] at nu; exact absurd rfl nu
          | some y =>
            obtain ⟨v,hv,r,_⟩ := rep.get e
            have hj : j + 1 < (F.self :: F.pn).length := by rw [F.pnl,← hlen]; simp only [List.length_cons]; exact Nat.succ_lt_succ (List.getElem?_eq_some_iff.mp e).1
            have hp := List.getElem?_eq_getElem hj
            rcases (F.par (j + 1) _ hp).1 with q | hn
            · cases q
            · have : (F.self :: F.pn)[j + 1] = x := F.inj _ _ _ hn l
              rw [this] at hp
              exact ⟨v,lookup_zip (vs := vs) F.pnn hp (by simpa using hv),RepV.wup.mpr (r.grow g1)⟩
      · rw [getD_app,List.getD] at q
        cases j with
        | zero => cases q
        | succ j =>
          rw [List.getElem?_cons_succ] at q
          cases e : xs[j]? with
          | none => rw [e] at q; cases q
          | some y =>
            rw [e] at q
            obtain ⟨_,_,_,a⟩ := rep.get e
            have q : y = .pr d ds := q
            subst q; cases a
    have ownF : ∀ a,¬ OwnAt F.nm (Val.un :: xs ++ List.replicate (F.fn.names - F.fn.pars) Val.un) m0 a := fun a ⟨x,j,ds,l,ho,_⟩ => noOwn j ds ho
    have none1 : ∀ a,s₁.heap.get? a = none → hh.get? a = none := fun a q => g1.kp.none q
    have AO' : AOx (Γ.wup (env'.locals :: Γ.up)) F.nm n ((A.under (.builtin "type.__call__" ⟨.ref Γ.shopC :: vs,[]⟩)).deeper env') env' := by
      obtain ⟨l,f1,f2⟩ := AO.fr
      refine ⟨AOm env',fun _ => hhd0,env',l,?_,rfl,fun e he => ?_⟩
      · have fu : (A.under (.builtin "type.__call__" ⟨.ref Γ.shopC :: vs,[]⟩)).frames = some l := by
          rw [← f1]; rfl
        show ((A.under (.builtin "type.__call__" ⟨.ref Γ.shopC :: vs,[]⟩)).frames).map (env' :: ·) = _
        rw [fu]; rfl
      · rcases List.mem_cons.mp he with rfl | he
        · exact ⟨by rw [O'.kind]; decide,_,hfrm,List.mem_cons_self ..⟩
        · obtain ⟨a,L',b,c⟩ := f2 e he
          exact ⟨a,L',b,List.mem_cons_of_mem _ c⟩
    have G : ∀ Z' h' ρ' m',Post (Γ.wup (env'.locals :: Γ.up)) F.nm env' Z s₁.heap (Val.un :: xs ++ List.replicate (F.fn.names - F.fn.pars) Val.un) m0 Z' h' ρ' m' → Grow Z hh Z' h' := fun Z' h' ρ' m' P2 => by
      refine ⟨fun b o eb => ?_,P2.le,fun a o ea => ?_,P2.inv.sub,P2.inv.ok⟩
      · exact P2.kp b o (fun q => q.elim (fun q => by rw [fresh b q] at eb; cases eb) (ownF b)) (keep b o (keepH b o eb))
      · rcases P2.new a o ea with q | q | q
        · exact .inl q
        · exact .inr (none1 a q)
        · exact absurd q (ownF a)
    have es : ∀ hz t,({ s₁ with heap := hz,toks := t } : Shared) = ⟨hz,gs0,dr,t,os⟩ := fun hz t => by rw [es₁]
    have HB := (snd_all (C.wup _) (HC _) (HN _) F.fn.body).b F.nm _ ((A.under (.builtin "type.__call__" ⟨.ref Γ.shopC :: vs,[]⟩)).deeper env') env' Z s₁ m0 F.body (by rw [hscope]; exact F.chk) O' AO' I0
    refine wpAny_execs_app (HB (fun q => hne (by rw [q]; rfl)) _ _ (fun fl ρ' fw Z' h' tk m' e P fx => ?_) fun c e Z' h' tk q l => ?_)
    rotate_left
    · refine Lv.leaves (Γ := Γ.wup (env'.locals :: Γ.up)) (s := { s₁ with heap := h',toks := tk }) AO' l env.frame fun H' m' P x => ?_
      show E e { s₁ with heap := H',toks := tk }
      rw [es]
      exact hE c e Z' H' tk (by rw [q]; rfl) (G _ _ _ _ P) (XP.old none1 x)
    rw [e,Out.bind_ok] at hne hQ
    cases fl with
    | ret y => exact absurd rfl hne
    | next =>
      have fx : fw = .next := fx
      subst fx
      refine cps fun P0 hP0 => ?_
      have hsh : shopOf F.i1 F.i2 (.next,ρ') = (needD (ρ'.getD F.i1 .un) >>= fun x => needD (ρ'.getD F.i2 .un) >>= fun y => shop2 x y) := rfl
      rw [hsh] at hne hQ
      cases hd1 : needD (ρ'.getD F.i1 .un) with
      | bad => rw [hd1] at hne; exact absurd rfl hne
      | exn c => cases q : ρ'.getD F.i1 .un <;> (rw [q] at hd1; cases hd1)
      | ok a1 =>
        cases hd2 : needD (ρ'.getD F.i2 .un) with
        | bad => rw [hd1,hd2] at hne; exact absurd rfl hne
        | exn c => cases q : ρ'.getD F.i2 .un <;> (rw [q] at hd2; cases hd2)
        | ok a2 =>
          rw [hd1,hd2] at hne hQ
          simp only [Out.bind_ok] at hne hQ
          cases a1 <;> first | exact absurd rfl hne | skip
          rename_i ns
          cases a2 <;> first | exact absurd rfl hne | skip
          rename_i ps
          obtain ⟨kd1,nl1⟩ := varOf_kind F.v1
          obtain ⟨kd2,nl2⟩ := varOf_kind F.v2
          obtain ⟨Z1,ρ1,v1,P1,le1,mv1,r1,oth1⟩ := P.settle nl1 hd1
          have hd2' : needD (ρ1.getD F.i2 .un) = .ok (.lst ps) := by
            rw [oth1 _ F.ne]; exact hd2
          obtain ⟨Z2,ρ2,v2,P2,le2,mv2,r2,_⟩ := P1.settle nl2 hd2'
          have r1 := r1.mono le2
          have I2 := P2.inv
          have mself : m' F.self = some (.ref x0) := by
            rw [P2.oth F.self F.off]
            show ((F.self :: F.pn).zip (Value.ref x0 :: vs)).lookup F.self = _
            simp [List.lookup_cons]
          have keep2 := fun b o (e : H.get? b = some o) => P2.kp b o (fun q => q.elim (fun q => by rw [freshH b q] at e; cases e) (ownF b)) (keep b o e)
          have zno : ∀ b o,H.get? b = some o → hh.get? b = none → Z2 b = none := fun b o e e0 => by
            cases q : Z2 b with
            | none => rfl
            | some o' =>
              rcases P2.new b o' q with q | q | q
              · have := sub b o' q; rw [e0] at this; cases this
              · have := keep b o e; rw [q] at this; cases this
              · exact absurd q (ownF b)
          have zd := zno dx _ Hdx hhd
          have zx := zno x0 _ Hx hhx
          obtain ⟨od,hd'⟩ : ∃ od,h'.get? dx = some (dictObj od [] 0) := by
            obtain ⟨_,o',e',d',_⟩ := keep2 dx _ Hdx
            obtain ⟨c1,c2,c3,c4⟩ := o'
            have d' : c3 = .dict #[] 0 := d'
            subst d'
            exact ⟨⟨c1,c2,.dict #[] 0,c4⟩,e'⟩
          have hx' : h'.get? x0 = some (shopObj Γ.shopC dx) := (keep2 x0 _ Hx).1 (.inr fun _ _ q => nomatch q)
          have G2 : Grow Z hh Z2 h' := G _ _ _ _ P2
          refine hP0 ?_
          clear hP0 P0
          rw [es]
          have kb2 : Kp Γ.base h' := fun a o e => G2.sub a o (G2.le a o (kz a o e))
          refine init_end C N O'.kind I2.fr (by rw [hkof]; exact F.sloc) (by rw [hkof]; exact kd1) (by rw [hkof]; exact kd2) mself mv1 mv2 F.sdeb F.d1 F.d2 kb2 hx' hd' hne0.symm (fun p => by rw [freshH dx p] at Hdx; cases Hdx) (kb.none hhd) fun h3 hs1 t1 hs2 t2 n3 kp3 e3 => ⟨rfl,?_⟩
          have G5 := (G2.write (W := fun b => b = dx) kp3 fun b hb => by subst hb; exact ⟨hhd,zd⟩).put zd hhd e3 trivial
          have zx5 : ∀ o,Led.put Z2 dx o x0 = none := fun o => (if_neg hne0.symm).trans zx
          have G6 := G5.put (zx5 _) hhx (kp3 x0 _ hne0.symm hx') trivial
          have le5 : ∀ o,Led.le Z2 (Led.put Z2 dx o) := fun o => Led.put_le zd
          exact hQ (.shop ns ps) (.ref x0) _ h3 _ rfl G6 ⟨x0,dx,_,_,_,_,_,rfl,Led.put_self _ _ _,Led.put_le (zx5 _) _ _ (Led.put_self _ _ _),rfl,rfl,rfl,rfl,(r1.mono (le5 _)).mono (Led.put_le (zx5 _)),(r2.mono (le5 _)).mono (Led.put_le (zx5 _))⟩
  · rw [if_neg hlen]; exact EvT.badE rfl
end
end Mine
namespace Mine
open PySem PySem.Calls PyProof.Rows
theorem snd_calls {Γ : Cx} (C : CxOk Γ) (N : NewOk Γ) : ∀ n u,SndC (Γ.wup u) n (callF Γ.fns n) ∧ SndN (Γ.wup u) n (callF Γ.fns n)
  | 0,u => ⟨fun i f F A env Z s vs xs AO G rep => EvT.badE rfl,fun x i l A env Z s vs xs AO h G rep => EvT.badE rfl⟩
  | n + 1,u => by
    have H := snd_calls C N n
    have HN : ∀ u f ts,SndL (Γ.wup u) n (callF Γ.fns n) ts → SndE (Γ.wup u) n (callF Γ.fns n) (.new f ts) := fun u f ts h => snd_new (C.wup u) (N.wup u) (H u).2 h
    have a := sndC_succ (C.wup u) (fun v => (H v).1) fun v => HN v
    have b := sndN_succ (C.wup u) (N.wup u) (fun v => (H v).1) fun v => HN v
    exact ⟨a,b⟩
end Mine
namespace Mine
open PySem PySem.Calls PyProof.Rows
theorem lookup_zip_some {α : Type} : ∀ (ns : List Str) (vs : List α),vs.length = ns.length → ∀ n ∈ ns,((ns.zip vs).lookup n).isSome = true
  | [],_,_,n,h => by simp at h
  | m :: ns,[],h,_,_ => by simp at h
  | m :: ns,v :: vs,h,n,hn => by
    rw [List.zip_cons_cons,List.lookup_cons]
    cases e : n == m with
    | true => rfl
    | false =>
      rcases List.mem_cons.1 hn with q | q
      · subst q; simp at e
      · exact lookup_zip_some ns vs (by simpa using h) n q
theorem filterMap_zip {α : Type} : ∀ (ns : List Str) (vs : List α),vs.length = ns.length → ns.Nodup → ∀ (l : List (Str × α)),(∀ n ∈ ns,l.lookup n = (ns.zip vs).lookup n) → ns.filterMap (fun n => (l.lookup n).map (n,·)) = ns.zip vs
  | [],_,_,_,_,_ => by simp
  | m :: ns,[],h,_,_,_ => by simp at h
  | m :: ns,v :: vs,h,hn,l,hl => by
    simp only [List.nodup_cons] at hn
    have h0 : l.lookup m = some v := by rw [hl m (List.mem_cons_self ..),List.zip_cons_cons,List.lookup_cons]; simp
    rw [List.filterMap_cons,h0]
    simp only [Option.map_some,List.zip_cons_cons]
    congr 1
    refine filterMap_zip ns vs (by simpa using h) hn.2 l fun n q => ?_
    rw [hl n (List.mem_cons_of_mem _ q),List.zip_cons_cons,List.lookup_cons]
    have : (n == m) = false := by simp; rintro rfl; exact hn.1 q
    rw [this]
theorem forIn_none {α β γ : Type} {l : List α} (hl : l = []) {b : β} {f : α → β → Sem (ForInStep β)} {k : β → Sem γ} : (forIn l b f >>= k) = k b := by subst hl; rfl
theorem bindArgs_plain {fd : FuncData} {as : List Arg} (hp : fd.params = { posonlyargs := [],args := as,vararg := none,kwonlyargs := [],kw_defaults := [],kwarg := none,defaults := [] }) (hd : fd.defaults = .none) (hn : (as.map (·.arg)).Nodup)
    (vals : List Value) (hl : vals.length = (as.map (·.arg)).length) : bindArgs fd ⟨vals,[]⟩ = pure ((as.map (·.arg)).zip vals) := by
  obtain ⟨f1,f2,f3,f4,f5,f6,f7,f8,f9,f10,f11,f12,f13,f14,f15⟩ := fd
  dsimp only at hp hd
  subst hp hd
  have hgt : ¬ (decide (vals.length > (as.map (·.arg)).length) && true) = true := by rw [hl]; simp
  have hmiss : ¬ (!(((as.map (·.arg)).take ((as.map (·.arg)).length - (([] : List Value).drop (0 - (as.map (·.arg)).length)).length)).filter (fun n => (((as.map (·.arg)).zip vals).lookup n).isNone)).isEmpty) = true := by
    rw [List.drop_nil]
    show ¬ (!(((as.map (·.arg)).take (as.map (·.arg)).length).filter (fun n => (((as.map (·.arg)).zip vals).lookup n).isNone)).isEmpty) = true
    rw [List.take_length,List.filter_eq_nil_iff.mpr fun n hm => by
      have := lookup_zip_some (as.map (·.arg)) vals hl n hm
      rw [Option.isNone_iff_eq_none]
      intro q
      rw [q] at this
      cases this]
    exact nofun
  have hz : ((as.map (·.arg)).drop ((as.map (·.arg)).length - (([] : List Value).drop (0 - (as.map (·.arg)).length)).length)).zip (([] : List Value).drop (0 - (as.map (·.arg)).length)) = [] := by
    rw [List.drop_nil,List.zip_nil_right]
  have hfm := (congrArg (List.filterMap fun n => (((as.map (·.arg)).zip vals).lookup n).map (n,·)) (List.append_nil (as.map (·.arg)))).trans (filterMap_zip (as.map (·.arg)) vals hl hn ((as.map (·.arg)).zip vals) fun _ _ => rfl)
  exact (if_neg hgt).trans ((if_neg hmiss).trans ((forIn_none hz).trans ((forIn_none rfl).trans (congrArg (fun l => (pure l : Sem (List (Str × Value)))) hfm))))
theorem cellsFrom_has {x : Str} : ∀ (names : List (Str × NameKind)) (k : Nat) (acc : List (Str × Addr)),((x,NameKind.cell) ∈ names ∨ (acc.lookup x).isSome = true) → ((cellsFrom k names acc).lookup x).isSome = true
  | [],k,acc,h => by
    rcases h with h | h
    · cases h
    · exact h
  | (y,kd) :: r,k,acc,h => by
    unfold cellsFrom
    split
    · rename_i hk
      refine cellsFrom_has r _ _ ?_
      rcases h with h | h
      · rcases List.mem_cons.1 h with q | q
        · right; cases q; simp [List.lookup_cons]
        · exact .inl q
      · right
        rw [List.lookup_cons]
        split
        · rfl
        · exact h
    · rename_i hk
      refine cellsFrom_has r _ _ ?_
      rcases h with h | h
      · rcases List.mem_cons.1 h with q | q
        · cases q; simp at hk
        · exact .inl q
      · exact .inr h
noncomputable def codeV (q : Str) : Option Value → Bool
  | some (.str q' _) => q' == q
  | _ => false
noncomputable def codeD (q : Str) : Data → Bool
  | .fields vs => codeV q vs.toList[1]?
  | _ => false
noncomputable def codeO (q : Str) : Option Obj → Bool
  | some o => codeD q o.data
  | none => false
noncomputable def codeIn (K : PySem.W.Frag) (cd : Value) (q : Str) : Bool := match cd with
  | .ref c => codeO q (K.lookup c)
  | _ => false
theorem codeRec_of {K : PySem.W.Frag} {h : Heap} (X : K.In h) {cd : Value} {q : Str} (e : codeIn K cd q = true) : h.CodeRec cd q := by
  cases cd <;> first | (cases e; done) | skip
  rename_i c
  replace e : codeO q (K.lookup c) = true := e
  cases ho : K.lookup c with
  | none => rw [ho] at e; cases e
  | some o =>
    rw [ho] at e
    obtain ⟨c1,d1,dat,sl⟩ := o
    cases dat <;> first | (cases e; done) | skip
    rename_i vs
    replace e : codeV q (vs.toList[1]? : Option Value) = true := e
    cases hq : (vs.toList[1]? : Option Value) with
    | none => rw [hq] at e; cases e
    | some y =>
      rw [hq] at e
      cases y <;> first | (cases e; done) | skip
      rename_i q' t
      exact ⟨c,_,vs,t,rfl,X _ _ ho,rfl,by rw [beq_iff_eq.mp e] at hq; simpa using hq⟩
noncomputable def nmOk (nm : Nm) (k : Nat) : Bool := decide (nm.map (·.2)).Nodup && nm.all fun p => decide (p.2 < k)
theorem nm_inj {nm : Nm} {k : Nat} (h : nmOk nm k = true) : ∀ x y j,nm.lookup x = some j → nm.lookup y = some j → x = y := by
  unfold nmOk at h
  simp only [Bool.and_eq_true,decide_eq_true_eq] at h
  intro x y j h1 h2
  have m1 := mem_of_lookup h1
  have m2 := mem_of_lookup h2
  obtain ⟨a,ha,ea⟩ := List.getElem_of_mem m1
  obtain ⟨b,hb,eb⟩ := List.getElem_of_mem m2
  have : (nm.map (·.2))[a]? = (nm.map (·.2))[b]? := by
    simp only [List.getElem?_map,List.getElem?_eq_getElem ha,List.getElem?_eq_getElem hb,ea,eb,Option.map_some]
  have hab := (List.getElem?_inj (by simpa using ha) h.1).mp this
  subst hab
  rw [ea] at eb
  exact (Prod.mk.inj eb).1
theorem nm_low {nm : Nm} {k : Nat} (h : nmOk nm k = true) : ∀ x j,nm.lookup x = some j → j < k := by
  unfold nmOk at h
  simp only [Bool.and_eq_true,List.all_eq_true,decide_eq_true_eq] at h
  exact fun x j l => h.2 _ (mem_of_lookup l)
noncomputable def parOk (nm : Nm) (sc : Scope) : Nat → List Str → Bool
  | _,[] => true
  | k,x :: r => nm.lookup x == some k && (sc.names.lookup x == some .local || sc.names.lookup x == some .cell) && parOk nm sc (k + 1) r
theorem par_of {nm : Nm} {sc : Scope} : ∀ (l : List Str) (o : Nat),parOk nm sc o l = true → ∀ k x,l[k]? = some x → nm.lookup x = some (o + k) ∧ (sc.names.lookup x = some .local ∨ sc.names.lookup x = some .cell)
  | [],o,_,k,x,h => by simp at h
  | y :: r,o,h,k,x,hx => by
    replace h := and_inv h
    have h1 := and_inv h.1
    cases k with
    | zero => simp at hx; subst hx; exact ⟨beq_iff_eq.mp h1.1,(Bool.or_eq_true_iff.1 h1.2).elim (fun q => .inl (beq_iff_eq.mp q)) fun q => .inr (beq_iff_eq.mp q)⟩
    | succ k =>
      have := par_of r (o + 1) h.2 k x (by simpa using hx)
      rw [show o + (k + 1) = o + 1 + k by omega]; exact this
noncomputable def plainPars (p : Arguments) : Bool := p.posonlyargs.isEmpty && p.vararg.isNone && p.kwonlyargs.isEmpty && p.kw_defaults.isEmpty && p.kwarg.isNone && p.defaults.isEmpty
theorem plain_of {p : Arguments} (h : plainPars p = true) : p = { posonlyargs := [],args := p.args,vararg := none,kwonlyargs := [],kw_defaults := [],kwarg := none,defaults := [] } := by
  obtain ⟨a,b,c,d,e,f,g⟩ := p
  unfold plainPars at h
  simp only [Bool.and_eq_true,List.isEmpty_iff,Option.isNone_iff_eq_none] at h
  obtain ⟨⟨⟨⟨⟨h1,h2⟩,h3⟩,h4⟩,h5⟩,h6⟩ := h
  subst h1 h2 h3 h4 h5 h6
  rfl
noncomputable def onFunc (e : Data) (k : FuncData → Bool) : Bool := dite (e.ctorIdx = 7) (fun h => @Data.func.elim (fun _ => Bool) e h k) fun _ => false
theorem onFunc_inv {P : Prop} {e : Data} {k : FuncData → Bool} (h : onFunc e k = true) (f : ∀ a0,e = Data.func a0 → k a0 = true → P) : P :=
  if q : e.ctorIdx = 7 then @Data.func.elim (fun x => e = x → onFunc x k = true → P) e q f rfl h else (Bool.false_ne_true ((dif_neg q).symm.trans h)).elim
noncomputable def onStmts (e : FuncBody) (k : List Stmt → Bool) : Bool := dite (e.ctorIdx = 0) (fun h => @FuncBody.stmts.elim (fun _ => Bool) e h k) fun _ => false
theorem onStmts_inv {P : Prop} {e : FuncBody} {k : List Stmt → Bool} (h : onStmts e k = true) (f : ∀ a0,e = FuncBody.stmts a0 → k a0 = true → P) : P :=
  if q : e.ctorIdx = 0 then @FuncBody.stmts.elim (fun x => e = x → onStmts x k = true → P) e q f rfl h else (Bool.false_ne_true ((dif_neg q).symm.trans h)).elim
noncomputable def onRef (e : Value) (k : Addr → Bool) : Bool := dite (e.ctorIdx = 10) (fun h => @Value.ref.elim (fun _ => Bool) e h k) fun _ => false
theorem onRef_inv {P : Prop} {e : Value} {k : Addr → Bool} (h : onRef e k = true) (f : ∀ a0,e = Value.ref a0 → k a0 = true → P) : P :=
  if q : e.ctorIdx = 10 then @Value.ref.elim (fun x => e = x → onRef x k = true → P) e q f rfl h else (Bool.false_ne_true ((dif_neg q).symm.trans h)).elim
noncomputable def onInt (e : Value) (k : Int → Tok → Bool) : Bool := dite (e.ctorIdx = 4) (fun h => @Value.int.elim (fun _ => Bool) e h k) fun _ => false
theorem onInt_inv {P : Prop} {e : Value} {k : Int → Tok → Bool} (h : onInt e k = true) (f : ∀ a0 a1,e = Value.int a0 a1 → k a0 a1 = true → P) : P :=
  if q : e.ctorIdx = 4 then @Value.int.elim (fun x => e = x → onInt x k = true → P) e q f rfl h else (Bool.false_ne_true ((dif_neg q).symm.trans h)).elim
noncomputable def onStr (e : Value) (k : Str → Tok → Bool) : Bool := dite (e.ctorIdx = 6) (fun h => @Value.str.elim (fun _ => Bool) e h k) fun _ => false
theorem onStr_inv {P : Prop} {e : Value} {k : Str → Tok → Bool} (h : onStr e k = true) (f : ∀ a0 a1,e = Value.str a0 a1 → k a0 a1 = true → P) : P :=
  if q : e.ctorIdx = 6 then @Value.str.elim (fun x => e = x → onStr x k = true → P) e q f rfl h else (Bool.false_ne_true ((dif_neg q).symm.trans h)).elim
theorem isNone_of {v : Value} (h : v.ctorIdx.beq (Value.none).ctorIdx = true) : v = .none := by cases v <;> first | rfl | exact (Bool.false_ne_true h).elim
noncomputable def headChk (K : PySem.W.Frag) (o : Obj) (fd : FuncData) : Bool :=
  (fd.globals == mainGlobals && fd.builtins == builtinsNs && fd.closure.isEmpty && !fd.scope.isCoroutine && !fd.scope.isGenerator && fd.scope.kind == .function) && (codeIn K fd.code fd.qualname && plainPars fd.params && fd.defaults.ctorIdx.beq (Value.none).ctorIdx &&
    decide (fd.params.args.map (·.arg)).Nodup) && o.cls == .type "function"
structure HeadOk (h : Heap) (o : Obj) (fd : FuncData) : Prop where
  glob : fd.globals = mainGlobals
  bui : fd.builtins = builtinsNs
  clos : fd.closure = []
  co : fd.scope.isCoroutine = false
  gen : fd.scope.isGenerator = false
  kind : fd.scope.kind = .function
  code : h.CodeRec fd.code fd.qualname
  binds : ∀ vals : List Value,vals.length = (fd.params.args.map (·.arg)).length → bindArgs fd ⟨vals,[]⟩ = pure ((fd.params.args.map (·.arg)).zip vals)
  nd : (fd.params.args.map (·.arg)).Nodup
theorem head_of {K : PySem.W.Frag} {h : Heap} {o : Obj} {fd : FuncData} (X : K.In h) (q : headChk K o fd = true) : HeadOk h o fd :=
  have a := and6 (and3 q).1
  have b := and4 (and3 q).2.1
  ⟨beq_inv a.1,beq_inv a.2.1,nil_inv a.2.2.1,not_inv a.2.2.2.1,not_inv a.2.2.2.2.1,beq_inv a.2.2.2.2.2,codeRec_of X b.1,bindArgs_plain (plain_of b.2.1) (isNone_of b.2.2.1) (of_decide_eq_true b.2.2.2),of_decide_eq_true b.2.2.2⟩
noncomputable def fnChk (K : PySem.W.Frag) (fns : List Fn) (gs : Gs) (nm : Nm) (f : Addr) (i : Nat) : Bool := onSome (K.lookup f) fun o => onSome fns[i]? fun fn => onFunc o.data fun fd => onStmts fd.body fun body =>
  headChk K o fd && ((fd.params.args.map (·.arg)).length == fn.pars && nmOk nm fn.names && parOk nm fd.scope 0 (fd.params.args.map (·.arg)) && decide (fn.pars ≤ fn.names) &&
    decide ((cellsFrom 0 fd.scope.names []).map (·.1)).Nodup && (fn.init.isNone && (!quietFn i || !loud nm))) && chkB gs fn.body nm fd.scope body
theorem fn_of {Γ : Cx} (X : Γ.K.In Γ.base) {nm : Nm} {f : Addr} {i : Nat} (h : fnChk Γ.K Γ.fns Γ.gs nm f i = true) : Nonempty (FnIs Γ f i) :=
  onSome_inv h fun o ho h => onSome_inv h fun fn hfn h => onFunc_inv h fun fd hfd h => onStmts_inv h fun body hbody h =>
    have H := head_of X (and3 h).1
    have q := and6 (and3 h).2.1
    have hl := beq_inv q.1
    ⟨{ fn := fn,o := o,fd := fd,body := body,nm := nm,pn := fd.params.args.map (·.arg),here := X _ _ ho,data := hfd,ofi := hfn,bod := hbody,glob := H.glob,bui := H.bui,clos := H.clos,co := H.co,gen := H.gen,kind := H.kind,code := H.code,binds := fun vals hv => H.binds vals (hv.trans hl.symm),pnl := hl,pnn := H.nd,par := fun k x hx => (Nat.zero_add k) ▸ par_of _ 0 q.2.2.1 k x hx,inj := nm_inj q.2.1,low := nm_low q.2.1,le := of_decide_eq_true q.2.2.2.1,cells := of_decide_eq_true q.2.2.2.2.1,cellof := fun x hx k => cellsFrom_has _ _ _ (.inl (mem_of_lookup hx)),ini := none_inv (and_inv q.2.2.2.2.2).1,quiet := fun z => not_inv (notb (and_inv q.2.2.2.2.2).2 z),chk := (and3 h).2.2 }⟩
end Mine
namespace Mine
open PySem PySem.Calls PyProof.Rows
noncomputable def onEnd (s : Stmt) (k : Str → Pos → Str → Pos → Str → Pos → Pos → Bool) : Bool := onSAssign s fun ts v p4 => on1L ts fun t => onAttribute t fun o n p2 => onName o fun a p1 => onName v fun x p3 => k a p1 n p2 x p3 p4
theorem onEnd_inv {P : Prop} {s : Stmt} {k : Str → Pos → Str → Pos → Str → Pos → Pos → Bool} (h : onEnd s k = true) (f : ∀ a p1 n p2 x p3 p4,s = .Assign [.Attribute (.Name a p1) n p2] (.Name x p3) p4 → k a p1 n p2 x p3 p4 = true → P) : P :=
  onSAssign_inv h fun _ _ p4 he g => on1L_inv g fun _ ht g => onAttribute_inv g fun _ n p2 ha g => onName_inv g fun a p1 hn g => onName_inv g fun x p3 hx g => f a p1 n p2 x p3 p4 (hn ▸ ha ▸ ht ▸ hx ▸ he) g
noncomputable def initChk (K : PySem.W.Frag) (fns : List Fn) (gs : Gs) (nm : Nm) (f : Addr) (i : Nat) : Bool := onSome (K.lookup f) fun o => onSome fns[i]? fun fn => onFunc o.data fun fd => onStmts fd.body fun ss => onSome fn.init fun p => onCons (fd.params.args.map (·.arg)) fun self pn =>
  headChk K o fd && ((self :: pn).length == fn.pars && nmOk nm fn.names && (nm.lookup self == none && fd.scope.names.lookup self == some .local && notDebug self) && parOk nm fd.scope 1 pn && chkB gs fn.body nm fd.scope (ss.take (ss.length - 2)) && decide (p.2 ≠ p.1)) &&
    on2L (ss.drop (ss.length - 2)) fun s1 s2 => onEnd s1 fun a _ n1 _ x _ _ => onEnd s2 fun b _ n2 _ y _ _ => (a == self && n1 == attrN false && varOf nm fd.scope x == some p.1 && notDebug x) && (b == self && n2 == attrN true && varOf nm fd.scope y == some p.2 && notDebug y)
theorem ss_split {ss : List Stmt} {n : Nat} {s1 s2 : Stmt} (hd : ss.drop n = [s1,s2]) : ss = ss.take n ++ [s1,s2] := by rw [← hd]; exact (List.take_append_drop n ss).symm
theorem init_par {nm : Nm} {sc : Scope} {self : Str} {pn : List Str} (hs : sc.names.lookup self = some .local) (hp : parOk nm sc 1 pn = true) (k : Nat) (z : Str) (hz : (self :: pn)[k]? = some z) : (k = 0 ∨ nm.lookup z = some k) ∧ (sc.names.lookup z = some .local ∨ sc.names.lookup z = some .cell) := by
  cases k with
  | zero => cases hz; exact ⟨.inl rfl,.inl hs⟩
  | succ k =>
    have := par_of pn 1 hp k z hz
    rw [Nat.add_comm] at this
    exact ⟨.inr this.1,this.2⟩
theorem init_of {Γ : Cx} (X : Γ.K.In Γ.base) {nm : Nm} {f : Addr} {i : Nat} (h : initChk Γ.K Γ.fns Γ.gs nm f i = true) : Nonempty (InitIs Γ f i) :=
  onSome_inv h fun o ho h => onSome_inv h fun fn hfn h => onFunc_inv h fun fd hfd h => onStmts_inv h fun ss hbody h => onSome_inv h fun p hini h => onCons_inv h fun self pn hargs h =>
    have H := head_of X (and3 h).1
    have q := and6 (and3 h).2.1
    have g := and3 q.2.2.1
    have hl : (self :: pn).length = fn.pars := beq_inv q.1
    on2L_inv (and3 h).2.2 fun _ _ hd h => onEnd_inv h fun a p1 n1 p2 x p3 p4 h1 h => onEnd_inv h fun b q1 n2 q2 y q3 q4 h2 h =>
      have k1 := and4 (and_inv h).1
      have k2 := and4 (and_inv h).2
      ⟨{ fn := fn,o := o,fd := fd,body := ss.take (ss.length - 2),nm := nm,self := self,pn := pn,xn := x,xp := y,i1 := p.1,i2 := p.2,q1 := p1,q2 := p2,q3 := p3,q4 := p4,q5 := q1,q6 := q2,q7 := q3,q8 := q4,here := X _ _ ho,data := hfd,ofi := hfn,bod := hbody.trans (congrArg FuncBody.stmts ((ss_split hd).trans (by rw [h1,h2,beq_inv k1.1,beq_inv k1.2.1,beq_inv k2.1,beq_inv k2.2.1]))),
         glob := H.glob,bui := H.bui,clos := H.clos,co := H.co,gen := H.gen,kind := H.kind,code := H.code,binds := fun vals hv => hargs ▸ H.binds vals (hargs ▸ hv.trans hl.symm),pnl := hl,pnn := hargs ▸ H.nd,par := init_par (beq_inv g.2.1) q.2.2.2.1,off := beq_inv g.1,sloc := beq_inv g.2.1,sdeb := g.2.2,inj := nm_inj q.2.1,cellof := fun x hx k => cellsFrom_has _ _ _ (.inl (mem_of_lookup hx)),ini := hini,v1 := beq_inv k1.2.2.1,v2 := beq_inv k2.2.2.1,d1 := k1.2.2.2,d2 := k2.2.2.2,ne := of_decide_eq_true q.2.2.2.2.2,chk := q.2.2.2.2.1 }⟩
noncomputable def dictRows : List DictEntry → List (List Nat × Int) → Bool
  | [],k => k.isEmpty
  | e :: r,k => onStr e.key fun x _ => onInt e.val fun i _ => onCons k fun p q => p.1 == x.cps.toList && p.2 == i && dictRows r q
theorem toList_inj {x s : Str} (q : s.cps.toList = x.cps.toList) : x = s := by
  obtain ⟨a⟩ := x; obtain ⟨b⟩ := s
  congr 1
  exact (Array.toList_inj.mp q).symm
theorem dict_find {s : Str} : ∀ {l : List DictEntry} {k : List (List Nat × Int)},dictRows l k = true → (k.lookup s.cps.toList = none ∧ (l.find? fun e => Value.isStrOf s e.key).map (·.val) = none) ∨ ∃ i t,k.lookup s.cps.toList = some i ∧ (l.find? fun e => Value.isStrOf s e.key).map (·.val) = some (.int i t)
  | [],k,h => by cases nil_inv h; exact .inl ⟨rfl,rfl⟩
  | e :: r,k,h => onStr_inv (k := fun x _ => onInt e.val fun i _ => onCons k fun p q => p.1 == x.cps.toList && p.2 == i && dictRows r q) h fun x t hk h => onInt_inv h fun i u hv h => onCons_inv h fun p q hq h => by
    obtain ⟨hsh,key,val⟩ := e
    obtain ⟨p1,p2⟩ := p
    dsimp only at hk hv
    have e1 : p1 = x.cps.toList := beq_inv (and3 h).1
    have e2 : p2 = i := beq_inv (and3 h).2.1
    subst hk hv hq e1 e2
    rw [List.lookup_cons,List.find?_cons]
    show (match s.cps.toList == x.cps.toList with | true => _ | false => _) = _ ∧ Option.map _ (match x == s with | true => _ | false => _) = _ ∨ _
    by_cases e : x = s
    · subst e
      exact .inr ⟨p2,u,by simp,by simp [Value.isStrOf]⟩
    · have h1 : (x == s) = false := by simp [e]
      have h2 : (s.cps.toList == x.cps.toList) = false := beq_eq_false_iff_ne.mpr fun q => e (toList_inj q)
      have h3 : Value.isStrOf s (.str x t) = false := h1
      simp only [h1,h2,h3]
      exact dict_find (and3 h).2.2
noncomputable def onDictD (e : Data) (k : Array DictEntry → Nat → Bool) : Bool := dite (e.ctorIdx = 3) (fun h => @Data.dict.elim (fun _ => Bool) e h k) fun _ => false
theorem onDictD_inv {P : Prop} {e : Data} {k : Array DictEntry → Nat → Bool} (h : onDictD e k = true) (f : ∀ a0 a1,e = Data.dict a0 a1 → k a0 a1 = true → P) : P :=
  if q : e.ctorIdx = 3 then @Data.dict.elim (fun x => e = x → onDictD x k = true → P) e q f rfl h else (Bool.false_ne_true ((dif_neg q).symm.trans h)).elim
noncomputable def dictChk (K : PySem.W.Frag) (a : Addr) (k : List (List Nat × Int)) : Bool := onSome (K.lookup a) fun o => onDictD o.data fun es _ => o.cls == .type "dict" && o.dict.isNone && o.slots.isEmpty && dictRows es.toList k && a != sysModules
theorem dictChk_inv {P : Prop} {K : PySem.W.Frag} {a : Addr} {k : List (List Nat × Int)} (h : dictChk K a k = true) (f : ∀ es n,K.lookup a = some ⟨.type "dict",none,.dict es n,#[]⟩ → dictRows es.toList k = true → (a != sysModules) = true → P) : P :=
  onSome_inv h fun o ho h => onDictD_inv h fun es n hd h => by
    obtain ⟨c,d,dt,sl⟩ := o
    dsimp only at hd
    have q := and4 (and_inv h).1
    have h1 : c = .type "dict" := beq_inv q.1
    have h2 : d = none := none_inv q.2.1
    have h3 : sl = #[] := Array.isEmpty_iff.mp q.2.2.1
    subst h1 h2 h3 hd
    exact f es n ho q.2.2.2 (and_inv h).2
noncomputable def topV (K : PySem.W.Frag) (x : Str) (k : Value → Bool) : Bool := onSome (PySem.W.nsIn K mainGlobals x) fun o => onSome o k
noncomputable def topRef (K : PySem.W.Frag) (x : Str) (k : Addr → Bool) : Bool := topV K x fun v => onRef v k
noncomputable def ofC (K : PySem.W.Frag) (C : Addr) (n : Str) (k : Addr → Bool) : Bool := onSome (PySem.W.findIn K (.ref C) n) fun o => onSome o fun v => onRef v fun f => PySem.W.typeIn K (.ref f) == some (.type "function") && k f
theorem topV_inv {P : Prop} {K : PySem.W.Frag} {x : Str} {k : Value → Bool} (h : topV K x k = true) (f : ∀ v,PySem.W.nsIn K mainGlobals x = some (some v) → k v = true → P) : P :=
  onSome_inv h fun _ e h => onSome_inv h fun v e' h => f v (e' ▸ e) h
theorem topRef_inv {P : Prop} {K : PySem.W.Frag} {x : Str} {k : Addr → Bool} (h : topRef K x k = true) (f : ∀ a,PySem.W.nsIn K mainGlobals x = some (some (.ref a)) → k a = true → P) : P :=
  topV_inv h fun _ e h => onRef_inv h fun a e' h => f a (e' ▸ e) h
theorem ofC_inv {P : Prop} {K : PySem.W.Frag} {C : Addr} {n : Str} {k : Addr → Bool} (h : ofC K C n k = true) (g : ∀ f,PySem.W.findIn K (.ref C) n = some (some (.ref f)) → PySem.W.typeIn K (.ref f) = some (.type "function") → k f = true → P) : P :=
  onSome_inv h fun _ e h => onSome_inv h fun _ e' h => onRef_inv h fun a e2 h => g a (e2 ▸ e' ▸ e) (beq_inv (and_inv h).1) (and_inv h).2
noncomputable def gChk (K : PySem.W.Frag) (fns : List Fn) (gs : Gs) (nms : Nat → Nm) (C : Addr) (xs : List (Nat × Addr)) (x : Str) (g : G) : Bool := match g with
  | .cI i => topV K x fun v => onInt v fun j _ => j == i
  | .cS s => topV K x fun v => onStr v fun y _ => y.cps.toList == s && PyData.strOk y && decide (s.length ≤ 1000)
  | .bi _ => onSome (PySem.W.nsIn K mainGlobals x) fun o => o.isNone
  | .fn i => topRef K x fun f => fnChk K fns gs (nms i) f i
  | .dict k => topRef K x fun a => dictChk K a k
  | .cls i => topRef K x fun c => c == C && ofC K C "__init__" fun f => initChk K fns gs (nms i) f i
  | .meth i => ofC K C "place" fun f => fnChk K fns gs (nms i) f i
  | .exc c => match c with
    | 0 => onSome (PySem.W.nsIn K mainGlobals x) fun o => o.isNone
    | c + 1 => topRef K x fun a => xs.lookup (c + 1) == some a
section
variable {Γ : Cx} {nms : Nat → Nm} {xs : List (Nat × Addr)}
theorem g_of {p : Program} {lo : List Str} (X : Γ.K.In Γ.base) (T : PySem.W.TopRead p lo Γ.mg Γ.mb Γ.base) (M : Γ.base.Ns mainGlobals Γ.mg) (H6 : ∀ c C,xs.lookup c = some C → PySem.W.excIn Γ.K C bmV "ValueError.__new__" = true) (HB : ∀ x v,Γ.gs.lookup x = some (.bi v) → Γ.mb x = some v) (HV : ∀ x,Γ.gs.lookup x = some (.exc 0) → Γ.mb x = some (.type "ValueError")) (hx : ∀ c,Γ.exc c = xs.lookup c)
    {x : Str} {g : G} (hl : Γ.gs.lookup x = some g) (h : gChk Γ.K Γ.fns Γ.gs nms Γ.shopC xs x g = true) (hnd : ∀ k,g ≠ .dict k) : GOk Γ x g := by
  cases g with
  | cI i => exact topV_inv h fun v e h => onInt_inv h fun j t e' h => ⟨t,PySem.W.mg_of X M (beq_inv h ▸ e' ▸ e)⟩
  | cS s =>
    exact topV_inv h fun v e h => onStr_inv h fun y t e' h => by
      have h1 : y.cps.toList = s := beq_inv (and3 h).1
      subst h1 e'
      exact ⟨⟨t,PySem.W.mg_of X M e⟩,(and3 h).2.1,Nat.le_trans (of_decide_eq_true (and3 h).2.2) (by decide)⟩
  | bi v => exact onSome_inv h fun o e h => ⟨PySem.W.mg_none_of X M (none_inv h ▸ e),HB x v hl⟩
  | fn i => exact topRef_inv h fun f e h => ⟨f,PySem.W.mg_of X M e,fn_of X h⟩
  | dict k => exact absurd rfl (hnd k)
  | cls i => exact topRef_inv h fun c e h => PySem.W.mg_of X M (beq_inv (and_inv h).1 ▸ e)
  | meth i => exact ofC_inv h fun f e ht h => ⟨f,e,ht,fn_of X h⟩
  | exc c =>
    cases c with
    | zero => exact onSome_inv h fun o e h => ⟨PySem.W.mg_none_of X M (none_inv h ▸ e),HV x hl⟩
    | succ c => exact topRef_inv h fun a e h => ⟨a,PySem.W.mg_of X M e,(hx _).trans (beq_inv h),PySem.W.own_of_in X T e (H6 _ _ (beq_inv h))⟩
theorem cls_of (X : Γ.K.In Γ.base) (M : Γ.base.Ns mainGlobals Γ.mg) {x : Str} {i : Nat} (h : gChk Γ.K Γ.fns Γ.gs nms Γ.shopC xs x (.cls i) = true) :
    Γ.mg x = some (.ref Γ.shopC) ∧ ∃ f,PySem.W.findIn Γ.K (.ref Γ.shopC) "__init__" = some (some (.ref f)) ∧ PySem.W.typeIn Γ.K (.ref f) = some (.type "function") ∧ Nonempty (InitIs Γ f i) :=
  topRef_inv h fun c e h => ofC_inv (and_inv h).2 fun f e2 ht h2 => ⟨PySem.W.mg_of X M (beq_inv (and_inv h).1 ▸ e),f,e2,ht,init_of X h2⟩
noncomputable def shopChk (K : PySem.W.Frag) (C : Addr) : Bool :=
  PySem.W.findIn K (.ref C) "__getattribute__" == some (some (.builtin "object.__getattribute__")) && PySem.W.findIn K (.ref C) "__getattr__" == some none && (PySem.W.clsIn K C).any (·.hasDict) && PySem.W.findIn K (.ref C) (attrN false) == some none && PySem.W.findIn K (.ref C) (attrN true) == some none &&
  PySem.W.makesIn K C && PySem.W.keepIn K (.ref C) && PySem.W.findIn K (.ref C) "__setattr__" == some (some (.builtin "object.__setattr__")) && PySem.W.plainOver K C && PySem.W.takerIn K C (attrN false) == some none && PySem.W.takerIn K C (attrN true) == some none
noncomputable def excChk (K : PySem.W.Frag) (xs : List (Nat × Addr)) : Bool := onSome (xs.lookup 1) fun T => xs.all fun p =>
  (PySem.W.excIn K p.2 bmV "ValueError.__new__" && excGet K p.2 && PySem.W.kitOne K (.ref p.2) (.type "ValueError") == some true && PySem.W.exmOne K (.ref p.2) (.ref T) == some true) && xs.all fun q => PySem.W.kitOne K (.ref p.2) (.ref q.2) == some (q.1.beq p.1 || q.1.ble 1)
theorem mem_lookupN {c : Nat} {C : Addr} : ∀ {l : List (Nat × Addr)},l.lookup c = some C → (c,C) ∈ l
  | [],h => by cases h
  | (d,D) :: r,h => by
    rw [List.lookup_cons] at h
    by_cases e : c = d
    · subst e
      rw [beq_self_eq_true] at h
      cases h
      exact List.mem_cons_self ..
    · rw [beq_eq_false_iff_ne.mpr e] at h
      exact List.mem_cons_of_mem _ (mem_lookupN h)
theorem exc_of (hx : ∀ c,Γ.exc c = xs.lookup c) (h : excChk Γ.K xs = true) : ExcOk Γ := onSome_inv h fun T hT h => by
  have ha := fun c C (e : Γ.exc c = some C) => and_inv (List.all_eq_true.mp h (c,C) (mem_lookupN ((hx c).symm.trans e)))
  refine ⟨⟨T,(hx 1).trans hT⟩,fun c C e => (and4 (ha c C e).1).2.1,fun c C d D e f => beq_inv (List.all_eq_true.mp (ha c C e).2 (d,D) (mem_lookupN ((hx d).symm.trans f))),fun c C e => beq_inv (and4 (ha c C e).1).2.2.1,fun c C T' e f => ?_⟩
  have : T' = T := Option.some.inj (((hx 1).symm.trans f).symm.trans hT)
  subst this
  exact beq_inv (and4 (ha c C e).1).2.2.2
theorem exc_in {K : PySem.W.Frag} (h : excChk K xs = true) (c : Nat) (C : Addr) (e : xs.lookup c = some C) : PySem.W.excIn K C bmV "ValueError.__new__" = true := onSome_inv h fun T hT h => (and4 (and_inv (List.all_eq_true.mp h (c,C) (mem_lookupN e))).1).1
theorem mem_lookup_gs : ∀ {gs : Gs} {x : Str} {g : G},gs.lookup x = some g → (x,g) ∈ gs := fun h => mem_of_lookup h
end
end Mine
namespace Mine
open PySem PySem.Calls PyProof.Rows
theorem ints_rep {Z : Led} {vs : List Value} {ns : List Int} (h : IntsAre vs ns) : RepL Z vs (ns.map Dat.int) := by
  induction h with
  | nil => exact .nil
  | cons n t _ ih => exact .cons (.int n t) ih
theorem aok_caller {n : Nat} (hn : n ≤ 300) : AOk n callerA := by
  refine ⟨?_,?_⟩
  · show 1 + claimMargin + 2 * n < recursionLimit
    have : claimMargin = 300 := rfl
    have : recursionLimit = 1000 := rfl
    lia
  · show 4 + 8 * n + 200 ≤ cLine
    have : cLine = 9900 := rfl
    lia
theorem law_run {Γ : Cx} (hu : Γ.up = []) (CN : CxOk Γ ∧ NewOk Γ) {fa : Addr} {i : Nat} (F : FnIs Γ fa i) (s : Shared) (hb : Γ.base = s.heap) {l : Addr} {vs : List Value} {ns : List Int} {k : Nat}
    (hl : s.heap.get? l = some { cls := .type "list",data := .seq vs.toArray k }) (hi : IntsAre vs ns) (hlen : ns.length ≤ 63) (n : Nat) (hn : n ≤ 300) (hr : callF Γ.fns n i [.sh (.lst (ns.map .int))] = .ok (.sh (.bool true)))
    {Q E : Value → Shared → Prop} (hQ : ∀ h' tk,(∀ b o,s.heap.get? b = some o → h'.get? b = some o) → Q (.bool true) { s with heap := h',toks := tk }) : wpAny (model Γ.prog Γ.w) callerA (call (.ref fa) [.ref l]) Q E s := by
  have S : SndC Γ n (callF Γ.fns n) := by
    have := (snd_calls CN.1 CN.2 n []).1
    rw [← hu] at this
    exact this
  have hvl : vs.length = ns.length := hi.length
  have rep : RepVs Γ s.heap.get? s.heap [.ref l] [.sh (.lst (ns.map .int))] := .cons (show Rep s.heap.get? (.ref l) (.lst _) from .lst (n := k) hl (by rw [hvl]; exact Nat.le_trans hlen (by decide)) (ints_rep hi)) rfl .nil
  have G : Gnd Γ s.heap.get? s.heap := ⟨fun _ _ e => e,fun _ _ _ => trivial,fun a o e => by rw [hb] at e; exact e,fun L hL => by rw [hu] at hL; cases hL⟩
  have E0 := S i fa F callerA (callEnvC F.fd 0 fa) s.heap.get? s [.ref l] [.sh (.lst (ns.map .int))] ⟨aok_caller hn,fun _ => rfl,[],rfl,fun e he => by cases he⟩ G rep
  rw [hr] at E0
  refine E0 (by simp) Q E (fun x v Z' h' tk e g p => ?_) (fun c e Z' h' tk q g xp => by cases q)
  cases e
  have p : Rep Z' v (.bool true) := p
  cases p
  exact hQ h' tk fun b o e => (g.kp b o e).1 (.inl e)
end Mine
namespace Mine
open PySem PySem.Calls PyProof.Rows
noncomputable def dictAt (K : PySem.W.Frag) (a : Addr) : List DictEntry := match K.lookup a with
  | some ⟨_,_,.dict es _,_⟩ => es.toList
  | _ => []
noncomputable def topAddr (K : PySem.W.Frag) (x : Str) : Addr := match PySem.W.nsIn K mainGlobals x with
  | some (some (.ref a)) => a
  | _ => 0
noncomputable def rehash (P : Params) : List DictEntry → List DictEntry
  | [] => []
  | e :: r => (match e.key with | .str x t => ⟨PyData.keyHash P x,.str x t,e.val⟩ | _ => ⟨e.hash + 1,e.key,e.val⟩) :: rehash P r
theorem keysLit_of {P : Params} : ∀ {l : List DictEntry},l = rehash P l → PySem.W.KeysLit P l
  | [],_ => trivial
  | e :: r,h => by
    obtain ⟨h1,h2⟩ := List.cons.inj (show e :: r = _ :: rehash P r from h)
    refine ⟨?_,keysLit_of h2⟩
    cases hk : e.key with
    | str x t => rw [hk] at h1; exact ⟨x,t,rfl,by rw [h1]⟩
    | _ =>
      rw [hk] at h1
      have := congrArg DictEntry.hash h1
      dsimp only at this
      omega
noncomputable def biChk (gs : Gs) : Bool := gs.all fun p => match p.2 with
  | .bi v => p.1 != ("__name__" : Str) && bootBuiltins p.1 == some v
  | .exc c => !c.beq 0 || (p.1 != ("__name__" : Str) && bootBuiltins p.1 == some (.type "ValueError"))
  | _ => true
noncomputable def dictOnly (gs : Gs) (x : Str) : Bool := gs.all fun p => match p.2 with
  | .dict k => p.1 == x && !k.isEmpty
  | _ => true
theorem cx_all {p : Program} {lo : List Str} {prog : Program} {w : World} {h : Heap} {mg mb : Str → Option Value} {fns : List Fn} {gs : Gs} {nms : Nat → Nm} {shopC : Addr} {K : PySem.W.Frag} {dx : Str} {xs : List (Nat × Addr)} (X : K.In h) (T : PySem.W.TopRead p lo mg mb h)
    (h1 : biChk gs = true) (h2 : dictOnly gs dx = true) (h3 : dictAt K (topAddr K dx) = rehash w.params (dictAt K (topAddr K dx))) (h4 : (gs.all fun p => gChk K fns gs nms shopC xs p.1 p.2) = true) (h5 : shopChk K shopC = true) (h6 : excChk K xs = true) :
    CxOk ⟨prog,w,h,mg,mb,fns,gs,shopC,K,[],fun c => xs.lookup c⟩ ∧ NewOk ⟨prog,w,h,mg,mb,fns,gs,shopC,K,[],fun c => xs.lookup c⟩ := by
  have M := T.g
  have hbi := T.builtins
  have hall := List.all_eq_true.mp h4
  have hb := List.all_eq_true.mp h1
  have hd := List.all_eq_true.mp h2
  have HB : ∀ x v,gs.lookup x = some (.bi v) → mb x = some v := fun x v hl => by
    have := hb _ (mem_lookup_gs hl)
    simp only [Bool.and_eq_true,beq_iff_eq,bne_iff_ne,ne_eq] at this
    rw [hbi x this.1,this.2]
  simp only [shopChk,Bool.and_eq_true,beq_iff_eq] at h5
  obtain ⟨⟨⟨⟨⟨⟨⟨⟨⟨⟨s1,s2⟩,s3⟩,s4⟩,s5⟩,s6⟩,s7⟩,s8⟩,s9⟩,s10⟩,s11⟩ := h5
  have HV : ∀ x,gs.lookup x = some (.exc 0) → mb x = some (.type "ValueError") := fun x hl => by
    have := hb _ (mem_lookup_gs hl)
    have := notb this rfl
    simp only [Bool.and_eq_true,beq_iff_eq,bne_iff_ne,ne_eq] at this
    rw [hbi x this.1,this.2]
  let Γ : Cx := ⟨prog,w,h,mg,mb,fns,gs,shopC,K,[],fun c => xs.lookup c⟩
  refine ⟨⟨exc_of (Γ := Γ) (fun _ => rfl) h6,fun h' kp b o q => kp.keep _ _ (X b o q),⟨s1,s2,PySem.W.any_some s3,fun k => by cases k; exact s4; exact s5⟩,M,T.b,T.nolimit,fun x g hl => ?_⟩,⟨s6,s7,s8,s9,fun k => by cases k; exact s10; exact s11,s3,fun x i hl => cls_of (Γ := Γ) X M (hall _ (mem_lookup_gs hl))⟩⟩
  by_cases hg : ∃ k,g = .dict k
  · obtain ⟨k,rfl⟩ := hg
    have hx := hd _ (mem_lookup_gs hl)
    simp only [Bool.and_eq_true,beq_iff_eq] at hx
    obtain ⟨rfl,hk⟩ := hx
    have hc := hall _ (mem_lookup_gs hl)
    refine topRef_inv hc fun a e hc => dictChk_inv hc fun es n hes q2 q3 => ?_
    have ha : topAddr K x = a := by unfold topAddr; rw [e]
    rw [ha] at h3
    have hda : dictAt K a = es.toList := by unfold dictAt; rw [hes]
    rw [hda] at h3
    refine ⟨a,fun s => findBy Value.isStrOf es s,PySem.W.mg_of X M e,by simpa using q3,fun h' kp => PySem.W.mapOf_K (fun b o q => kp.keep _ _ (X b o q)) hes (keysLit_of h3),fun s => ?_⟩
    have := dict_find (s := s) q2
    obtain ⟨l⟩ := es
    have ef : findBy Value.isStrOf (⟨l⟩ : Array DictEntry) s = (l.find? fun e => Value.isStrOf s e.key).map (·.val) := by
      unfold findBy; rw [List.find?_toArray]
    show _ ∨ _
    simp only [ef]
    exact this
  · have hc := hall _ (mem_lookup_gs hl)
    cases g with
    | dict k => exact absurd ⟨k,rfl⟩ hg
    | _ => exact g_of (Γ := Γ) (nms := nms) (xs := xs) X T M (exc_in h6) HB HV (fun _ => rfl) hl hc (fun k e => by cases e)
end Mine
namespace Mine
noncomputable def t_between : T := (.cons (.ret (.and (.isi .int (.v 0)) (.and (.not (.isi .bool (.v 0))) (.cmp2 .le .le (.v 1) (.v 0) (.v 2))))) .nil)
noncomputable def f_between : Fn := { pars := 3,names := 3,body := t_between }
noncomputable def b_is_name_1 : T := (.cons (.iff (.cmp .notin (.v 1) (.gS [97,98,99,100,101,102,103,104,105,106,107,108,109,110,111,112,113,114,115,116,117,118,119,120,121,122])) (.cons (.ret (.cB false)) .nil) .nil) .nil)
noncomputable def t_is_name : T := (.cons (.iff (.or (.not (.isi .str (.v 0))) (.not (.cmp2 .le .le (.cI 1) (.bi .len (.cons (.v 0) .nil)) (.gI 8)))) (.cons (.ret (.cB false)) .nil) .nil) (.cons (.for_ [1] (.v 0) b_is_name_1) (.cons (.ret (.cB true)) .nil)))
noncomputable def f_is_name : Fn := { pars := 1,names := 2,body := t_is_name }
noncomputable def b_Shop_init_1 : T := (.cons (.iff (.or (.not (.isi .tuple (.v 4))) (.or (.cmp .ne (.bi .len (.cons (.v 4) .nil)) (.cI 2)) (.not (.call 1 (.cons (.idx (.v 4) (.cI 0)) .nil))))) (.cons (.raise 3 [97,32,112,97,105,114,32,111,102,32,97,32,110,97,109,101,32,97,110,100,32,97,32,112,114,105,99,101,32,105,115,32,119,97,110,116,101,100]) .nil) .nil) (.cons (.iff (.cmp .isin (.idx (.v 4) (.cI 0)) (.v 2)) (.cons (.raise 4 [97,32,110,97,109,101,32,115,116,97,110,100,115,32,116,119,105,99,101]) .nil) .nil) (.cons (.iff (.not (.call 0 (.cons (.idx (.v 4) (.cI 1)) (.cons (.cI 0) (.cons (.gI 100000) .nil))))) (.cons (.raise 5 [97,32,112,114,105,99,101,32,105,115,32,97,32,119,104,111,108,101,32,110,117,109,98,101,114,32,117,112,32,116,111,32,49,48,48,48,48,48]) .nil) .nil) (.cons (.app 2 (.idx (.v 4) (.cI 0))) (.cons (.app 3 (.idx (.v 4) (.cI 1))) .nil)))))
noncomputable def t_Shop_init : T := (.cons (.iff (.or (.not (.isi .list (.v 1))) (.not (.cmp2 .le .le (.cI 1) (.bi .len (.cons (.v 1) .nil)) (.gI 5)))) (.cons (.raise 2 [97,32,108,105,115,116,32,111,102,32,111,110,101,32,116,111,32,102,105,118,101,32,107,105,110,100,115,32,105,115,32,119,97,110,116,101,100]) .nil) .nil) (.cons (.asgO 2 (.lst .nil)) (.cons (.asgO 3 (.lst .nil)) (.cons (.for_ [4] (.v 1) b_Shop_init_1) .nil))))
noncomputable def f_Shop_init : Fn := { pars := 2,names := 5,body := t_Shop_init,init := some (2,3) }
noncomputable def t_Shop_place : T := (.cons (.iff (.or (.not (.call 1 (.cons (.v 1) .nil))) (.cmp .notin (.v 1) (.attr false (.v 0)))) (.cons (.raise 9 [116,104,101,32,115,104,111,112,32,104,97,115,32,110,111,32,115,117,99,104,32,107,105,110,100]) .nil) .nil) (.cons (.ret (.meth .index (.attr false (.v 0)) (.cons (.v 1) .nil))) .nil))
noncomputable def f_Shop_place : Fn := { pars := 2,names := 2,body := t_Shop_place }
noncomputable def b_need_basket_1 : T := (.cons (.iff (.not (.call 0 (.cons (.v 2) (.cons (.cI 0) (.cons (.gI 9) .nil))))) (.cons (.raise 6 [110,111,110,101,32,116,111,32,110,105,110,101,32,112,105,101,99,101,115,32,111,102,32,97,32,107,105,110,100,32,97,114,101,32,119,97,110,116,101,100]) .nil) .nil) .nil)
noncomputable def t_need_basket : T := (.cons (.iff (.or (.not (.isi .list (.v 1))) (.cmp .ne (.bi .len (.cons (.v 1) .nil)) (.bi .len (.cons (.attr false (.v 0)) .nil)))) (.cons (.raise 6 [97,32,108,105,115,116,32,111,102,32,97,32,110,117,109,98,101,114,32,102,111,114,32,101,97,99,104,32,107,105,110,100,32,105,115,32,119,97,110,116,101,100]) .nil) .nil) (.cons (.for_ [2] (.v 1) b_need_basket_1) (.cons (.iff (.cmp .gt (.call 5 (.cons (.v 1) .nil)) (.gI 300)) (.cons (.raise 7 [97,32,98,97,115,107,101,116,32,104,97,115,32,116,111,111,32,109,97,110,121,32,98,97,115,107,101,116,115,32,119,105,116,104,105,110]) .nil) .nil) .nil)))
noncomputable def f_need_basket : Fn := { pars := 2,names := 3,body := t_need_basket }
noncomputable def b_within_1 : T := (.cons (.asg 1 (.bin .mul (.v 1) (.bin .add (.v 2) (.cI 1)))) .nil)
noncomputable def t_within : T := (.cons (.asg 1 (.cI 1)) (.cons (.for_ [2] (.v 0) b_within_1) (.cons (.ret (.v 1)) .nil)))
noncomputable def f_within : Fn := { pars := 1,names := 3,body := t_within }
noncomputable def b_number_of_1 : T := (.cons (.asg 2 (.bin .add (.v 2) (.bin .mul (.v 5) (.v 3)))) (.cons (.asg 3 (.bin .mul (.v 3) (.bin .add (.v 4) (.cI 1)))) .nil))
noncomputable def t_number_of : T := (.cons (.asg 2 (.cI 0)) (.cons (.asg 3 (.cI 1)) (.cons (.for_ [4,5] (.zip (.v 0) (.v 1)) b_number_of_1) (.cons (.ret (.v 2)) .nil))))
noncomputable def f_number_of : Fn := { pars := 2,names := 6,body := t_number_of }
noncomputable def b_counts_of_1 : T := (.cons (.app 2 (.bin .mod (.v 1) (.bin .add (.v 3) (.cI 1)))) (.cons (.asg 1 (.bin .fdiv (.v 1) (.bin .add (.v 3) (.cI 1)))) .nil))
noncomputable def t_counts_of : T := (.cons (.asgO 2 (.lst .nil)) (.cons (.for_ [3] (.v 0) b_counts_of_1) (.cons (.retO 2) .nil)))
noncomputable def f_counts_of : Fn := { pars := 2,names := 4,body := t_counts_of }
noncomputable def b_wants_pairs_1 : T := (.cons (.iff (.or (.not (.isi .tuple (.v 1))) (.cmp .ne (.bi .len (.cons (.v 1) .nil)) (.cI 2))) (.cons (.ret (.cB false)) .nil) .nil) .nil)
noncomputable def t_wants_pairs : T := (.cons (.iff (.not (.isi .tuple (.v 0))) (.cons (.ret (.cB false)) .nil) .nil) (.cons (.for_ [1] (.v 0) b_wants_pairs_1) (.cons (.ret (.cB true)) .nil)))
noncomputable def f_wants_pairs : Fn := { pars := 1,names := 2,body := t_wants_pairs }
noncomputable def t_names_in : T := (.cons (.iff (.cmp .eq (.idx (.v 0) (.cI 0)) (.cS [115,101,116])) (.cons (.iff (.not (.call 8 (.cons (.idx (.v 0) (.cI 1)) .nil))) (.cons (.ret (.lst .nil)) .nil) .nil) (.cons (.ret (.comp (.idx (.v 1) (.cI 0)) [1] (.idx (.v 0) (.cI 1)) .nil)) .nil)) .nil) (.cons (.iff (.cmp .eq (.idx (.v 0) (.cI 0)) (.cS [115,108,105,112])) (.cons (.ret (.lst (.cons (.idx (.v 0) (.cI 1)) (.cons (.idx (.v 0) (.cI 2)) .nil)))) .nil) .nil) (.cons (.ret (.lst (.cons (.idx (.v 0) (.cI 1)) .nil))) .nil)))
noncomputable def f_names_in : Fn := { pars := 1,names := 2,body := t_names_in }
noncomputable def b_set_fits_1 : T := (.cons (.iff (.or (.cmp .isin (.idx (.v 3) (.cI 0)) (.v 2)) (.not (.call 0 (.cons (.idx (.v 3) (.cI 1)) (.cons (.cI 1) (.cons (.cI 9) .nil)))))) (.cons (.ret (.cB false)) .nil) .nil) (.cons (.app 2 (.idx (.v 3) (.cI 0))) .nil))
noncomputable def t_set_fits : T := (.cons (.iff (.or (.not (.call 8 (.cons (.v 0) .nil))) (.or (.not (.cmp2 .le .le (.cI 1) (.bi .len (.cons (.v 0) .nil)) (.cI 5))) (.not (.call 0 (.cons (.v 1) (.cons (.cI 0) (.cons (.gI 100000) .nil))))))) (.cons (.ret (.cB false)) .nil) .nil) (.cons (.asgO 2 (.lst .nil)) (.cons (.for_ [3] (.v 0) b_set_fits_1) (.cons (.ret (.cB true)) .nil))))
noncomputable def f_set_fits : Fn := { pars := 2,names := 4,body := t_set_fits }
noncomputable def t_fits : T := (.cons (.iff (.cmp .eq (.idx (.v 0) (.cI 0)) (.cS [109,111,114,101])) (.cons (.ret (.and (.call 0 (.cons (.idx (.v 0) (.cI 2)) (.cons (.cI 2) (.cons (.cI 9) .nil)))) (.call 0 (.cons (.idx (.v 0) (.cI 3)) (.cons (.cI 1) (.cons (.bin .sub (.idx (.v 0) (.cI 2)) (.cI 1)) .nil)))))) .nil) .nil) (.cons (.iff (.cmp .eq (.idx (.v 0) (.cI 0)) (.cS [115,101,116])) (.cons (.ret (.call 10 (.cons (.idx (.v 0) (.cI 1)) (.cons (.idx (.v 0) (.cI 2)) .nil)))) .nil) .nil) (.cons (.iff (.cmp .eq (.idx (.v 0) (.cI 0)) (.cS [115,104,97,114,101])) (.cons (.ret (.call 0 (.cons (.idx (.v 0) (.cI 2)) (.cons (.cI 1) (.cons (.cI 100) .nil))))) .nil) .nil) (.cons (.ret (.and (.cmp .ne (.idx (.v 0) (.cI 1)) (.idx (.v 0) (.cI 2))) (.call 0 (.cons (.idx (.v 0) (.cI 3)) (.cons (.cI 1) (.cons (.gI 100000) .nil)))))) .nil))))
noncomputable def f_fits : Fn := { pars := 1,names := 1,body := t_fits }
noncomputable def b_need_offer_1 : T := (.cons (.ex (.mcall 3 (.v 0) (.cons (.v 2) .nil))) .nil)
noncomputable def t_need_offer : T := (.cons (.iff (.or (.not (.isi .tuple (.v 1))) (.or (.cmp .eq (.bi .len (.cons (.v 1) .nil)) (.cI 0)) (.not (.isi .str (.idx (.v 1) (.cI 0)))))) (.cons (.raise 8 [97,32,116,117,112,108,101,32,111,102,32,97,110,32,111,102,102,101,114,32,105,115,32,119,97,110,116,101,100]) .nil) .nil) (.cons (.iff (.or (.din [([109,111,114,101],4),([115,101,116],3),([115,104,97,114,101],3),([115,108,105,112],4)] true (.idx (.v 1) (.cI 0))) (.cmp .ne (.bi .len (.cons (.v 1) .nil)) (.dget [([109,111,114,101],4),([115,101,116],3),([115,104,97,114,101],3),([115,108,105,112],4)] (.idx (.v 1) (.cI 0))))) (.cons (.raise 8 [97,110,111,116,104,101,114,32,111,102,102,101,114,32,105,115,32,119,97,110,116,101,100]) .nil) .nil) (.cons (.for_ [2] (.call 9 (.cons (.v 1) .nil)) b_need_offer_1) (.cons (.iff (.not (.call 11 (.cons (.v 1) .nil))) (.cons (.raise 8 [116,104,101,32,112,97,114,116,115,32,111,102,32,97,110,32,111,102,102,101,114,32,97,114,101,32,111,116,104,101,114,115]) .nil) .nil) .nil))))
noncomputable def f_need_offer : Fn := { pars := 2,names := 3,body := t_need_offer }
noncomputable def b_deal_of_1 : T := (.cons (.seti 2 (.mcall 3 (.v 0) (.cons (.v 3) .nil)) (.v 4)) .nil)
noncomputable def t_deal_of : T := (.cons (.ex (.call 12 (.cons (.v 0) (.cons (.v 1) .nil)))) (.cons (.asgO 2 (.bin .mul (.lst (.cons (.cI 0) .nil)) (.bi .len (.cons (.attr false (.v 0)) .nil)))) (.cons (.iff (.cmp .eq (.idx (.v 1) (.cI 0)) (.cS [115,101,116])) (.cons (.for_ [3,4] (.idx (.v 1) (.cI 1)) b_deal_of_1) (.cons (.ret (.tup (.cons (.mkT (.v 2)) (.cons (.idx (.v 1) (.cI 2)) .nil)))) .nil)) .nil) (.cons (.iff (.cmp .eq (.idx (.v 1) (.cI 0)) (.cS [115,108,105,112])) (.cons (.asg 5 (.mcall 3 (.v 0) (.cons (.idx (.v 1) (.cI 2)) .nil))) (.cons (.seti 2 (.v 5) (.cI 1)) (.cons (.seti 2 (.mcall 3 (.v 0) (.cons (.idx (.v 1) (.cI 1)) .nil)) (.cI 1)) (.cons (.ret (.tup (.cons (.mkT (.v 2)) (.cons (.bi .max (.cons (.cI 0) (.cons (.bin .sub (.idx (.attr true (.v 0)) (.v 5)) (.idx (.v 1) (.cI 3))) .nil))) .nil)))) .nil)))) .nil) (.cons (.asg 5 (.mcall 3 (.v 0) (.cons (.idx (.v 1) (.cI 1)) .nil))) (.cons (.asg 6 (.idx (.attr true (.v 0)) (.v 5))) (.cons (.iff (.cmp .eq (.idx (.v 1) (.cI 0)) (.cS [109,111,114,101])) (.cons (.seti 2 (.v 5) (.idx (.v 1) (.cI 2))) (.cons (.ret (.tup (.cons (.mkT (.v 2)) (.cons (.bin .mul (.idx (.v 1) (.cI 3)) (.v 6)) .nil)))) .nil)) .nil) (.cons (.seti 2 (.v 5) (.cI 1)) (.cons (.ret (.tup (.cons (.mkT (.v 2)) (.cons (.bin .sub (.v 6) (.bin .fdiv (.bin .mul (.v 6) (.idx (.v 1) (.cI 2))) (.cI 100))) .nil)))) .nil)))))))))
noncomputable def f_deal_of : Fn := { pars := 2,names := 7,body := t_deal_of }
noncomputable def b_deals_1 : T := (.cons (.asgO 4 (.bin .mul (.lst (.cons (.cI 0) .nil)) (.bi .len (.cons (.attr false (.v 0)) .nil)))) (.cons (.seti 4 (.v 3) (.cI 1)) (.cons (.app 2 (.tup (.cons (.mkT (.v 4)) (.cons (.idx (.attr true (.v 0)) (.v 3)) .nil)))) .nil)))
noncomputable def b_deals_2 : T := (.cons (.app 2 (.call 13 (.cons (.v 0) (.cons (.v 5) .nil)))) .nil)
noncomputable def t_deals : T := (.cons (.asgO 2 (.lst .nil)) (.cons (.for_ [3] (.rng .nil (.bi .len (.cons (.attr false (.v 0)) .nil)) .nil) b_deals_1) (.cons (.for_ [5] (.v 1) b_deals_2) (.cons (.retO 2) .nil))))
noncomputable def f_deals : Fn := { pars := 2,names := 6,body := t_deals }
noncomputable def b_lies_in_1 : T := (.cons (.iff (.cmp .gt (.v 2) (.v 3)) (.cons (.ret (.cB false)) .nil) .nil) .nil)
noncomputable def t_lies_in : T := (.cons (.for_ [2,3] (.zip (.v 0) (.v 1)) b_lies_in_1) (.cons (.ret (.cB true)) .nil))
noncomputable def f_lies_in : Fn := { pars := 2,names := 4,body := t_lies_in }
noncomputable def t_steps_of : T := (.cons (.ret (.comp (.tup (.cons (.v 2) (.cons (.call 6 (.cons (.v 0) (.cons (.v 2) .nil))) (.cons (.v 3) .nil)))) [2,3] (.v 1) .nil)) .nil)
noncomputable def f_steps_of : Fn := { pars := 2,names := 4,body := t_steps_of }
noncomputable def b_costs_of_1 : T := (.cons (.asg 5 (.call 7 (.cons (.v 0) (.cons (.v 4) .nil)))) (.cons (.asg 6 (.comp (.bin .add (.idx (.v 3) (.bin .sub (.v 4) (.v 8))) (.v 9)) [7,8,9] (.v 2) (.call 15 (.cons (.v 7) (.cons (.v 5) .nil))))) (.cons (.app 3 (.bi .min (.cons (.v 6) .nil))) .nil)))
noncomputable def t_costs_of : T := (.cons (.asg 2 (.call 16 (.cons (.v 0) (.cons (.v 1) .nil)))) (.cons (.asgO 3 (.lst (.cons (.cI 0) .nil))) (.cons (.for_ [4] (.rng (.cI 1) (.call 5 (.cons (.v 0) .nil)) .nil) b_costs_of_1) (.cons (.retO 3) .nil))))
noncomputable def f_costs_of : Fn := { pars := 2,names := 10,body := t_costs_of }
noncomputable def t_table : T := (.cons (.ex (.call 4 (.cons (.v 0) (.cons (.v 2) .nil)))) (.cons (.ret (.call 17 (.cons (.v 2) (.cons (.call 14 (.cons (.v 0) (.cons (.v 1) .nil))) .nil)))) .nil))
noncomputable def f_table : Fn := { pars := 3,names := 3,body := t_table }
noncomputable def t_cost : T := (.cons (.ret (.idx (.call 18 (.cons (.v 0) (.cons (.v 1) (.cons (.v 2) .nil)))) (.neg (.cI 1)))) .nil)
noncomputable def f_cost : Fn := { pars := 3,names := 3,body := t_cost }
noncomputable def t_l_cell_at : T := (.cons (.iff (.cmp .lt (.v 1) (.bi .len (.cons (.v 0) .nil))) (.cons (.ret (.idx (.v 0) (.v 1))) .nil) .nil) (.cons (.ret (.cI 0)) .nil))
noncomputable def f_l_cell_at : Fn := { pars := 2,names := 2,body := t_l_cell_at }
noncomputable def t_l_number : T := (.cons (.iff (.cmp .eq (.bi .len (.cons (.v 0) .nil)) (.cI 0)) (.cons (.ret (.bin .mul (.cI 5003) (.v 1))) .nil) .nil) (.cons (.asg 2 (.bin .add (.bin .add (.idx (.v 0) (.bin .mod (.v 1) (.bi .len (.cons (.v 0) .nil)))) (.bin .mul (.cI 7919) (.bin .fdiv (.v 1) (.bi .len (.cons (.v 0) .nil))))) (.bin .mul (.cI 101) (.v 1)))) (.cons (.ret (.bin .mod (.bin .mul (.v 2) (.cI 48271)) (.cI 2147483647))) .nil)))
noncomputable def f_l_number : Fn := { pars := 2,names := 3,body := t_l_number }
noncomputable def b_l_name_by_1 : T := (.cons (.asg 6 (.bin .add (.v 6) (.idx (.v 2) (.bin .mod (.bin .add (.bin .fdiv (.v 4) (.cI 208)) (.bin .mul (.v 7) (.v 5))) (.cI 26))))) .nil)
noncomputable def t_l_name_by : T := (.cons (.asg 2 (.cS [97,98,99,100,101,102,103,104,105,106,107,108,109,110,111,112,113,114,115,116,117,118,119,120,121,122])) (.cons (.asg 3 (.cmp .eq (.bin .mod (.bin .fdiv (.call 20 (.cons (.v 0) (.cons (.cI 0) .nil))) (.cI 5)) (.cI 2)) (.cI 1))) (.cons (.asg 4 (.call 21 (.cons (.v 0) (.cons (.bin .add (.cI 1) (.bin .mul (.bin .mul (.cI 3) (.v 1)) (.bi .int (.cons (.not (.v 3)) .nil)))) .nil)))) (.cons (.asg 5 (.bin .add (.cI 1) (.bin .mod (.bin .fdiv (.v 4) (.cI 5408)) (.cI 25)))) (.cons (.asg 6 (.cS [])) (.cons (.for_ [7] (.rng .nil (.bin .add (.cI 1) (.bin .mod (.v 4) (.cI 8))) .nil) b_l_name_by_1) (.cons (.iff (.v 3) (.cons (.asg 8 (.bin .mod (.bin .fdiv (.v 4) (.cI 8)) (.bi .len (.cons (.v 6) .nil)))) (.cons (.asg 9 (.idx (.v 2) (.bin .mod (.bin .add (.bin .fdiv (.v 4) (.cI 64)) (.bin .mul (.cI 5) (.v 1))) (.cI 26)))) (.cons (.asg 6 (.bin .add (.bin .add (.sl (.v 6) .nil (.v 8)) (.v 9)) (.sl (.v 6) (.bin .add (.v 8) (.cI 1)) .nil))) .nil))) .nil) (.cons (.ret (.v 6)) .nil))))))))
noncomputable def f_l_name_by : Fn := { pars := 2,names := 10,body := t_l_name_by }
noncomputable def b_l_kinds_1 : T := (.cons (.asg 4 (.call 21 (.cons (.v 0) (.cons (.bin .add (.bin .mul (.cI 3) (.v 3)) (.cI 2)) .nil)))) (.cons (.asg 5 (.call 22 (.cons (.v 0) (.cons (.v 3) .nil)))) (.cons (.asg 6 (.bin .mod (.bin .fdiv (.v 4) (.cI 1009)) (.cI 100))) (.cons (.iff (.cmp .eq (.bin .mod (.v 4) (.cI 3)) (.cI 0)) (.cons (.asg 6 (.bin .mod (.bin .fdiv (.v 4) (.cI 1009)) (.cI 100001))) .nil) .nil) (.cons (.iff (.cmp .isin (.v 5) (.v 2)) (.cons (.asg 5 (.bin .add (.sl (.v 5) .nil (.cI 7)) (.idx (.cS [97,98,99,100,101]) (.v 3)))) .nil) .nil) (.cons (.iff (.cmp .notin (.v 5) (.v 2)) (.cons (.app 2 (.v 5)) (.cons (.app 1 (.tup (.cons (.v 5) (.cons (.v 6) .nil)))) .nil)) .nil) .nil))))))
noncomputable def t_l_kinds : T := (.cons (.asgO 1 (.lst .nil)) (.cons (.asgO 2 (.lst .nil)) (.cons (.for_ [3] (.rng .nil (.bin .add (.cI 1) (.bin .mod (.call 20 (.cons (.v 0) (.cons (.cI 0) .nil))) (.cI 5))) .nil) b_l_kinds_1) (.cons (.retO 1) .nil))))
noncomputable def f_l_kinds : Fn := { pars := 1,names := 7,body := t_l_kinds }
noncomputable def t_l_whole : T := (.cons (.ret (.and (.isi .int (.v 0)) (.not (.isi .bool (.v 0))))) .nil)
noncomputable def f_l_whole : Fn := { pars := 1,names := 1,body := t_l_whole }
noncomputable def b_l_listed_1 : T := (.cons (.iff (.not (.call 28 (.cons (.v 2) .nil))) (.cons (.ret (.cB false)) .nil) .nil) .nil)
noncomputable def t_l_listed : T := (.cons (.iff (.or (.not (.isi .list (.v 0))) (.cmp .ne (.bi .len (.cons (.v 0) .nil)) (.bi .len (.cons (.v 1) .nil)))) (.cons (.ret (.cB false)) .nil) .nil) (.cons (.for_ [2] (.v 0) b_l_listed_1) (.cons (.ret (.cmp .eq (.v 0) (.v 1))) .nil)))
noncomputable def f_l_listed : Fn := { pars := 2,names := 3,body := t_l_listed }
noncomputable def b_paid_1 : T := (.cons (.asg 9 (.bin .add (.v 9) (.cI 1))) .nil)
noncomputable def b_paid_2 : T := (.cons (.asg 8 (.call 7 (.cons (.v 2) (.cons (.v 7) .nil)))) (.cons (.asg 9 (.cI 0)) (.cons (.whl (.not (.call 33 (.cons (.idx (.v 5) (.v 9)) (.cons (.v 8) (.cons (.v 4) (.cons (.v 7) .nil)))))) b_paid_1) (.cons (.seti 6 (.v 9) (.bin .add (.idx (.v 6) (.v 9)) (.cI 1))) (.cons (.asg 7 (.bin .sub (.v 7) (.idx (.idx (.v 5) (.v 9)) (.cI 1)))) .nil)))))
noncomputable def t_paid : T := (.cons (.ex (.call 4 (.cons (.v 0) (.cons (.v 2) .nil)))) (.cons (.asg 3 (.call 14 (.cons (.v 0) (.cons (.v 1) .nil)))) (.cons (.asg 4 (.call 17 (.cons (.v 2) (.cons (.v 3) .nil)))) (.cons (.asg 5 (.call 16 (.cons (.v 2) (.cons (.v 3) .nil)))) (.cons (.asgO 6 (.bin .mul (.lst (.cons (.cI 0) .nil)) (.bi .len (.cons (.v 3) .nil)))) (.cons (.asg 7 (.bin .sub (.bi .len (.cons (.v 4) .nil)) (.cI 1))) (.cons (.whl (.cmp .gt (.v 7) (.cI 0)) b_paid_2) (.cons (.retP (.idx (.v 4) (.neg (.cI 1))) 6) .nil))))))))
noncomputable def f_paid : Fn := { pars := 3,names := 10,body := t_paid }
noncomputable def t_takes : T := (.cons (.ret (.and (.call 15 (.cons (.idx (.v 0) (.cI 0)) (.cons (.v 1) .nil))) (.cmp .eq (.bin .add (.idx (.v 2) (.bin .sub (.v 3) (.idx (.v 0) (.cI 1)))) (.idx (.v 0) (.cI 2))) (.idx (.v 2) (.v 3))))) .nil)
noncomputable def f_takes : Fn := { pars := 4,names := 4,body := t_takes }
noncomputable def b_l_basket_b_1 : T := (.cons (.asg 6 (.bin .mod (.bin .fdiv (.call 21 (.cons (.v 0) (.cons (.bin .add (.v 2) (.v 5)) .nil))) (.cI 5)) (.bi .min (.cons (.cI 10) (.cons (.v 3) .nil))))) (.cons (.app 4 (.v 6)) (.cons (.asg 3 (.bin .fdiv (.v 3) (.bin .add (.v 6) (.cI 1)))) .nil)))
noncomputable def b_l_basket_c_1 : T := (.cons (.asg 6 (.bin .mod (.bin .fdiv (.call 21 (.cons (.v 0) (.cons (.bin .add (.v 2) (.v 5)) .nil))) (.cI 5)) (.bi .min (.cons (.cI 10) (.cons (.v 3) .nil))))) (.cons (.app 4 (.v 6)) (.cons (.asg 3 (.bin .fdiv (.v 3) (.bin .add (.v 6) (.cI 1)))) .nil)))
noncomputable def t_l_basket_c : T := (.cons (.asg 3 (.cI 24)) (.cons (.asgO 4 (.lst .nil)) (.cons (.for_ [5] (.rng .nil (.bi .len (.cons (.v 1) .nil)) .nil) b_l_basket_c_1) (.cons (.retO 4) .nil))))
noncomputable def f_l_basket_c : Fn := { pars := 3,names := 7,body := t_l_basket_c }
noncomputable def b_shown_1 : T := (.cons (.app 1 (.v 2)) (.cons (.app 1 (.bi .str (.cons (.v 3) .nil))) .nil))
noncomputable def b_shown_2 : T := (.cons (.app 1 (.bi .str (.cons (.v 4) .nil))) .nil)
noncomputable def t_shown : T := (.cons (.asgO 1 (.lst (.cons (.idx (.v 0) (.cI 0)) .nil))) (.cons (.iff (.cmp .eq (.idx (.v 0) (.cI 0)) (.cS [115,101,116])) (.cons (.for_ [2,3] (.idx (.v 0) (.cI 1)) b_shown_1) (.cons (.app 1 (.cS [97,116])) (.cons (.app 1 (.bi .str (.cons (.idx (.v 0) (.cI 2)) .nil))) .nil))) (.cons (.for_ [4] (.sl (.v 0) (.cI 1) .nil) b_shown_2) .nil)) (.cons (.ret (.meth .join (.cS [32]) (.cons (.v 1) .nil))) .nil)))
noncomputable def f_shown : Fn := { pars := 1,names := 5,body := t_shown }
noncomputable def b_billed_1 : T := (.cons (.iff (.cmp .gt (.idx (.v 4) (.v 8)) (.cI 0)) (.cons (.app 7 (.bin .add (.bin .add (.bin .add (.bin .add (.bi .str (.cons (.idx (.v 4) (.v 8)) .nil)) (.cS [32,120,32])) (.idx (.v 5) (.v 8))) (.cS [58,32])) (.bi .str (.cons (.bin .mul (.idx (.v 4) (.v 8)) (.idx (.idx (.v 6) (.v 8)) (.cI 1))) .nil)))) .nil) .nil) .nil)
noncomputable def t_billed : T := (.cons (.asg 3 (.call 32 (.cons (.v 0) (.cons (.v 1) (.cons (.v 2) .nil))))) (.cons (.asg 4 (.idx (.v 3) (.cI 1))) (.cons (.asg 5 (.bin .add (.attr false (.v 0)) (.comp (.call 47 (.cons (.v 9) .nil)) [9] (.v 1) .nil))) (.cons (.asg 6 (.call 14 (.cons (.v 0) (.cons (.v 1) .nil)))) (.cons (.asgO 7 (.lst .nil)) (.cons (.for_ [8] (.rng .nil (.bi .len (.cons (.v 4) .nil)) .nil) b_billed_1) (.cons (.ret (.bin .add (.v 7) (.lst (.cons (.bin .add (.cS [115,117,109,58,32]) (.bi .str (.cons (.idx (.v 3) (.cI 0)) .nil))) .nil)))) .nil)))))))
noncomputable def f_billed : Fn := { pars := 3,names := 10,body := t_billed }
noncomputable def t_l_one_class : T := (.cons (.asg 1 (.lst (.cons (.isi (.exc 2) (.v 0)) (.cons (.isi (.exc 3) (.v 0)) (.cons (.isi (.exc 4) (.v 0)) (.cons (.isi (.exc 5) (.v 0)) .nil)))))) (.cons (.asg 1 (.bin .add (.v 1) (.lst (.cons (.isi (.exc 6) (.v 0)) (.cons (.isi (.exc 7) (.v 0)) (.cons (.isi (.exc 8) (.v 0)) .nil)))))) (.cons (.asg 1 (.bin .add (.v 1) (.lst (.cons (.isi (.exc 9) (.v 0)) (.cons (.isi (.exc 10) (.v 0)) .nil))))) (.cons (.ret (.and (.cmp .eq (.meth .count (.v 1) (.cons (.cB true) .nil)) (.cI 1)) (.and (.isi (.exc 1) (.v 0)) (.isi (.exc 0) (.v 0))))) .nil))))
noncomputable def f_l_one_class : Fn := { pars := 1,names := 3,body := t_l_one_class }
noncomputable def t_l_changed_b : T := (.cons (.asg 3 (.bin .mod (.v 2) (.bi .len (.cons (.v 0) .nil)))) (.cons (.iff (.cmp .eq (.v 1) (.cI 0)) (.cons (.ret (.bin .add (.v 0) (.lst (.cons (.cI 0) .nil)))) .nil) .nil) (.cons (.iff (.cmp .eq (.v 1) (.cI 1)) (.cons (.ret (.bin .add (.sl (.v 0) .nil (.v 3)) (.sl (.v 0) (.bin .add (.v 3) (.cI 1)) .nil))) .nil) .nil) (.cons (.iff (.cmp .eq (.v 1) (.cI 2)) (.cons (.ret (.idx (.lst (.cons (.mkT (.v 0)) (.cons (.cI 5) (.cons .cN (.cons (.cS [49,49]) (.cons .dic .nil)))))) (.bin .mod (.bin .fdiv (.v 2) (.cI 5)) (.cI 5)))) .nil) .nil) (.cons (.iff (.cmp .eq (.v 1) (.cI 3)) (.cons (.asg 4 (.idx (.lst (.cons (.neg (.cI 1)) (.cons (.cI 10) (.cons (.cB true) (.cons .cN (.cons (.cS [49]) (.cons (.neg (.v 2)) (.cons (.bin .add (.cI 10) (.v 2)) .nil)))))))) (.bin .mod (.bin .fdiv (.v 2) (.cI 5)) (.cI 7)))) (.cons (.ret (.bin .add (.bin .add (.sl (.v 0) .nil (.v 3)) (.lst (.cons (.v 4) .nil))) (.sl (.v 0) (.bin .add (.v 3) (.cI 1)) .nil))) .nil)) .nil) (.cons (.iff (.and (.cmp .eq (.v 1) (.cI 4)) (.cmp .gt (.bi .len (.cons (.v 0) .nil)) (.cI 2))) (.cons (.ret (.bin .add (.lst (.cons (.cI 9) (.cons (.cI 5) (.cons (.cI 4) .nil)))) (.comp (.cI 0) [5] (.sl (.v 0) (.cI 3) .nil) .nil))) .nil) .nil) (.cons (.iff (.and (.cmp .eq (.v 1) (.cI 5)) (.cmp .gt (.bi .len (.cons (.v 0) .nil)) (.cI 2))) (.cons (.ret (.bin .add (.idx (.lst (.cons (.lst (.cons (.cI 8) (.cons (.cI 6) (.cons (.cI 4) .nil)))) (.cons (.lst (.cons (.cI 6) (.cons (.cI 6) (.cons (.cI 6) .nil)))) (.cons (.lst (.cons (.cI 9) (.cons (.cI 7) (.cons (.cI 3) .nil)))) .nil)))) (.bin .mod (.bin .fdiv (.v 2) (.cI 5)) (.cI 3))) (.comp (.cI 0) [6] (.sl (.v 0) (.cI 3) .nil) .nil))) .nil) .nil) (.cons (.iff (.cmp .eq (.v 1) (.cI 6)) (.cons (.ret (.comp (.cI 9) [7] (.v 0) .nil)) .nil) .nil) (.cons (.ret (.v 0)) .nil)))))))))
noncomputable def f_l_changed_b : Fn := { pars := 3,names := 8,body := t_l_changed_b }
noncomputable def b_l_due_b_1 : T := (.cons (.iff (.or (.not (.call 28 (.cons (.v 3) .nil))) (.not (.cmp2 .le .le (.cI 0) (.v 3) (.cI 9)))) (.cons (.ret (.cS [98,97,115,107,101,116])) .nil) .nil) (.cons (.asg 2 (.bin .mul (.v 2) (.bin .add (.v 3) (.cI 1)))) .nil))
noncomputable def t_l_due_b : T := (.cons (.iff (.or (.not (.isi .list (.v 1))) (.cmp .ne (.bi .len (.cons (.v 1) .nil)) (.bi .len (.cons (.v 0) .nil)))) (.cons (.ret (.cS [98,97,115,107,101,116])) .nil) .nil) (.cons (.asg 2 (.cI 1)) (.cons (.for_ [3] (.v 1) b_l_due_b_1) (.cons (.ret (.ite (.cmp .gt (.v 2) (.cI 300)) (.cS [109,97,110,121]) (.cS []))) .nil))))
noncomputable def f_l_due_b : Fn := { pars := 2,names := 4,body := t_l_due_b }
noncomputable def t_l_asked : T := (.cons (.try_ (.cons (.iff (.cmp .eq (.v 3) (.cI 0)) (.cons (.ret (.ite (.isN false (.call 4 (.cons (.v 0) (.cons (.v 2) .nil)))) (.cS []) (.cS [97,110,115,119,101,114]))) .nil) (.cons (.iff (.cmp .eq (.v 3) (.cI 1)) (.cons (.ex (.call 18 (.cons (.v 0) (.cons (.v 1) (.cons (.v 2) .nil))))) .nil) (.cons (.iff (.cmp .eq (.v 3) (.cI 2)) (.cons (.ex (.call 19 (.cons (.v 0) (.cons (.v 1) (.cons (.v 2) .nil))))) .nil) (.cons (.iff (.cmp .eq (.v 3) (.cI 3)) (.cons (.ex (.call 48 (.cons (.v 0) (.cons (.v 1) (.cons (.v 2) .nil))))) .nil) (.cons (.ex (.call 32 (.cons (.v 0) (.cons (.v 1) (.cons (.v 2) .nil))))) .nil)) .nil)) .nil)) .nil)) .nil) 1 4 (.cons (.asg 5 (.bin .add (.bin .mul (.cS [98,97,115,107,101,116]) (.bi .int (.cons (.isi (.exc 6) (.v 4)) .nil))) (.bin .mul (.cS [109,97,110,121]) (.bi .int (.cons (.isi (.exc 7) (.v 4)) .nil))))) (.cons (.asg 5 (.bin .add (.bin .add (.v 5) (.bin .mul (.cS [111,102,102,101,114]) (.bi .int (.cons (.isi (.exc 8) (.v 4)) .nil)))) (.bin .mul (.cS [107,105,110,100]) (.bi .int (.cons (.isi (.exc 9) (.v 4)) .nil))))) (.cons (.ret (.ite (.call 63 (.cons (.v 4) .nil)) (.v 5) (.cS [111,116,104,101,114]))) .nil)))) (.cons (.ret (.cS [])) .nil))
noncomputable def f_l_asked : Fn := { pars := 4,names := 6,body := t_l_asked }
noncomputable def t_law04 : T := (.cons (.asg 1 (.call 23 (.cons (.v 0) .nil))) (.cons (.asg 2 (.new 2 (.cons (.mkL (.v 1)) .nil))) (.cons (.asg 3 (.call 45 (.cons (.v 0) (.cons (.v 1) (.cons (.cI 30) .nil))))) (.cons (.iff (.or (.cmp .ne (.call 68 (.cons (.v 2) (.cons (.lst .nil) (.cons (.mkL (.v 3)) (.cons (.cI 0) .nil))))) (.cS [])) (.cmp .ne (.call 68 (.cons (.v 2) (.cons (.lst .nil) (.cons (.comp (.cI 0) [10] (.v 1) .nil) (.cons (.cI 3) .nil))))) (.cS []))) (.cons (.ret (.cB false)) .nil) .nil) (.cons (.asg 4 (.bin .mod (.call 20 (.cons (.v 0) (.cons (.cI 3) .nil))) (.cI 9))) (.cons (.asg 3 (.call 66 (.cons (.v 3) (.cons (.v 4) (.cons (.bin .mod (.bi .abs (.cons (.call 20 (.cons (.v 0) (.cons (.cI 4) .nil))) .nil)) (.bin .pow (.cI 10) (.cI 60))) .nil))))) (.cons (.asg 5 (.call 67 (.cons (.v 1) (.cons (.v 3) .nil)))) (.cons (.asg 6 (.lst .nil)) (.cons (.iff (.cmp .eq (.bin .mod (.call 20 (.cons (.v 0) (.cons (.cI 5) .nil))) (.cI 2)) (.cI 1)) (.cons (.asg 6 (.lst (.cons (.idx (.lst (.cons (.tup (.cons (.cS [109,111,114,101]) (.cons (.idx (.idx (.v 1) (.cI 0)) (.cI 0)) (.cons (.cI 1) (.cons (.cI 1) .nil))))) (.cons (.tup (.cons (.cS [115,104,97,114,101]) (.cons (.cS [122,122,122,122,122,122,122,122,122]) (.cons (.cI 5) .nil)))) .nil))) (.bin .mod (.bin .fdiv (.call 20 (.cons (.v 0) (.cons (.cI 5) .nil))) (.cI 2)) (.cI 2))) .nil))) .nil) .nil) (.cons (.asg 7 (.ite (.isi .list (.v 3)) (.mkL (.v 3)) (.v 3))) (.cons (.iff (.or (.cmp .eq (.v 4) (.cI 4)) (.cmp .ne (.v 5) (.cS []))) (.cons (.iff (.cmp .ne (.call 68 (.cons (.v 2) (.cons (.lst .nil) (.cons (.v 7) (.cons (.cI 0) .nil))))) (.v 5)) (.cons (.ret (.cB false)) .nil) .nil) (.cons (.iff (.cmp .eq (.v 5) (.cS [])) (.cons (.ret (.cmp .eq (.v 7) (.v 3))) .nil) .nil) .nil)) .nil) (.cons (.asg 8 (.comp (.call 68 (.cons (.v 2) (.cons (.mkL (.v 6)) (.cons (.v 7) (.cons (.v 11) .nil))))) [11] (.rng .nil (.cI 5) .nil) .nil)) (.cons (.asg 9 (.v 5)) (.cons (.iff (.and (.cmp .eq (.v 5) (.cS [])) (.cmp .gt (.bi .len (.cons (.v 6) .nil)) (.cI 0))) (.cons (.asg 9 (.idx (.lst (.cons (.cS [111,102,102,101,114]) (.cons (.cS [107,105,110,100]) .nil))) (.bin .mod (.bin .fdiv (.call 20 (.cons (.v 0) (.cons (.cI 5) .nil))) (.cI 2)) (.cI 2)))) .nil) .nil) (.cons (.ret (.and (.cmp .eq (.v 8) (.lst (.cons (.v 5) (.cons (.v 9) (.cons (.v 9) (.cons (.v 9) (.cons (.v 9) .nil))))))) (.cmp .eq (.v 7) (.v 3)))) .nil)))))))))))))))
noncomputable def f_law04 : Fn := { pars := 1,names := 12,body := t_law04 }
noncomputable def f_none : Fn := { pars := 0,names := 0,body := .nil }
end Mine
namespace Mine.PL
open Mine
theorem callF_succ {fns : List Fn} {f : Nat} {fn : Fn} (h : fns[f]? = some fn) (n : Nat) (as : List Val) : callF fns (n + 1) f as = runFn (callF fns n) fn as := by
  show (match fns[f]? with | some fn => runFn (callF fns n) fn as | Option.none => .bad) = _
  rw [h]
section
variable {Φ : Nat → List Val → Out Val} {ρ : List Val} {a b c t e : T}
@[scoped simp] theorem ev_cN : ev Φ .cN ρ = .ok (.sh .none) := rfl
@[scoped simp] theorem ev_cB {b} : ev Φ (.cB b) ρ = .ok (.sh (.bool b)) := rfl
@[scoped simp] theorem ev_cI {b} : ev Φ (.cI b) ρ = .ok (.sh (.int b)) := rfl
@[scoped simp] theorem ev_cS {b} : ev Φ (.cS b) ρ = .ok (.sh (.str b)) := rfl
@[scoped simp] theorem ev_gI {b} : ev Φ (.gI b) ρ = .ok (.sh (.int b)) := rfl
@[scoped simp] theorem ev_gS {b} : ev Φ (.gS b) ρ = .ok (.sh (.str b)) := rfl
@[scoped simp] theorem ev_v {i} : ev Φ (.v i) ρ = rd (ρ.getD i .un) := rfl
@[scoped simp] theorem ev_neg : ev Φ (.neg a) ρ = (ev Φ a ρ >>= intD >>= fun i => .ok (.sh (.int (-i)))) := rfl
@[scoped simp] theorem bin2_ok {o x y} : bin2 o (.ok x) (.ok y) = (needB x >>= fun x => needB y >>= fun y => binD o x y) := rfl
@[scoped simp] theorem cmpB_ok {o x y} : cmpB o (.ok x) (.ok y) = (needB x >>= fun x => needB y >>= fun y => cmpD o x y) := rfl
@[scoped simp] theorem andB_true {y} : andB (.ok true) y = y := rfl
@[scoped simp] theorem andB_false {y} : andB (.ok false) y = .ok false := rfl
@[scoped simp] theorem orB_true {y} : orB (.ok true) y = .ok true := rfl
@[scoped simp] theorem orB_false {y} : orB (.ok false) y = y := rfl
@[scoped simp] theorem andB_ok {x y} : andB (.ok x) (.ok y) = .ok (x && y) := by cases x <;> rfl
@[scoped simp] theorem orB_ok {x y} : orB (.ok x) (.ok y) = .ok (x || y) := by cases x <;> rfl
@[scoped simp] theorem ev_bin {o} : ev Φ (.bin o a b) ρ = bin2 o (ev Φ a ρ) (ev Φ b ρ) := rfl
@[scoped simp] theorem ev_cmp {o} : ev Φ (.cmp o a b) ρ = (cmpB o (ev Φ a ρ) (ev Φ b ρ) >>= fun r => .ok (.sh (.bool r))) := rfl
@[scoped simp] theorem ev_cmp2 {o p} : ev Φ (.cmp2 o p a b c) ρ = ((ev Φ a ρ >>= needB >>= fun x => ev Φ b ρ >>= needB >>= fun y => cmpD o x y >>= fun r =>
    if r then ev Φ c ρ >>= needB >>= fun z => cmpD p y z else .ok false) >>= fun r => .ok (.sh (.bool r))) := rfl
@[scoped simp] theorem isNV_none {n} : isNV n (.sh .none) = .ok (!n) := rfl
@[scoped simp] theorem isNV_int {n i} : isNV n (.sh (.int i)) = .ok n := rfl
@[scoped simp] theorem ev_isN {n} : ev Φ (.isN n a) ρ = (ev Φ a ρ >>= isNV n >>= fun r => .ok (.sh (.bool r))) := rfl
@[scoped simp] theorem ev_not : ev Φ (.not a) ρ = ((ev Φ a ρ >>= boolD >>= fun b => .ok (!b)) >>= fun r => .ok (.sh (.bool r))) := rfl
@[scoped simp] theorem ev_and : ev Φ (.and a b) ρ = (andB (ev Φ a ρ >>= boolD) (ev Φ b ρ >>= boolD) >>= fun r => .ok (.sh (.bool r))) := rfl
@[scoped simp] theorem ev_or : ev Φ (.or a b) ρ = (orB (ev Φ a ρ >>= boolD) (ev Φ b ρ >>= boolD) >>= fun r => .ok (.sh (.bool r))) := rfl
@[scoped simp] theorem ev_ite : ev Φ (.ite c a b) ρ = (ev Φ c ρ >>= boolD >>= fun x => if x then ev Φ a ρ else ev Φ b ρ) := rfl
@[scoped simp] theorem ev_tup : ev Φ (.tup t) ρ = (evT Φ t ρ >>= allD >>= fun r => .ok (.sh (.tup r))) := rfl
@[scoped simp] theorem ev_lst : ev Φ (.lst t) ρ = (evT Φ t ρ >>= allD >>= fun r => .ok (.own r)) := rfl
@[scoped simp] theorem ev_idx : ev Φ (.idx a b) ρ = (ev Φ a ρ >>= fun x => ev Φ b ρ >>= intD >>= fun k => idx2 x k) := rfl
@[scoped simp] theorem idx2_lst {l k} : idx2 (.sh (.lst l)) k = idxL l k := rfl
@[scoped simp] theorem idx2_own {l k} : idx2 (.own l) k = idxL l k := rfl
@[scoped simp] theorem idx2_bor {l k} : idx2 (.bor l) k = idxL l k := rfl
@[scoped simp] theorem idx2_tup {l k} : idx2 (.sh (.tup l)) k = idxL l k := rfl
@[scoped simp] theorem idx2_str {l k} : idx2 (.sh (.str l)) k = idxS l k := rfl
@[scoped simp] theorem idx2_pr0 {d l} : idx2 (.pr d l) 0 = .ok (.sh d) := rfl
@[scoped simp] theorem idx2_pr1 {d l} : idx2 (.pr d l) 1 = .ok (.own l) := rfl
theorem posOf_at {k : Int} {n : Nat} (h0 : 0 ≤ k) (h : k < n) : posOf k n = some k.toNat := (if_pos h0).trans (if_pos h)
theorem idxL_at {l : List Dat} {k : Int} {d : Dat} (h0 : 0 ≤ k) (h : l[k.toNat]? = some d) : idxL l k = .ok (.sh d) := by
  have hl : k.toNat < l.length := (List.getElem?_eq_some_iff.1 h).1
  unfold idxL
  rw [posOf_at h0 (by lia)]
  show (match l[k.toNat]? with | some d => Out.ok (Val.sh d) | Option.none => .bad) = _
  rw [h]
@[scoped simp] theorem idxL_0 {x l} : idxL (x :: l) 0 = .ok (.sh x) := idxL_at (by decide) rfl
@[scoped simp] theorem idxL_1 {x y l} : idxL (x :: y :: l) 1 = .ok (.sh y) := idxL_at (by decide) rfl
@[scoped simp] theorem idxL_2 {x y z l} : idxL (x :: y :: z :: l) 2 = .ok (.sh z) := idxL_at (by decide) rfl
@[scoped simp] theorem idxL_3 {x y z w l} : idxL (x :: y :: z :: w :: l) 3 = .ok (.sh w) := idxL_at (by decide) rfl
theorem idxL_last {l : List Dat} {d : Dat} : idxL (l ++ [d]) (-1) = .ok (.sh d) := by
  have e : posOf (-1) (l ++ [d]).length = some l.length := by
    unfold posOf
    rw [if_neg (by decide),List.length_append,List.length_singleton,if_pos (by lia)]
    congr 1; lia
  unfold idxL
  rw [e]
  show (match (l ++ [d])[l.length]? with | some d => Out.ok (Val.sh d) | Option.none => .bad) = _
  rw [List.getElem?_concat_length]
theorem idxS_at {l : List Nat} {k : Int} {d : Nat} (h0 : 0 ≤ k) (h : l[k.toNat]? = some d) : idxS l k = .ok (.sh (.str [d])) := by
  have hl : k.toNat < l.length := (List.getElem?_eq_some_iff.1 h).1
  unfold idxS
  rw [posOf_at h0 (by lia)]
  show (match l[k.toNat]? with | some d => Out.ok (Val.sh (.str [d])) | Option.none => .bad) = _
  rw [h]
@[scoped simp] theorem sl2_lst {xs l h} : sl2 (.lst xs) l h = .ok (.own (cut l h xs)) := rfl
@[scoped simp] theorem sl2_str {xs l h} : sl2 (.str xs) l h = .ok (.sh (.str (cut l h xs))) := rfl
@[scoped simp] theorem sl2_tup {xs l h} : sl2 (.tup xs) l h = .ok (.sh (.tup (cut l h xs))) := rfl
@[scoped simp] theorem ev_sl : ev Φ (.sl a b c) ρ = (ev Φ a ρ >>= needB >>= fun x => evO Φ b ρ >>= fun l => evO Φ c ρ >>= fun h => sl2 x l h) := rfl
@[scoped simp] theorem evO_nil : evO Φ .nil ρ = .ok Option.none := rfl
@[scoped simp] theorem evO_cI {i} : evO Φ (.cI i) ρ = .ok (some i) := rfl
@[scoped simp] theorem evO_v {i} : evO Φ (.v i) ρ = (rd (ρ.getD i .un) >>= intD >>= fun i => .ok (some i)) := rfl
@[scoped simp] theorem evO_bin {o} : evO Φ (.bin o a b) ρ = (bin2 o (ev Φ a ρ) (ev Φ b ρ) >>= intD >>= fun i => .ok (some i)) := rfl
@[scoped simp] theorem evT_nil : evT Φ .nil ρ = .ok [] := rfl
@[scoped simp] theorem evT_cons : evT Φ (.cons a b) ρ = (ev Φ a ρ >>= argV >>= fun x => evT Φ b ρ >>= fun y => .ok (x :: y)) := rfl
@[scoped simp] theorem ev_call {f} : ev Φ (.call f t) ρ = (evT Φ t ρ >>= Φ f) := rfl
@[scoped simp] theorem ev_new {f} : ev Φ (.new f t) ρ = (evT Φ t ρ >>= fun vs => Φ f (.un :: vs)) := rfl
@[scoped simp] theorem mcall1_shop {f vs x y} : mcall1 Φ f vs (.shop x y) = (vs >>= fun vs => Φ f (.shop x y :: vs)) := rfl
@[scoped simp] theorem ev_mcall {f} : ev Φ (.mcall f a t) ρ = (ev Φ a ρ >>= mcall1 Φ f (evT Φ t ρ)) := rfl
@[scoped simp] theorem ev_bi {f} : ev Φ (.bi f t) ρ = (evT Φ t ρ >>= allB >>= biD f >>= fun d => .ok (.sh d)) := rfl
@[scoped simp] theorem ev_isi {f} : ev Φ (.isi f a) ρ = (ev Φ a ρ >>= isiV f >>= fun d => .ok (.sh (.bool d))) := rfl
@[scoped simp] theorem isiV_sh {f d} : isiV f (.sh d) = isiD f d := rfl
@[scoped simp] theorem isiV_bor {f d} : isiV f (.bor d) = isiD f (.lst d) := rfl
@[scoped simp] theorem isiV_own {f d} : isiV f (.own d) = isiD f (.lst d) := rfl
@[scoped simp] theorem ev_mkL_v {i} : ev Φ (.mkL (.v i)) ρ = (rd (ρ.getD i .un) >>= itemsS >>= fun ds => .ok (.own ds)) := rfl
@[scoped simp] theorem ev_mkT : ev Φ (.mkT a) ρ = (ev Φ a ρ >>= itemsL >>= fun ds => .ok (.sh (.tup ds))) := rfl
@[scoped simp] theorem ev_meth {m} : ev Φ (.meth m a t) ρ = (ev Φ a ρ >>= needB >>= fun x => if meOk m x then evT Φ t ρ >>= allB >>= meD m x else .bad) := rfl
@[scoped simp] theorem attr1_shop {k x y} : attr1 k (.shop x y) = .ok (.sh (.lst (if k then y else x))) := rfl
@[scoped simp] theorem ev_attr {k} : ev Φ (.attr k a) ρ = (ev Φ a ρ >>= attr1 k) := rfl
@[scoped simp] theorem lkI_some {i} : lkI (some i) = .ok (.sh (.int i)) := rfl
@[scoped simp] theorem dg1_str {k s} : dg1 k (.str s) = lk k s := rfl
@[scoped simp] theorem din1_str {k n s} : din1 k n (.str s) = .ok ((k.lookup s).isSome != n) := rfl
@[scoped simp] theorem ev_dget {k} : ev Φ (.dget k a) ρ = (ev Φ a ρ >>= needB >>= dg1 k) := rfl
@[scoped simp] theorem ev_din {k n} : ev Φ (.din k n a) ρ = (ev Φ a ρ >>= needB >>= din1 k n >>= fun r => .ok (.sh (.bool r))) := rfl
noncomputable def compF (Φ : Nat → List Val → Out Val) (elt : T) (tg : List Nat) (c : T) (ρ : List Val) (d : Dat) : Out (Option Dat) := compS (evA Φ elt) tg c (evA Φ c) ρ d
@[scoped simp] theorem ev_comp {tg} : ev Φ (.comp e tg t c) ρ = (its Φ t ρ >>= compL (compF Φ e tg c ρ) >>= fun r => .ok (.own r)) := rfl
@[scoped simp] theorem noX_ok {α : Type} {x : α} : noX (Out.ok x) = .ok x := rfl
theorem compF_nil {tg d} : compF Φ e tg .nil ρ d = noX (bindT tg d ρ >>= fun ρ' => ev Φ e ρ' >>= needD >>= fun x => .ok (some x)) := rfl
theorem compF_if {tg d} (hc : c.isNil = false) : compF Φ e tg c ρ d = noX (bindT tg d ρ >>= fun ρ' => ev Φ c ρ' >>= boolD >>= fun b => if b then ev Φ e ρ' >>= needD >>= fun x => .ok (some x) else .ok Option.none) := by
  show noX (bindT tg d ρ >>= fun ρ' => cond c.isNil (.ok true) (ev Φ c ρ' >>= boolD) >>= fun b => if b then ev Φ e ρ' >>= needD >>= fun x => .ok (some x) else .ok Option.none) = _
  rw [hc]; rfl
theorem rngOk_of {y : Int} (h0 : -1000 ≤ y) (h : y ≤ 1000) : rngD y = .ok (rangeL 0 1 y.toNat) := (rngD_eq y).trans (if_pos (by lia))
@[scoped simp] theorem its_rng1 : its Φ (.rng .nil b .nil) ρ = (ev Φ b ρ >>= intD >>= rngD) := rfl
theorem rngD2_of {y : Int} (h0 : -1000 ≤ y) (h : y ≤ 1000) : rngD2 1 y = .ok (rangeL 1 1 (y - 1).toNat) := (rngD2_eq 1 y).trans (if_pos (by lia))
@[scoped simp] theorem its_rng2I : its Φ (.rng (.cI 1) b .nil) ρ = (ev Φ b ρ >>= intD >>= rngD2 1) := rfl
@[scoped simp] theorem its_zip : its Φ (.zip a b) ρ = (ev Φ a ρ >>= argV >>= itemsS >>= fun x => ev Φ b ρ >>= argV >>= itemsS >>= fun y => .ok (zipD x y)) := rfl
@[scoped simp] theorem its_v {i} : its Φ (.v i) ρ = (rd (ρ.getD i .un) >>= argV >>= itemsV) := rfl
@[scoped simp] theorem its_idx : its Φ (.idx a b) ρ = (ev Φ (.idx a b) ρ >>= argV >>= itemsV) := rfl
@[scoped simp] theorem its_sl : its Φ (.sl a b c) ρ = (ev Φ (.sl a b c) ρ >>= argV >>= itemsV) := rfl
@[scoped simp] theorem its_bin {o} : its Φ (.bin o a b) ρ = (ev Φ (.bin o a b) ρ >>= argV >>= itemsV) := rfl
@[scoped simp] theorem itsF_rng : itsF Φ (.rng a b c) ρ = its Φ (.rng a b c) ρ := rfl
@[scoped simp] theorem itsF_zip : itsF Φ (.zip a b) ρ = (srcV Φ a ρ >>= itemsS >>= fun x => srcV Φ b ρ >>= itemsS >>= fun y => .ok (zipD x y)) := rfl
@[scoped simp] theorem srcF1_sh {d} : srcF1 (.sh d) = .ok (.sh d) := rfl
@[scoped simp] theorem srcF1_bor {d} : srcF1 (.bor d) = .ok (.bor d) := rfl
@[scoped simp] theorem srcV_v {i} : srcV Φ (.v i) ρ = srcF1 (ρ.getD i .un) := rfl
@[scoped simp] theorem srcE1_sh {d} : srcE1 (.sh d) = .ok (.sh d) := rfl
@[scoped simp] theorem srcE1_own {d} : srcE1 (.own d) = .ok (.sh (.lst d)) := rfl
@[scoped simp] theorem itsF_v {i} : itsF Φ (.v i) ρ = (srcF1 (ρ.getD i .un) >>= itemsV) := rfl
@[scoped simp] theorem itsF_idx : itsF Φ (.idx a b) ρ = (ev Φ (.idx a b) ρ >>= srcE1 >>= itemsV) := rfl
@[scoped simp] theorem itsF_call {f} : itsF Φ (.call f b) ρ = (ev Φ (.call f b) ρ >>= srcE1 >>= itemsV) := rfl
@[scoped simp] theorem itsF_sl : itsF Φ (.sl a b c) ρ = (ev Φ (.sl a b c) ρ >>= srcE1 >>= itemsV) := rfl
@[scoped simp] theorem itsF_tup : itsF Φ (.tup a) ρ = (ev Φ (.tup a) ρ >>= srcE1 >>= itemsV) := rfl
@[scoped simp] theorem seq_next {ρ f} : seq (.ok (.next,ρ)) f = f ρ := rfl
@[scoped simp] theorem seq_ret {ρ v f} : seq (.ok (.ret v,ρ)) f = .ok (.ret v,ρ) := rfl
@[scoped simp] theorem ex_nil : ex Φ .nil ρ = .ok (.next,ρ) := rfl
@[scoped simp] theorem ex_cons : ex Φ (.cons a b) ρ = seq (ex Φ a ρ) (ex Φ b) := rfl
@[scoped simp] theorem ex_asg {i} : ex Φ (.asg i e) ρ = (ev Φ e ρ >>= stoV >>= fun x => .ok (.next,ρ.set i x)) := rfl
@[scoped simp] theorem own1_own {l} : own1 (.own l) = .ok (.own l) := rfl
@[scoped simp] theorem ownX_own {f l} : ownX f (.own l) = f l := rfl
@[scoped simp] theorem ex_asgO {i} : ex Φ (.asgO i e) ρ = (ev Φ e ρ >>= own1 >>= fun x => .ok (.next,ρ.set i x)) := rfl
@[scoped simp] theorem ex_app {i} : ex Φ (.app i e) ρ = ownX (fun l => ev Φ e ρ >>= needD >>= fun d => if l.length < line then .ok (.next,ρ.set i (.own (l ++ [d]))) else .bad) (ρ.getD i .un) := rfl
@[scoped simp] theorem ex_seti {i} : ex Φ (.seti i a e) ρ = (ev Φ e ρ >>= needD >>= fun d => ownX (fun l => ev Φ a ρ >>= intD >>= fun j => if 0 ≤ j ∧ j < l.length then .ok (.next,ρ.set i (.own (l.set j.toNat d))) else .bad) (ρ.getD i .un)) := rfl
@[scoped simp] theorem ex_rvs {i} : ex Φ (.rvs i) ρ = ownX (fun l => .ok (.next,ρ.set i (.own l.reverse))) (ρ.getD i .un) := rfl
@[scoped simp] theorem ex_frz {i} : ex Φ (.frz i) ρ = ownX (fun l => .ok (.next,ρ.set i (.sh (.lst l)))) (ρ.getD i .un) := rfl
@[scoped simp] theorem un1_sh {ρ d} : un1 ρ (.sh d) = .ok (.next,ρ) := rfl
@[scoped simp] theorem un1_own {ρ d} : un1 ρ (.own d) = .ok (.next,ρ) := rfl
@[scoped simp] theorem un1_pr {ρ d l} : un1 ρ (.pr d l) = .ok (.next,ρ) := rfl
@[scoped simp] theorem ex_ex : ex Φ (.ex e) ρ = (ev Φ e ρ >>= un1 ρ) := rfl
@[scoped simp] theorem ex_iff : ex Φ (.iff c a b) ρ = (ev Φ c ρ >>= boolD >>= fun x => if x then ex Φ a ρ else ex Φ b ρ) := rfl
noncomputable def stepF (Φ : Nat → List Val → Out Val) (tg : List Nat) (b : T) (ρ : List Val) (d : Dat) : Out (Fl × List Val) := bindT tg d ρ >>= ex Φ b
@[scoped simp] theorem ex_for {tg} : ex Φ (.for_ tg t b) ρ = (itsF Φ t ρ >>= fun ds => forL (stepF Φ tg b) ds ρ) := rfl
noncomputable def stepW (Φ : Nat → List Val → Out Val) (c b : T) (ρ : List Val) : Out (Option (Fl × List Val)) := ev Φ c ρ >>= boolD >>= fun x => if x then ex Φ b ρ >>= fun r => .ok (some r) else .ok Option.none
@[scoped simp] theorem ex_whl : ex Φ (.whl c b) ρ = whlL (stepW Φ c b) turns ρ := rfl
@[scoped simp] theorem ex_ret : ex Φ (.ret e) ρ = (ev Φ e ρ >>= retV >>= fun x => .ok (.ret x,ρ)) := rfl
@[scoped simp] theorem ex_retO {i} : ex Φ (.retO i) ρ = ownX (fun l => .ok (.ret (.own l),ρ)) (ρ.getD i .un) := rfl
@[scoped simp] theorem ex_retP {i} : ex Φ (.retP e i) ρ = (ev Φ e ρ >>= needD >>= fun d => ownX (fun l => .ok (.ret (.pr d l),ρ)) (ρ.getD i .un)) := rfl
end
@[scoped simp] theorem outOf_ret {v ρ} : outOf (.ret v,ρ) = v := rfl
@[scoped simp] theorem outOf_next {ρ} : outOf (.next,ρ) = .sh .none := rfl
theorem runFn_plain {Φ f as} (h : f.init = Option.none) (hl : as.length = f.pars) : runFn Φ f as = (ex Φ f.body (as ++ List.replicate (f.names - f.pars) .un) >>= fun r => .ok (outOf r)) := by
  unfold runFn
  rw [if_pos hl,h]
@[scoped simp] theorem rd_sh {d} : rd (.sh d) = .ok (.sh d) := rfl
@[scoped simp] theorem rd_own {d} : rd (.own d) = .ok (.bor d) := rfl
@[scoped simp] theorem rd_bor {d} : rd (.bor d) = .ok (.bor d) := rfl
@[scoped simp] theorem rd_shop {a b} : rd (.shop a b) = .ok (.shop a b) := rfl
@[scoped simp] theorem needB_sh {d} : needB (.sh d) = .ok d := rfl
@[scoped simp] theorem needB_own {d} : needB (.own d) = .ok (.lst d) := rfl
@[scoped simp] theorem needB_bor {d} : needB (.bor d) = .ok (.lst d) := rfl
@[scoped simp] theorem needB_pr {d l} : needB (.pr d l) = .ok (.tup [d,.lst l]) := rfl
@[scoped simp] theorem needD_sh {d} : needD (.sh d) = .ok d := rfl
@[scoped simp] theorem needD_own {d} : needD (.own d) = .ok (.lst d) := rfl
@[scoped simp] theorem needD_pr {d l} : needD (.pr d l) = .ok (.tup [d,.lst l]) := rfl
@[scoped simp] theorem argV_sh {d} : argV (.sh d) = .ok (.sh d) := rfl
@[scoped simp] theorem argV_own {d} : argV (.own d) = .ok (.sh (.lst d)) := rfl
@[scoped simp] theorem argV_bor {d} : argV (.bor d) = .ok (.bor d) := rfl
@[scoped simp] theorem argV_pr {d l} : argV (.pr d l) = .ok (.sh (.tup [d,.lst l])) := rfl
@[scoped simp] theorem argV_shop {d l} : argV (.shop d l) = .ok (.shop d l) := rfl
@[scoped simp] theorem stoV_sh {d} : stoV (.sh d) = .ok (.sh d) := rfl
@[scoped simp] theorem stoV_own {d} : stoV (.own d) = .ok (.sh (.lst d)) := rfl
@[scoped simp] theorem stoV_pr {d l} : stoV (.pr d l) = .ok (.sh (.tup [d,.lst l])) := rfl
@[scoped simp] theorem stoV_shop {d l} : stoV (.shop d l) = .ok (.shop d l) := rfl
@[scoped simp] theorem retV_sh {d} : retV (.sh d) = .ok (.sh d) := rfl
@[scoped simp] theorem retV_own {d} : retV (.own d) = .ok (.own d) := rfl
@[scoped simp] theorem retV_pr {d l} : retV (.pr d l) = .ok (.pr d l) := rfl
@[scoped simp] theorem boolD_b {b} : boolD (.sh (.bool b)) = .ok b := rfl
@[scoped simp] theorem intD_i {i} : intD (.sh (.int i)) = .ok i := rfl
@[scoped simp] theorem allD_nil : allD [] = .ok [] := rfl
@[scoped simp] theorem allD_cons {v l} : allD (v :: l) = (needD v >>= fun d => allD l >>= fun ds => .ok (d :: ds)) := rfl
@[scoped simp] theorem allB_nil : allB [] = .ok [] := rfl
@[scoped simp] theorem allB_cons {v l} : allB (v :: l) = (needB v >>= fun d => allB l >>= fun ds => .ok (d :: ds)) := rfl
@[scoped simp] theorem bindT_one {i d ρ} : bindT [i] d ρ = .ok (ρ.set i (.sh d)) := rfl
@[scoped simp] theorem bindT_two {i j d e ρ} : bindT [i,j] (.tup [d,e]) ρ = .ok ((ρ.set i (.sh d)).set j (.sh e)) := rfl
@[scoped simp] theorem bindT_three {i j k d e f ρ} : bindT [i,j,k] (.tup [d,e,f]) ρ = .ok (((ρ.set i (.sh d)).set j (.sh e)).set k (.sh f)) := rfl
@[scoped simp] theorem itemsV_lst {l} : itemsV (.sh (.lst l)) = .ok l := rfl
@[scoped simp] theorem itemsV_tup {l} : itemsV (.sh (.tup l)) = .ok l := rfl
@[scoped simp] theorem itemsV_str {l} : itemsV (.sh (.str l)) = .ok (signs l) := rfl
@[scoped simp] theorem itemsV_own {l} : itemsV (.own l) = .ok l := rfl
@[scoped simp] theorem itemsV_bor {l} : itemsV (.bor l) = .ok l := rfl
@[scoped simp] theorem itemsS_lst {l} : itemsS (.sh (.lst l)) = .ok l := rfl
@[scoped simp] theorem itemsS_tup {l} : itemsS (.sh (.tup l)) = .ok l := rfl
@[scoped simp] theorem itemsS_own {l} : itemsS (.own l) = .ok l := rfl
@[scoped simp] theorem itemsS_bor {l} : itemsS (.bor l) = .ok l := rfl
@[scoped simp] theorem itemsL_lst {l} : itemsL (.sh (.lst l)) = .ok l := rfl
@[scoped simp] theorem itemsL_own {l} : itemsL (.own l) = .ok l := rfl
@[scoped simp] theorem itemsL_bor {l} : itemsL (.bor l) = .ok l := rfl
@[scoped simp] theorem add_i {a b} : binD .add (.int a) (.int b) = .ok (.sh (.int (a + b))) := rfl
@[scoped simp] theorem sub_i {a b} : binD .sub (.int a) (.int b) = .ok (.sh (.int (a - b))) := rfl
theorem mul_i {a b : Int} (h : a.natAbs < 2 ^ 64 ∨ b.natAbs < 2 ^ 64) : binD .mul (.int a) (.int b) = .ok (.sh (.int (a * b))) := if_pos h
theorem fdiv_i {a b : Int} (h0 : 0 < b) (h : b < 1073741824) : binD .fdiv (.int a) (.int b) = .ok (.sh (.int (a / b))) := by
  have : b ≠ 0 ∧ b.natAbs < 1073741824 := by lia
  rw [← Int.fdiv_eq_ediv_of_nonneg a (Int.le_of_lt h0)]
  exact if_pos this
theorem mod_i {a b : Int} (h0 : 0 < b) : binD .mod (.int a) (.int b) = .ok (.sh (.int (a % b))) := by
  rw [← Int.fmod_eq_emod_of_nonneg a (Int.le_of_lt h0)]
  exact if_pos (Int.ne_of_gt h0)
@[scoped simp] theorem add_l {a b : List Dat} : binD .add (.lst a) (.lst b) = if a.length + b.length ≤ line then .ok (.own (a ++ b)) else .bad := rfl
@[scoped simp] theorem add_s {a b : List Nat} : binD .add (.str a) (.str b) = if a.length + b.length ≤ line then .ok (.sh (.str (a ++ b))) else .bad := rfl
theorem mul_l1 {a : Dat} {n : Nat} (h : n ≤ 1000) : binD .mul (.lst [a]) (.int n) = .ok (.own (List.replicate n a)) := by
  have h' : [a].length * (n : Int).toNat ≤ line ∧ 0 ≤ (n : Int) ∧ (n : Int) < 2 ^ 20 := by simp only [line,List.length_singleton]; lia
  refine (if_pos h').trans ?_
  simp
@[scoped simp] theorem lt_i {a b} : cmpD .lt (.int a) (.int b) = .ok (decide (a < b)) := rfl
@[scoped simp] theorem le_i {a b} : cmpD .le (.int a) (.int b) = .ok (decide (a ≤ b)) := rfl
@[scoped simp] theorem gt_i {a b} : cmpD .gt (.int a) (.int b) = .ok (decide (b < a)) := rfl
@[scoped simp] theorem ge_i {a b} : cmpD .ge (.int a) (.int b) = .ok (decide (b ≤ a)) := rfl
@[scoped simp] theorem eq_i {a b : Int} : cmpD .eq (.int a) (.int b) = .ok (a == b) := rfl
@[scoped simp] theorem ne_i {a b : Int} : cmpD .ne (.int a) (.int b) = .ok (!(a == b)) := rfl
theorem deq_str {a b : List Nat} : Dat.eq (.str a) (.str b) = (a == b) := by
  show ((⟨a.toArray⟩ : PySem.Str) == ⟨b.toArray⟩) = (a == b)
  rw [Bool.eq_iff_iff]
  simp
@[scoped simp] theorem eq_s {a b : List Nat} : cmpD .eq (.str a) (.str b) = .ok (a == b) := by rw [← deq_str]; rfl
@[scoped simp] theorem ne_s {a b : List Nat} : cmpD .ne (.str a) (.str b) = .ok (!(a == b)) := by rw [← deq_str]; rfl
@[scoped simp] theorem notin_c {c : Nat} {b : List Nat} : cmpD .notin (.str [c]) (.str b) = .ok (!decide (c ∈ b)) := rfl
@[scoped simp] theorem isin_c {c : Nat} {b : List Nat} : cmpD .isin (.str [c]) (.str b) = .ok (decide (c ∈ b)) := rfl
@[scoped simp] theorem meOk_idx {l} : meOk .index (.lst l) = true := rfl
@[scoped simp] theorem meD_idx {l a} : meD .index (.lst l) [a] = indexD l a := rfl
@[scoped simp] theorem len_s {s : List Nat} : biD .len [.str s] = .ok (.int s.length) := rfl
@[scoped simp] theorem len_l {s : List Dat} : biD .len [.lst s] = .ok (.int s.length) := rfl
@[scoped simp] theorem len_t {s : List Dat} : biD .len [.tup s] = .ok (.int s.length) := rfl
@[scoped simp] theorem int_b {b : Bool} : biD .int [.bool b] = .ok (.int (if b then 1 else 0)) := rfl
@[scoped simp] theorem max_i {a b : Int} : biD .max [.int a,.int b] = .ok (.int (if b > a then b else a)) := rfl
@[scoped simp] theorem min_i {a b : Int} : biD .min [.int a,.int b] = .ok (.int (if b < a then b else a)) := rfl
@[scoped simp] theorem isi_int_int {i} : isiD .int (.int i) = .ok true := rfl
@[scoped simp] theorem isi_bool_int {i} : isiD .bool (.int i) = .ok false := rfl
@[scoped simp] theorem isi_str_str {i} : isiD .str (.str i) = .ok true := rfl
@[scoped simp] theorem isi_str_int {i} : isiD .str (.int i) = .ok false := rfl
@[scoped simp] theorem isi_str_tup {i} : isiD .str (.tup i) = .ok false := rfl
@[scoped simp] theorem isi_list_lst {i} : isiD .list (.lst i) = .ok true := rfl
@[scoped simp] theorem isi_tup_tup {i} : isiD .tuple (.tup i) = .ok true := rfl
@[scoped simp] theorem isi_tup_str {i} : isiD .tuple (.str i) = .ok false := rfl
@[scoped simp] theorem isi_tup_int {i} : isiD .tuple (.int i) = .ok false := rfl
theorem forL_next {f ρ ρ' d ds} (h : f ρ d = .ok (.next,ρ')) : forL f (d :: ds) ρ = forL f ds ρ' := by show seq (f ρ d) (forL f ds) = _; rw [h]; rfl
theorem forL_ret {f ρ ρ' v d ds} (h : f ρ d = .ok (.ret v,ρ')) : forL f (d :: ds) ρ = .ok (.ret v,ρ') := by show seq (f ρ d) (forL f ds) = _; rw [h]; rfl
theorem compL_map {f : Dat → Out (Option Dat)} {g : Dat → Dat} : ∀ {ds : List Dat},(∀ d ∈ ds,f d = .ok (some (g d))) → compL f ds = .ok (ds.map g)
  | [],_ => rfl
  | d :: ds,h => by
    simp only [compL,h d (List.mem_cons_self ..),Out.bind_ok,compL_map fun d' m => h d' (List.mem_cons_of_mem _ m),List.map_cons]
theorem compL_mapO {α : Type} {f : Dat → Out (Option Dat)} {e : α → Dat} {g : α → Option Dat} : ∀ {l : List α},(∀ a ∈ l,f (e a) = .ok (g a)) → compL f (l.map e) = .ok (l.filterMap g)
  | [],_ => rfl
  | d :: ds,h => by
    simp only [List.map_cons,compL,h d (List.mem_cons_self ..),Out.bind_ok]
    cases hp : g d
    · simp [hp,compL_mapO fun d' m => h d' (List.mem_cons_of_mem _ m)]
    · simp [hp,compL_mapO fun d' m => h d' (List.mem_cons_of_mem _ m)]
theorem ex_step {Φ : Nat → List Val → Out Val} {a b : T} {ρ ρ' : List Val} {v : Val} (h : ex Φ a ρ = .ok (.next,ρ')) (k : ∃ ρ2,ex Φ b ρ' = .ok (.ret v,ρ2)) : ∃ ρ2,ex Φ (.cons a b) ρ = .ok (.ret v,ρ2) := by
  show ∃ ρ2,seq (ex Φ a ρ) (ex Φ b) = .ok (.ret v,ρ2)
  rw [h]; exact k
theorem ex_next {Φ : Nat → List Val → Out Val} {a b : T} {ρ ρ' : List Val} {r : Out (Fl × List Val)} (h : ex Φ a ρ = .ok (.next,ρ')) (k : ex Φ b ρ' = r) : ex Φ (.cons a b) ρ = r := by
  show seq (ex Φ a ρ) (ex Φ b) = r
  rw [h]; exact k
theorem ex_ret1 {Φ : Nat → List Val → Out Val} {a b : T} {ρ ρ' : List Val} {v : Val} (h : ex Φ a ρ = .ok (.ret v,ρ')) : ∃ ρ2,ex Φ (.cons a b) ρ = .ok (.ret v,ρ2) := by
  rw [ex_cons,h]; exact ⟨ρ',rfl⟩
theorem ex_stepP {P : Val → Prop} {Φ : Nat → List Val → Out Val} {a b : T} {ρ ρ' : List Val} (h : ex Φ a ρ = .ok (.next,ρ')) (k : ∃ v,P v ∧ ∃ ρ2,ex Φ b ρ' = .ok (.ret v,ρ2)) : ∃ v,P v ∧ ∃ ρ2,ex Φ (.cons a b) ρ = .ok (.ret v,ρ2) := by
  rw [ex_cons,h]; exact k
theorem ex_retsP {P : Val → Prop} {Φ : Nat → List Val → Out Val} {a b : T} {ρ ρ' : List Val} {v : Val} (h : ex Φ a ρ = .ok (.ret v,ρ')) (hp : P v) : ∃ v,P v ∧ ∃ ρ2,ex Φ (.cons a b) ρ = .ok (.ret v,ρ2) := by
  rw [ex_cons,h]; exact ⟨v,hp,ρ',rfl⟩
end Mine.PL
namespace Mine.PL
open Mine
section
variable {Φ : Nat → List Val → Out Val} {ρ : List Val} {a b c e t : T} {i f : Nat} {as : List Val} {v x y : Val} {d d' : Dat} {k : Int} {p q : Bool} {l : List Dat} {r : Out (Fl × List Val)}
theorem ob {α β : Type} {r : Out α} {x : α} {f : α → Out β} {z : Out β} (h : r = .ok x) (k : f x = z) : (r >>= f) = z := h ▸ k
theorem sv_call (h1 : evT Φ t ρ = .ok as) (h2 : Φ f as = .ok v) : ev Φ (.call f t) ρ = .ok v := ob h1 h2
theorem sv_new (h1 : evT Φ t ρ = .ok as) (h2 : Φ f (.un :: as) = .ok v) : ev Φ (.new f t) ρ = .ok v := ob (f := fun vs => Φ f (.un :: vs)) h1 h2
theorem sv_cmp {o : COp} (ha : ev Φ a ρ = .ok x) (hb : ev Φ b ρ = .ok y) (hx : needB x = .ok d) (hy : needB y = .ok d') (hc : cmpD o d d' = .ok p) : ev Φ (.cmp o a b) ρ = .ok (.sh (.bool p)) :=
  ob (ob (ob ha hx) (ob (ob hb hy) hc)) rfl
theorem sv_bin {o : BOp} (ha : ev Φ a ρ = .ok x) (hb : ev Φ b ρ = .ok y) (hx : needB x = .ok d) (hy : needB y = .ok d') (hc : binD o d d' = .ok v) : ev Φ (.bin o a b) ρ = .ok v := ob (ob ha hx) (ob (ob hb hy) hc)
theorem sv_not (h : ev Φ a ρ = .ok (.sh (.bool p))) : ev Φ (.not a) ρ = .ok (.sh (.bool (!p))) := ob (ob (ob h rfl) rfl) rfl
theorem sv_or (ha : ev Φ a ρ = .ok (.sh (.bool false))) (hb : ev Φ b ρ = .ok (.sh (.bool p))) : ev Φ (.or a b) ρ = .ok (.sh (.bool p)) := ob (f := fun r => Out.ok (Val.sh (.bool r))) (ob (ob ha rfl) (ob hb rfl)) rfl
theorem sv_or_t (ha : ev Φ a ρ = .ok (.sh (.bool true))) : ev Φ (.or a b) ρ = .ok (.sh (.bool true)) := ob (f := fun r => Out.ok (Val.sh (.bool r))) (ob (x := true) (ob ha rfl) rfl) rfl
theorem sv_and (ha : ev Φ a ρ = .ok (.sh (.bool true))) (hb : ev Φ b ρ = .ok (.sh (.bool p))) : ev Φ (.and a b) ρ = .ok (.sh (.bool p)) := ob (f := fun r => Out.ok (Val.sh (.bool r))) (ob (ob ha rfl) (ob hb rfl)) rfl
theorem sv_idx (ha : ev Φ a ρ = .ok x) (hb : ev Φ b ρ = .ok (.sh (.int k))) (h : idx2 x k = .ok v) : ev Φ (.idx a b) ρ = .ok v := ob (f := fun x => ev Φ b ρ >>= intD >>= fun k => idx2 x k) ha (ob (ob hb rfl) h)
theorem sv_bi {o : BI} (h1 : evT Φ t ρ = .ok as) (h2 : allB as = .ok l) (h3 : biD o l = .ok d) : ev Φ (.bi o t) ρ = .ok (.sh d) := ob (ob (ob h1 h2) h3) rfl
theorem needX_of (h : needB x = .ok d) : needX x = .ok (.inl d) := by
  cases x <;> first | (show (needB _ >>= _) = _; rw [h]; rfl) | cases h
theorem sv_isi {o : Ty} (h1 : ev Φ a ρ = .ok x) (h2 : needB x = .ok d) (h3 : isiD o d = .ok p) : ev Φ (.isi o a) ρ = .ok (.sh (.bool p)) := ob (r := ev Φ a ρ >>= isiV o) (ob h1 (ob (f := isiY o) (needX_of h2) h3)) rfl
theorem sv_comp {tg : List Nat} {ds : List Dat} (h1 : its Φ t ρ = .ok ds) (h2 : compL (compF Φ e tg c ρ) ds = .ok l) : ev Φ (.comp e tg t c) ρ = .ok (.own l) := ob (ob h1 h2) rfl
theorem st_cons (ha : ev Φ a ρ = .ok v) (hx : argV v = .ok x) (hb : evT Φ b ρ = .ok as) : evT Φ (.cons a b) ρ = .ok (x :: as) := ob (ob ha hx) (ob hb rfl)
theorem sx_asg (h : ev Φ e ρ = .ok v) (hs : stoV v = .ok x) : ex Φ (.asg i e) ρ = .ok (.next,ρ.set i x) := ob (ob h hs) rfl
theorem sx_asgO (h : ev Φ e ρ = .ok (.own l)) : ex Φ (.asgO i e) ρ = .ok (.next,ρ.set i (.own l)) := ob (ob h rfl) rfl
theorem sx_ex (h : ev Φ e ρ = .ok v) (hu : un1 ρ v = .ok (.next,ρ)) : ex Φ (.ex e) ρ = .ok (.next,ρ) := ob h hu
theorem sx_no (h : ev Φ c ρ = .ok (.sh (.bool false))) : ex Φ (.iff c a .nil) ρ = .ok (.next,ρ) := ob (r := ev Φ c ρ >>= boolD) (f := fun x => if x then ex Φ a ρ else ex Φ .nil ρ) (ob h rfl) rfl
theorem sx_else (h : ev Φ c ρ = .ok (.sh (.bool false))) (k : ex Φ b ρ = r) : ex Φ (.iff c a b) ρ = r := ob (r := ev Φ c ρ >>= boolD) (f := fun x => if x then ex Φ a ρ else ex Φ b ρ) (ob h rfl) k
theorem sx_yes (h : ev Φ c ρ = .ok (.sh (.bool true))) (k : ex Φ a ρ = r) : ex Φ (.iff c a b) ρ = r := ob (r := ev Φ c ρ >>= boolD) (f := fun x => if x then ex Φ a ρ else ex Φ b ρ) (ob h rfl) k
theorem sx_app (hl : ρ.getD i .un = .own l) (h : ev Φ e ρ = .ok v) (hd : needD v = .ok d) (hn : l.length < line) : ex Φ (.app i e) ρ = .ok (.next,ρ.set i (.own (l ++ [d]))) := by
  show ownX _ (ρ.getD i .un) = _
  rw [hl]
  exact ob (ob h hd) (if_pos hn)
theorem sx_for {tg : List Nat} {ds : List Dat} (h1 : itsF Φ t ρ = .ok ds) (h2 : forL (stepF Φ tg b) ds ρ = r) : ex Φ (.for_ tg t b) ρ = r := ob h1 h2
theorem sv_rng {ds : List Dat} (h : ev Φ b ρ = .ok (.sh (.int k))) (h2 : rngD k = .ok ds) : itsF Φ (.rng .nil b .nil) ρ = .ok ds := ob (r := ev Φ b ρ >>= intD) (ob h rfl) h2
theorem sv_rngI {ds : List Dat} (h : ev Φ b ρ = .ok (.sh (.int k))) (h2 : rngD k = .ok ds) : its Φ (.rng .nil b .nil) ρ = .ok ds := ob (r := ev Φ b ρ >>= intD) (ob h rfl) h2
theorem sv_mkT (h : ev Φ a ρ = .ok v) (h2 : itemsL v = .ok l) : ev Φ (.mkT a) ρ = .ok (.sh (.tup l)) := ob (ob h h2) rfl
theorem sv_lst (h1 : evT Φ t ρ = .ok as) (h2 : allD as = .ok l) : ev Φ (.lst t) ρ = .ok (.own l) := ob (ob h1 h2) rfl
theorem sv_tup (h1 : evT Φ t ρ = .ok as) (h2 : allD as = .ok l) : ev Φ (.tup t) ρ = .ok (.sh (.tup l)) := ob (ob h1 h2) rfl
theorem sv_meth {m : Me} (ha : ev Φ a ρ = .ok x) (hx : needB x = .ok d) (hm : meOk m d = true) (hb : evT Φ t ρ = .ok as) (hl : allB as = .ok l) (h : meD m d l = .ok v) : ev Φ (.meth m a t) ρ = .ok v :=
  ob (f := fun x => if meOk m x then evT Φ t ρ >>= allB >>= meD m x else .bad) (ob ha hx) ((if_pos hm).trans (ob (ob hb hl) h))
theorem sv_idxT (ha : ev Φ a ρ = .ok (.sh (.tup l))) (hb : ev Φ b ρ = .ok (.sh (.int k))) (h : idxL l k = .ok v) : ev Φ (.idx a b) ρ = .ok v := sv_idx ha hb h
theorem sv_idxL (ha : ev Φ a ρ = .ok (.sh (.lst l))) (hb : ev Φ b ρ = .ok (.sh (.int k))) (h : idxL l k = .ok v) : ev Φ (.idx a b) ρ = .ok v := sv_idx ha hb h
theorem cut_one {α : Type} {d : α} {l : List α} : cut (some 1) Option.none (d :: l) = l := by
  unfold cut
  have h : clampAt (d :: l).length 1 = 1 := by unfold clampAt; simp only [List.length_cons]; lia
  show ((d :: l).drop (clampAt (d :: l).length 1)).take ((d :: l).length - clampAt (d :: l).length 1) = l
  rw [h]
  exact List.take_length
theorem sv_slT (ha : ev Φ a ρ = .ok (.sh (.tup (d :: l)))) : itsF Φ (.sl a (.cI 1) .nil) ρ = .ok l := by
  show (ev Φ a ρ >>= needB >>= fun x => sl2 x (some 1) Option.none) >>= srcE1 >>= itemsV = _
  rw [ha]
  show Out.ok (cut (some 1) Option.none (d :: l)) = _
  rw [cut_one]
theorem sv_itsI (h : ev Φ (.idx a b) ρ = .ok (.sh (.tup l))) : itsF Φ (.idx a b) ρ = .ok l := by
  show ev Φ (.idx a b) ρ >>= srcE1 >>= itemsV = _
  rw [h]; rfl
theorem sb {o : BOp} {m n : Int} (ha : ev Φ a ρ = .ok (.sh (.int m))) (hb : ev Φ b ρ = .ok (.sh (.int n))) (h : binD o (.int m) (.int n) = .ok v) : ev Φ (.bin o a b) ρ = .ok v := sv_bin ha hb rfl rfl h
theorem sv_and_f (ha : ev Φ a ρ = .ok (.sh (.bool false))) : ev Φ (.and a b) ρ = .ok (.sh (.bool false)) := ob (f := fun r => Out.ok (Val.sh (.bool r))) (ob (x := false) (ob ha rfl) rfl) rfl
theorem sx_cret (h : ev Φ e ρ = .ok v) (hr : retV v = .ok x) : ex Φ (.cons (.ret e) b) ρ = .ok (.ret x,ρ) := by
  show seq (ev Φ e ρ >>= retV >>= fun x => .ok (.ret x,ρ)) (ex Φ b) = _
  rw [h]
  show seq (retV v >>= fun x => .ok (.ret x,ρ)) (ex Φ b) = _
  rw [hr]; rfl
theorem sv_mcall {z w : List Dat} (ha : ev Φ a ρ = .ok (.shop z w)) (h1 : evT Φ t ρ = .ok as) (h2 : Φ f (.shop z w :: as) = .ok v) : ev Φ (.mcall f a t) ρ = .ok v := ob ha (ob (f := fun vs => Φ f (.shop z w :: vs)) h1 h2)
theorem sv_itsC (h : ev Φ (.call f t) ρ = .ok (.own l)) : itsF Φ (.call f t) ρ = .ok l := by
  show ev Φ (.call f t) ρ >>= srcE1 >>= itemsV = _
  rw [h]; rfl
theorem sx_ret (h : ev Φ e ρ = .ok v) (hr : retV v = .ok x) : ex Φ (.ret e) ρ = .ok (.ret x,ρ) := ob (ob h hr) rfl
theorem run_ret (h : ∃ ρ2,ex Φ t ρ = .ok (.ret v,ρ2)) : (ex Φ t ρ >>= fun r => Out.ok (outOf r)) = .ok v := by
  obtain ⟨ρ2,h⟩ := h
  exact ob h rfl
theorem run_next {ρ' : List Val} (h : ex Φ t ρ = .ok (.next,ρ')) : (ex Φ t ρ >>= fun r => Out.ok (outOf r)) = .ok (.sh .none) := ob h rfl
theorem sv_rng2 {Φ : Nat → List Val → Out Val} {b : T} {ρ : List Val} {k : Int} {ds : List Dat} (h : ev Φ b ρ = .ok (.sh (.int k))) (h2 : rngD2 1 k = .ok ds) : itsF Φ (.rng (.cI 1) b .nil) ρ = .ok ds := ob (r := ev Φ b ρ >>= intD) (ob h rfl) h2
theorem sw_no (h : ev Φ c ρ = .ok (.sh (.bool false))) : stepW Φ c b ρ = .ok Option.none := ob (r := ev Φ c ρ >>= boolD) (f := fun x => if x then ex Φ b ρ >>= fun r => .ok (some r) else .ok Option.none) (ob h rfl) rfl
theorem sw_yes {r : Fl × List Val} (h : ev Φ c ρ = .ok (.sh (.bool true))) (k : ex Φ b ρ = .ok r) : stepW Φ c b ρ = .ok (some r) := ob (r := ev Φ c ρ >>= boolD) (f := fun x => if x then ex Φ b ρ >>= fun r => .ok (some r) else .ok Option.none) (ob h rfl) (ob k rfl)
theorem nx {α : Type} {r : Out α} {x : α} (h : r = .ok x) : noX r = .ok x := by rw [h]; rfl
theorem cf_nil {tg : List Nat} {ρ' : List Val} (hb : bindT tg d ρ = .ok ρ') (h : ev Φ e ρ' = .ok v) (hx : needD v = .ok d') : compF Φ e tg .nil ρ d = .ok (some d') := compF_nil.trans (nx (ob hb (ob (ob h hx) rfl)))
theorem cf_no {tg : List Nat} {ρ' : List Val} (hc : c.isNil = false) (hb : bindT tg d ρ = .ok ρ') (h : ev Φ c ρ' = .ok (.sh (.bool false))) : compF Φ e tg c ρ d = .ok Option.none := (compF_if hc).trans (nx (ob hb (ob (r := ev Φ c ρ' >>= boolD) (f := fun b => if b then ev Φ e ρ' >>= needD >>= fun x => .ok (some x) else .ok Option.none) (ob h rfl) rfl)))
theorem cf_yes {tg : List Nat} {ρ' : List Val} (hc : c.isNil = false) (hb : bindT tg d ρ = .ok ρ') (h : ev Φ c ρ' = .ok (.sh (.bool true))) (he : ev Φ e ρ' = .ok v) (hx : needD v = .ok d') : compF Φ e tg c ρ d = .ok (some d') := (compF_if hc).trans (nx (ob hb (ob (r := ev Φ c ρ' >>= boolD) (f := fun b => if b then ev Φ e ρ' >>= needD >>= fun x => .ok (some x) else .ok Option.none) (ob h rfl) (ob (ob he hx) rfl))))
theorem sx_stop {ρ' : List Val} (h : ex Φ a ρ = .ok (.ret v,ρ')) : ex Φ (.cons a b) ρ = .ok (.ret v,ρ') := by
  show seq (ex Φ a ρ) (ex Φ b) = _
  rw [h]; rfl
end
end Mine.PL
namespace Mine.PL
open Mine
structure Has01 (fns : List Fn) : Prop where
  b0 : fns[0]? = some f_between
  b1 : fns[1]? = some f_is_name
structure Has1 (fns : List Fn) : Prop extends Has01 fns where
  b2 : fns[2]? = some f_Shop_init
  b3 : fns[3]? = some f_Shop_place
noncomputable def letters : List Nat := [97,98,99,100,101,102,103,104,105,106,107,108,109,110,111,112,113,114,115,116,117,118,119,120,121,122]
noncomputable def NameOk (s : List Nat) : Prop := 1 ≤ s.length ∧ s.length ≤ 8 ∧ ∀ c ∈ s,c ∈ letters
variable {fns : List Fn}
theorem sp_between (H : Has01 fns) (n : Nat) (x lo hi : Int) : callF fns (n + 1) 0 [.sh (.int x),.sh (.int lo),.sh (.int hi)] = .ok (.sh (.bool (decide (lo ≤ x) && decide (x ≤ hi)))) := by
  rw [callF_succ H.b0,runFn_plain rfl rfl]
  by_cases h : lo ≤ x <;> simp [f_between,t_between,h]
theorem for_name (Φ) (s : List Nat) : ∀ (l : List Nat) (y : Val),(∀ c ∈ l,c ∈ letters) → ∃ ρ,forL (stepF Φ [1] b_is_name_1) (signs l) [.sh (.str s),y] = .ok (.next,ρ)
  | [],y,_ => ⟨_,rfl⟩
  | c :: l,y,h => by
    obtain ⟨ρ,e⟩ := for_name Φ s l (.sh (.str [c])) (fun c hc => h c (List.mem_cons_of_mem _ hc))
    refine ⟨ρ,?_⟩
    rw [signs,List.map_cons,forL_next,← signs,e]
    have hc := h c (List.mem_cons_self ..)
    simp only [letters] at hc
    simp [stepF,b_is_name_1,hc]
theorem sp_is_name (H : Has1 fns) (n : Nat) (s : List Nat) (h : NameOk s) : callF fns (n + 1) 1 [.sh (.str s)] = .ok (.sh (.bool true)) := by
  rw [callF_succ H.b1,runFn_plain rfl rfl]
  obtain ⟨h1,h2,h3⟩ := h
  have h1' : (1 : Int) ≤ s.length := by lia
  have h2' : ¬ (8 : Int) < s.length := by lia
  obtain ⟨ρ,e⟩ := for_name (callF fns n) s s .un h3
  simp [f_is_name,t_is_name,h1',h2',e]
noncomputable abbrev Kind := List Nat × Int
noncomputable def kD (k : Kind) : Dat := .tup [.str k.1,.int k.2]
noncomputable def nD (ks : List Kind) : List Dat := ks.map fun k => .str k.1
noncomputable def pD (ks : List Kind) : List Dat := ks.map fun k => .int k.2
structure KindsOk (ks : List Kind) : Prop where
  len1 : 1 ≤ ks.length
  len5 : ks.length ≤ 5
  names : ∀ k ∈ ks,NameOk k.1
  nodup : (ks.map (·.1)).Nodup
  prices : ∀ k ∈ ks,0 ≤ k.2 ∧ k.2 ≤ 100000
theorem any_names (ks : List Kind) (s : List Nat) : (nD ks).any (fun x => Dat.eq x (.str s)) = decide (s ∈ ks.map (·.1)) := by
  induction ks with
  | nil => rfl
  | cons k ks ih =>
    show (Dat.eq (.str k.1) (.str s) || (nD ks).any (fun x => Dat.eq x (.str s))) = _
    rw [ih,deq_str]
    by_cases e : k.1 = s
    · simp [e]
    · have : (k.1 == s) = false := by simp [e]
      have e' : s ≠ k.1 := fun x => e x.symm
      simp [this,e']
theorem fine_names (ks : List Kind) : (nD ks).all (Dat.fine 20) = true := by
  induction ks with
  | nil => rfl
  | cons k ks ih => exact ih
theorem in_names (ks : List Kind) (s : List Nat) : cmpD .isin (.str s) (.lst (nD ks)) = .ok (decide (s ∈ ks.map (·.1))) := by
  rw [← any_names]
  exact if_pos (fine_names ks)
theorem notin_names (ks : List Kind) (s : List Nat) : cmpD .notin (.str s) (.lst (nD ks)) = .ok (!decide (s ∈ ks.map (·.1))) := by
  rw [← any_names]
  exact if_pos (fine_names ks)
theorem runFn_init {Φ f as i j ρ x y} (h : f.init = some (i,j)) (hl : as.length = f.pars) (he : ex Φ f.body (as ++ List.replicate (f.names - f.pars) .un) = .ok (.next,ρ))
    (hx : ρ.getD i .un = .own x) (hy : ρ.getD j .un = .own y) : runFn Φ f as = .ok (.shop x y) := by
  unfold runFn
  rw [if_pos hl,h]
  show (ex Φ f.body _ >>= shopOf i j) = _
  rw [he]
  show (needD (ρ.getD i .un) >>= fun x => needD (ρ.getD j .un) >>= fun y => shop2 x y) = _
  rw [hx,hy]; rfl
theorem sp_shop (H : Has1 fns) (n : Nat) (ks : List Kind) (h : KindsOk ks) : callF fns (n + 2) 2 [.un,.sh (.lst (ks.map kD))] = .ok (.shop (nD ks) (pD ks)) := by
  rw [callF_succ H.b2]
  have hl1 : (1 : Int) ≤ ks.length := by have := h.len1; lia
  have hl5 : ¬ (5 : Int) < ks.length := by have := h.len5; lia
  have loop : ∀ (post pre : List Kind) (y : Val),ks = pre ++ post → ∃ z,forL (stepF (callF fns (n + 1)) [4]
      b_Shop_init_1)
      (post.map kD) [.un,.sh (.lst (ks.map kD)),.own (nD pre),.own (pD pre),y] = .ok (.next,[.un,.sh (.lst (ks.map kD)),.own (nD ks),.own (pD ks),z]) := by
    intro post
    induction post with
    | nil => intro pre y e; simp only [List.append_nil] at e; subst e; exact ⟨y,rfl⟩
    | cons k post ih =>
      intro pre y e
      obtain ⟨z,ez⟩ := ih (pre ++ [k]) (.sh (kD k)) (by simp [e])
      refine ⟨z,?_⟩
      have hk : k ∈ ks := by rw [e]; simp
      have hn := sp_is_name H n k.1 (h.names k hk)
      have hb := sp_between H.toHas01 n k.2 0 100000
      have hp := h.prices k hk
      have hnin : ¬ k.1 ∈ pre.map (·.1) := by
        have := h.nodup
        rw [e] at this
        simp only [List.map_append,List.map_cons,List.nodup_append] at this
        intro hm
        exact this.2.2 k.1 hm k.1 (List.mem_cons_self ..) rfl
      have hlen : pre.length < line := by
        have := h.len5; rw [e] at this; simp at this; simp only [line]; lia
      have hi := in_names pre k.1
      have en : nD pre ++ [Dat.str k.1] = nD (pre ++ [k]) := by simp [nD]
      have ep : pD pre ++ [Dat.int k.2] = pD (pre ++ [k]) := by simp [pD]
      have l1 : (nD pre).length < line := by simpa [nD] using hlen
      have l2 : (pD pre).length < line := by simpa [pD] using hlen
      rw [decide_eq_false hnin] at hi
      rw [decide_eq_true hp.1,decide_eq_true hp.2] at hb
      refine (forL_next ?_).trans ez
      show ex (callF fns (n + 1)) b_Shop_init_1 [.un,.sh (.lst (ks.map kD)),.own (nD pre),.own (pD pre),.sh (kD k)] = _
      rw [← en,← ep]
      exact ex_next (sx_no (sv_or rfl (sv_or rfl (sv_not (sv_call rfl hn))))) (ex_next (sx_no (sv_cmp rfl rfl rfl rfl hi)) (ex_next (sx_no (sv_not (sv_call rfl hb))) (ex_next (sx_app rfl rfl rfl l1) (ex_next (sx_app rfl rfl rfl l2) rfl))))
  obtain ⟨z,ez⟩ := loop ks [] .un rfl
  refine runFn_init (ρ := [.un,.sh (.lst (ks.map kD)),.own (nD ks),.own (pD ks),z]) (x := nD ks) (y := pD ks) rfl rfl ?_ rfl rfl
  simp only [nD,pD,List.map_nil] at ez
  simp [f_Shop_init,t_Shop_init,hl1,hl5,ez,nD,pD]
theorem idx_names (ks : List Kind) (s : List Nat) (i : Nat) (h : (ks.map (·.1)).findIdx? (· == s) = some i) : indexD (nD ks) (.str s) = .ok (.sh (.int i)) := by
  have h2 : ∀ ks : List Kind,(nD ks).findIdx? (fun x => Dat.eq x (.str s)) = (ks.map (·.1)).findIdx? (· == s) := by
    intro ks
    induction ks with
    | nil => rfl
    | cons k ks ih =>
      simp only [nD,List.map_cons,List.findIdx?_cons] at ih ⊢
      rw [ih,deq_str]
  refine (if_pos (fine_names ks)).trans ?_
  rw [h2,h]
noncomputable def placeOf (ks : List Kind) (s : List Nat) : Nat := (ks.map (·.1)).findIdx (· == s)
theorem placeOf_lt {ks : List Kind} {s : List Nat} (h : s ∈ ks.map (·.1)) : placeOf ks s < ks.length := by
  have := List.findIdx_lt_length_of_exists (xs := ks.map (·.1)) (p := (· == s)) ⟨s,h,by simp⟩
  simpa [placeOf] using this
theorem placeOf_some {ks : List Kind} {s : List Nat} (h : s ∈ ks.map (·.1)) : (ks.map (·.1)).findIdx? (· == s) = some (placeOf ks s) := by
  have := List.findIdx_lt_length_of_exists (xs := ks.map (·.1)) (p := (· == s)) ⟨s,h,by simp⟩
  rw [List.findIdx?_eq_some_iff_findIdx_eq]
  exact ⟨this,rfl⟩
theorem sp_place (H : Has1 fns) (n : Nat) (ks : List Kind) (s : List Nat) (hs : NameOk s) (h : s ∈ ks.map (·.1)) :
    callF fns (n + 2) 3 [.shop (nD ks) (pD ks),.sh (.str s)] = .ok (.sh (.int (placeOf ks s))) := by
  rw [callF_succ H.b3,runFn_plain rfl rfl]
  have hn := sp_is_name H n s hs
  have hi := notin_names ks s
  rw [decide_eq_true h] at hi
  have := idx_names ks s _ (placeOf_some h)
  exact run_ret (ex_step (sx_no (sv_or (sv_not (sv_call rfl hn)) (sv_cmp rfl rfl rfl rfl hi))) (ex_ret1 (sx_ret (sv_meth rfl rfl rfl rfl rfl this) rfl)))
end Mine.PL
namespace Mine.PL
open Mine
structure Has3 (fns : List Fn) : Prop where
  b20 : fns[20]? = some f_l_cell_at
  b21 : fns[21]? = some f_l_number
  b22 : fns[22]? = some f_l_name_by
  b23 : fns[23]? = some f_l_kinds
variable {fns : List Fn}
noncomputable def iD (l : List Int) : List Dat := l.map .int
@[scoped simp] theorem iD_length {l} : (iD l).length = l.length := by simp [iD]
theorem iD_get {l : List Int} {k : Nat} : (iD l)[k]? = l[k]?.map Dat.int := by simp [iD]
theorem len_ints (l : List Int) : biD .len [.lst (iD l)] = .ok (.int l.length) := by show Out.ok (Dat.int ((iD l).length : Int)) = _; rw [iD_length]
theorem len_map {α : Type} (f : α → Dat) (l : List α) : biD .len [.lst (l.map f)] = .ok (.int l.length) := by show Out.ok (Dat.int ((l.map f).length : Int)) = _; rw [List.length_map]
theorem idx_iD {l : List Int} {k : Int} (h0 : 0 ≤ k) (h : k < l.length) : idxL (iD l) k = .ok (.sh (.int (l[k.toNat]'(by lia)))) := by
  refine idxL_at h0 ?_
  rw [iD_get,List.getElem?_eq_getElem (by lia)]; rfl
theorem sp_cell (H : Has3 fns) (n : Nat) (s : List Int) (k : Int) (h0 : 0 ≤ k) : ∃ i : Int,callF fns (n + 1) 20 [.sh (.lst (iD s)),.sh (.int k)] = .ok (.sh (.int i)) := by
  rw [callF_succ H.b20,runFn_plain rfl rfl]
  generalize callF fns n = Φ
  by_cases h : k < s.length
  · exact ⟨_,run_ret (ex_ret1 (sx_yes (sv_cmp rfl (sv_bi rfl rfl (len_ints s)) rfl rfl (congrArg Out.ok (decide_eq_true h))) (sx_cret (sv_idxL rfl rfl (idx_iD h0 h)) rfl)))⟩
  · exact ⟨0,run_ret (ex_step (sx_no (sv_cmp rfl (sv_bi rfl rfl (len_ints s)) rfl rfl (congrArg Out.ok (decide_eq_false h)))) ⟨_,rfl⟩)⟩
theorem sp_number (H : Has3 fns) (n : Nat) (s : List Int) (k : Int) (h0 : 0 ≤ k) (hs : s.length ≤ 63) (hk : k ≤ 1000) :
    ∃ i : Int,0 ≤ i ∧ i < 2147483647 ∧ callF fns (n + 1) 21 [.sh (.lst (iD s)),.sh (.int k)] = .ok (.sh (.int i)) := by
  rw [callF_succ H.b21,runFn_plain rfl rfl]
  by_cases h : s.length = 0
  · refine ⟨5003 * k,by lia,by lia,?_⟩
    have hm : binD .mul (.int 5003) (.int k) = .ok (.sh (.int (5003 * k))) := mul_i (Or.inl (by decide))
    have : ((s.length : Int) == 0) = true := by simp [h]
    exact run_ret (ex_ret1 (sx_yes (sv_cmp (sv_bi rfl rfl (len_ints s)) rfl rfl rfl (congrArg Out.ok this)) (sx_cret (sb rfl rfl hm) rfl)))
  · have hz : ((s.length : Int) == 0) = false := by simp; exact fun e => h (by simp [e])
    have hp : (0 : Int) < s.length := by lia
    have hm := mod_i (a := k) hp
    have hd := fdiv_i (a := k) hp (by lia)
    have hx := idx_iD (l := s) (k := k % s.length) (Int.emod_nonneg _ (by lia)) (Int.emod_lt_of_pos _ hp)
    generalize s[(k % (s.length : Int)).toNat]'_ = x at hx
    have hm1 : binD .mul (.int 7919) (.int (k / s.length)) = .ok (.sh (.int (7919 * (k / s.length)))) := mul_i (Or.inl (by decide))
    have hm2 : binD .mul (.int 101) (.int k) = .ok (.sh (.int (101 * k))) := mul_i (Or.inl (by decide))
    have hm3 : binD .mul (.int (x + 7919 * (k / s.length) + 101 * k)) (.int 48271) = .ok (.sh (.int ((x + 7919 * (k / s.length) + 101 * k) * 48271))) := mul_i (Or.inr (by decide))
    refine ⟨(x + 7919 * (k / s.length) + 101 * k) * 48271 % 2147483647,Int.emod_nonneg _ (by decide),Int.emod_lt_of_pos _ (by decide),?_⟩
    have hm4 := mod_i (a := (x + 7919 * (k / s.length) + 101 * k) * 48271) (b := 2147483647) (by decide)
    have el := fun (Φ : Nat → List Val → Out Val) x y => sv_bi (Φ := Φ) (t := .cons (.v 0) .nil) (ρ := [.sh (.lst (iD s)),x,y]) rfl rfl (len_ints s)
    exact run_ret (ex_step (sx_no (sv_cmp (el _ _ _) rfl rfl rfl (congrArg Out.ok hz))) (ex_step (sx_asg (sb (sb (sv_idxL rfl (sb rfl (el _ _ _) hm) hx) (sb rfl (sb rfl (el _ _ _) hd) hm1) rfl) (sb rfl rfl hm2) rfl) rfl) (ex_ret1 (sx_ret (sb (sb rfl rfl hm3) rfl hm4) rfl))))
theorem sign_at {k : Int} (h0 : 0 ≤ k) (h : k < 26) : ∃ c ∈ letters,idxS letters k = .ok (.sh (.str [c])) := by
  have hl : k.toNat < letters.length := by simp only [letters,List.length_cons,List.length_nil]; lia
  exact ⟨letters[k.toNat],List.getElem_mem hl,idxS_at h0 (List.getElem?_eq_getElem hl)⟩
theorem rangeL_map (a : Int) : ∀ (m : Nat),rangeL a 1 m = (List.range m).map fun (j : Nat) => Dat.int (a + j)
  | 0 => rfl
  | m + 1 => by
    rw [rangeL,rangeL_map (a + 1) m,List.range_succ_eq_map]
    simp only [List.map_cons,List.map_map]
    congr 1
    · simp
    · apply List.map_congr_left; intro j _; simp; lia
theorem rangeL_length {a : Int} {m : Nat} : (rangeL a 1 m).length = m := by rw [rangeL_map]; simp
theorem NameOk.cut {s : List Nat} {c : Nat} {p : Nat} (h : NameOk s) (hc : c ∈ letters) (hp : p < s.length) : NameOk (s.take p ++ [c] ++ s.drop (p + 1)) := by
  obtain ⟨h1,h2,h3⟩ := h
  refine ⟨by simp; lia,by simp; lia,?_⟩
  intro d hd
  simp only [List.mem_append,List.mem_singleton] at hd
  rcases hd with (hd | hd) | hd
  · exact h3 d (List.mem_of_mem_take hd)
  · exact hd ▸ hc
  · exact h3 d (List.mem_of_mem_drop hd)
theorem clamp_nat (n p : Nat) : clampAt n (p : Int) = min p n := by
  show (max 0 (min (if (p : Int) < 0 then (p : Int) + n else p) (n : Int))).toNat = _
  rw [if_neg (Int.not_lt.2 (Int.natCast_nonneg p))]
  rcases Nat.le_total p n with h | h
  · rw [Nat.min_eq_left h,Int.min_eq_left (Int.ofNat_le.2 h),Int.max_eq_right (Int.natCast_nonneg _),Int.toNat_natCast]
  · rw [Nat.min_eq_right h,Int.min_eq_right (Int.ofNat_le.2 h),Int.max_eq_right (Int.natCast_nonneg _),Int.toNat_natCast]
theorem cut_take {l : List Nat} {p : Int} (h0 : 0 ≤ p) (h : p ≤ l.length) : cut Option.none (some p) l = l.take p.toNat := by
  have e : clampAt l.length p = p.toNat := by
    obtain ⟨q,rfl⟩ := Int.eq_ofNat_of_zero_le h0
    rw [clamp_nat,Int.toNat_natCast,Nat.min_eq_left (Int.ofNat_le.1 h)]
  simp [cut,e]
theorem cut_drop {l : List Nat} {p : Int} (h0 : 0 ≤ p) (h : p ≤ l.length) : cut (some p) Option.none l = l.drop p.toNat := by
  have e : clampAt l.length p = p.toNat := by
    obtain ⟨q,rfl⟩ := Int.eq_ofNat_of_zero_le h0
    rw [clamp_nat,Int.toNat_natCast,Nat.min_eq_left (Int.ofNat_le.1 h)]
  simp [cut,e]
  apply List.take_of_length_le; simp
theorem forL_idx (f : List Val → Dat → Out (Fl × List Val)) (I : Nat → List Val → Prop) : ∀ (ds : List Dat) (o : Nat) (ρ : List Val),I o ρ →
    (∀ i d ρ,ds[i]? = some d → I (o + i) ρ → ∃ ρ',f ρ d = .ok (.next,ρ') ∧ I (o + i + 1) ρ') →
    ∃ ρ',forL f ds ρ = .ok (.next,ρ') ∧ I (o + ds.length) ρ'
  | [],o,ρ,h,_ => ⟨ρ,rfl,h⟩
  | d :: ds,o,ρ,h,hs => by
    refine cps fun P_ hP_ => ?_
    obtain ⟨ρ1,e1,i1⟩ := hs 0 d ρ rfl h
    obtain ⟨ρ2,e2,i2⟩ := forL_idx f I ds (o + 1) ρ1 i1 fun i d' r e m => by
      have := hs (i + 1) d' r (by simpa using e) (by rw [← Nat.add_assoc,Nat.add_right_comm]; exact m)
      have e' : o + 1 + i + 1 = o + (i + 1) + 1 := by lia
      rw [e']; exact this
    refine hP_ ?_
    clear hP_ P_
    refine ⟨ρ2,(forL_next e1).trans e2,?_⟩
    have e' : o + (d :: ds).length = o + 1 + ds.length := by simp only [List.length_cons]; lia
    rw [e']; exact i2
theorem rangeL_get {m i : Nat} {d : Dat} (h : (rangeL 0 1 m)[i]? = some d) : i < m ∧ d = .int i := by
  rw [rangeL_map,List.getElem?_map] at h
  cases e : (List.range m)[i]? with
  | none => rw [e] at h; cases h
  | some j =>
    rw [e] at h
    have h1 := List.getElem?_eq_some_iff.1 e
    obtain ⟨h2,h3⟩ := h1
    simp only [List.length_range] at h2
    simp only [List.getElem_range] at h3
    subst h3
    simp only [Option.map_some,Option.some.injEq] at h
    exact ⟨h2,by simp [← h]⟩
theorem sp_name_by (H : Has3 fns) (n : Nat) (s : List Int) (k : Int) (h0 : 0 ≤ k) (hs : s.length ≤ 63) (hk : k ≤ 5) :
    ∃ nm,NameOk nm ∧ callF fns (n + 2) 22 [.sh (.lst (iD s)),.sh (.int k)] = .ok (.sh (.str nm)) := by
  rw [callF_succ H.b22,runFn_plain rfl rfl]
  obtain ⟨c0,e0⟩ := sp_cell H n s 0 (by decide)
  generalize hal : (c0 / 5 % 2 == 1) = al
  have hd1 := fdiv_i (a := c0) (b := 5) (by decide) (by decide)
  have hd2 := mod_i (a := c0 / 5) (b := 2) (by decide)
  have hm1 : binD .mul (.int 3) (.int k) = .ok (.sh (.int (3 * k))) := mul_i (Or.inl (by decide))
  have hm2 : binD .mul (.int (3 * k)) (.int (if al = false then 1 else 0)) = .ok (.sh (.int (3 * k * (if al = false then 1 else 0)))) := mul_i (Or.inr (by cases al <;> decide))
  have hr : 0 ≤ 3 * k * (if al = false then 1 else 0) ∧ 3 * k * (if al = false then 1 else 0) ≤ 15 := by cases al <;> simp <;> lia
  obtain ⟨m,m0,m1,em⟩ := sp_number H n s (1 + 3 * k * (if al = false then 1 else 0)) (by lia) hs (by lia)
  generalize (3 * k * (if al = false then 1 else 0) : Int) = kk at *
  generalize callF fns (n + 1) = Φ at *
  suffices Q : ∃ v,(∃ nm,NameOk nm ∧ v = .sh (.str nm)) ∧ ∃ ρ',ex Φ t_l_name_by [.sh (.lst (iD s)),.sh (.int k),.un,.un,.un,.un,.un,.un,.un,.un] = .ok (.ret v,ρ') by
    refine cps fun P_ hP_ => ?_
    obtain ⟨v,⟨nm,hn,rfl⟩,ρ',Q⟩ := Q
    refine hP_ ?_
    clear hP_ P_
    exact ⟨nm,hn,(congrArg (· >>= fun r => Out.ok (outOf r)) Q).trans rfl⟩
  have hd3 := fdiv_i (a := m) (b := 5408) (by decide) (by decide)
  have hd4 := mod_i (a := m / 5408) (b := 25) (by decide)
  have hd5 := mod_i (a := m) (b := 8) (by decide)
  have hd6 := fdiv_i (a := m) (b := 208) (by decide) (by decide)
  obtain ⟨ρ',eρ,nm,y,er,hl,ha⟩ := forL_idx (stepF Φ [7] b_l_name_by_1) (fun o ρ => ∃ nm y,ρ = [.sh (.lst (iD s)),.sh (.int k),.sh (.str letters),.sh (.bool al),.sh (.int m),.sh (.int (1 + m / 5408 % 25)),.sh (.str nm),y,.un,.un] ∧ nm.length = o ∧ ∀ c ∈ nm,c ∈ letters)
    (rangeL 0 1 (1 + m % 8).toNat) 0 [.sh (.lst (iD s)),.sh (.int k),.sh (.str letters),.sh (.bool al),.sh (.int m),.sh (.int (1 + m / 5408 % 25)),.sh (.str []),.un,.un,.un] ⟨[],.un,rfl,rfl,by simp⟩ (by
      intro i d ρ hd h0
      refine cps fun P_ hP_ => ?_
      obtain ⟨nm,y,er,hl,ha⟩ := h0
      refine hP_ ?_
      clear hP_ P_
      obtain ⟨hi,ed⟩ := rangeL_get hd
      subst er ed
      have hm : binD .mul (.int i) (.int (1 + m / 5408 % 25)) = .ok (.sh (.int (i * (1 + m / 5408 % 25)))) := mul_i (Or.inr (by lia))
      have hmm := mod_i (a := m / 208 + i * (1 + m / 5408 % 25)) (b := 26) (by decide)
      obtain ⟨c,hc,ec⟩ := sign_at (k := (m / 208 + i * (1 + m / 5408 % 25)) % 26) (Int.emod_nonneg _ (by decide)) (Int.emod_lt_of_pos _ (by decide))
      have hll : nm.length + 1 ≤ line := by simp only [line]; lia
      have R : ex Φ b_l_name_by_1 [.sh (.lst (iD s)),.sh (.int k),.sh (.str letters),.sh (.bool al),.sh (.int m),.sh (.int (1 + m / 5408 % 25)),.sh (.str nm),.sh (.int i),.un,.un] = _ := ex_next (sx_asg (sv_bin rfl (sv_idx rfl (sb (sb (sb rfl rfl hd6) (sb rfl rfl hm) rfl) rfl hmm) ec) rfl rfl (if_pos hll)) rfl) rfl
      refine ⟨_,R,nm ++ [c],.sh (.int i),rfl,by simp [hl],?_⟩
      intro c' hc'
      rcases List.mem_append.1 hc' with h | h
      · exact ha c' h
      · simp only [List.mem_singleton] at h; exact h ▸ hc)
  subst er
  rw [rangeL_length] at hl
  have hN : NameOk nm := ⟨by lia,by lia,ha⟩
  have hrg := rngOk_of (y := 1 + m % 8) (by lia) (by lia)
  unfold t_l_name_by
  refine ex_stepP rfl ?_
  refine ex_stepP (sx_asg (sv_cmp (sb (sb (sv_call rfl e0) rfl hd1) rfl hd2) rfl rfl rfl (congrArg Out.ok hal)) rfl) ?_
  refine ex_stepP (sx_asg (sv_call (st_cons rfl rfl (st_cons (sb rfl (sb (sb rfl rfl hm1) (sv_bi rfl rfl (show biD .int [.bool (!al)] = .ok (.int (if al = false then 1 else 0)) by cases al <;> rfl)) hm2) rfl) rfl rfl)) em) rfl) ?_
  refine ex_stepP (sx_asg (sb rfl (sb (sb rfl rfl hd3) rfl hd4) rfl) rfl) ?_
  refine ex_stepP rfl ?_
  refine ex_stepP (sx_for (sv_rng (sb rfl (sb rfl rfl hd5) rfl) hrg) eρ) ?_
  cases al with
  | false =>
    refine ex_stepP rfl ?_
    refine ex_retsP rfl ?_
    exact ⟨nm,hN,rfl⟩
  | true =>
    have hp : (0 : Int) < nm.length := by lia
    have hq := fdiv_i (a := m) (b := 8) (by decide) (by decide)
    have hq2 := mod_i (a := m / 8) hp
    have hq3 : binD .mul (.int 5) (.int k) = .ok (.sh (.int (5 * k))) := mul_i (Or.inl (by decide))
    have hq4 := fdiv_i (a := m) (b := 64) (by decide) (by decide)
    have hq5 := mod_i (a := m / 64 + 5 * k) (b := 26) (by decide)
    have p0 := Int.emod_nonneg (m / 8) (b := nm.length) (by lia)
    have p1 := Int.emod_lt_of_pos (m / 8) hp
    obtain ⟨c,hc,ec⟩ := sign_at (k := (m / 64 + 5 * k) % 26) (Int.emod_nonneg _ (by decide)) (Int.emod_lt_of_pos _ (by decide))
    generalize m / 8 % (nm.length : Int) = p at *
    have c1 := cut_take (l := nm) (p := p) p0 (by lia)
    have c2 := cut_drop (l := nm) (p := p + 1) (by lia) (by lia)
    have e2 : (p + 1).toNat = p.toNat + 1 := by lia
    rw [e2] at c2
    have l1 : (cut Option.none (some p) nm).length + 1 ≤ line := by rw [c1]; simp only [line,List.length_take]; lia
    have l2 : (cut Option.none (some p) nm ++ [c]).length + (cut (some (p + 1)) Option.none nm).length ≤ line := by rw [c1,c2]; simp only [line,List.length_append,List.length_take,List.length_drop,List.length_singleton]; lia
    refine ex_stepP (sx_yes rfl (ex_next (sx_asg (sb (sb rfl rfl hq) rfl hq2) rfl) (ex_next (sx_asg (sv_idx rfl (sb (sb (sb rfl rfl hq4) (sb rfl rfl hq3) rfl) rfl hq5) ec) rfl) (ex_next (sx_asg (sv_bin (sv_bin rfl rfl rfl rfl (if_pos l1)) rfl rfl rfl (if_pos l2)) rfl) rfl)))) ?_
    refine ex_retsP rfl ⟨_,?_,rfl⟩
    rw [c1,c2]
    exact hN.cut hc (p := p.toNat) (by lia)
end Mine.PL
namespace Mine.PL
open Mine
variable {fns : List Fn}
theorem sign5_at {k : Int} (h0 : 0 ≤ k) (h : k < 5) : ∃ c ∈ letters,idxS [97,98,99,100,101] k = .ok (.sh (.str [c])) := by
  have hl : k.toNat < [97,98,99,100,101].length := by simp only [List.length_cons,List.length_nil]; lia
  refine ⟨[97,98,99,100,101][k.toNat],?_,idxS_at h0 (List.getElem?_eq_getElem hl)⟩
  have : ∀ c ∈ [97,98,99,100,101],c ∈ letters := by decide
  exact this _ (List.getElem_mem hl)
structure KindsUpTo (ks : List Kind) (o : Nat) : Prop where
  len : ks.length ≤ o
  ne : 1 ≤ o → 1 ≤ ks.length
  names : ∀ k ∈ ks,NameOk k.1
  nodup : (ks.map (·.1)).Nodup
  prices : ∀ k ∈ ks,0 ≤ k.2 ∧ k.2 ≤ 100000
theorem KindsUpTo.add {ks o nm p} (h : KindsUpTo ks o) (hn : NameOk nm) (hni : ¬ nm ∈ ks.map (·.1)) (h0 : 0 ≤ p) (hp : p ≤ 100000) : KindsUpTo (ks ++ [(nm,p)]) (o + 1) := by
  refine ⟨by have := h.len; simp; lia,fun _ => by simp,?_,?_,?_⟩
  · intro k hk
    rcases List.mem_append.1 hk with hk | hk
    · exact h.names k hk
    · simp only [List.mem_singleton] at hk; subst hk; exact hn
  · rw [List.map_append,List.nodup_append]
    refine ⟨h.nodup,by simp,?_⟩
    intro a ha b hb e
    simp at hb
    subst hb; subst e; exact hni ha
  · intro k hk
    rcases List.mem_append.1 hk with hk | hk
    · exact h.prices k hk
    · simp only [List.mem_singleton] at hk; subst hk; exact ⟨h0,hp⟩
theorem KindsUpTo.skip {ks o} {nm : List Nat} (h : KindsUpTo ks o) (hi : nm ∈ ks.map (·.1)) : KindsUpTo ks (o + 1) := by
  refine ⟨by have := h.len; lia,fun _ => ?_,h.names,h.nodup,h.prices⟩
  cases ks with
  | nil => simp at hi
  | cons k ks => simp
theorem NameOk.tail {s : List Nat} {c : Nat} (h : NameOk s) (hc : c ∈ letters) : NameOk (s.take 7 ++ [c]) := by
  obtain ⟨h1,h2,h3⟩ := h
  refine ⟨by simp,by simp; lia,?_⟩
  intro d hd
  simp only [List.mem_append,List.mem_singleton] at hd
  rcases hd with hd | hd
  · exact h3 d (List.mem_of_mem_take hd)
  · exact hd ▸ hc
theorem cut_take7 (l : List Nat) : cut Option.none (some 7) l = l.take 7 := by
  have e : clampAt l.length 7 = min 7 l.length := clamp_nat l.length 7
  simp only [cut,Option.elim,List.drop_zero,Nat.sub_zero,e]
  rw [List.take_eq_take_iff]; lia
theorem sp_kinds (H : Has3 fns) (n : Nat) (s : List Int) (hs : s.length ≤ 63) : ∃ ks,KindsOk ks ∧ callF fns (n + 3) 23 [.sh (.lst (iD s))] = .ok (.own (ks.map kD)) := by
  rw [callF_succ H.b23,runFn_plain rfl rfl]
  obtain ⟨c0,e0⟩ := sp_cell H (n + 1) s 0 (by decide)
  have hm0 := mod_i (a := c0) (b := 5) (by decide)
  refine cps fun P_ hP_ => ?_
  obtain ⟨ρ',eρ,ks,y3,y4,y5,y6,er,hk⟩ := forL_idx (stepF (callF fns (n + 2)) [3] b_l_kinds_1) (fun o ρ => ∃ ks y3 y4 y5 y6,ρ = [.sh (.lst (iD s)),.own (ks.map kD),.own (nD ks),y3,y4,y5,y6] ∧ KindsUpTo ks o)
    (rangeL 0 1 (1 + c0 % 5).toNat) 0 [.sh (.lst (iD s)),.own [],.own [],.un,.un,.un,.un] ⟨[],.un,.un,.un,.un,rfl,by simp,by simp,by simp,by simp,by simp⟩ (by
      intro i d ρ hd h0
      refine cps fun P_ hP_ => ?_
      obtain ⟨ks,y3,y4,y5,y6,er,hk⟩ := h0
      refine hP_ ?_
      clear hP_ P_
      obtain ⟨hi,ed⟩ := rangeL_get hd
      subst er ed
      have hi5 : i < 5 := by lia
      simp only [Nat.zero_add] at hk ⊢
      have hm : binD .mul (.int 3) (.int i) = .ok (.sh (.int (3 * i))) := mul_i (Or.inl (by decide))
      obtain ⟨m,m0,m1,em⟩ := sp_number H (n + 1) s (3 * i + 2) (by lia) hs (by lia)
      obtain ⟨nm,hn,en⟩ := sp_name_by H n s i (by lia) hs (by lia)
      obtain ⟨c,hc,ec⟩ := sign5_at (k := i) (by lia) (by lia)
      have hd1 := fdiv_i (a := m) (b := 1009) (by decide) (by decide)
      have hd2 := mod_i (a := m / 1009) (b := 100) (by decide)
      have hd3 := mod_i (a := m / 1009) (b := 100001) (by decide)
      have hd4 := mod_i (a := m) (b := 3) (by decide)
      have hin := in_names ks nm
      have hni := notin_names ks nm
      have hl1 : (cut Option.none (some 7) nm).length + 1 ≤ line := by rw [cut_take7]; simp only [line,List.length_take]; lia
      have hn7 := hn.tail hc
      rw [← cut_take7] at hn7
      have hni2 := notin_names ks (cut Option.none (some 7) nm ++ [c])
      have hlk : ks.length < line := by have := hk.len; simp only [line]; lia
      have hln : (nD ks).length < line := by simpa [nD] using hlk
      obtain ⟨p,hp0,hp1,hp⟩ : ∃ p : Int,0 ≤ p ∧ p ≤ 100000 ∧ p = if m % 3 == 0 then m / 1009 % 100001 else m / 1009 % 100 := by
        refine ⟨_,?_,?_,rfl⟩ <;> split <;> lia
      have key2 : ex (callF fns (n + 2)) (.iff (.cmp .eq (.bin .mod (.v 4) (.cI 3)) (.cI 0)) (.cons (.asg 6 (.bin .mod (.bin .fdiv (.v 4) (.cI 1009)) (.cI 100001))) .nil) .nil)
          [.sh (.lst (iD s)),.own (ks.map kD),.own (nD ks),.sh (.int i),.sh (.int m),.sh (.str nm),.sh (.int (m / 1009 % 100))] = .ok (.next,[.sh (.lst (iD s)),.own (ks.map kD),.own (nD ks),.sh (.int i),.sh (.int m),.sh (.str nm),.sh (.int p)]) := by
        subst hp
        generalize callF fns (n + 2) = Φ
        cases h3 : (m % 3 == 0) with
        | false => exact sx_no (sv_cmp (sb rfl rfl hd4) rfl rfl rfl (congrArg Out.ok h3))
        | true => exact sx_yes (sv_cmp (sb rfl rfl hd4) rfl rfl rfl (congrArg Out.ok h3)) (ex_next (sx_asg (sb (sb rfl rfl hd1) rfl hd3) rfl) rfl)
      have en1 : nD ks ++ [.str nm] = nD (ks ++ [(nm,p)]) := by simp [nD]
      have en2 : nD ks ++ [.str (cut Option.none (some 7) nm ++ [c])] = nD (ks ++ [(cut Option.none (some 7) nm ++ [c],p)]) := by simp [nD]
      have ek1 : ks.map kD ++ [.tup [.str nm,.int p]] = (ks ++ [(nm,p)]).map kD := by simp [kD]
      have ek2 : ks.map kD ++ [.tup [.str (cut Option.none (some 7) nm ++ [c]),.int p]] = (ks ++ [(cut Option.none (some 7) nm ++ [c],p)]).map kD := by simp [kD]
      generalize callF fns (n + 2) = Φ at *
      have hstep : ∀ {r},ex Φ (.cons (.iff (.cmp .isin (.v 5) (.v 2)) (.cons (.asg 5 (.bin .add (.sl (.v 5) .nil (.cI 7)) (.idx (.cS [97,98,99,100,101]) (.v 3)))) .nil) .nil) (.cons (.iff (.cmp .notin (.v 5) (.v 2)) (.cons (.app 2 (.v 5)) (.cons (.app 1 (.tup (.cons (.v 5) (.cons (.v 6) .nil)))) .nil)) .nil) .nil)) [.sh (.lst (iD s)),.own (ks.map kD),.own (nD ks),.sh (.int i),.sh (.int m),.sh (.str nm),.sh (.int p)] = r →
          stepF Φ [3] b_l_kinds_1 [.sh (.lst (iD s)),.own (ks.map kD),.own (nD ks),y3,y4,y5,y6] (.int i) = r := fun hr => by
        show ex Φ b_l_kinds_1 [.sh (.lst (iD s)),.own (ks.map kD),.own (nD ks),.sh (.int i),y4,y5,y6] = _
        exact ex_next (sx_asg (sv_call (st_cons rfl rfl (st_cons (sb (sb rfl rfl hm) rfl rfl) rfl rfl)) em) rfl) (ex_next (sx_asg (sv_call rfl en) rfl) (ex_next (sx_asg (sb (sb rfl rfl hd1) rfl hd2) rfl) (ex_next key2 hr)))
      by_cases hx : nm ∈ ks.map (·.1)
      · rw [decide_eq_true hx] at hin hni
        have s1 := fun {r} hr => hstep (r := r) (ex_next (sx_yes (sv_cmp rfl rfl rfl rfl hin) (ex_next (sx_asg (sv_bin rfl (sv_idx rfl rfl ec) rfl rfl (if_pos hl1)) rfl) rfl)) hr)
        by_cases hx2 : cut Option.none (some 7) nm ++ [c] ∈ ks.map (·.1)
        · rw [decide_eq_true hx2] at hni2
          exact ⟨_,s1 (ex_next (sx_no (sv_cmp rfl rfl rfl rfl hni2)) rfl),ks,_,_,_,_,rfl,hk.skip hx⟩
        · rw [decide_eq_false hx2] at hni2
          refine ⟨_,s1 (ex_next (sx_yes (sv_cmp rfl rfl rfl rfl hni2) (ex_next (sx_app rfl rfl rfl hln) (ex_next (sx_app rfl rfl rfl (by rw [List.length_map]; exact hlk)) rfl))) rfl),ks ++ [(cut Option.none (some 7) nm ++ [c],p)],.sh (.int i),.sh (.int m),.sh (.str (cut Option.none (some 7) nm ++ [c])),.sh (.int p),?_,hk.add hn7 hx2 hp0 hp1⟩
          rw [← en2,← ek2]; rfl
      · rw [decide_eq_false hx] at hin hni
        refine ⟨_,hstep (ex_next (sx_no (sv_cmp rfl rfl rfl rfl hin)) (ex_next (sx_yes (sv_cmp rfl rfl rfl rfl hni) (ex_next (sx_app rfl rfl rfl hln) (ex_next (sx_app rfl rfl rfl (by rw [List.length_map]; exact hlk)) rfl))) rfl)),ks ++ [(nm,p)],.sh (.int i),.sh (.int m),.sh (.str nm),.sh (.int p),?_,hk.add hn hx hp0 hp1⟩
        rw [← en1,← ek1]; rfl)
  refine hP_ ?_
  clear hP_ P_
  subst er
  rw [rangeL_length] at hk
  have hrg := rngOk_of (y := 1 + c0 % 5) (by lia) (by lia)
  refine ⟨ks,⟨hk.ne (by lia),by have := hk.len; lia,hk.names,hk.nodup,hk.prices⟩,?_⟩
  exact run_ret (ex_step rfl (ex_step rfl (ex_step (sx_for (sv_rng (sb rfl (sb (sv_call rfl e0) rfl hm0) rfl) hrg) eρ) ⟨_,rfl⟩)))
end Mine.PL
namespace Mine.PL
open Mine
variable {fns : List Fn}
inductive Off where
  | more (nm : List Nat) (many cnt : Int)
  | set (ws : List Kind) (p : Int)
  | share (nm : List Nat) (pc : Int)
  | slip (a b : List Nat) (x : Int)
noncomputable def sMore : List Nat := [109,111,114,101]
noncomputable def sSet : List Nat := [115,101,116]
noncomputable def sShare : List Nat := [115,104,97,114,101]
noncomputable def sSlip : List Nat := [115,108,105,112]
noncomputable def Off.dat : Off → Dat
  | .more nm m c => .tup [.str sMore,.str nm,.int m,.int c]
  | .set ws p => .tup [.str sSet,.tup (ws.map kD),.int p]
  | .share nm p => .tup [.str sShare,.str nm,.int p]
  | .slip a b x => .tup [.str sSlip,.str a,.str b,.int x]
structure WsOk (ks ws : List Kind) : Prop where
  len1 : 1 ≤ ws.length
  len5 : ws.length ≤ 5
  nodup : (ws.map (·.1)).Nodup
  sub : ∀ w ∈ ws,w.1 ∈ ks.map (·.1)
  rng : ∀ w ∈ ws,1 ≤ w.2 ∧ w.2 ≤ 9
noncomputable def OffOk (ks : List Kind) : Off → Prop
  | .more nm m c => nm ∈ ks.map (·.1) ∧ 2 ≤ m ∧ m ≤ 9 ∧ 1 ≤ c ∧ c ≤ m - 1
  | .set ws p => WsOk ks ws ∧ 0 ≤ p ∧ p ≤ 100000
  | .share nm p => nm ∈ ks.map (·.1) ∧ 1 ≤ p ∧ p ≤ 100
  | .slip a b x => a ∈ ks.map (·.1) ∧ b ∈ ks.map (·.1) ∧ a ≠ b ∧ 1 ≤ x ∧ x ≤ 100000
structure WsUp (ks : List Kind) (nm : List Nat) (ws : List Kind) (o : Nat) : Prop where
  len1 : 1 ≤ ws.length
  len : ws.length ≤ 1 + ((ks.take o).filter fun k => k.1 != nm).length
  nodup : (ws.map (·.1)).Nodup
  sub : ∀ w ∈ ws,w.1 = nm ∨ w.1 ∈ (ks.take o).map (·.1)
  rng : ∀ w ∈ ws,1 ≤ w.2 ∧ w.2 ≤ 9
theorem take_succ' {α : Type} {l : List α} {i : Nat} {x : α} (h : l[i]? = some x) : l.take (i + 1) = l.take i ++ [x] := by
  rw [List.take_add_one,h]; rfl
theorem WsUp.add {ks nm ws o k v} (hk : (ks.map (·.1)).Nodup) (h : WsUp ks nm ws o) (e : ks[o]? = some k) (hn : k.1 ≠ nm) (h1 : 1 ≤ v) (h9 : v ≤ 9) : WsUp ks nm (ws ++ [(k.1,v)]) (o + 1) := by
  have et := take_succ' e
  refine ⟨by simp,?_,?_,?_,?_⟩
  · have := h.len
    rw [et]; simp [List.filter_append,hn]; lia
  · rw [List.map_append,List.nodup_append]
    refine ⟨h.nodup,by simp,?_⟩
    intro a ha b hb eab
    simp at hb
    subst hb; subst eab
    obtain ⟨w,hw,ew⟩ := List.mem_map.1 ha
    rcases h.sub w hw with e1 | e1
    · exact hn (ew ▸ e1)
    · rw [ew] at e1
      have hkk : (ks.map (·.1)) = (ks.take o).map (·.1) ++ (ks.drop o).map (·.1) := by rw [← List.map_append,List.take_append_drop]
      rw [hkk,List.nodup_append] at hk
      refine hk.2.2 k.1 e1 k.1 ?_ rfl
      obtain ⟨hl,hx⟩ := List.getElem?_eq_some_iff.1 e
      rw [List.drop_eq_getElem_cons hl,hx]
      simp
  · intro w hw
    rw [et,List.map_append]
    rcases List.mem_append.1 hw with hw | hw
    · rcases h.sub w hw with e1 | e1
      · exact Or.inl e1
      · exact Or.inr (List.mem_append_left _ e1)
    · simp only [List.mem_singleton] at hw; subst hw; exact Or.inr (by simp)
  · intro w hw
    rcases List.mem_append.1 hw with hw | hw
    · exact h.rng w hw
    · simp only [List.mem_singleton] at hw; subst hw; exact ⟨h1,h9⟩
theorem WsUp.skip {ks nm ws o k} (h : WsUp ks nm ws o) (e : ks[o]? = some k) : WsUp ks nm ws (o + 1) := by
  have et := take_succ' e
  refine ⟨h.len1,?_,h.nodup,?_,h.rng⟩
  · have := h.len
    rw [et,List.filter_append,List.length_append]; lia
  · intro w hw
    rw [et,List.map_append]
    rcases h.sub w hw with e1 | e1
    · exact Or.inl e1
    · exact Or.inr (List.mem_append_left _ e1)
theorem WsUp.ok {ks nm ws} (hk : ks.length ≤ 5) (hm : nm ∈ ks.map (·.1)) (h : WsUp ks nm ws ks.length) : WsOk ks ws := by
  refine ⟨h.len1,?_,h.nodup,?_,h.rng⟩
  · have h1 := h.len
    rw [List.take_length] at h1
    obtain ⟨k,hk1,hk2⟩ := List.mem_map.1 hm
    have : ((ks.filter fun k => k.1 != nm).length) < ks.length := by
      rw [List.length_filter_lt_length_iff_exists]
      exact ⟨k,hk1,by simp [hk2]⟩
    lia
  · intro w hw
    rcases h.sub w hw with e1 | e1
    · rw [e1]; exact hm
    · rw [List.take_length] at e1; exact e1
theorem WsOk.rev {ks ws} (h : WsOk ks ws) : WsOk ks ws.reverse := by
  refine ⟨by simpa using h.len1,by simpa using h.len5,?_,fun w hw => h.sub w (List.mem_reverse.1 hw),fun w hw => h.rng w (List.mem_reverse.1 hw)⟩
  rw [List.map_reverse]
  exact (List.reverse_perm _).nodup_iff.2 h.nodup
end Mine.PL
namespace Mine.PL
open Mine
variable {fns : List Fn}
structure Has2f (fns : List Fn) : Prop where
  b8 : fns[8]? = some f_wants_pairs
  b10 : fns[10]? = some f_set_fits
  b11 : fns[11]? = some f_fits
structure Has2 (fns : List Fn) : Prop extends Has2f fns where
  b9 : fns[9]? = some f_names_in
  b12 : fns[12]? = some f_need_offer
  b13 : fns[13]? = some f_deal_of
  b14 : fns[14]? = some f_deals
theorem sp_wants_pairs (H : Has2 fns) (n : Nat) (ws : List Kind) : callF fns (n + 1) 8 [.sh (.tup (ws.map kD))] = .ok (.sh (.bool true)) := by
  rw [callF_succ H.b8,runFn_plain rfl rfl]
  have loop : ∀ (l : List Kind) (y : Val),∃ z,forL (stepF (callF fns n) [1] b_wants_pairs_1) (l.map kD) [.sh (.tup (ws.map kD)),y] = .ok (.next,[.sh (.tup (ws.map kD)),z]) := by
    intro l
    induction l with
    | nil => intro y; exact ⟨y,rfl⟩
    | cons k l ih =>
      intro y
      obtain ⟨z,ez⟩ := ih (.sh (kD k))
      refine ⟨z,?_⟩
      rw [List.map_cons,forL_next,ez]
      exact show ex (callF fns n) b_wants_pairs_1 [.sh (.tup (ws.map kD)),.sh (kD k)] = _ from rfl
  obtain ⟨z,ez⟩ := loop ws .un
  exact run_ret (ex_step rfl (ex_step (sx_for rfl ez) ⟨_,rfl⟩))
noncomputable def Off.names : Off → List (List Nat)
  | .more nm _ _ => [nm]
  | .set ws _ => ws.map (·.1)
  | .share nm _ => [nm]
  | .slip a b _ => [a,b]
theorem sp_names_in (H : Has2 fns) (n : Nat) (o : Off) : callF fns (n + 2) 9 [.sh o.dat] = .ok (.own (o.names.map .str)) := by
  rw [callF_succ H.b9,runFn_plain rfl rfl]
  cases o with
  | more nm m c => exact run_ret (ex_step rfl (ex_step rfl ⟨_,rfl⟩))
  | share nm p => exact run_ret (ex_step rfl (ex_step rfl ⟨_,rfl⟩))
  | slip a b x => exact run_ret (ex_step rfl (ex_ret1 rfl))
  | set ws p =>
    have hw := sp_wants_pairs H n ws
    have hc : compL (compF (callF fns (n + 1)) (.idx (.v 1) (.cI 0)) [1] .nil [.sh (.tup [.str sSet,.tup (ws.map kD),.int p]),.un]) (ws.map kD) = .ok (ws.map fun k => .str k.1) := by
      rw [compL_mapO (g := fun k : Kind => some (.str k.1))]
      · simp
      · intro k _; simp [compF_nil,kD]
    have hc := hc.trans (congrArg Out.ok (show _ = (ws.map (·.1)).map Dat.str by rw [List.map_map]; rfl))
    exact run_ret (ex_ret1 (sx_yes rfl (ex_next (sx_no (sv_not (sv_call rfl hw))) (sx_cret (sv_comp rfl hc) rfl))))
theorem sp_set_fits (H1 : Has1 fns) (H : Has2 fns) (n : Nat) (ks ws : List Kind) (p : Int) (h : WsOk ks ws) (hp0 : 0 ≤ p) (hp : p ≤ 100000) : callF fns (n + 2) 10 [.sh (.tup (ws.map kD)),.sh (.int p)] = .ok (.sh (.bool true)) := by
  rw [callF_succ H.b10,runFn_plain rfl rfl]
  have hw := sp_wants_pairs H n ws
  have hb := sp_between H1.toHas01 n p 0 100000
  have hl1 : (1 : Int) ≤ ws.length := by have := h.len1; lia
  have hl5 : ¬ (5 : Int) < ws.length := by have := h.len5; lia
  have loop : ∀ (post pre : List Kind) (y : Val),ws = pre ++ post → ∃ z z',forL (stepF (callF fns (n + 1)) [3] b_set_fits_1) (post.map kD) [.sh (.tup (ws.map kD)),.sh (.int p),.own (nD pre),y] = .ok (.next,[.sh (.tup (ws.map kD)),.sh (.int p),z,z']) := by
    intro post
    induction post with
    | nil => intro pre y e; exact ⟨_,_,rfl⟩
    | cons k post ih =>
      intro pre y e
      obtain ⟨z,z',ez⟩ := ih (pre ++ [k]) (.sh (kD k)) (by simp [e])
      refine ⟨z,z',?_⟩
      have hk : k ∈ ws := by rw [e]; simp
      have hb := sp_between H1.toHas01 n k.2 1 9
      have hr := h.rng k hk
      have hnin : ¬ k.1 ∈ pre.map (·.1) := by
        have := h.nodup
        rw [e] at this
        simp only [List.map_append,List.map_cons,List.nodup_append] at this
        intro hm
        exact this.2.2 k.1 hm k.1 (List.mem_cons_self ..) rfl
      have hlen : pre.length < line := by
        have := h.len5; rw [e] at this; simp at this; simp only [line]; lia
      have hi := in_names pre k.1
      have en : nD pre ++ [Dat.str k.1] = nD (pre ++ [k]) := by simp [nD]
      have l1 : (nD pre).length < line := by simpa [nD] using hlen
      rw [decide_eq_false hnin] at hi
      rw [decide_eq_true hr.1,decide_eq_true hr.2] at hb
      rw [← en] at ez
      rw [List.map_cons,forL_next,ez]
      exact show ex (callF fns (n + 1)) b_set_fits_1 [.sh (.tup (ws.map kD)),.sh (.int p),.own (nD pre),.sh (kD k)] = _ from ex_next (sx_no (sv_or (sv_cmp rfl rfl rfl rfl hi) (sv_not (sv_call rfl hb)))) (ex_next (sx_app rfl rfl rfl l1) rfl)
  obtain ⟨z,z',ez⟩ := loop ws [] .un rfl
  rw [decide_eq_true hp0,decide_eq_true hp] at hb
  have hc2 : ev (callF fns (n + 1)) (.cmp2 .le .le (.cI 1) (.bi .len (.cons (.v 0) .nil)) (.cI 5)) [.sh (.tup (ws.map kD)),.sh (.int p),.un,.un] = .ok (.sh (.bool true)) := by
    have hl6 : (ws.length : Int) ≤ 5 := by lia
    simp [hl1,hl6]
  exact run_ret (ex_step (sx_no (sv_or (sv_not (sv_call rfl hw)) (sv_or (sv_not hc2) (sv_not (sv_call rfl hb))))) (ex_step rfl (ex_step (sx_for rfl ez) ⟨_,rfl⟩)))
theorem sp_fits (H1 : Has1 fns) (H : Has2 fns) (n : Nat) (ks : List Kind) (o : Off) (h : OffOk ks o) : callF fns (n + 3) 11 [.sh o.dat] = .ok (.sh (.bool true)) := by
  rw [callF_succ H.b11,runFn_plain rfl rfl]
  cases o with
  | more nm m c =>
    have b1 := sp_between H1.toHas01 (n + 1) m 2 9
    have b2 := sp_between H1.toHas01 (n + 1) c 1 (m - 1)
    obtain ⟨_,h1,h2,h3,h4⟩ := h
    rw [decide_eq_true h1,decide_eq_true h2] at b1
    rw [decide_eq_true h3,decide_eq_true h4] at b2
    exact run_ret (ex_ret1 (sx_yes rfl (sx_cret (sv_and (sv_call rfl b1) (sv_call rfl b2)) rfl)))
  | share nm p =>
    have b1 := sp_between H1.toHas01 (n + 1) p 1 100
    obtain ⟨_,h1,h2⟩ := h
    rw [decide_eq_true h1,decide_eq_true h2] at b1
    exact run_ret (ex_step rfl (ex_step rfl (ex_ret1 (sx_yes rfl (sx_cret (sv_call rfl b1) rfl)))))
  | slip a b x =>
    have b1 := sp_between H1.toHas01 (n + 1) x 1 100000
    obtain ⟨_,_,hn,h1,h2⟩ := h
    rw [decide_eq_true h1,decide_eq_true h2] at b1
    exact run_ret (ex_step rfl (ex_step rfl (ex_step rfl ⟨_,sx_cret (sv_and (sv_cmp rfl rfl rfl rfl (ne_s.trans (congrArg (fun z => Out.ok (!z)) (beq_eq_false_iff_ne.2 hn)))) (sv_call rfl b1)) rfl⟩)))
  | set ws p =>
    have b1 := sp_set_fits H1 H n ks ws p h.1 h.2.1 h.2.2
    exact run_ret (ex_step rfl (ex_ret1 (sx_yes rfl (sx_cret (sv_call rfl b1) rfl))))
theorem OffOk.mem {ks o} (h : OffOk ks o) : ∀ s ∈ o.names,s ∈ ks.map (·.1) := by
  intro s hs
  cases o with
  | more nm m c => simp only [Off.names,List.mem_singleton] at hs; exact hs ▸ h.1
  | share nm p => simp only [Off.names,List.mem_singleton] at hs; exact hs ▸ h.1
  | slip a b x =>
    simp only [Off.names,List.mem_cons,List.not_mem_nil,or_false] at hs
    rcases hs with hs | hs
    · exact hs ▸ h.1
    · exact hs ▸ h.2.1
  | set ws p =>
    obtain ⟨w,hw,e⟩ := List.mem_map.1 hs
    exact e ▸ h.1.sub w hw
theorem KindsOk.name {ks s} (h : KindsOk ks) (hs : s ∈ ks.map (·.1)) : NameOk s := by
  obtain ⟨k,hk,e⟩ := List.mem_map.1 hs
  exact e ▸ h.names k hk
theorem sp_need_offer (H1 : Has1 fns) (H : Has2 fns) (n : Nat) (ks : List Kind) (hk : KindsOk ks) (o : Off) (h : OffOk ks o) : callF fns (n + 4) 12 [.shop (nD ks) (pD ks),.sh o.dat] = .ok (.sh .none) := by
  rw [callF_succ H.b12,runFn_plain rfl rfl]
  have hf := sp_fits H1 H n ks o h
  have hn := sp_names_in H (n + 1) o
  have loop : ∀ (l : List (List Nat)) (y : Val),(∀ s ∈ l,s ∈ ks.map (·.1)) → ∃ z,forL (stepF (callF fns (n + 3)) [2] b_need_offer_1) (l.map .str) [.shop (nD ks) (pD ks),.sh o.dat,y] = .ok (.next,[.shop (nD ks) (pD ks),.sh o.dat,z]) := by
    intro l
    induction l with
    | nil => intro y _; exact ⟨y,rfl⟩
    | cons s l ih =>
      intro y hl
      obtain ⟨z,ez⟩ := ih (.sh (.str s)) (fun s hs => hl s (List.mem_cons_of_mem _ hs))
      refine ⟨z,?_⟩
      have hm := hl s (List.mem_cons_self ..)
      have hp := sp_place H1 (n + 1) ks s (hk.name hm) hm
      rw [List.map_cons,forL_next,ez]
      exact show ex (callF fns (n + 3)) b_need_offer_1 [.shop (nD ks) (pD ks),.sh o.dat,.sh (.str s)] = _ from ex_next (sx_ex (sv_mcall rfl rfl hp) rfl) rfl
  obtain ⟨z,ez⟩ := loop o.names .un h.mem
  cases o <;> exact run_next (ex_next (sx_no rfl) (ex_next (sx_no rfl) (ex_next (sx_for (sv_itsC (sv_call rfl hn)) ez) (ex_next (sx_no (sv_not (sv_call rfl hf))) rfl))))
end Mine.PL
namespace Mine.PL
open Mine
variable {fns : List Fn}
noncomputable abbrev Row := List Int × Int
noncomputable def rD (r : Row) : Dat := .tup [.tup (iD r.1),.int r.2]
noncomputable def zs (ks : List Kind) : List Int := List.replicate ks.length 0
noncomputable def priceOf (ks : List Kind) (s : List Nat) : Int := (ks.map (·.2))[placeOf ks s]?.getD 0
noncomputable def setTo (ks : List Kind) (l : List Int) (w : Kind) : List Int := l.set (placeOf ks w.1) w.2
noncomputable def dealOf (ks : List Kind) : Off → Row
  | .more nm m c => ((zs ks).set (placeOf ks nm) m,c * priceOf ks nm)
  | .set ws p => (ws.foldl (setTo ks) (zs ks),p)
  | .share nm pc => ((zs ks).set (placeOf ks nm) 1,priceOf ks nm - priceOf ks nm * pc / 100)
  | .slip a b x => (((zs ks).set (placeOf ks b) 1).set (placeOf ks a) 1,if priceOf ks b - x > 0 then priceOf ks b - x else 0)
theorem iD_set {l : List Int} {i : Nat} {v : Int} : (iD l).set i (.int v) = iD (l.set i v) := by simp [iD,List.map_set]
theorem iD_rep {n : Nat} : List.replicate n (Dat.int 0) = iD (List.replicate n 0) := by simp [iD]
theorem price_at {ks : List Kind} {s : List Nat} (h : s ∈ ks.map (·.1)) : idxL (pD ks) (placeOf ks s) = .ok (.sh (.int (priceOf ks s))) := by
  have hl := placeOf_lt h
  refine idxL_at (by omega) ?_
  simp only [Int.toNat_natCast,pD,List.getElem?_map,priceOf,List.getElem?_eq_getElem hl]
  rfl
theorem sx_setI {Φ : Nat → List Val → Out Val} {ρ : List Val} {a e : T} {i k : Nat} {w : Int} {l : List Int} (he : ev Φ e ρ = .ok (.sh (.int w))) (hl : ρ.getD i .un = .own (iD l)) (ha : ev Φ a ρ = .ok (.sh (.int (k : Int)))) (hk : k < l.length) : ex Φ (.seti i a e) ρ = .ok (.next,ρ.set i (.own (iD (l.set k w)))) := by
  refine ob (r := ev Φ e ρ >>= needD) (f := fun d => ownX (fun l => ev Φ a ρ >>= intD >>= fun j => if 0 ≤ j ∧ j < (l.length : Int) then .ok (.next,ρ.set i (.own (l.set j.toNat d))) else .bad) (ρ.getD i .un)) (ob he rfl) ?_
  rw [hl]
  refine ob (r := ev Φ a ρ >>= intD) (f := fun j => if 0 ≤ j ∧ j < ((iD l).length : Int) then Out.ok (Fl.next,ρ.set i (.own ((iD l).set j.toNat (.int w)))) else .bad) (ob ha rfl) ((if_pos ⟨by omega,by rw [iD_length]; omega⟩).trans ?_)
  rw [Int.toNat_natCast,iD_set]
theorem sp_deal_of (H1 : Has1 fns) (H : Has2 fns) (n : Nat) (ks : List Kind) (hk : KindsOk ks) (o : Off) (h : OffOk ks o) : callF fns (n + 5) 13 [.shop (nD ks) (pD ks),.sh o.dat] = .ok (.sh (rD (dealOf ks o))) := by
  rw [callF_succ H.b13,runFn_plain rfl rfl]
  have hn := sp_need_offer H1 H n ks hk o h
  have hlen : (nD ks).length = ks.length := by simp [nD]
  have hz := mul_l1 (a := .int 0) (n := ks.length) (by have := hk.len5; omega)
  rw [iD_rep] at hz
  have hp : ∀ s,s ∈ ks.map (·.1) → callF fns (n + 4) 3 [.shop (nD ks) (pD ks),.sh (.str s)] = .ok (.sh (.int (placeOf ks s))) := fun s hs => sp_place H1 (n + 2) ks s (hk.name hs) hs
  have hL : ∀ (s : List Nat),s ∈ ks.map (·.1) → ∀ (l : List Int),l.length = ks.length → placeOf ks s < l.length := by
    intro s hs l hl
    have := placeOf_lt hs
    omega
  have hzl : (zs ks).length = ks.length := by simp [zs]
  have ez : iD (List.replicate ks.length 0) = iD (zs ks) := rfl
  rw [ez] at hz
  generalize callF fns (n + 4) = Φ at *
  suffices Q : ∃ ρ',ex Φ t_deal_of [.shop (nD ks) (pD ks),.sh o.dat,.un,.un,.un,.un,.un] = .ok (.ret (.sh (rD (dealOf ks o))),ρ') by
    obtain ⟨ρ',Q⟩ := Q
    exact (congrArg (· >>= fun r => Out.ok (outOf r)) Q).trans rfl
  unfold t_deal_of
  have hlen' : biD .len [.lst (nD ks)] = .ok (.int ks.length) := by show Out.ok (Dat.int ((nD ks).length : Int)) = _; rw [hlen]
  refine ex_step (sx_ex (sv_call rfl hn) rfl) ?_
  refine ex_step (sx_asgO (sv_bin rfl (sv_bi rfl rfl hlen') rfl rfl hz)) ?_
  cases o with
  | more nm m c =>
    have h1 := hp nm h.1
    have h2 := hL nm h.1 (zs ks) hzl
    have h3 := price_at h.1
    have h4 : binD .mul (.int c) (.int (priceOf ks nm)) = .ok (.sh (.int (c * priceOf ks nm))) := mul_i (Or.inl (by have := h.2; omega))
    refine ex_step rfl ?_
    refine ex_step rfl ?_
    refine ex_step (sx_asg (sv_mcall rfl (st_cons (sv_idxT (l := [.str sMore,.str nm,.int m,.int c]) rfl rfl idxL_1) rfl rfl) h1) rfl) ?_
    refine ex_step (sx_asg (sv_idxL rfl rfl h3) rfl) ?_
    exact ex_ret1 (sx_yes rfl (ex_next (sx_setI (sv_idxT (l := [.str sMore,.str nm,.int m,.int c]) rfl rfl idxL_2) rfl rfl h2) (sx_cret (sv_tup (st_cons rfl rfl (st_cons (sb (sv_idxT (l := [.str sMore,.str nm,.int m,.int c]) rfl rfl idxL_3) rfl h4) rfl rfl)) rfl) rfl)))
  | share nm pc =>
    have h1 := hp nm h.1
    have h2 := hL nm h.1 (zs ks) hzl
    have h3 := price_at h.1
    have h4 : binD .mul (.int (priceOf ks nm)) (.int pc) = .ok (.sh (.int (priceOf ks nm * pc))) := mul_i (Or.inr (by have := h.2; omega))
    have h5 := fdiv_i (a := priceOf ks nm * pc) (b := 100) (by decide) (by decide)
    refine ex_step rfl ?_
    refine ex_step rfl ?_
    refine ex_step (sx_asg (sv_mcall rfl (st_cons (sv_idxT (l := [.str sShare,.str nm,.int pc]) rfl rfl idxL_1) rfl rfl) h1) rfl) ?_
    refine ex_step (sx_asg (sv_idxL rfl rfl h3) rfl) ?_
    refine ex_step rfl ?_
    refine ex_step (sx_setI rfl rfl rfl h2) ?_
    exact ⟨_,sx_cret (sv_tup (st_cons rfl rfl (st_cons (sb rfl (sb (sb rfl (sv_idxT (l := [.str sShare,.str nm,.int pc]) rfl rfl idxL_2) h4) rfl h5) rfl) rfl rfl)) rfl) rfl⟩
  | slip a b x =>
    have h1 := hp a h.1
    have h1' := hp b h.2.1
    have h2 := hL b h.2.1 (zs ks) hzl
    have h2' := hL a h.1 ((zs ks).set (placeOf ks b) 1) (by simp [hzl])
    have h3 := price_at h.2.1
    simp only [List.length_set] at h2'
    refine ex_step rfl ?_
    exact ex_ret1 (sx_yes rfl (ex_next (sx_asg (sv_mcall rfl (st_cons (sv_idxT (l := [.str sSlip,.str a,.str b,.int x]) rfl rfl idxL_2) rfl rfl) h1') rfl) (ex_next (sx_setI rfl rfl rfl h2) (ex_next (sx_setI rfl rfl (sv_mcall rfl (st_cons (sv_idxT (l := [.str sSlip,.str a,.str b,.int x]) rfl rfl idxL_1) rfl rfl) h1) (by rw [List.length_set]; exact h2')) (sx_cret (sv_tup (st_cons rfl rfl (st_cons (sv_bi (st_cons rfl rfl (st_cons (sb (sv_idxL rfl rfl h3) (sv_idxT (l := [.str sSlip,.str a,.str b,.int x]) rfl rfl idxL_3) rfl) rfl rfl)) rfl rfl) rfl rfl)) rfl) rfl)))))
  | set ws p =>
    have loop : ∀ (l : List Kind) (c : List Int) (y z : Val),(∀ w ∈ l,w.1 ∈ ks.map (·.1)) → c.length = ks.length → ∃ y' z',forL (stepF Φ [3,4] b_deal_of_1) (l.map kD) [.shop (nD ks) (pD ks),.sh (.tup [.str sSet,.tup (ws.map kD),.int p]),.own (iD c),y,z,.un,.un] =
        .ok (.next,[.shop (nD ks) (pD ks),.sh (.tup [.str sSet,.tup (ws.map kD),.int p]),.own (iD (l.foldl (setTo ks) c)),y',z',.un,.un]) := by
      intro l
      induction l with
      | nil => intro c y z _ _; exact ⟨y,z,rfl⟩
      | cons w l ih =>
        intro c y z hl hc
        obtain ⟨y',z',e⟩ := ih (setTo ks c w) (.sh (.str w.1)) (.sh (.int w.2)) (fun w hw => hl w (List.mem_cons_of_mem _ hw)) (by simp [setTo,hc])
        refine ⟨y',z',?_⟩
        have hm := hl w (List.mem_cons_self ..)
        have h1 := hp w.1 hm
        have h2 := hL w.1 hm c hc
        rw [List.map_cons,forL_next,e]
        · rfl
        · exact show ex Φ b_deal_of_1 [.shop (nD ks) (pD ks),.sh (.tup [.str sSet,.tup (ws.map kD),.int p]),.own (iD c),.sh (.str w.1),.sh (.int w.2),.un,.un] = _ from ex_next (sx_setI rfl rfl (sv_mcall rfl rfl h1) h2) rfl
    obtain ⟨y',z',e⟩ := loop ws (zs ks) .un .un (fun w hw => h.1.sub w hw) hzl
    exact ex_ret1 (sx_yes rfl (ex_next (sx_for rfl e) (sx_cret (sv_tup (st_cons rfl rfl (st_cons (sv_idxT (l := [.str sSet,.tup (ws.map kD),.int p]) rfl rfl idxL_2) rfl rfl)) rfl) rfl)))
end Mine.PL
namespace Mine.PL
open Mine
variable {fns : List Fn}
theorem lt_line {n : Nat} (h : n ≤ 2000) : n < line := Nat.lt_of_le_of_lt h (by simp only [line]; lia)
theorem le_line {n : Nat} (h : n ≤ 2000) : n ≤ line := Nat.le_of_lt (lt_line h)
noncomputable def priceAt (ks : List Kind) (i : Nat) : Int := (ks.map (·.2))[i]?.getD 0
noncomputable def unitRow (ks : List Kind) (i : Nat) : Row := ((zs ks).set i 1,priceAt ks i)
noncomputable def rowsOf (ks : List Kind) (os : List Off) : List Row := (List.range ks.length).map (unitRow ks) ++ os.map (dealOf ks)
theorem range_map_succ {α : Type} (f : Nat → α) (i : Nat) : (List.range (i + 1)).map f = (List.range i).map f ++ [f i] := by
  rw [List.range_succ,List.map_append]; rfl
theorem priceAt_at {ks : List Kind} {i : Nat} (h : i < ks.length) : idxL (pD ks) i = .ok (.sh (.int (priceAt ks i))) := by
  refine idxL_at (by lia) ?_
  simp only [Int.toNat_natCast,pD,List.getElem?_map,priceAt,List.getElem?_eq_getElem h]
  rfl
theorem sp_deals (H1 : Has1 fns) (H : Has2 fns) (n : Nat) (ks : List Kind) (hk : KindsOk ks) (os : List Off) (ho : ∀ o ∈ os,OffOk ks o) (hos : os.length ≤ 1000) :
    callF fns (n + 6) 14 [.shop (nD ks) (pD ks),.sh (.lst (os.map Off.dat))] = .ok (.own ((rowsOf ks os).map rD)) := by
  rw [callF_succ H.b14,runFn_plain rfl rfl]
  have hlen : (nD ks).length = ks.length := by simp [nD]
  have h5 := hk.len5
  have hz := mul_l1 (a := .int 0) (n := ks.length) (by lia)
  rw [iD_rep] at hz
  have ez : iD (List.replicate ks.length 0) = iD (zs ks) := rfl
  rw [ez] at hz
  have hzl : (zs ks).length = ks.length := by simp [zs]
  obtain ⟨ρ',eρ,y3,y4,er⟩ := forL_idx (stepF (callF fns (n + 5)) [3] b_deals_1) (fun o ρ => ∃ y3 y4,ρ = [.shop (nD ks) (pD ks),.sh (.lst (os.map Off.dat)),.own (((List.range o).map (unitRow ks)).map rD),y3,y4,.un])
    (rangeL 0 1 ks.length) 0 [.shop (nD ks) (pD ks),.sh (.lst (os.map Off.dat)),.own [],.un,.un,.un] ⟨.un,.un,rfl⟩ (by
      intro i d ρ hd ⟨y3,y4,er⟩
      obtain ⟨hi,ed⟩ := rangeL_get hd
      subst er ed
      simp only [Nat.zero_add]
      have hp := priceAt_at hi
      have hl : i < line := lt_line (by lia)
      have hb : i < (zs ks).length := by lia
      refine ⟨[.shop (nD ks) (pD ks),.sh (.lst (os.map Off.dat)),.own (((List.range (i + 1)).map (unitRow ks)).map rD),.sh (.int i),.own (iD ((zs ks).set i 1)),.un],?_,_,_,rfl⟩
      show ex (callF fns (n + 5)) b_deals_1 [.shop (nD ks) (pD ks),.sh (.lst (os.map Off.dat)),.own (((List.range i).map (unitRow ks)).map rD),.sh (.int i),y4,.un] = _
      rw [range_map_succ,List.map_append]
      generalize callF fns (n + 5) = Φ
      exact ex_next (sx_asgO (sv_bin rfl (sv_bi rfl rfl (len_map _ ks)) rfl rfl hz)) (ex_next (sx_setI rfl rfl rfl hb) (ex_next (sx_app rfl (sv_tup (st_cons rfl rfl (st_cons (sv_idxL rfl rfl hp) rfl rfl)) rfl) rfl (by rw [List.length_map,List.length_map,List.length_range]; exact hl)) rfl)))
  subst er
  rw [rangeL_length,Nat.zero_add] at eρ
  have loop : ∀ (post pre : List Off) (y : Val),os = pre ++ post → ∃ z,forL (stepF (callF fns (n + 5)) [5] b_deals_2) (post.map Off.dat) [.shop (nD ks) (pD ks),.sh (.lst (os.map Off.dat)),.own ((rowsOf ks pre).map rD),y3,y4,y] =
      .ok (.next,[.shop (nD ks) (pD ks),.sh (.lst (os.map Off.dat)),.own ((rowsOf ks os).map rD),y3,y4,z]) := by
    intro post
    induction post with
    | nil => intro pre y e; simp only [List.append_nil] at e; subst e; exact ⟨y,rfl⟩
    | cons o post ih =>
      intro pre y e
      obtain ⟨z,ez⟩ := ih (pre ++ [o]) (.sh o.dat) (by simp [e])
      refine ⟨z,?_⟩
      have hd := sp_deal_of H1 H n ks hk o (ho o (by rw [e]; simp))
      have hl : ((rowsOf ks pre).map rD).length < line := by
        have : pre.length ≤ os.length := by rw [e]; simp
        apply lt_line
        simp only [rowsOf,List.length_map,List.length_append,List.length_range]; lia
      have ep : (rowsOf ks pre).map rD ++ [rD (dealOf ks o)] = (rowsOf ks (pre ++ [o])).map rD := by simp [rowsOf]
      rw [List.map_cons,forL_next,ez]
      show ex (callF fns (n + 5)) b_deals_2 [.shop (nD ks) (pD ks),.sh (.lst (os.map Off.dat)),.own ((rowsOf ks pre).map rD),y3,y4,.sh o.dat] = _
      rw [← ep]
      exact ex_next (sx_app rfl (sv_call rfl hd) rfl hl) rfl
  obtain ⟨z,ez2⟩ := loop os [] .un rfl
  have e0 : (rowsOf ks []).map rD = ((List.range ks.length).map (unitRow ks)).map rD := by simp [rowsOf]
  rw [e0] at ez2
  have hr := rngOk_of (y := (ks.length : Int)) (by lia) (by lia)
  generalize (rowsOf ks os).map rD = B at *
  generalize ((List.range ks.length).map (unitRow ks)).map rD = A at *
  exact run_ret (ex_step rfl (ex_step (sx_for (sv_rng (sv_bi rfl rfl (len_map _ ks)) hr) eρ) (ex_step (sx_for rfl ez2) ⟨_,rfl⟩)))
end Mine.PL
namespace Mine.PL
open Mine
variable {fns : List Fn}
noncomputable def nameD (d : Dat) : Bool := match d with
  | .str s => decide (1 ≤ s.length) && decide (s.length ≤ 8) && s.all fun c => decide (c ∈ letters)
  | _ => false
theorem ex_exn {Φ : Nat → List Val → Out Val} {a b : T} {ρ : List Val} {c : Nat} (h : ex Φ a ρ = .exn c) : ex Φ (.cons a b) ρ = .exn c := by show seq (ex Φ a ρ) (ex Φ b) = _; rw [h]; rfl
theorem forL_exn {f : List Val → Dat → Out (Fl × List Val)} {ρ : List Val} {d : Dat} {ds : List Dat} {c : Nat} (h : f ρ d = .exn c) : forL f (d :: ds) ρ = .exn c := by show seq (f ρ d) (forL f ds) = _; rw [h]; rfl
theorem sign_in (c : Nat) : cmpD .notin (.str [c]) (.str letters) = .ok (!decide (c ∈ letters)) := rfl
theorem for_nameD (Φ) (X : Val) : ∀ (l : List Nat) (y : Val),∃ ρ,forL (stepF Φ [1] b_is_name_1) (signs l) [X,y] = (if l.all (fun c => decide (c ∈ letters)) then .ok (.next,ρ) else .ok (.ret (.sh (.bool false)),ρ))
  | [],y => ⟨_,rfl⟩
  | c :: l,y => by
    obtain ⟨ρ,e⟩ := for_nameD Φ X l (.sh (.str [c]))
    have hs := sign_in c
    by_cases hc : c ∈ letters
    · refine ⟨ρ,?_⟩
      rw [decide_eq_true hc] at hs
      rw [signs,List.map_cons,List.all_cons,decide_eq_true hc,Bool.true_and,← e]
      exact forL_next (show ex Φ b_is_name_1 [X,.sh (.str [c])] = _ from ex_next (sx_no (sv_cmp rfl rfl rfl rfl hs)) rfl)
    · refine ⟨[X,.sh (.str [c])],?_⟩
      rw [decide_eq_false hc] at hs
      rw [signs,List.map_cons,List.all_cons,decide_eq_false hc,Bool.false_and]
      exact forL_ret (show ex Φ b_is_name_1 [X,.sh (.str [c])] = _ from sx_stop (sx_yes (sv_cmp rfl rfl rfl rfl hs) (sx_cret rfl rfl)))
theorem sv_cmp2 {Φ : Nat → List Val → Out Val} {ρ : List Val} {a b c : T} {o p : COp} {x y z : Val} {dx dy dz : Dat} {q1 q2 : Bool} (ha : ev Φ a ρ = .ok x) (hb : ev Φ b ρ = .ok y) (hc : ev Φ c ρ = .ok z) (nx : needB x = .ok dx) (ny : needB y = .ok dy) (nz : needB z = .ok dz)
    (h1 : cmpD o dx dy = .ok q1) (h2 : cmpD p dy dz = .ok q2) : ev Φ (.cmp2 o p a b c) ρ = .ok (.sh (.bool (q1 && q2))) := by
  refine ev_cmp2.trans (ob (x := q1 && q2) (ob (ob ha nx) (ob (ob hb ny) (ob h1 ?_))) rfl)
  cases q1
  · rfl
  · exact ob (ob hc nz) h2
theorem sv_orB {Φ : Nat → List Val → Out Val} {ρ : List Val} {a b : T} {p q : Bool} (ha : ev Φ a ρ = .ok (.sh (.bool p))) (hb : p = false → ev Φ b ρ = .ok (.sh (.bool q))) : ev Φ (.or a b) ρ = .ok (.sh (.bool (p || q))) := by
  cases p
  · exact sv_or ha (hb rfl)
  · exact sv_or_t ha
theorem sv_andB {Φ : Nat → List Val → Out Val} {ρ : List Val} {a b : T} {p q : Bool} (ha : ev Φ a ρ = .ok (.sh (.bool p))) (hb : p = true → ev Φ b ρ = .ok (.sh (.bool q))) : ev Φ (.and a b) ρ = .ok (.sh (.bool (p && q))) := by
  cases p
  · exact sv_and_f ha
  · exact sv_and ha (hb rfl)
theorem len_test {Φ : Nat → List Val → Out Val} {ρ : List Val} {a hi : T} {X : Val} {d : Dat} {k : Int} {n : Nat} (ha : ev Φ a ρ = .ok X) (hx : argV X = .ok X) (hn : needB X = .ok d) (hh : ev Φ hi ρ = .ok (.sh (.int k))) (hb : lenD d = .ok (.int n)) :
    ev Φ (.not (.cmp2 .le .le (.cI 1) (.bi .len (.cons a .nil)) hi)) ρ = .ok (.sh (.bool (!(decide ((1 : Int) ≤ n) && decide ((n : Int) ≤ k))))) := by
  refine sv_not (sv_cmp2 rfl (sv_bi (as := [X]) (l := [d]) (d := .int n) (st_cons ha hx rfl) ?_ hb) hh rfl rfl rfl rfl rfl)
  show (needB X >>= fun d => allB [] >>= fun ds => Out.ok (d :: ds)) = _
  rw [hn]; rfl
theorem sp_nameD (H : Has01 fns) (n : Nat) (d : Dat) (h : d ≠ .dic) : callF fns (n + 1) 1 [.sh d] = .ok (.sh (.bool (nameD d))) := by
  rw [callF_succ H.b1,runFn_plain rfl rfl]
  cases d with
  | dic => exact absurd rfl h
  | str s =>
    obtain ⟨ρ,e⟩ := for_nameD (callF fns n) (.sh (.str s)) s .un
    have t1 : ev (callF fns n) (.or (.not (.isi .str (.v 0))) (.not (.cmp2 .le .le (.cI 1) (.bi .len (.cons (.v 0) .nil)) (.gI 8)))) [.sh (.str s),.un] = .ok (.sh (.bool (!(decide ((1 : Int) ≤ s.length) && decide ((s.length : Int) ≤ 8))))) := sv_or rfl (len_test (X := .sh (.str s)) rfl rfl rfl rfl rfl)
    have hd : nameD (.str s) = ((decide ((1 : Int) ≤ s.length) && decide ((s.length : Int) ≤ 8)) && s.all fun c => decide (c ∈ letters)) := by
      show (decide (1 ≤ s.length) && decide (s.length ≤ 8) && _) = _
      congr 2
      · exact decide_eq_decide.mpr (by lia)
      · exact decide_eq_decide.mpr (by lia)
    rw [hd]
    generalize (decide ((1 : Int) ≤ s.length) && decide ((s.length : Int) ≤ 8)) = q at t1
    refine run_ret ?_
    cases q
    · exact ⟨_,sx_stop (sx_yes t1 (sx_cret rfl rfl))⟩
    · refine ex_step (sx_no t1) ?_
      cases ha : s.all (fun c => decide (c ∈ letters)) with
      | true =>
        rw [ha] at e
        exact ex_step (sx_for rfl e) (ex_ret1 (sx_ret rfl rfl))
      | false =>
        rw [ha] at e
        exact ex_ret1 (sx_for rfl e)
  | _ => rfl
end Mine.PL
namespace Mine.PL
open Mine
variable {fns : List Fn}
theorem compL_yes {f : Dat → Out (Option Dat)} {d x : Dat} {ds r : List Dat} (h : f d = .ok (some x)) (k : compL f ds = .ok r) : compL f (d :: ds) = .ok (x :: r) := by
  show (f d >>= _) = _
  rw [h]
  show (compL f ds >>= _) = _
  rw [k]; rfl
noncomputable def fstD (d : Dat) : Dat := match d with
  | .tup (a :: _) => a
  | _ => .none
noncomputable def sndD (d : Dat) : Dat := match d with
  | .tup (_ :: b :: _) => b
  | _ => .none
end Mine.PL
namespace Mine.PL
open Mine
variable {fns : List Fn}
section
variable {Φ : Nat → List Val → Out Val} {ρ : List Val} {i f : Nat} {d a b : Dat}
theorem ev_at (hv : ρ.getD i .un = .sh d) : ev Φ (.v i) ρ = .ok (.sh d) := by show rd (ρ.getD i .un) = _; rw [hv]; rfl
theorem fine_dic {k : Nat} (h : Dat.fine k d = true) : d ≠ .dic := fun q => by subst q; cases k <;> cases h
theorem fine_tup {k : Nat} {l : List Dat} (h : Dat.fine (k + 1) (.tup l) = true) : ∀ x ∈ l,Dat.fine k x = true := List.all_eq_true.mp h
theorem in_test {j : Nat} {names : List Dat} (hv : ρ.getD i .un = .sh (.tup [a,b])) (hn : ρ.getD j .un = .own names) (fa : a.fine 20 = true) (fn : names.all (Dat.fine 20) = true) :
    ev Φ (.cmp .isin (.idx (.v i) (.cI 0)) (.v j)) ρ = .ok (.sh (.bool (names.any fun x => Dat.eq x a))) := by
  have e := ev_at (Φ := Φ) hv
  have e2 : ev Φ (.v j) ρ = .ok (.bor names) := by show rd (ρ.getD j .un) = _; rw [hn]; rfl
  refine sv_cmp (sv_idxT e rfl rfl) e2 rfl rfl ?_
  show (if a.fine 20 && names.all (Dat.fine 20) then Out.ok _ else .bad) = _
  rw [fa,fn]; rfl
end
end Mine.PL
namespace Mine.PL
open Mine
variable {fns : List Fn}
theorem fine_up {k : Nat} {d : Dat} (h : Dat.fine k d = true) : Dat.fine (k + 1) d = true := by
  induction k generalizing d with
  | zero => cases d <;> first | rfl | cases h
  | succ k ih => cases d <;> first | rfl | (exact List.all_eq_true.mpr fun x hx => ih (List.all_eq_true.mp h x hx)) | cases h
end Mine.PL
namespace Mine.PL
open Mine
variable {fns : List Fn}
theorem sx_try {Φ : Nat → List Val → Out Val} {a h : T} {k i c : Nat} {ρ ρ2 : List Val} {d : Dat} (ha : ex Φ a ρ = .exn c) (hh : ex Φ h ((ρ.map fun _ => Val.un).set i (.exc c)) = .ok (.ret (.sh d),ρ2)) : ex Φ (.try_ a k i h) ρ = .ok (.ret (.sh d),ρ2.set i .un) := by
  show tryS i (ex Φ h) ρ (ex Φ a ρ) = _
  rw [ha]
  show (noX (ex Φ h ((ρ.map fun _ => Val.un).set i (.exc c))) >>= fun r => plF r.1 >>= fun f => Out.ok (f,r.2.set i .un)) = _
  rw [hh]; rfl
theorem sx_tryN {Φ : Nat → List Val → Out Val} {a h : T} {k i : Nat} {ρ : List Val} {r : Fl × List Val} (ha : ex Φ a ρ = .ok r) : ex Φ (.try_ a k i h) ρ = .ok r := by
  show tryS i (ex Φ h) ρ (ex Φ a ρ) = _
  rw [ha]; rfl
theorem sv_mcallX {Φ : Nat → List Val → Out Val} {a t : T} {ρ : List Val} {as : List Val} {f c : Nat} {z w : List Dat} (ha : ev Φ a ρ = .ok (.shop z w)) (h1 : evT Φ t ρ = .ok as) (h2 : Φ f (.shop z w :: as) = .exn c) : ev Φ (.mcall f a t) ρ = .exn c := ob ha (ob (f := fun vs => Φ f (.shop z w :: vs)) h1 h2)
theorem sx_asgX {Φ : Nat → List Val → Out Val} {e : T} {ρ : List Val} {i c : Nat} (h : ev Φ e ρ = .exn c) : ex Φ (.asg i e) ρ = .exn c := by
  show (ev Φ e ρ >>= stoV >>= fun x => Out.ok (Fl.next,ρ.set i x)) = _
  rw [h]; rfl
theorem sx_retX {Φ : Nat → List Val → Out Val} {e : T} {ρ : List Val} {c : Nat} (h : ev Φ e ρ = .exn c) : ex Φ (.ret e) ρ = .exn c := by
  show (ev Φ e ρ >>= retV >>= fun x => Out.ok (Fl.ret x,ρ)) = _
  rw [h]; rfl
noncomputable def inNames (ns : List Dat) (d : Dat) : Bool := ns.any fun x => Dat.eq x d
theorem sp_placeX (H : Has1 fns) (n : Nat) {ns ps : List Dat} {d : Dat} (fd : d.fine 20 = true) (fn : ns.all (Dat.fine 20) = true) :
    (inNames ns d = false → callF fns (n + 2) 3 [.shop ns ps,.sh d] = .exn 9) ∧ (nameD d = true → ∀ i : Nat,ns.findIdx? (fun x => Dat.eq x d) = some i → callF fns (n + 2) 3 [.shop ns ps,.sh d] = .ok (.sh (.int i))) := by
  rw [callF_succ H.b3,runFn_plain rfl rfl]
  have e1 : ev (callF fns (n + 1)) (.not (.call 1 (.cons (.v 1) .nil))) [.shop ns ps,.sh d] = .ok (.sh (.bool (!nameD d))) := sv_not (sv_call rfl (sp_nameD H.toHas01 n d (fine_dic fd)))
  have e2 : ev (callF fns (n + 1)) (.cmp .notin (.v 1) (.attr false (.v 0))) [.shop ns ps,.sh d] = .ok (.sh (.bool (!inNames ns d))) := by
    refine sv_cmp rfl rfl rfl rfl ?_
    show (if d.fine 20 && ns.all (Dat.fine 20) then Out.ok _ else .bad) = _
    rw [fd,fn]; rfl
  have e3 := sv_orB e1 (fun _ => e2)
  refine ⟨fun h => ?_,fun hn i hi => ?_⟩
  · rw [h,Bool.not_false,Bool.or_true] at e3
    show (ex (callF fns (n + 1)) t_Shop_place [.shop ns ps,.sh d] >>= _) = _
    rw [show ex (callF fns (n + 1)) t_Shop_place [.shop ns ps,.sh d] = .exn 9 from ex_exn (sx_yes e3 (ex_exn rfl))]
    rfl
  · have hin : inNames ns d = true := by
      unfold inNames
      obtain ⟨hj,h1,_⟩ := List.findIdx?_eq_some_iff_getElem.mp hi
      exact List.any_eq_true.mpr ⟨_,List.getElem_mem hj,h1⟩
    rw [hn,hin] at e3
    refine run_ret (ex_step (sx_no e3) (ex_ret1 (sx_ret (sv_meth rfl rfl rfl rfl rfl (v := .sh (.int i)) ?_) rfl)))
    show (if d.fine 20 && ns.all (Dat.fine 20) then (match ns.findIdx? (fun x => Dat.eq x d) with | some i => Out.ok (Val.sh (.int i)) | Option.none => .bad) else .bad) = _
    rw [fd,fn,hi]; rfl
end Mine.PL
namespace Mine.PL
open Mine
variable {fns : List Fn}
theorem idx_get {l : List Dat} {k : Int} (h0 : 0 ≤ k) (h : k < l.length) : ∃ d ∈ l,idxL l k = .ok (.sh d) := by
  have hk : k.toNat < l.length := by lia
  refine ⟨l[k.toNat],List.getElem_mem hk,?_⟩
  unfold idxL posOf
  rw [if_pos h0,if_pos h]
  show (match l[k.toNat]? with | some d => Out.ok (Val.sh d) | Option.none => .bad) = _
  rw [List.getElem?_eq_getElem hk]
theorem mem_cut {α : Type} {lo hi : Option Int} {l : List α} {x : α} (h : x ∈ cut lo hi l) : x ∈ l := List.mem_of_mem_drop (List.mem_of_mem_take h)
theorem len_cut {α : Type} {lo hi : Option Int} {l : List α} : (cut lo hi l).length ≤ l.length := by
  unfold cut
  rw [List.length_take,List.length_drop]
  lia
section
variable {Φ : Nat → List Val → Out Val} {ρ ρ' : List Val} {a b e lo hi : T} {is : List Nat} {ds l l' : List Dat} {s s' : List Nat} {x y : Option Int}
theorem sv_slL (h : ev Φ a ρ = .ok (.sh (.lst l))) (h1 : evO Φ lo ρ = .ok x) (h2 : evO Φ hi ρ = .ok y) : ev Φ (.sl a lo hi) ρ = .ok (.own (cut x y l)) := by
  rw [ev_sl,h]
  show (evO Φ lo ρ >>= fun q => evO Φ hi ρ >>= fun h => sl2 (.lst l) q h) = _
  rw [h1]
  show (evO Φ hi ρ >>= fun h => sl2 (.lst l) x h) = _
  rw [h2]; rfl
theorem sv_addL {X Y : Val} (ha : ev Φ a ρ = .ok X) (hb : ev Φ b ρ = .ok Y) (hX : needB X = .ok (.lst l)) (hY : needB Y = .ok (.lst l')) (h : l.length + l'.length ≤ line) : ev Φ (.bin .add a b) ρ = .ok (.own (l ++ l')) := sv_bin ha hb hX hY (if_pos h)
end
theorem line_le {n : Nat} (h : n ≤ 1000) : n ≤ line := Nat.le_trans h (by decide)
end Mine.PL
namespace Mine.PL
open Mine
variable {fns : List Fn}
theorem eqvs_self {k : Nat} (ih : ∀ {d : Dat},Dat.fine k d = true → PySem.PyData.eqv (pyOf d) (pyOf d) = true) : ∀ {l : List Dat},l.all (Dat.fine k) = true → PySem.PyData.eqvAll (pyOfs l) (pyOfs l) = true
  | [],_ => rfl
  | d :: l,h => by
    rw [List.all_cons] at h
    obtain ⟨h1,h2⟩ := Bool.and_eq_true_iff.mp h
    show (PySem.PyData.eqv (pyOf d) (pyOf d) && PySem.PyData.eqvAll (pyOfs l) (pyOfs l)) = true
    rw [ih h1,eqvs_self ih h2]; rfl
theorem eqv_self : ∀ {k : Nat} {d : Dat},Dat.fine k d = true → PySem.PyData.eqv (pyOf d) (pyOf d) = true
  | k,.none,_ => rfl
  | k,.bool b,_ => by cases b <;> rfl
  | k,.int i,_ => by show (i == i) = true; simp
  | k,.str x,_ => by show (_ == _) = true; exact beq_self_eq_true _
  | 0,.tup l,h => by cases h
  | 0,.lst l,h => by cases h
  | k + 1,.tup l,h => eqvs_self (fun h => eqv_self h) h
  | k + 1,.lst l,h => eqvs_self (fun h => eqv_self h) h
  | k,.dic,h => by cases k <;> cases h
theorem self_cmp {d : Dat} (h : d.fine 20 = true) : cmpD .eq d d = .ok true ∧ cmpD .ne d d = .ok false := by
  have hf : (d.fine 20 && d.fine 20) = true := by rw [h]; rfl
  have he : Dat.eq d d = true := eqv_self h
  exact ⟨(if_pos hf).trans (congrArg Out.ok he),(if_pos hf).trans (congrArg (fun r => Out.ok (!r)) he)⟩
end Mine.PL
namespace Mine.PL
open Mine
variable {fns : List Fn}
noncomputable def rangeD (d : Dat) (lo hi : Int) : Bool := match d with
  | .int i => decide (lo ≤ i) && decide (i ≤ hi)
  | _ => false
theorem sp_betweenR (H : Has01 fns) (n : Nat) (d : Dat) (lo hi : Int) (h : d ≠ .dic) : callF fns (n + 1) 0 [.sh d,.sh (.int lo),.sh (.int hi)] = .ok (.sh (.bool (rangeD d lo hi))) := by
  cases d with
  | dic => exact absurd rfl h
  | int i => exact sp_between H n i lo hi
  | _ => rw [callF_succ H.b0,runFn_plain rfl rfl]; rfl
noncomputable def wholeD (d : Dat) : Bool := match d with
  | .int _ => true
  | _ => false
noncomputable def isPair (d : Dat) : Bool := match d with
  | .tup [_,_] => true
  | _ => false
noncomputable def pairsD (d : Dat) : Bool := match d with
  | .tup l => l.all isPair
  | _ => false
theorem pair_of {d : Dat} (h : isPair d = true) : ∃ a b,d = .tup [a,b] := by
  cases d with
  | tup l =>
    match l,h with
    | [a,b],h => exact ⟨a,b,rfl⟩
    | [],h => cases h
    | [_],h => cases h
    | _ :: _ :: _ :: _,h => cases h
  | _ => cases h
theorem pair_test {Φ : Nat → List Val → Out Val} {ρ : List Val} {i : Nat} {d : Dat} (hv : ρ.getD i .un = .sh d) (hd : d ≠ .dic) :
    ev Φ (.or (.not (.isi .tuple (.v i))) (.cmp .ne (.bi .len (.cons (.v i) .nil)) (.cI 2))) ρ = .ok (.sh (.bool (!isPair d))) := by
  have e := ev_at (Φ := Φ) hv
  have nt : ∀ p : Bool,isiD .tuple d = .ok p → ev Φ (.not (.isi .tuple (.v i))) ρ = .ok (.sh (.bool (!p))) := fun p h => sv_not (sv_isi e rfl h)
  have ln : ∀ k : Int,lenD d = .ok (.int k) → ev Φ (.cmp .ne (.bi .len (.cons (.v i) .nil)) (.cI 2)) ρ = .ok (.sh (.bool (!(k == 2)))) := fun k h => sv_cmp (sv_bi (st_cons e rfl rfl) rfl h) rfl rfl rfl ne_i
  cases d with
  | dic => exact absurd rfl hd
  | tup l =>
    refine sv_or (nt true rfl) ?_
    cases l with
    | nil => exact ln 0 rfl
    | cons a l =>
      cases l with
      | nil => exact ln 1 rfl
      | cons b l =>
        cases l with
        | nil => exact ln 2 rfl
        | cons c r =>
          have h3 := ln ((a :: b :: c :: r).length : Int) rfl
          rw [show (((a :: b :: c :: r).length : Int) == 2) = false from beq_eq_false_iff_ne.mpr (by simp only [List.length_cons]; lia)] at h3
          exact h3
  | _ => exact sv_or_t (nt false rfl)
theorem fine_tup' {d : Dat} {l : List Dat} {k : Nat} (h : Dat.fine (k + 1) (.tup l) = true) (hd : d ∈ l) : Dat.fine k d = true := fine_tup h d hd
theorem pairs_loop (Φ) (X : Val) : ∀ (l : List Dat) (y : Val),(∀ d ∈ l,d ≠ .dic) → ∃ ρ,forL (stepF Φ [1] b_wants_pairs_1) l [X,y] = (if l.all isPair then .ok (.next,ρ) else .ok (.ret (.sh (.bool false)),ρ))
  | [],y,_ => ⟨_,rfl⟩
  | d :: l,y,hd => by
    have t := pair_test (Φ := Φ) (ρ := [X,.sh d]) (i := 1) rfl (hd d (List.mem_cons_self ..))
    rw [List.all_cons]
    cases hp : isPair d with
    | true =>
      rw [hp] at t
      obtain ⟨ρ,e⟩ := pairs_loop Φ X l (.sh d) fun x hx => hd x (List.mem_cons_of_mem _ hx)
      refine ⟨ρ,?_⟩
      rw [Bool.true_and,← e]
      exact forL_next (show ex Φ b_wants_pairs_1 [X,.sh d] = _ from ex_next (sx_no t) rfl)
    | false =>
      rw [hp] at t
      refine ⟨[X,.sh d],?_⟩
      rw [Bool.false_and]
      exact forL_ret (show ex Φ b_wants_pairs_1 [X,.sh d] = _ from sx_stop (sx_yes t (sx_cret rfl rfl)))
theorem sp_pairs (H : Has2f fns) (n : Nat) {d : Dat} {k : Nat} (fd : Dat.fine (k + 2) d = true) : callF fns (n + 1) 8 [.sh d] = .ok (.sh (.bool (pairsD d))) := by
  rw [callF_succ H.b8,runFn_plain rfl rfl]
  cases d with
  | dic => cases fd
  | tup l =>
    obtain ⟨ρ,e⟩ := pairs_loop (callF fns n) (.sh (.tup l)) l .un fun x hx => fine_dic (fine_tup' fd hx)
    refine run_ret (ex_step (sx_no rfl) ?_)
    show ∃ ρ2,ex _ _ _ = .ok (.ret (.sh (.bool (l.all isPair))),ρ2)
    cases ha : l.all isPair with
    | true => rw [ha] at e; exact ex_step (sx_for rfl e) (ex_ret1 (sx_ret rfl rfl))
    | false => rw [ha] at e; exact ex_ret1 (sx_for rfl e)
  | _ => rfl
inductive Sh : Dat → Prop
  | more (a b c : Dat) : Sh (.tup [.str sMore,a,b,c])
  | set (a b : Dat) : Sh (.tup [.str sSet,a,b])
  | share (a b : Dat) : Sh (.tup [.str sShare,a,b])
  | slip (a b c : Dat) : Sh (.tup [.str sSlip,a,b,c])
noncomputable def namesD (o : Dat) : List Dat := match o with
  | .tup [.str w,a,b] => if w = sSet then (if pairsD a then (match a with | .tup l => l.map fstD | _ => []) else []) else [a]
  | .tup [.str w,a,b,c] => if w = sSlip then [a,b] else [a]
  | _ => []
theorem comp_fst {Φ : Nat → List Val → Out Val} {ρ : List Val} {i : Nat} (hρ : ∀ d,(ρ.set i (.sh d)).getD i .un = .sh d) : ∀ {l : List Dat},(∀ d ∈ l,isPair d = true) → compL (compF Φ (.idx (.v i) (.cI 0)) [i] .nil ρ) l = .ok (l.map fstD) := fun {l} hp =>
  compL_map fun d hd => by
    obtain ⟨a,b,rfl⟩ := pair_of (hp d hd)
    exact cf_nil (show bindT [i] (.tup [a,b]) ρ = .ok (ρ.set i (.sh (.tup [a,b]))) from rfl) (sv_idxT (ev_at (hρ _)) rfl rfl) rfl
end Mine.PL
namespace Mine.PL
open Mine
variable {fns : List Fn}
theorem all_pairs {l : List Dat} (h : l.all isPair = true) : ∀ d ∈ l,isPair d = true := List.all_eq_true.mp h
theorem sp_namesD (H : Has2 fns) (n : Nat) {o : Dat} (S : Sh o) (fo : Dat.fine 20 o = true) : callF fns (n + 2) 9 [.sh o] = .ok (.own (namesD o)) := by
  rw [callF_succ H.b9,runFn_plain rfl rfl]
  cases S with
  | more a b c => exact run_ret (ex_step rfl (ex_step rfl ⟨_,rfl⟩))
  | share a b => exact run_ret (ex_step rfl (ex_step rfl ⟨_,rfl⟩))
  | slip a b c => exact run_ret (ex_step rfl (ex_ret1 rfl))
  | set a b =>
    have hw := sp_pairs H.toHas2f n (d := a) (k := 17) (fine_tup' fo (by simp))
    cases hp : pairsD a with
    | false =>
      rw [hp] at hw
      have hn : namesD (.tup [.str sSet,a,b]) = [] := by show (if pairsD a then _ else []) = _; rw [hp]; rfl
      rw [hn]
      exact run_ret (ex_ret1 (sx_yes rfl (sx_stop (sx_yes (sv_not (sv_call rfl hw)) (sx_cret rfl rfl)))))
    | true =>
      rw [hp] at hw
      cases a with
      | tup l =>
        have hn : namesD (.tup [.str sSet,.tup l,b]) = l.map fstD := by show (if pairsD (.tup l) then _ else []) = _; rw [hp]; rfl
        rw [hn]
        exact run_ret (ex_ret1 (sx_yes rfl (ex_next (sx_no (sv_not (sv_call rfl hw))) (sx_cret (sv_comp rfl (comp_fst (fun d => rfl) (all_pairs hp))) rfl))))
      | _ => cases hp
noncomputable def parts : List (List Nat × Int) := [([109,111,114,101],4),([115,101,116],3),([115,104,97,114,101],3),([115,108,105,112],4)]
section
variable {Φ : Nat → List Val → Out Val} {S : Val} {ρ : List Val} {x : Dat} {w : List Nat} {r : List Dat}
end
end Mine.PL
namespace Mine.PL
open Mine
variable {fns : List Fn}
noncomputable def setL (names : List Dat) : List Dat → Bool
  | [] => true
  | x :: l => (!(names.any fun y => Dat.eq y (fstD x)) && rangeD (sndD x) 1 9) && setL (names ++ [fstD x]) l
noncomputable def intOf (d : Dat) : Int := match d with
  | .int i => i
  | _ => 0
noncomputable def itemsD (d : Dat) : List Dat := match d with
  | .tup l => l
  | _ => []
noncomputable def setD (a b : Dat) : Bool := pairsD a && ((decide ((1 : Int) ≤ (itemsD a).length) && decide (((itemsD a).length : Int) ≤ 5)) && (rangeD b 0 100000 && setL [] (itemsD a)))
theorem fits_loop (H : Has01 fns) (n : Nat) (X Y : Val) : ∀ (l names : List Dat) (y : Val),(∀ d ∈ l,isPair d = true ∧ Dat.fine 18 d = true) → names.all (Dat.fine 20) = true → names.length + l.length < line →
    ∃ ρ,forL (stepF (callF fns (n + 1)) [3] b_set_fits_1) l [X,Y,.own names,y] = (if setL names l then .ok (.next,ρ) else .ok (.ret (.sh (.bool false)),ρ))
  | [],names,y,_,_,_ => ⟨_,rfl⟩
  | d :: l,names,y,hd,fn,hl => by
    obtain ⟨hp,fd⟩ := hd d (List.mem_cons_self ..)
    obtain ⟨a,b,rfl⟩ := pair_of hp
    have fa : Dat.fine 17 a = true := fine_tup' fd (by simp)
    have fb : Dat.fine 17 b = true := fine_tup' fd (by simp)
    have fa20 : Dat.fine 20 a = true := fine_up (fine_up (fine_up fa))
    have t1 := in_test (Φ := callF fns (n + 1)) (ρ := [X,Y,.own names,.sh (.tup [a,b])]) (i := 3) (j := 2) rfl rfl fa20 fn
    have t2 : ev (callF fns (n + 1)) (.not (.call 0 (.cons (.idx (.v 3) (.cI 1)) (.cons (.cI 1) (.cons (.cI 9) .nil))))) [X,Y,.own names,.sh (.tup [a,b])] = .ok (.sh (.bool (!rangeD b 1 9))) := sv_not (sv_call rfl (sp_betweenR H n b 1 9 (fine_dic fb)))
    have t := sv_orB t1 fun _ => t2
    have hs : setL names (.tup [a,b] :: l) = ((!(names.any fun y => Dat.eq y a) && rangeD b 1 9) && setL (names ++ [a]) l) := rfl
    rw [hs]
    rw [List.length_cons] at hl
    cases hq : (!(names.any fun y => Dat.eq y a) && rangeD b 1 9) with
    | false =>
      have hq' : ((names.any fun x => Dat.eq x a) || !rangeD b 1 9) = true := by
        cases h1 : names.any (fun x => Dat.eq x a)
        · rw [h1] at hq; rw [show rangeD b 1 9 = false from hq]; rfl
        · rfl
      rw [hq'] at t
      exact ⟨_,forL_ret (show ex (callF fns (n + 1)) b_set_fits_1 [X,Y,.own names,.sh (.tup [a,b])] = _ from sx_stop (sx_yes t (sx_cret rfl rfl)))⟩
    | true =>
      have hq' : ((names.any fun x => Dat.eq x a) || !rangeD b 1 9) = false := by
        obtain ⟨h1,h2⟩ := Bool.and_eq_true_iff.mp hq
        rw [h2,show names.any (fun x => Dat.eq x a) = false from by simpa using h1]; rfl
      rw [hq'] at t
      obtain ⟨ρ,e⟩ := fits_loop H n X Y l (names ++ [a]) (.sh (.tup [a,b])) (fun x hx => hd x (List.mem_cons_of_mem _ hx)) (by rw [List.all_append,fn,List.all_cons,fa20]; rfl) (by rw [List.length_append,List.length_cons,List.length_nil]; lia)
      refine ⟨ρ,?_⟩
      rw [Bool.true_and,← e]
      exact forL_next (show ex (callF fns (n + 1)) b_set_fits_1 [X,Y,.own names,.sh (.tup [a,b])] = _ from ex_next (sx_no t) (ex_next (sx_app rfl rfl rfl (by lia)) rfl))
theorem len5_lt {l : List Dat} (h : (decide ((1 : Int) ≤ l.length) && decide ((l.length : Int) ≤ 5)) = true) : ([] : List Dat).length + l.length < line := by
  have := of_decide_eq_true (Bool.and_eq_true_iff.mp h).2
  exact Nat.lt_of_le_of_lt (show 0 + l.length ≤ 5 by lia) (by decide)
theorem sp_setD (H1 : Has01 fns) (H : Has2f fns) (n : Nat) {a b : Dat} (fa : Dat.fine 19 a = true) (fb : Dat.fine 19 b = true) : callF fns (n + 2) 10 [.sh a,.sh b] = .ok (.sh (.bool (setD a b))) := by
  have hw := sp_pairs H n (d := a) (k := 17) fa
  rw [callF_succ H.b10,runFn_plain rfl rfl]
  refine run_ret ?_
  unfold setD
  cases hp : pairsD a with
  | false => rw [hp] at hw; exact ex_ret1 (sx_yes (sv_or_t (sv_not (sv_call rfl hw))) (sx_cret rfl rfl))
  | true =>
    rw [hp] at hw
    cases a with
    | tup l =>
      have e1 := len_test (Φ := callF fns (n + 1)) (ρ := [.sh (.tup l),.sh b,.un,.un]) (a := .v 0) (hi := .cI 5) (X := .sh (.tup l)) rfl rfl rfl rfl (n := l.length) rfl
      have e2 : ev (callF fns (n + 1)) (.not (.call 0 (.cons (.v 1) (.cons (.cI 0) (.cons (.gI 100000) .nil))))) [.sh (.tup l),.sh b,.un,.un] = .ok (.sh (.bool (!rangeD b 0 100000))) := sv_not (sv_call rfl (sp_betweenR H1 n b 0 100000 (fine_dic fb)))
      have e0 : ev (callF fns (n + 1)) (.not (.call 8 (.cons (.v 0) .nil))) [.sh (.tup l),.sh b,.un,.un] = .ok (.sh (.bool false)) := sv_not (sv_call rfl hw)
      have e := sv_or e0 (sv_orB e1 fun _ => e2)
      show ∃ ρ2,ex _ _ _ = .ok (.ret (.sh (.bool (true && ((decide ((1 : Int) ≤ l.length) && decide ((l.length : Int) ≤ 5)) && (rangeD b 0 100000 && setL [] l))))),ρ2)
      cases hq : (decide ((1 : Int) ≤ l.length) && decide ((l.length : Int) ≤ 5)) with
      | false => rw [hq] at e; exact ex_ret1 (sx_yes e (sx_cret rfl rfl))
      | true =>
        rw [hq] at e
        cases hr : rangeD b 0 100000 with
        | false => rw [hr] at e; exact ex_ret1 (sx_yes e (sx_cret rfl rfl))
        | true =>
          rw [hr] at e
          obtain ⟨ρ,ef⟩ := fits_loop H1 n (.sh (.tup l)) (.sh b) l [] .un (fun d hd => ⟨all_pairs hp d hd,fine_tup' fa hd⟩) rfl (len5_lt hq)
          refine ex_step (sx_no e) (ex_step (sx_asgO rfl) ?_)
          cases hs : setL [] l with
          | true => rw [hs] at ef; exact ex_step (sx_for rfl ef) (ex_ret1 (sx_ret rfl rfl))
          | false => rw [hs] at ef; exact ex_ret1 (sx_for rfl ef)
    | _ => cases hp
inductive SoundIs : Dat → Bool → Prop
  | more (a b c : Dat) : SoundIs (.tup [.str sMore,a,b,c]) (rangeD b 2 9 && rangeD c 1 (intOf b - 1))
  | set (a b : Dat) : SoundIs (.tup [.str sSet,a,b]) (setD a b)
  | share (a b : Dat) : SoundIs (.tup [.str sShare,a,b]) (rangeD b 1 100)
  | slip (a b c : Dat) : SoundIs (.tup [.str sSlip,a,b,c]) (!(Dat.eq a b) && rangeD c 1 100000)
theorem range_int {d : Dat} {lo hi : Int} (h : rangeD d lo hi = true) : ∃ i : Int,d = .int i ∧ lo ≤ i ∧ i ≤ hi := by
  cases d with
  | int i =>
    have h : (decide (lo ≤ i) && decide (i ≤ hi)) = true := h
    simp only [Bool.and_eq_true,decide_eq_true_eq] at h
    exact ⟨i,rfl,h⟩
  | _ => cases h
theorem ne_any {a b : Dat} (fa : Dat.fine 20 a = true) (fb : Dat.fine 20 b = true) : cmpD .ne a b = .ok (!Dat.eq a b) := if_pos (by rw [fa,fb]; rfl)
theorem sp_fitsD (H1 : Has01 fns) (H : Has2f fns) (n : Nat) {o : Dat} {q : Bool} (S : SoundIs o q) (fo : Dat.fine 20 o = true) : callF fns (n + 3) 11 [.sh o] = .ok (.sh (.bool q)) := by
  have bt := fun d lo hi h => sp_betweenR H1 (n + 1) d lo hi h
  have st := fun {a b : Dat} fa fb => sp_setD H1 H n (a := a) (b := b) fa fb
  rw [callF_succ H.b11,runFn_plain rfl rfl]
  generalize callF fns (n + 2) = Φ at bt st
  refine run_ret ?_
  cases S with
  | more a b c =>
    have fb : b ≠ .dic := fine_dic (fine_tup' fo (by simp))
    have fc : c ≠ .dic := fine_dic (fine_tup' fo (by simp))
    refine ex_ret1 (sx_yes rfl (sx_cret (sv_andB (sv_call rfl (bt b 2 9 fb)) fun hq => ?_) rfl))
    obtain ⟨i,rfl,_,_⟩ := range_int hq
    exact sv_call rfl (bt c 1 (i - 1) fc)
  | set a b => exact ex_step (sx_no rfl) (ex_ret1 (sx_yes rfl (sx_cret (sv_call rfl (st (fine_tup' fo (by simp)) (fine_tup' fo (by simp)))) rfl)))
  | share a b =>
    have fb : b ≠ .dic := fine_dic (fine_tup' fo (by simp))
    exact ex_step (sx_no rfl) (ex_step (sx_no rfl) (ex_ret1 (sx_yes rfl (sx_cret (sv_call rfl (bt b 1 100 fb)) rfl))))
  | slip a b c =>
    have fc : c ≠ .dic := fine_dic (fine_tup' fo (by simp))
    exact ex_step (sx_no rfl) (ex_step (sx_no rfl) (ex_step (sx_no rfl) (ex_ret1 (sx_ret (sv_andB (sv_cmp rfl rfl rfl rfl (ne_any (fine_up (fine_tup' fo (by simp))) (fine_up (fine_tup' fo (by simp))))) fun _ => sv_call rfl (bt c 1 100000 fc)) rfl))))
end Mine.PL
namespace Mine.PL
open Mine
noncomputable def leV : List Int → List Int → Prop
  | [],[] => True
  | [],_ :: _ => False
  | _ :: _,[] => False
  | a :: as,b :: bs => a ≤ b ∧ leV as bs
noncomputable def subV (u w : List Int) : List Int := List.zipWith (fun a b => a - b) u w
noncomputable def nnV (u : List Int) : Prop := ∀ x ∈ u,0 ≤ x
noncomputable def zeroV (u : List Int) : Prop := ∀ x ∈ u,x = 0
theorem leV_len : ∀ {w u : List Int},leV w u → w.length = u.length
  | [],[],_ => rfl
  | _ :: _,_ :: _,h => by simp [leV_len h.2]
  | [],_ :: _,h => by cases h
  | _ :: _,[],h => by cases h
theorem subV_nn : ∀ {w u : List Int},leV w u → nnV (subV u w)
  | [],[],_ => by intro x hx; simp [subV] at hx
  | a :: as,b :: bs,h => by
    intro x hx
    simp only [subV,List.zipWith_cons_cons,List.mem_cons] at hx
    rcases hx with e | e
    · have := h.1; lia
    · exact subV_nn h.2 x e
  | [],_ :: _,h => by cases h
  | _ :: _,[],h => by cases h
theorem sum_nn : ∀ {u : List Int},nnV u → 0 ≤ u.sum
  | [],_ => by simp
  | a :: u,h => by
    have := sum_nn (u := u) fun x hx => h x (List.mem_cons_of_mem _ hx)
    have := h a (List.mem_cons_self ..)
    simp only [List.sum_cons]; lia
theorem sum_zero : ∀ {u : List Int},nnV u → (u.sum = 0 ↔ zeroV u)
  | [],_ => by simp [zeroV]
  | a :: u,h => by
    have h1 := sum_nn (u := u) fun x hx => h x (List.mem_cons_of_mem _ hx)
    have h2 := h a (List.mem_cons_self ..)
    have ih := sum_zero (u := u) fun x hx => h x (List.mem_cons_of_mem _ hx)
    simp only [List.sum_cons]
    constructor
    · intro e x hx
      rcases List.mem_cons.1 hx with q | q
      · lia
      · exact ih.1 (by lia) x q
    · intro e
      have := ih.2 fun x hx => e x (List.mem_cons_of_mem _ hx)
      have := e a (List.mem_cons_self ..)
      lia
theorem sum_pos {u : List Int} (h : nnV u) (hp : ∃ x ∈ u,0 < x) : 0 < u.sum := by
  have h1 := sum_nn h
  by_cases h0 : u.sum = 0
  · obtain ⟨x,hx,hp⟩ := hp
    have := (sum_zero h).1 h0 x hx
    lia
  · lia
structure RowOk (n : Nat) (r : Row) : Prop where
  len : r.1.length = n
  nn : nnV r.1
  pos : ∃ x ∈ r.1,0 < x
inductive Way (rows : List Row) : List Int → Int → Prop
  | zero {c : List Int} : zeroV c → Way rows c 0
  | step {c : List Int} {p : Int} {r : Row} : r ∈ rows → leV r.1 c → Way rows (subV c r.1) p → Way rows c (p + r.2)
theorem Way.mono {rows rows' : List Row} (h : ∀ r ∈ rows,r ∈ rows') {c : List Int} {p : Int} (w : Way rows c p) : Way rows' c p := by
  induction w with
  | zero z => exact .zero z
  | step m l _ ih => exact .step (h _ m) l ih
noncomputable def Least (rows : List Row) (c : List Int) (p : Int) : Prop := Way rows c p ∧ ∀ p',Way rows c p' → p ≤ p'
theorem Least.unique {rows : List Row} {c : List Int} {p q : Int} (h : Least rows c p) (k : Least rows c q) : p = q := by
  have := h.2 q k.1
  have := k.2 p h.1
  lia
noncomputable def num : List Int → List Int → Int
  | c :: b,p :: w => p + (c + 1) * num b w
  | _,_ => 0
noncomputable def cnts : List Int → Int → List Int
  | [],_ => []
  | c :: b,n => n % (c + 1) :: cnts b (n / (c + 1))
noncomputable def many : List Int → Int
  | [] => 1
  | c :: b => (c + 1) * many b
theorem many_pos : ∀ {b : List Int},nnV b → 0 < many b
  | [],_ => by simp [many]
  | c :: b,h => by
    have h1 := many_pos (b := b) fun x hx => h x (List.mem_cons_of_mem _ hx)
    have h2 := h c (List.mem_cons_self ..)
    exact Int.mul_pos (by lia) h1
theorem cnts_len : ∀ {b : List Int} {n : Int},(cnts b n).length = b.length
  | [],_ => rfl
  | c :: b,n => by simp [cnts,cnts_len (b := b)]
theorem num_cnts : ∀ {b : List Int} {n : Int},nnV b → 0 ≤ n → n < many b → num b (cnts b n) = n
  | [],n,_,h0,h => by simp only [many] at h; simp only [num,cnts]; lia
  | c :: b,n,hb,h0,h => by
    have hc := hb c (List.mem_cons_self ..)
    have hc1 : 0 < c + 1 := by lia
    have hb' : nnV b := fun x hx => hb x (List.mem_cons_of_mem _ hx)
    have h1 : 0 ≤ n / (c + 1) := Int.ediv_nonneg h0 (by lia)
    have h2 : n / (c + 1) < many b := by
      apply Int.ediv_lt_of_lt_mul hc1
      rw [Int.mul_comm]; exact h
    simp only [cnts,num,num_cnts hb' h1 h2]
    exact Int.emod_add_mul_ediv n (c + 1)
theorem num_box : ∀ {b w : List Int},nnV w → leV w b → 0 ≤ num b w ∧ num b w < many b
  | [],[],_,_ => by simp [num,many]
  | c :: b,p :: w,hw,h => by
    have hp := hw p (List.mem_cons_self ..)
    obtain ⟨h1,h2⟩ := num_box (b := b) (w := w) (fun x hx => hw x (List.mem_cons_of_mem _ hx)) h.2
    have h3 := h.1
    simp only [num,many]
    have h4 : 0 ≤ (c + 1) * num b w := Int.mul_nonneg (by lia) h1
    have h5 : (c + 1) * (num b w + 1) ≤ (c + 1) * many b := Int.mul_le_mul_of_nonneg_left (by lia) (by lia)
    rw [Int.mul_add,Int.mul_one] at h5
    lia
  | [],_ :: _,_,h => by cases h
  | _ :: _,[],_,h => by cases h
theorem cnts_num : ∀ {b w : List Int},nnV w → leV w b → cnts b (num b w) = w
  | [],[],_,_ => rfl
  | c :: b,p :: w,hw,h => by
    have hp := hw p (List.mem_cons_self ..)
    have hw' : nnV w := fun x hx => hw x (List.mem_cons_of_mem _ hx)
    have h3 := h.1
    have hm : (p + (c + 1) * num b w) % (c + 1) = p := by
      rw [Int.add_mul_emod_self_left]; exact Int.emod_eq_of_lt hp (by lia)
    have hd : (p + (c + 1) * num b w) / (c + 1) = num b w := by
      rw [Int.add_mul_ediv_left _ _ (by lia),Int.ediv_eq_zero_of_lt hp (by lia)]; lia
    simp only [num,cnts,hm,hd,cnts_num hw' h.2]
  | [],_ :: _,_,h => by cases h
  | _ :: _,[],_,h => by cases h
theorem cnts_nn : ∀ {b : List Int} {n : Int},nnV b → 0 ≤ n → nnV (cnts b n)
  | [],_,_,_ => by intro x hx; simp [cnts] at hx
  | c :: b,n,hb,h0 => by
    have hc := hb c (List.mem_cons_self ..)
    intro x hx
    rcases List.mem_cons.1 hx with e | e
    · rw [e]; exact Int.emod_nonneg _ (by lia)
    · exact cnts_nn (fun x hx => hb x (List.mem_cons_of_mem _ hx)) (Int.ediv_nonneg h0 (by lia)) x e
theorem cnts_le : ∀ {b : List Int} {n : Int},nnV b → 0 ≤ n → leV (cnts b n) b
  | [],_,_,_ => trivial
  | c :: b,n,hb,h0 => by
    have hc := hb c (List.mem_cons_self ..)
    refine ⟨?_,cnts_le (fun x hx => hb x (List.mem_cons_of_mem _ hx)) (Int.ediv_nonneg h0 (by lia))⟩
    have := Int.emod_lt_of_pos n (b := c + 1) (by lia)
    lia
theorem num_sub : ∀ {b u w : List Int},u.length = b.length → w.length = b.length → num b (subV u w) = num b u - num b w
  | [],[],[],_,_ => by simp [num,subV]
  | c :: b,x :: u,y :: w,h1,h2 => by
    have ih := num_sub (b := b) (u := u) (w := w) (by simpa using h1) (by simpa using h2)
    simp only [subV,List.zipWith_cons_cons,num] at ih ⊢
    rw [ih,Int.mul_sub]; lia
  | [],_ :: _,_,h,_ => by simp at h
  | [],[],_ :: _,_,h => by simp at h
  | _ :: _,[],_,h,_ => by simp at h
  | _ :: _,_ :: _,[],_,h => by simp at h
theorem leV_trans : ∀ {u v w : List Int},leV u v → leV v w → leV u w
  | [],[],[],_,_ => trivial
  | a :: u,b :: v,c :: w,h,k => ⟨Int.le_trans h.1 k.1,leV_trans h.2 k.2⟩
  | [],_ :: _,_,h,_ => by cases h
  | _ :: _,[],_,h,_ => by cases h
  | _ :: _,_ :: _,[],_,k => by cases k
  | [],[],_ :: _,_,k => by cases k
theorem subV_le : ∀ {w u : List Int},nnV w → w.length = u.length → leV (subV u w) u
  | [],[],_,_ => trivial
  | a :: w,b :: u,hw,hl => ⟨by have := hw a (List.mem_cons_self ..); show b - a ≤ b; lia,subV_le (fun x hx => hw x (List.mem_cons_of_mem _ hx)) (by simpa using hl)⟩
  | [],_ :: _,_,h => by simp at h
  | _ :: _,[],_,h => by simp at h
theorem cnts_sub {b w : List Int} {n : Int} (hb : nnV b) (h0 : 0 ≤ n) (hn : n < many b) (hw : nnV w) (h : leV w (cnts b n)) : cnts b (n - num b w) = subV (cnts b n) w ∧ 0 ≤ n - num b w := by
  have hlen : w.length = b.length := (leV_len h).trans cnts_len
  have hs := subV_nn h
  have hl2 : leV (subV (cnts b n) w) b := leV_trans (subV_le hw (leV_len h)) (cnts_le hb h0)
  have e : num b (subV (cnts b n) w) = n - num b w := by rw [num_sub cnts_len hlen,num_cnts hb h0 hn]
  rw [← e]
  exact ⟨cnts_num hs hl2,(num_box hs hl2).1⟩
theorem num_zero : ∀ {b w : List Int},nnV b → nnV w → w.length = b.length → num b w = 0 → zeroV w
  | [],[],_,_,_,_ => by intro x hx; cases hx
  | c :: b,p :: w,hb,hw,hl,h => by
    have hp := hw p (List.mem_cons_self ..)
    have hc := hb c (List.mem_cons_self ..)
    have hb' : nnV b := fun x hx => hb x (List.mem_cons_of_mem _ hx)
    have hw' : nnV w := fun x hx => hw x (List.mem_cons_of_mem _ hx)
    have h1 : 0 ≤ num b w := by
      clear h hl
      induction b generalizing w with
      | nil => cases w <;> simp [num]
      | cons d b ih =>
        cases w with
        | nil => simp [num]
        | cons q w =>
          have := hw' q (List.mem_cons_self ..)
          have := hb' d (List.mem_cons_self ..)
          have := ih (w := w) (fun x hx => by rcases List.mem_cons.1 hx with e | e; exact e ▸ hc; exact hb' x (List.mem_cons_of_mem _ e)) (fun x hx => by rcases List.mem_cons.1 hx with e | e; exact e ▸ hp; exact hw' x (List.mem_cons_of_mem _ e)) (fun x hx => hb' x (List.mem_cons_of_mem _ hx)) (fun x hx => hw' x (List.mem_cons_of_mem _ hx))
          simp only [num]
          have : 0 ≤ (d + 1) * num b w := Int.mul_nonneg (by lia) this
          lia
    simp only [num] at h
    have h2 : 0 ≤ (c + 1) * num b w := Int.mul_nonneg (by lia) h1
    have h3 : num b w = 0 := by
      rcases Int.mul_eq_zero.1 (show (c + 1) * num b w = 0 by omega) with q | q
      · lia
      · exact q
    intro x hx
    rcases List.mem_cons.1 hx with e | e
    · lia
    · exact num_zero hb' hw' (by simpa using hl) h3 x e
  | [],_ :: _,_,_,h,_ => by simp at h
  | _ :: _,[],_,_,h,_ => by simp at h
end Mine.PL
namespace Mine.PL
open Mine
variable {fns : List Fn}
structure Has5 (fns : List Fn) : Prop where
  b4 : fns[4]? = some f_need_basket
  b5 : fns[5]? = some f_within
  b6 : fns[6]? = some f_number_of
  b7 : fns[7]? = some f_counts_of
  b15 : fns[15]? = some f_lies_in
  b16 : fns[16]? = some f_steps_of
  b17 : fns[17]? = some f_costs_of
structure Has6 (fns : List Fn) : Prop where
  b18 : fns[18]? = some f_table
  b19 : fns[19]? = some f_cost
noncomputable def BaskOk (b : List Int) : Prop := ∀ c ∈ b,0 ≤ c ∧ c ≤ 9
theorem BaskOk.nn {b : List Int} (h : BaskOk b) : nnV b := fun x hx => (h x hx).1
theorem iD_cons {a : Int} {l : List Int} : iD (a :: l) = .int a :: iD l := rfl
theorem iD_app {a b : List Int} : iD (a ++ b) = iD a ++ iD b := by simp [iD]
theorem small9 {c : Int} (h : 0 ≤ c ∧ c ≤ 9) : c.natAbs < 2 ^ 64 := by lia
theorem small10 {c : Int} (h : 0 ≤ c ∧ c ≤ 9) : (c + 1).natAbs < 2 ^ 64 := by lia
theorem sp_within (H : Has5 fns) (n : Nat) (b : List Int) (hb : BaskOk b) : callF fns (n + 1) 5 [.sh (.lst (iD b))] = .ok (.sh (.int (many b))) := by
  rw [callF_succ H.b5,runFn_plain rfl rfl]
  have loop : ∀ (l : List Int) (m : Int) (y : Val),BaskOk l → ∃ z,forL (stepF (callF fns n) [2] b_within_1) (iD l) [.sh (.lst (iD b)),.sh (.int m),y] = .ok (.next,[.sh (.lst (iD b)),.sh (.int (m * many l)),z]) := by
    intro l
    induction l with
    | nil => intro m y _; exact ⟨y,by simp [iD,forL,many]⟩
    | cons c l ih =>
      intro m y hl
      obtain ⟨z,ez⟩ := ih (m * (c + 1)) (.sh (.int c)) fun x hx => hl x (List.mem_cons_of_mem _ hx)
      have hm := mul_i (a := m) (b := c + 1) (.inr (small10 (hl c (List.mem_cons_self ..))))
      refine ⟨z,?_⟩
      rw [many,← Int.mul_assoc]
      refine (forL_next ?_).trans ez
      show ex (callF fns n) b_within_1 [.sh (.lst (iD b)),.sh (.int m),.sh (.int c)] = _
      exact ex_next (sx_asg (sb rfl rfl hm) rfl) rfl
  obtain ⟨z,ez⟩ := loop b 1 .un hb
  simp only [Int.one_mul] at ez
  exact run_ret (ex_step rfl (ex_step (sx_for rfl ez) ⟨_,rfl⟩))
theorem zipD_cons {a b : Int} {l m : List Int} : zipD (iD (a :: l)) (iD (b :: m)) = .tup [.int a,.int b] :: zipD (iD l) (iD m) := rfl
theorem sp_number_of (H : Has5 fns) (n : Nat) (b w : List Int) (hb : BaskOk b) (hw : BaskOk w) (hl : w.length = b.length) : callF fns (n + 1) 6 [.sh (.lst (iD b)),.sh (.tup (iD w))] = .ok (.sh (.int (num b w))) := by
  rw [callF_succ H.b6,runFn_plain rfl rfl]
  have loop : ∀ (l v : List Int) (N S : Int) (y z : Val),BaskOk l → BaskOk v → v.length = l.length → ∃ s' y' z',forL (stepF (callF fns n) [4,5] b_number_of_1) (zipD (iD l) (iD v)) [.sh (.lst (iD b)),.sh (.tup (iD w)),.sh (.int N),.sh (.int S),y,z] =
      .ok (.next,[.sh (.lst (iD b)),.sh (.tup (iD w)),.sh (.int (N + S * num l v)),s',y',z']) := by
    intro l
    induction l with
    | nil => intro v N S y z _ _ hv; exact ⟨.sh (.int S),y,z,by cases v <;> simp [iD,zipD,forL,num] at hv ⊢⟩
    | cons c l ih =>
      intro v N S y z h1 h2 hv
      cases v with
      | nil => simp at hv
      | cons p v =>
        refine cps fun P_ hP_ => ?_
        obtain ⟨s',y',z',e⟩ := ih v (N + p * S) (S * (c + 1)) (.sh (.int c)) (.sh (.int p)) (fun x hx => h1 x (List.mem_cons_of_mem _ hx)) (fun x hx => h2 x (List.mem_cons_of_mem _ hx)) (by simpa using hv)
        refine hP_ ?_
        clear hP_ P_
        have m1 := mul_i (a := p) (b := S) (.inl (small9 (h2 p (List.mem_cons_self ..))))
        have m2 := mul_i (a := S) (b := c + 1) (.inr (small10 (h1 c (List.mem_cons_self ..))))
        refine ⟨s',y',z',?_⟩
        have : N + p * S + S * (c + 1) * num l v = N + S * num (c :: l) (p :: v) := by
            rw [num,Int.mul_add S p,← Int.mul_assoc S,Int.mul_comm p S]; lia
        rw [← this]
        refine (forL_next ?_).trans e
        show ex (callF fns n) b_number_of_1 [.sh (.lst (iD b)),.sh (.tup (iD w)),.sh (.int N),.sh (.int S),.sh (.int c),.sh (.int p)] = _
        exact ex_next (sx_asg (sb rfl (sb rfl rfl m1) rfl) rfl) (ex_next (sx_asg (sb rfl rfl m2) rfl) rfl)
  obtain ⟨s',y',z',e⟩ := loop b w 0 1 .un .un hb hw hl
  simp only [Int.zero_add,Int.one_mul] at e
  exact run_ret (ex_step rfl (ex_step rfl (ex_step (sx_for rfl e) ⟨_,rfl⟩)))
theorem sp_counts_of (H : Has5 fns) (n : Nat) (b : List Int) (hb : BaskOk b) (hbl : b.length ≤ 1000) (k : Int) : callF fns (n + 1) 7 [.sh (.lst (iD b)),.sh (.int k)] = .ok (.own (iD (cnts b k))) := by
  rw [callF_succ H.b7,runFn_plain rfl rfl]
  have loop : ∀ (l acc : List Int) (k : Int) (y : Val),BaskOk l → acc.length + l.length ≤ 1000 → ∃ x' y',forL (stepF (callF fns n) [3] b_counts_of_1) (iD l) [.sh (.lst (iD b)),.sh (.int k),.own (iD acc),y] =
      .ok (.next,[.sh (.lst (iD b)),x',.own (iD (acc ++ cnts l k)),y']) := by
    intro l
    induction l with
    | nil => intro acc k y _ _; exact ⟨.sh (.int k),y,by simp [iD,forL,cnts]⟩
    | cons c l ih =>
      intro acc k y h1 hlen
      simp only [List.length_cons] at hlen
      have hc := h1 c (List.mem_cons_self ..)
      obtain ⟨x',y',e⟩ := ih (acc ++ [k % (c + 1)]) (k / (c + 1)) (.sh (.int c)) (fun x hx => h1 x (List.mem_cons_of_mem _ hx)) (by simp; lia)
      have m1 := mod_i (a := k) (b := c + 1) (by lia)
      have m2 := fdiv_i (a := k) (b := c + 1) (by lia) (by lia)
      have hl : acc.length < line := lt_line (by lia)
      have ea : iD acc ++ [.int (k % (c + 1))] = iD (acc ++ [k % (c + 1)]) := by simp [iD]
      refine ⟨x',y',?_⟩
      rw [cnts,List.append_cons]
      refine (forL_next ?_).trans e
      show ex (callF fns n) b_counts_of_1 [.sh (.lst (iD b)),.sh (.int k),.own (iD acc),.sh (.int c)] = _
      rw [← ea]
      exact ex_next (sx_app rfl (sb rfl rfl m1) rfl (by rw [iD_length]; exact hl)) (ex_next (sx_asg (sb rfl rfl m2) rfl) rfl)
  obtain ⟨x',y',e⟩ := loop b [] k .un hb (by simpa using hbl)
  exact run_ret (ex_step rfl (ex_step (sx_for rfl e) ⟨_,rfl⟩))
noncomputable def leB : List Int → List Int → Bool
  | a :: as,b :: bs => decide (a ≤ b) && leB as bs
  | _,_ => true
theorem leB_iff : ∀ {w c : List Int},w.length = c.length → (leB w c = true ↔ leV w c)
  | [],[],_ => by simp [leB,leV]
  | a :: as,b :: bs,h => by
    have := leB_iff (w := as) (c := bs) (by simpa using h)
    simp [leB,leV,this]
  | [],_ :: _,h => by simp at h
  | _ :: _,[],h => by simp at h
theorem sp_lies_in (H : Has5 fns) (n : Nat) (w c : List Int) : callF fns (n + 1) 15 [.sh (.tup (iD w)),.sh (.lst (iD c))] = .ok (.sh (.bool (leB w c))) := by
  rw [callF_succ H.b15,runFn_plain rfl rfl]
  have loop : ∀ (v d : List Int) (y z : Val),∃ y' z',forL (stepF (callF fns n) [2,3] b_lies_in_1) (zipD (iD v) (iD d)) [.sh (.tup (iD w)),.sh (.lst (iD c)),y,z] =
      .ok (if leB v d then .next else .ret (.sh (.bool false)),[.sh (.tup (iD w)),.sh (.lst (iD c)),y',z']) := by
    intro v
    induction v with
    | nil => intro d y z; exact ⟨y,z,by simp [iD,zipD,forL,leB]⟩
    | cons a v ih =>
      intro d y z
      cases d with
      | nil => exact ⟨y,z,by simp [iD,zipD,forL,leB]⟩
      | cons b d =>
        rw [zipD_cons]
        by_cases hab : a ≤ b
        · obtain ⟨y',z',e⟩ := ih d (.sh (.int a)) (.sh (.int b))
          refine ⟨y',z',?_⟩
          have hba : ¬ b < a := by lia
          rw [show leB (a :: v) (b :: d) = leB v d by simp [leB,hab]]
          refine (forL_next ?_).trans e
          show ex (callF fns n) b_lies_in_1 [.sh (.tup (iD w)),.sh (.lst (iD c)),.sh (.int a),.sh (.int b)] = _
          exact ex_next (sx_no (sv_cmp rfl rfl rfl rfl (congrArg Out.ok (decide_eq_false hba)))) rfl
        · refine ⟨.sh (.int a),.sh (.int b),?_⟩
          have hba : b < a := by lia
          rw [show leB (a :: v) (b :: d) = false by simp [leB,hab],forL_ret (v := .sh (.bool false)) (ρ' := [.sh (.tup (iD w)),.sh (.lst (iD c)),.sh (.int a),.sh (.int b)])]
          · rfl
          · show ex (callF fns n) b_lies_in_1 [.sh (.tup (iD w)),.sh (.lst (iD c)),.sh (.int a),.sh (.int b)] = _
            exact sx_stop (sx_yes (sv_cmp rfl rfl rfl rfl (congrArg Out.ok (decide_eq_true hba))) (sx_cret rfl rfl))
  obtain ⟨y',z',e⟩ := loop w c .un .un
  cases h : leB w c
  · rw [h] at e; exact run_ret (ex_ret1 (sx_for rfl e))
  · rw [h] at e; exact run_ret (ex_step (sx_for rfl e) ⟨_,rfl⟩)
noncomputable def sD (b : List Int) (r : Row) : Dat := .tup [.tup (iD r.1),.int (num b r.1),.int r.2]
theorem sp_steps_of (H : Has5 fns) (n : Nat) (b : List Int) (hb : BaskOk b) (rows : List Row) (hr : ∀ r ∈ rows,BaskOk r.1 ∧ r.1.length = b.length) : callF fns (n + 2) 16 [.sh (.lst (iD b)),.sh (.lst (rows.map rD))] = .ok (.own (rows.map (sD b))) := by
  rw [callF_succ H.b16,runFn_plain rfl rfl]
  have hc : compL (compF (callF fns (n + 1)) (.tup (.cons (.v 2) (.cons (.call 6 (.cons (.v 0) (.cons (.v 2) .nil))) (.cons (.v 3) .nil)))) [2,3] .nil [.sh (.lst (iD b)),.sh (.lst (rows.map rD)),.un,.un]) (rows.map rD) = .ok (rows.map (sD b)) := by
    rw [compL_mapO (g := fun r : Row => some (sD b r))]
    · simp
    · intro r hm
      have := sp_number_of H n b r.1 hb (hr r hm).1 (hr r hm).2
      exact cf_nil rfl (sv_tup (st_cons rfl rfl (st_cons (sv_call rfl this) rfl rfl)) rfl) rfl
  exact run_ret (ex_ret1 (sx_ret (sv_comp rfl hc) rfl))
theorem intsOf_iD : ∀ (l : List Int),intsOf (iD l) = some l
  | [] => rfl
  | a :: l => by
    show (intsOf (iD l)).map (a :: ·) = _
    rw [intsOf_iD l]; rfl
theorem minL_mem : ∀ (l : List Int) (a : Int),minL a l ∈ a :: l ∧ ∀ x ∈ a :: l,minL a l ≤ x
  | [],a => by simp [minL]
  | b :: l,a => by
    rw [minL]
    by_cases hq : b < a
    · rw [if_pos hq]
      obtain ⟨h1,h2⟩ := minL_mem l b
      have h0 := h2 _ (List.mem_cons_self ..)
      refine ⟨List.mem_cons_of_mem _ h1,fun x hx => ?_⟩
      rcases List.mem_cons.1 hx with e | hx
      · lia
      · exact h2 x hx
    · rw [if_neg hq]
      obtain ⟨h1,h2⟩ := minL_mem l a
      have h0 := h2 _ (List.mem_cons_self ..)
      refine ⟨?_,fun x hx => ?_⟩
      · rcases List.mem_cons.1 h1 with e | e
        · rw [e]; exact List.mem_cons_self ..
        · exact List.mem_cons_of_mem _ (List.mem_cons_of_mem _ e)
      · rcases List.mem_cons.1 hx with e | hx
        · lia
        · rcases List.mem_cons.1 hx with e | hx
          · lia
          · exact h2 x (List.mem_cons_of_mem _ hx)
end Mine.PL
namespace Mine.PL
open Mine
variable {fns : List Fn}
noncomputable def Cover (rows : List Row) (k : Nat) : Prop := ∀ c : List Int,c.length = k → nnV c → ¬ zeroV c → ∃ r ∈ rows,leV r.1 c
structure RowsOk (rows : List Row) (k : Nat) : Prop where
  row : ∀ r ∈ rows,RowOk k r
  nine : ∀ r ∈ rows,BaskOk r.1
  cover : Cover rows k
noncomputable def TabOk (b : List Int) (rows : List Row) (f : List Int) : Prop := ∀ (n : Nat) (h : n < f.length),Least rows (cnts b n) f[n]
theorem num_of_zero : ∀ {b w : List Int},zeroV w → num b w = 0
  | [],_,_ => by simp [num]
  | _ :: _,[],_ => by simp [num]
  | c :: b,p :: w,h => by
    have := num_of_zero (b := b) (w := w) fun x hx => h x (List.mem_cons_of_mem _ hx)
    simp only [num,this,h p (List.mem_cons_self ..)]; lia
theorem cnts_zero : ∀ {b : List Int},zeroV (cnts b 0)
  | [] => by intro x hx; cases hx
  | c :: b => by
    intro x hx
    simp only [cnts,Int.zero_emod,Int.zero_ediv] at hx
    rcases List.mem_cons.1 hx with e | e
    · exact e
    · exact cnts_zero (b := b) x e
theorem not_le_zero {k : Nat} {r : Row} (h : RowOk k r) {c : List Int} (hz : zeroV c) (hl : leV r.1 c) : False := by
  have hs : 0 < r.1.sum := sum_pos h.nn h.pos
  have : ∀ {w u : List Int},leV w u → zeroV u → w.sum ≤ 0 := by
    intro w
    induction w with
    | nil => intro u _ _; simp
    | cons a w ih =>
      intro u hl hz
      cases u with
      | nil => cases hl
      | cons b u =>
        have h1 := ih hl.2 fun x hx => hz x (List.mem_cons_of_mem _ hx)
        have h2 := hz b (List.mem_cons_self ..)
        have h3 := hl.1
        simp only [List.sum_cons]; lia
  have := this hl hz
  lia
theorem num_pos {b : List Int} {r : Row} (hb : nnV b) (h : RowOk b.length r) : num b r.1 ≠ 0 := by
  intro e
  obtain ⟨x,hx,hp⟩ := h.pos
  have := num_zero hb h.nn h.len e x hx
  lia
theorem num_nn : ∀ {b w : List Int},nnV b → nnV w → 0 ≤ num b w
  | [],_,_,_ => by simp [num]
  | _ :: _,[],_,_ => by simp [num]
  | c :: b,p :: w,hb,hw => by
    have := num_nn (b := b) (w := w) (fun x hx => hb x (List.mem_cons_of_mem _ hx)) fun x hx => hw x (List.mem_cons_of_mem _ hx)
    have h1 := hw p (List.mem_cons_self ..)
    have h2 := hb c (List.mem_cons_self ..)
    have : 0 ≤ (c + 1) * num b w := Int.mul_nonneg (by lia) this
    simp only [num]; lia
theorem TabOk.add {b : List Int} {rows : List Row} {f : List Int} (hb : nnV b) (hr : RowsOk rows b.length) (h : TabOk b rows f) (h0 : 1 ≤ f.length) (hn : (f.length : Int) < many b) {v : Int}
    (hmem : ∃ r ∈ rows,leV r.1 (cnts b f.length) ∧ v = f.getD ((f.length : Int) - num b r.1).toNat 0 + r.2) (hle : ∀ r ∈ rows,leV r.1 (cnts b f.length) → v ≤ f.getD ((f.length : Int) - num b r.1).toNat 0 + r.2) : TabOk b rows (f ++ [v]) := by
  have key : ∀ r ∈ rows,leV r.1 (cnts b f.length) → ∃ (h : ((f.length : Int) - num b r.1).toNat < f.length),cnts b (((f.length : Int) - num b r.1).toNat : Nat) = subV (cnts b f.length) r.1 ∧ f.getD ((f.length : Int) - num b r.1).toNat 0 = f[((f.length : Int) - num b r.1).toNat] := fun r hm hl => by
    obtain ⟨e1,e2⟩ := cnts_sub hb (by lia) hn (hr.row r hm).nn hl
    have hp := num_pos hb (hr.row r hm)
    have hnn := num_nn hb (hr.row r hm).nn
    have hlt : ((f.length : Int) - num b r.1).toNat < f.length := by lia
    refine ⟨hlt,?_,?_⟩
    · rw [Int.toNat_of_nonneg e2]; exact e1
    · simp [List.getD,List.getElem?_eq_getElem hlt]
  intro n hn'
  rw [List.length_append,List.length_singleton] at hn'
  by_cases hlt : n < f.length
  · rw [List.getElem_append_left hlt]; exact h n hlt
  · have e : n = f.length := by lia
    subst e
    rw [List.getElem_append_right (Nat.le_refl _)]
    simp only [Nat.sub_self,List.getElem_cons_zero]
    constructor
    · obtain ⟨r,hm,hl,e⟩ := hmem
      obtain ⟨hlt',e1,e2⟩ := key r hm hl
      have := (h _ hlt').1
      rw [e1,← e2] at this
      rw [e]
      exact .step hm hl this
    · intro p hp
      have hc : num b (cnts b f.length) = f.length := num_cnts hb (by lia) hn
      generalize hcc : cnts b (f.length : Int) = c at *
      cases hp with
      | zero z => rw [num_of_zero z] at hc; lia
      | @step _ p' r hm hl w =>
        obtain ⟨hlt',e1,e2⟩ := key r hm hl
        have h1 := (h _ hlt').2 p' (by rw [e1]; exact w)
        have h2 := hle r hm hl
        rw [e2] at h2
        lia
theorem TabOk.one {b : List Int} {rows : List Row} (hr : RowsOk rows b.length) : TabOk b rows [0] := by
  intro n hn
  have : n = 0 := by simp at hn; exact hn
  subst this
  refine ⟨.zero cnts_zero,fun p hp => ?_⟩
  have hz := cnts_zero (b := b)
  simp only [List.getElem_cons_zero]
  generalize hcc : cnts b ((0 : Nat) : Int) = c at *
  cases hp with
  | zero _ => lia
  | step hm hl _ => exact (not_le_zero (hr.row _ hm) hz hl).elim
theorem rangeL_get1 {m i : Nat} {d : Dat} (h : (rangeL 1 1 m)[i]? = some d) : i < m ∧ d = .int (1 + i) := by
  rw [rangeL_map,List.getElem?_map] at h
  cases e : (List.range m)[i]? with
  | none => rw [e] at h; cases h
  | some j =>
    rw [e] at h
    obtain ⟨h2,h3⟩ := List.getElem?_eq_some_iff.1 e
    simp only [List.length_range] at h2
    simp only [List.getElem_range] at h3
    subst h3
    simp only [Option.map_some,Option.some.injEq] at h
    exact ⟨h2,h.symm⟩
theorem sp_costs_of (H : Has5 fns) (n : Nat) (b : List Int) (hb : BaskOk b) (hbl : b.length ≤ 1000) (rows : List Row) (hr : RowsOk rows b.length) (hm : many b ≤ 1000) :
    ∃ f : List Int,(f.length : Int) = many b ∧ TabOk b rows f ∧ callF fns (n + 3) 17 [.sh (.lst (iD b)),.sh (.lst (rows.map rD))] = .ok (.own (iD f)) := by
  rw [callF_succ H.b17,runFn_plain rfl rfl]
  have hst := sp_steps_of H n b hb rows fun r hm => ⟨hr.nine r hm,(hr.row r hm).len⟩
  have hwi := sp_within H (n + 1) b hb
  have hmp := many_pos hb.nn
  refine cps fun P_ hP_ => ?_
  obtain ⟨ρ',eρ,f,y4,y5,y6,er,hfl,hft⟩ := forL_idx (stepF (callF fns (n + 2)) [4] b_costs_of_1) (fun o ρ => ∃ f y4 y5 y6,ρ = [.sh (.lst (iD b)),.sh (.lst (rows.map rD)),.sh (.lst (rows.map (sD b))),.own (iD f),y4,y5,y6,.un,.un,.un] ∧ f.length = o + 1 ∧ TabOk b rows f)
    (rangeL 1 1 (many b - 1).toNat) 0 [.sh (.lst (iD b)),.sh (.lst (rows.map rD)),.sh (.lst (rows.map (sD b))),.own (iD [0]),.un,.un,.un,.un,.un,.un] ⟨[0],.un,.un,.un,rfl,rfl,TabOk.one hr⟩ (by
      intro i d ρ hd h0
      refine cps fun P_ hP_ => ?_
      obtain ⟨f,y4,y5,y6,er,hfl,hft⟩ := h0
      refine hP_ ?_
      clear hP_ P_
      obtain ⟨hi,ed⟩ := rangeL_get1 hd
      subst er ed
      simp only [Nat.zero_add] at hfl ⊢
      have hnum : (1 + (i : Int)) = (f.length : Int) := by lia
      rw [hnum]
      have hco := sp_counts_of H (n + 1) b hb hbl f.length
      have hlt : (f.length : Int) < many b := by lia
      have hlen : ∀ r ∈ rows,r.1.length = (cnts b f.length).length := fun r hm => (hr.row r hm).len.trans cnts_len.symm
      have hval : ∀ r ∈ rows,leB r.1 (cnts b f.length) = true → idxL (iD f) ((f.length : Int) - num b r.1) = .ok (.sh (.int (f.getD ((f.length : Int) - num b r.1).toNat 0))) := fun r hm hl => by
        have hl' := (leB_iff (hlen r hm)).1 hl
        obtain ⟨e1,e2⟩ := cnts_sub hb.nn (by lia) hlt (hr.row r hm).nn hl'
        have hp := num_pos hb.nn (hr.row r hm)
        have hnn := num_nn hb.nn (hr.row r hm).nn
        have hlt' : ((f.length : Int) - num b r.1).toNat < f.length := by lia
        rw [idx_iD e2 (by lia)]
        simp [List.getD,List.getElem?_eq_getElem hlt']
      have hcomp : compL (compF (callF fns (n + 2)) (.bin .add (.idx (.v 3) (.bin .sub (.v 4) (.v 8))) (.v 9)) [7,8,9] (.call 15 (.cons (.v 7) (.cons (.v 5) .nil))) [.sh (.lst (iD b)),.sh (.lst (rows.map rD)),.sh (.lst (rows.map (sD b))),.own (iD f),.sh (.int f.length),.sh (.lst (iD (cnts b f.length))),y6,.un,.un,.un]) (rows.map (sD b)) =
          .ok (iD (rows.filterMap fun r => if leB r.1 (cnts b f.length) then some (f.getD ((f.length : Int) - num b r.1).toNat 0 + r.2) else Option.none)) := by
        rw [compL_mapO (g := fun r : Row => if leB r.1 (cnts b f.length) then some (.int (f.getD ((f.length : Int) - num b r.1).toNat 0 + r.2)) else Option.none)]
        · rw [iD,List.map_filterMap]
          congr 2
          funext r
          split <;> rfl
        · intro r hm
          have hli := sp_lies_in H (n + 1) r.1 (cnts b f.length)
          cases hl : leB r.1 (cnts b f.length)
          · rw [hl] at hli
            exact cf_no rfl rfl (sv_call rfl hli)
          · rw [hl] at hli
            exact cf_yes rfl rfl (sv_call rfl hli) (sb (sv_idx rfl rfl (hval r hm hl)) rfl rfl) rfl
      have hex : ∃ r ∈ rows,leV r.1 (cnts b f.length) := by
        refine hr.cover _ cnts_len (cnts_nn hb.nn (by lia)) fun hz => ?_
        have := num_cnts hb.nn (n := f.length) (by lia) hlt
        rw [num_of_zero hz] at this
        lia
      generalize hxs : (rows.filterMap fun r => if leB r.1 (cnts b f.length) then some (f.getD ((f.length : Int) - num b r.1).toNat 0 + r.2) else Option.none) = xs at hcomp
      cases xs with
      | nil =>
        obtain ⟨r,hm,hl⟩ := hex
        have h1 : (f.getD ((f.length : Int) - num b r.1).toNat 0 + r.2) ∈ ([] : List Int) := by
          rw [← hxs,List.mem_filterMap]
          exact ⟨r,hm,by rw [if_pos ((leB_iff (hlen r hm)).2 hl)]⟩
        cases h1
      | cons a t =>
        obtain ⟨m1,m2⟩ := minL_mem t a
        have hmin : biD .min [.lst (iD (a :: t))] = .ok (.int (minL a t)) := by show minI (intsOf (iD (a :: t))) = _; rw [intsOf_iD]; rfl
        have hll : f.length < line := lt_line (by lia)
        have ef : iD f ++ [.int (minL a t)] = iD (f ++ [minL a t]) := by simp [iD]
        refine ⟨[.sh (.lst (iD b)),.sh (.lst (rows.map rD)),.sh (.lst (rows.map (sD b))),.own (iD (f ++ [minL a t])),.sh (.int f.length),.sh (.lst (iD (cnts b f.length))),.sh (.lst (iD (a :: t))),.un,.un,.un],?_,f ++ [minL a t],_,_,_,rfl,by simp [hfl],?_⟩
        · show ex (callF fns (n + 2)) b_costs_of_1 [.sh (.lst (iD b)),.sh (.lst (rows.map rD)),.sh (.lst (rows.map (sD b))),.own (iD f),.sh (.int f.length),y5,y6,.un,.un,.un] = _
          rw [← ef]
          exact ex_next (sx_asg (sv_call rfl hco) rfl) (ex_next (sx_asg (sv_comp rfl hcomp) rfl) (ex_next (sx_app rfl (sv_bi rfl rfl hmin) rfl (by rw [iD_length]; exact hll)) rfl))
        · refine hft.add hb.nn hr (by lia) hlt ?_ ?_
          · rw [← hxs,List.mem_filterMap] at m1
            obtain ⟨r,hm,e⟩ := m1
            split at e
            · rename_i hl
              exact ⟨r,hm,(leB_iff (hlen r hm)).1 hl,(Option.some.inj e).symm⟩
            · cases e
          · intro r hm hl
            refine m2 _ ?_
            rw [← hxs,List.mem_filterMap]
            exact ⟨r,hm,by rw [if_pos ((leB_iff (hlen r hm)).2 hl)]⟩)
  refine hP_ ?_
  clear hP_ P_
  subst er
  have hlr : (rangeL 1 1 (many b - 1).toNat).length = (many b - 1).toNat := by rw [rangeL_map]; simp
  rw [hlr] at hfl
  refine ⟨f,by lia,hft,?_⟩
  have hr2 := rngD2_of (y := many b) (by lia) (by lia)
  generalize (many b - 1).toNat = kk at *
  exact run_ret (ex_step (sx_asg (sv_call rfl hst) rfl) (ex_step rfl (ex_step (sx_for (sv_rng2 (sv_call rfl hwi) hr2) eρ) ⟨_,rfl⟩)))
end Mine.PL
namespace Mine.PL
open Mine
variable {fns : List Fn}
theorem sp_need_basket (H1 : Has1 fns) (H : Has5 fns) (n : Nat) (ks : List Kind) (b : List Int) (hl : b.length = ks.length) (hb : BaskOk b) (hm : many b ≤ 300) : callF fns (n + 2) 4 [.shop (nD ks) (pD ks),.sh (.lst (iD b))] = .ok (.sh .none) := by
  rw [callF_succ H.b4,runFn_plain rfl rfl]
  have hwi := sp_within H n b hb
  have hlen : ((b.length : Int) == ((nD ks).length : Int)) = true := by simp [nD,hl]
  have loop : ∀ (l : List Int) (y : Val),BaskOk l → ∃ z,forL (stepF (callF fns (n + 1)) [2] b_need_basket_1) (iD l) [.shop (nD ks) (pD ks),.sh (.lst (iD b)),y] = .ok (.next,[.shop (nD ks) (pD ks),.sh (.lst (iD b)),z]) := by
    intro l
    induction l with
    | nil => intro y _; exact ⟨y,rfl⟩
    | cons c l ih =>
      intro y h
      obtain ⟨z,ez⟩ := ih (.sh (.int c)) fun x hx => h x (List.mem_cons_of_mem _ hx)
      have hc := h c (List.mem_cons_self ..)
      have hbt := sp_between H1.toHas01 n c 0 9
      refine ⟨z,?_⟩
      rw [decide_eq_true hc.1,decide_eq_true hc.2] at hbt
      refine (forL_next ?_).trans ez
      show ex (callF fns (n + 1)) b_need_basket_1 [.shop (nD ks) (pD ks),.sh (.lst (iD b)),.sh (.int c)] = _
      exact ex_next (sx_no (sv_not (sv_call rfl hbt))) rfl
  obtain ⟨z,ez⟩ := loop b .un hb
  have hm' : ¬ (300 : Int) < many b := by lia
  exact run_next (ex_next (sx_no (sv_or rfl (sv_cmp (sv_bi rfl rfl (len_ints b)) rfl rfl rfl (congrArg (fun x => Out.ok (!x)) hlen)))) (ex_next (sx_for rfl ez) (ex_next (sx_no (sv_cmp (sv_call rfl hwi) rfl rfl rfl (congrArg Out.ok (decide_eq_false hm')))) rfl)))
theorem unit_le : ∀ (c : List Int) (i : Nat),nnV c → (h : i < c.length) → 1 ≤ c[i] → leV ((List.replicate c.length (0 : Int)).set i 1) c
  | [],i,_,h,_ => by simp at h
  | a :: c,0,hn,h,h1 => by
    have hc : nnV c := fun x hx => hn x (List.mem_cons_of_mem _ hx)
    simp only [List.length_cons,List.replicate_succ,List.set_cons_zero]
    refine ⟨by simpa using h1,?_⟩
    clear h h1 hn
    induction c with
    | nil => trivial
    | cons b c ih => exact ⟨hc b (List.mem_cons_self ..),ih fun x hx => hc x (List.mem_cons_of_mem _ hx)⟩
  | a :: c,i + 1,hn,h,h1 => by
    simp only [List.length_cons,List.replicate_succ,List.set_cons_succ]
    exact ⟨hn a (List.mem_cons_self ..),unit_le c i (fun x hx => hn x (List.mem_cons_of_mem _ hx)) (by simpa using h) (by simpa using h1)⟩
theorem set_nine {l : List Int} {p : Nat} {v : Int} (h : BaskOk l) (hp : p < l.length) (h1 : 1 ≤ v) (h9 : v ≤ 9) : BaskOk (l.set p v) ∧ ∃ x ∈ l.set p v,0 < x := by
  refine ⟨fun x hx => ?_,v,?_,by lia⟩
  · rcases List.mem_or_eq_of_mem_set hx with q | q
    · exact h x q
    · subst q; lia
  · exact List.mem_set hp v
theorem zs_ok (ks : List Kind) : BaskOk (zs ks) := fun x hx => by
  have := List.eq_of_mem_replicate hx; lia
theorem mk_row {k : Nat} {l : List Int} {p : Nat} {v q : Int} (h : BaskOk l) (hl : l.length = k) (hp : p < k) (h1 : 1 ≤ v) (h9 : v ≤ 9) : RowOk k (l.set p v,q) ∧ BaskOk (l.set p v) := by
  obtain ⟨a,b⟩ := set_nine h (by lia : p < l.length) h1 h9
  exact ⟨⟨by simp [hl],fun x hx => (a x hx).1,b⟩,a⟩
theorem rowsOf_ok {ks : List Kind} (hk : KindsOk ks) {os : List Off} (ho : ∀ o ∈ os,OffOk ks o) : RowsOk (rowsOf ks os) ks.length := by
  have hz : (zs ks).length = ks.length := by simp [zs]
  have both : ∀ r ∈ rowsOf ks os,RowOk ks.length r ∧ BaskOk r.1 := by
    intro r hr
    rcases List.mem_append.1 hr with hr | hr
    · obtain ⟨i,hi,e⟩ := List.mem_map.1 hr
      subst e
      exact mk_row (zs_ok ks) hz (List.mem_range.1 hi) (by lia) (by lia)
    · obtain ⟨o,hm,e⟩ := List.mem_map.1 hr
      subst e
      have h := ho o hm
      cases o with
      | more nm m c => exact mk_row (zs_ok ks) hz (placeOf_lt h.1) (by have := h.2; lia) (by have := h.2; lia)
      | share nm p => exact mk_row (zs_ok ks) hz (placeOf_lt h.1) (by lia) (by lia)
      | slip a b x =>
        have h1 := mk_row (q := 0) (zs_ok ks) hz (placeOf_lt h.2.1) (show (1 : Int) ≤ 1 by lia) (by lia)
        exact mk_row h1.2 (by simp [hz]) (placeOf_lt h.1) (by lia) (by lia)
      | set ws p =>
        have : ∀ (l : List Kind) (c : List Int),(∀ w ∈ l,w.1 ∈ ks.map (·.1) ∧ 1 ≤ w.2 ∧ w.2 ≤ 9) → BaskOk c → c.length = ks.length → BaskOk (l.foldl (setTo ks) c) ∧ (l.foldl (setTo ks) c).length = ks.length ∧ ((l ≠ [] ∨ ∃ x ∈ c,0 < x) → ∃ x ∈ l.foldl (setTo ks) c,0 < x) := by
          intro l
          induction l with
          | nil => intro c _ hc hl; exact ⟨hc,hl,fun q => q.elim (fun q => absurd rfl q) id⟩
          | cons w l ih =>
            intro c hl hc hlen
            obtain ⟨a1,a2,a3⟩ := hl w (List.mem_cons_self ..)
            obtain ⟨b1,b2⟩ := set_nine (l := c) (p := placeOf ks w.1) (v := w.2) hc (by rw [hlen]; exact placeOf_lt a1) a2 a3
            obtain ⟨c1,c2,c3⟩ := ih (setTo ks c w) (fun x hx => hl x (List.mem_cons_of_mem _ hx)) b1 (by simp [setTo,hlen])
            exact ⟨c1,c2,fun _ => c3 (.inr b2)⟩
        obtain ⟨a,b,c⟩ := this ws (zs ks) (fun w hw => ⟨h.1.sub w hw,h.1.rng w hw⟩) (zs_ok ks) hz
        have hne : ws ≠ [] := by intro e; have := h.1.len1; rw [e] at this; simp at this
        exact ⟨⟨b,fun x hx => (a x hx).1,c (.inl hne)⟩,a⟩
  refine ⟨fun r hr => (both r hr).1,fun r hr => (both r hr).2,fun c hl hn hz => ?_⟩
  have : ∃ x ∈ c,x ≠ 0 := by
    have hz' : ¬ ∀ x ∈ c,x = 0 := hz
    simpa using hz'
  obtain ⟨x,hx,hne⟩ := this
  obtain ⟨i,hi,e⟩ := List.getElem_of_mem hx
  have hx1 : 1 ≤ c[i] := by have := hn x hx; rw [e]; lia
  refine ⟨unitRow ks i,List.mem_append_left _ (List.mem_map.2 ⟨i,List.mem_range.2 (by lia),rfl⟩),?_⟩
  have := unit_le c i hn hi hx1
  rw [hl] at this
  exact this
theorem num_full : ∀ {b : List Int},num b b = many b - 1
  | [] => by simp [num,many]
  | c :: b => by
    have := num_full (b := b)
    simp only [num,many,this,Int.mul_sub]; lia
theorem leV_refl : ∀ (b : List Int),leV b b
  | [] => trivial
  | a :: b => ⟨Int.le_refl _,leV_refl b⟩
theorem sp_table (H1 : Has1 fns) (H2 : Has2 fns) (H5 : Has5 fns) (H6 : Has6 fns) (n : Nat) (ks : List Kind) (hk : KindsOk ks) (os : List Off) (ho : ∀ o ∈ os,OffOk ks o) (hos : os.length ≤ 1000) (b : List Int) (hl : b.length = ks.length) (hb : BaskOk b) (hm : many b ≤ 300) :
    ∃ f : List Int,(f.length : Int) = many b ∧ TabOk b (rowsOf ks os) f ∧ callF fns (n + 7) 18 [.shop (nD ks) (pD ks),.sh (.lst (os.map Off.dat)),.sh (.lst (iD b))] = .ok (.own (iD f)) := by
  have hr := rowsOf_ok hk ho
  rw [← hl] at hr
  obtain ⟨f,h1,h2,h3⟩ := sp_costs_of H5 (n + 3) b hb (by have := hk.len5; lia) (rowsOf ks os) hr (by lia)
  refine ⟨f,h1,h2,?_⟩
  rw [callF_succ H6.b18,runFn_plain rfl rfl]
  have hn := sp_need_basket H1 H5 (n + 4) ks b hl hb hm
  have hd := sp_deals H1 H2 n ks hk os ho hos
  exact run_ret (ex_step (sx_ex (sv_call rfl hn) rfl) (ex_ret1 (sx_ret (sv_call (st_cons rfl rfl (st_cons (sv_call rfl hd) rfl rfl)) h3) rfl)))
theorem tab_last {b : List Int} {rows : List Row} {f : List Int} (hb : nnV b) (h1 : (f.length : Int) = many b) (h2 : TabOk b rows f) : ∃ g v,f = g ++ [v] ∧ Least rows b v := by
  have hp := many_pos hb
  have hne : f ≠ [] := by intro e; rw [e] at h1; simp at h1; lia
  refine ⟨f.dropLast,f.getLast hne,(List.dropLast_concat_getLast hne).symm,?_⟩
  have hlt : f.length - 1 < f.length := by lia
  have h := h2 (f.length - 1) hlt
  have e : ((f.length - 1 : Nat) : Int) = num b b := by rw [num_full]; lia
  rw [e,cnts_num hb (leV_refl b)] at h
  rw [List.getLast_eq_getElem]
  exact h
theorem sp_cost (H1 : Has1 fns) (H2 : Has2 fns) (H5 : Has5 fns) (H6 : Has6 fns) (n : Nat) (ks : List Kind) (hk : KindsOk ks) (os : List Off) (ho : ∀ o ∈ os,OffOk ks o) (hos : os.length ≤ 1000) (b : List Int) (hl : b.length = ks.length) (hb : BaskOk b) (hm : many b ≤ 300) :
    ∃ v : Int,Least (rowsOf ks os) b v ∧ callF fns (n + 8) 19 [.shop (nD ks) (pD ks),.sh (.lst (os.map Off.dat)),.sh (.lst (iD b))] = .ok (.sh (.int v)) := by
  obtain ⟨f,h1,h2,h3⟩ := sp_table H1 H2 H5 H6 n ks hk os ho hos b hl hb hm
  obtain ⟨g,v,e,hv⟩ := tab_last hb.nn h1 h2
  refine ⟨v,hv,?_⟩
  rw [callF_succ H6.b19,runFn_plain rfl rfl]
  have hx : idxL (iD f) (-1) = .ok (.sh (.int v)) := by rw [e,iD_app]; exact idxL_last
  exact run_ret (ex_ret1 (sx_ret (sv_idx (sv_call rfl h3) rfl hx) rfl))
end Mine.PL
namespace Mine.PL
open Mine
variable {fns : List Fn}
theorem KindsOk.take {ks : List Kind} (h : KindsOk ks) {p : Nat} (hp : 1 ≤ p) : KindsOk (ks.take p) := by
  have h1 := h.len1
  have h5 := h.len5
  refine ⟨by simp; lia,by simp; lia,fun k hk => h.names k (List.mem_of_mem_take hk),?_,fun k hk => h.prices k (List.mem_of_mem_take hk)⟩
  rw [List.map_take]
  exact h.nodup.sublist (List.take_sublist _ _)
end Mine.PL
namespace Mine.PL
open Mine
variable {fns : List Fn}
theorem many_app : ∀ (b : List Int) (c : Int),many (b ++ [c]) = many b * (c + 1)
  | [],c => by simp [many]
  | a :: b,c => by
    show (a + 1) * many (b ++ [c]) = (a + 1) * many b * (c + 1)
    rw [many_app b c,Int.mul_assoc]
theorem subV_zero : ∀ {c b : List Int},zeroV c → leV c b → subV b c = b
  | [],[],_,_ => rfl
  | [],_ :: _,_,h => h.elim
  | _ :: _,[],_,h => h.elim
  | a :: c,x :: b,hz,h => by
    have ha := hz a (List.mem_cons_self ..)
    subst ha
    show (x - 0) :: subV b c = _
    rw [subV_zero (fun y hy => hz y (List.mem_cons_of_mem _ hy)) h.2,Int.sub_zero]
theorem sub_sub : ∀ {r c b : List Int},leV r c → leV c b → leV (subV c r) (subV b r) ∧ subV (subV b r) (subV c r) = subV b c
  | [],[],[],_,_ => ⟨trivial,rfl⟩
  | [],[],_ :: _,_,h => h.elim
  | [],_ :: _,_,h,_ => h.elim
  | _ :: _,[],_,h,_ => h.elim
  | _ :: _,_ :: _,[],_,h => h.elim
  | a :: r,x :: c,y :: b,h,k => by
    obtain ⟨h1,h2⟩ := sub_sub h.2 k.2
    refine ⟨⟨show x - a ≤ y - a by have := k.1; lia,h1⟩,?_⟩
    show (y - a - (x - a)) :: subV (subV b r) (subV c r) = (y - x) :: subV b c
    rw [h2]; congr 1; lia
theorem Way.add {rows : List Row} {c b : List Int} {p q : Int} (w : Way rows c p) : leV c b → Way rows (subV b c) q → Way rows b (p + q) := by
  induction w generalizing b with
  | zero z => intro h k; rw [subV_zero z h] at k; rw [Int.zero_add]; exact k
  | @step c p r m l w ih =>
    intro h k
    obtain ⟨h1,h2⟩ := sub_sub l h
    have := Way.step m (leV_trans l h) (ih h1 (by rw [h2]; exact k))
    rw [show p + r.2 + q = p + q + r.2 by lia]
    exact this
theorem BaskOk.le {w b : List Int} (hb : BaskOk b) : nnV w → leV w b → BaskOk w := by
  intro hn h
  induction w generalizing b with
  | nil => intro x hx; cases hx
  | cons a w ih =>
    cases b with
    | nil => exact h.elim
    | cons y b =>
      intro x hx
      rcases List.mem_cons.1 hx with e | e
      · subst e
        have := hb y (List.mem_cons_self ..)
        have := h.1
        exact ⟨hn _ (List.mem_cons_self ..),by lia⟩
      · exact ih (fun z hz => hb z (List.mem_cons_of_mem _ hz)) (fun z hz => hn z (List.mem_cons_of_mem _ hz)) h.2 x e
theorem TabOk.at {b w : List Int} {rows : List Row} {f : List Int} (h1 : (f.length : Int) = many b) (h2 : TabOk b rows f) (hn : nnV w) (h : leV w b) : ∃ v,idxL (iD f) (num b w) = .ok (.sh (.int v)) ∧ Least rows w v := by
  obtain ⟨h0,hlt⟩ := num_box hn h
  obtain ⟨k,hk⟩ := Int.eq_ofNat_of_zero_le h0
  have hkf : k < f.length := by lia
  have ht := h2 k hkf
  rw [← hk,cnts_num hn h] at ht
  refine ⟨f[k],?_,ht⟩
  rw [hk]
  refine idxL_at (by lia) ?_
  rw [iD_get]
  simp [hkf]
theorem basket_loop (H : Has3 fns) (n : Nat) (s : List Int) (hs : s.length ≤ 63) (st : Int) (h0 : 0 ≤ st) (h1 : st ≤ 500) (K : Val) (R : Int) (hR : 1 ≤ R) (hR2 : R ≤ 300) (m : Nat) (hm : m ≤ 5) :
    ∃ b room y5 y6,forL (stepF (callF fns (n + 1)) [5] b_l_basket_b_1) (rangeL 0 1 m) [.sh (.lst (iD s)),K,.sh (.int st),.sh (.int R),.own [],.un,.un] =
      .ok (.next,[.sh (.lst (iD s)),K,.sh (.int st),.sh (.int room),.own (iD b),y5,y6]) ∧ b.length = m ∧ BaskOk b ∧ 1 ≤ room ∧ room * many b ≤ R := by
  refine cps fun P_ hP_ => ?_
  obtain ⟨ρ',eρ,b,room,y5,y6,er,q1,q2,q3,q4⟩ := forL_idx (stepF (callF fns (n + 1)) [5] b_l_basket_b_1)
    (fun o ρ => ∃ b room y5 y6,ρ = [.sh (.lst (iD s)),K,.sh (.int st),.sh (.int room),.own (iD b),y5,y6] ∧ b.length = o ∧ BaskOk b ∧ 1 ≤ room ∧ room * many b ≤ R)
    (rangeL 0 1 m) 0 [.sh (.lst (iD s)),K,.sh (.int st),.sh (.int R),.own [],.un,.un] ⟨[],R,.un,.un,rfl,rfl,(fun x hx => by cases hx),hR,(by simp [many])⟩ (by
      intro i d ρ hd h0
      refine cps fun P_ hP_ => ?_
      obtain ⟨b,room,y5,y6,rfl,hbl,hb,hr1,hr⟩ := h0
      refine hP_ ?_
      clear hP_ P_
      obtain ⟨hi,rfl⟩ := rangeL_get hd
      obtain ⟨x,x0,x1,ex⟩ := sp_number H n s (st + i) (by lia) hs (by lia)
      have hp := many_pos hb.nn
      have hr2 : room ≤ R := by
        have : room * 1 ≤ room * many b := Int.mul_le_mul_of_nonneg_left (by lia) (by lia)
        lia
      have e1 := fdiv_i (a := x) (b := 5) (by decide) (by decide)
      have hmin : ∃ k : Int,(if room < 10 then room else 10) = k ∧ 1 ≤ k ∧ k ≤ 10 ∧ k ≤ room := by
        refine ⟨_,rfl,?_,?_,?_⟩ <;> split <;> lia
      obtain ⟨k,ek,k1,k10,kr⟩ := hmin
      have e2 := mod_i (a := x / 5) (b := k) (by lia)
      have c0 : 0 ≤ x / 5 % k := Int.emod_nonneg _ (by lia)
      have c1 : x / 5 % k < k := Int.emod_lt_of_pos _ (by lia)
      generalize x / 5 % k = c at *
      have e3 := fdiv_i (a := room) (b := c + 1) (by lia) (by lia)
      have hlen : b.length < line := lt_line (by lia)
      refine ⟨[.sh (.lst (iD s)),K,.sh (.int st),.sh (.int (room / (c + 1))),.own (iD (b ++ [c])),.sh (.int i),.sh (.int c)],show Mine.ex (callF fns (n + 1)) b_l_basket_b_1 [.sh (.lst (iD s)),K,.sh (.int st),.sh (.int room),.own (iD b),.sh (.int i),y6] = _ from ?_,b ++ [c],room / (c + 1),_,_,rfl,?_,?_,?_,?_⟩
      · have hmn : biD .min [.int 10,.int room] = .ok (.int k) := by rw [← ek]; rfl
        rw [iD_app]
        exact ex_next (sx_asg (sb (sb (sv_call rfl ex) rfl e1) (sv_bi rfl rfl hmn) e2) rfl) (ex_next (sx_app rfl rfl rfl (by rw [iD_length]; exact hlen)) (ex_next (sx_asg (sb rfl rfl e3) rfl) rfl))
      · simp [hbl]
      · intro y hy
        rcases List.mem_append.1 hy with e | e
        · exact hb y e
        · rw [List.mem_singleton] at e; subst e; lia
      · exact (Int.le_ediv_iff_mul_le (by lia)).mpr (by lia)
      · rw [many_app]
        have h3 : room / (c + 1) * (c + 1) ≤ room := Int.ediv_mul_le _ (by lia)
        have h4 : room / (c + 1) * (c + 1) * many b ≤ room * many b := Int.mul_le_mul_of_nonneg_right h3 (by lia)
        rw [Int.mul_comm (many b),← Int.mul_assoc]
        lia)
  refine hP_ ?_
  clear hP_ P_
  refine ⟨b,room,y5,y6,by rw [eρ,er],?_,q2,q3,q4⟩
  rw [q1,rangeL_length]; lia
end Mine.PL
namespace Mine.PL
open Mine
variable {fns : List Fn}
end Mine.PL
namespace Mine.PL
open Mine
variable {fns : List Fn}
end Mine.PL
namespace Mine.PL
open Mine
variable {fns : List Fn}
end Mine.PL
namespace Mine.PL
open Mine
variable {fns : List Fn}
end Mine.PL
namespace Mine.PL
open Mine
variable {fns : List Fn}
theorem whlL_succ {f : List Val → Out (Option (Fl × List Val))} {n : Nat} {ρ ρ' : List Val} (h : f ρ = .ok (some (.next,ρ'))) : whlL f (n + 1) ρ = whlL f n ρ' := by
  rw [whlL,h]; rfl
theorem whlL_stop {f : List Val → Out (Option (Fl × List Val))} {n : Nat} {ρ : List Val} (h : f ρ = .ok Option.none) : whlL f (n + 1) ρ = .ok (.next,ρ) := by
  rw [whlL,h]; rfl
theorem first_P {P : Nat → Bool} : ∀ (N : Nat),P N = true → ∃ j,j ≤ N ∧ P j = true ∧ ∀ l,l < j → P l = false
  | 0,h => ⟨0,Nat.le_refl _,h,fun l hl => absurd hl (Nat.not_lt_zero l)⟩
  | N + 1,h => by
    by_cases q : ∃ l,l ≤ N ∧ P l = true
    · obtain ⟨l,hl,hp⟩ := q
      obtain ⟨j,h1,h2,h3⟩ := first_P l hp
      exact ⟨j,by lia,h2,h3⟩
    · refine ⟨N + 1,Nat.le_refl _,h,fun l hl => ?_⟩
      cases hp : P l with
      | false => rfl
      | true => exact absurd ⟨l,by lia,hp⟩ q
termination_by N => N
decreasing_by lia
theorem whlL_find {f : List Val → Out (Option (Fl × List Val))} {enc : Nat → List Val} {P : Nat → Bool} {N : Nat} (h : ∀ k,k ≤ N → f (enc k) = .ok (if P k then Option.none else some (.next,enc (k + 1)))) (hN : P N = true) (hf : ∀ l,l < N → P l = false) :
    ∀ (d k fuel : Nat),N - k = d → k ≤ N → d < fuel → whlL f fuel (enc k) = .ok (.next,enc N) := by
  intro d
  induction d with
  | zero =>
    intro k fuel hd hk hf
    have : k = N := by lia
    subst this
    obtain ⟨m,rfl⟩ : ∃ m,fuel = m + 1 := ⟨fuel - 1,by lia⟩
    exact whlL_stop (by rw [h k hk,hN]; rfl)
  | succ d ih =>
    intro k fuel hd hk hfu
    obtain ⟨m,rfl⟩ : ∃ m,fuel = m + 1 := ⟨fuel - 1,by lia⟩
    exact (whlL_succ (by rw [h k hk,hf k (by lia)]; rfl)).trans (ih (k + 1) m (by lia) (by lia) (by lia))
theorem whlL_inv {f : Nat → List Val → Out (Option (Fl × List Val))} {I : Nat → List Val → Prop} (step : ∀ m ρ,I m ρ → 0 < m → ∃ m' ρ',m' < m ∧ (∀ n,f n ρ = .ok (some (.next,ρ'))) ∧ I m' ρ') (stop : ∀ n ρ,I 0 ρ → f n ρ = .ok Option.none) :
    ∀ (fuel m : Nat) (ρ : List Val),m < fuel → I m ρ → ∃ ρ',(∀ n,whlL (f n) fuel ρ = .ok (.next,ρ')) ∧ I 0 ρ' := by
  intro fuel
  induction fuel with
  | zero => intro m ρ h; lia
  | succ k ih =>
    intro m ρ hm hi
    by_cases h0 : m = 0
    · subst h0; exact ⟨ρ,fun n => whlL_stop (stop n ρ hi),hi⟩
    · obtain ⟨m',ρ',h1,h2,h3⟩ := step m ρ hi (by lia)
      obtain ⟨ρ2,h4,h5⟩ := ih m' ρ' (by lia) h3
      exact ⟨ρ2,fun n => (whlL_succ (h2 n)).trans (h4 n),h5⟩
noncomputable def mulSub (k : Int) (b w : List Int) : List Int := List.zipWith (fun a x => a - k * x) b w
noncomputable def spend : List Row → List Int → Int
  | r :: rows,k :: y => k * r.2 + spend rows y
  | _,_ => 0
noncomputable def takeV : List Row → List Int → List Int → List Int
  | r :: rows,k :: y,b => takeV rows y (mulSub k b r.1)
  | _,_,b => b
theorem mulSub_zero : ∀ {b w : List Int},w.length = b.length → mulSub 0 b w = b
  | [],[],_ => rfl
  | [],_ :: _,h => by simp at h
  | _ :: _,[],h => by simp at h
  | a :: b,x :: w,h => by
    show (a - 0 * x) :: mulSub 0 b w = _
    rw [mulSub_zero (by simpa using h),Int.zero_mul,Int.sub_zero]
theorem mulSub_succ : ∀ {k : Int} {b w : List Int},mulSub (k + 1) b w = subV (mulSub k b w) w
  | _,[],_ => rfl
  | _,_ :: _,[] => rfl
  | k,a :: b,x :: w => by
    show (a - (k + 1) * x) :: mulSub (k + 1) b w = (a - k * x - x) :: subV (mulSub k b w) w
    rw [mulSub_succ,Int.add_mul,Int.one_mul]
    congr 1; lia
theorem mulSub_subV : ∀ {k : Int} {b w x : List Int},mulSub k (subV b w) x = subV (mulSub k b x) w
  | _,[],_,_ => by simp [mulSub,subV]
  | _,_ :: _,[],_ => by simp [mulSub,subV]
  | _,_ :: _,_ :: _,[] => by simp [mulSub,subV]
  | k,a :: b,y :: w,x :: xs => by
    show (a - y - k * x) :: mulSub k (subV b w) xs = (a - k * x - y) :: subV (mulSub k b xs) w
    rw [mulSub_subV]
    congr 1; lia
theorem takeV_subV : ∀ (rows : List Row) (y b w : List Int),takeV rows y (subV b w) = subV (takeV rows y b) w
  | [],_,_,_ => rfl
  | _ :: _,[],_,_ => rfl
  | r :: rows,k :: y,b,w => by
    show takeV rows y (mulSub k (subV b w) r.1) = subV (takeV rows y (mulSub k b r.1)) w
    rw [mulSub_subV,takeV_subV]
theorem takeV_set : ∀ (rows : List Row) (y b : List Int) (i : Nat) (r : Row) (v : Int),rows[i]? = some r → y[i]? = some v → takeV rows (y.set i (v + 1)) b = subV (takeV rows y b) r.1
  | [],_,_,_,_,_,h,_ => by simp at h
  | _ :: _,[],_,_,_,_,_,h => by simp at h
  | x :: rows,k :: y,b,0,r,v,h1,h2 => by
    simp at h1 h2; subst h1 h2
    show takeV rows y (mulSub (k + 1) b x.1) = _
    rw [mulSub_succ,takeV_subV]; rfl
  | x :: rows,k :: y,b,i + 1,r,v,h1,h2 => by
    show takeV rows (y.set i (v + 1)) (mulSub k b x.1) = _
    rw [takeV_set rows y _ i r v (by simpa using h1) (by simpa using h2)]; rfl
theorem spend_set : ∀ (rows : List Row) (y : List Int) (i : Nat) (r : Row) (v : Int),rows[i]? = some r → y[i]? = some v → spend rows (y.set i (v + 1)) = spend rows y + r.2
  | [],_,_,_,_,h,_ => by simp at h
  | _ :: _,[],_,_,_,_,h => by simp at h
  | x :: rows,k :: y,0,r,v,h1,h2 => by
    simp at h1 h2; subst h1 h2
    show (k + 1) * x.2 + spend rows y = k * x.2 + spend rows y + x.2
    rw [Int.add_mul,Int.one_mul]; lia
  | x :: rows,k :: y,i + 1,r,v,h1,h2 => by
    show k * x.2 + spend rows (y.set i (v + 1)) = k * x.2 + spend rows y + r.2
    rw [spend_set rows y i r v (by simpa using h1) (by simpa using h2)]; lia
theorem takeV_zero : ∀ (rows : List Row) (n : Nat) (b : List Int),(∀ r ∈ rows,r.1.length = b.length) → takeV rows (List.replicate n 0) b = b
  | [],_,_,_ => by cases ‹Nat› <;> rfl
  | _ :: _,0,_,_ => rfl
  | r :: rows,n + 1,b,h => by
    show takeV rows (List.replicate n 0) (mulSub 0 b r.1) = b
    rw [mulSub_zero (h r (List.mem_cons_self ..))]
    exact takeV_zero rows n b fun r' m => h r' (List.mem_cons_of_mem _ m)
theorem spend_zero : ∀ (rows : List Row) (n : Nat),spend rows (List.replicate n 0) = 0
  | [],_ => by cases ‹Nat› <;> rfl
  | _ :: _,0 => rfl
  | r :: rows,n + 1 => by
    show 0 * r.2 + spend rows (List.replicate n 0) = 0
    rw [spend_zero rows n]; lia
end Mine.PL
namespace Mine.PL
open Mine
variable {fns : List Fn}
structure Has7 (fns : List Fn) : Prop where
  b32 : fns[32]? = some f_paid
  b33 : fns[33]? = some f_takes
noncomputable def takesB (b f : List Int) (n : Nat) (r : Row) : Bool := leB r.1 (cnts b n) && ((f[n - (num b r.1).toNat]?.getD 0) + r.2 == f[n]?.getD 0)
theorem sp_takes (H5 : Has5 fns) (H : Has7 fns) (k : Nat) (b f : List Int) (hb : BaskOk b) (n : Nat) (hn : n < f.length) (hf : (f.length : Int) = many b) (r : Row) (hr : RowOk b.length r) :
    callF fns (k + 2) 33 [.sh (sD b r),.sh (.lst (iD (cnts b n))),.sh (.lst (iD f)),.sh (.int n)] = .ok (.sh (.bool (takesB b f n r))) := by
  rw [callF_succ H.b33,runFn_plain rfl rfl]
  have hl := sp_lies_in H5 k r.1 (cnts b n)
  generalize callF fns (k + 1) = Φ at *
  have R : ∃ ρ',ex Φ t_takes [.sh (sD b r),.sh (.lst (iD (cnts b n))),.sh (.lst (iD f)),.sh (.int n)] = .ok (.ret (.sh (.bool (takesB b f n r))),ρ') := by
    unfold t_takes
    cases hle : leB r.1 (cnts b n) with
    | false =>
      rw [hle] at hl
      rw [show takesB b f n r = false by rw [takesB,hle]; rfl]
      exact ex_ret1 (sx_ret (sv_and_f (sv_call rfl hl)) rfl)
    | true =>
      rw [hle] at hl
      have hlv := (leB_iff (by rw [hr.len,cnts_len])).1 hle
      obtain ⟨_,h0⟩ := cnts_sub hb.nn (Int.natCast_nonneg n) (by lia) hr.nn hlv
      have hp := num_nn hb.nn hr.nn
      obtain ⟨j,hj⟩ := Int.eq_ofNat_of_zero_le hp
      have h1 : n - j < f.length := by lia
      have e1 : idxL (iD f) ((n : Int) - num b r.1) = .ok (.sh (.int f[n - j])) := by
        rw [hj,show (n : Int) - (j : Int) = ((n - j : Nat) : Int) by lia]
        exact idxL_at (by lia) (by rw [iD_get]; simp [h1])
      have e2 : idxL (iD f) n = .ok (.sh (.int f[n])) := idxL_at (by lia) (by rw [iD_get]; simp [hn])
      have et : takesB b f n r = (f[n - j] + r.2 == f[n]) := by
        unfold takesB
        rw [hle,hj]
        simp [h1,hn]
      rw [et]
      exact ex_ret1 (sx_ret (sv_and (sv_call rfl hl) (sv_cmp (sb (sv_idxL rfl rfl e1) rfl rfl) (sv_idxL rfl rfl e2) rfl rfl rfl)) rfl)
  obtain ⟨ρ',R⟩ := R
  exact (congrArg (· >>= fun r => Out.ok (outOf r)) R).trans rfl
theorem takes_some {b f : List Int} {rows : List Row} (hb : nnV b) (hr : RowsOk rows b.length) (hf : (f.length : Int) = many b) (ht : TabOk b rows f) {n : Nat} (hn : n < f.length) (h0 : 0 < n) : ∃ (i : Nat) (r : Row),rows[i]? = some r ∧ takesB b f n r = true := by
  have hL := ht n hn
  have hcn : num b (cnts b n) = n := num_cnts hb (Int.natCast_nonneg n) (by lia)
  obtain ⟨hw,hmin⟩ := id hL
  generalize hv : f[n] = v at hw hmin
  cases hw with
  | zero z =>
    have := num_of_zero (b := b) z
    lia
  | @step _ p r m l w =>
    obtain ⟨i,hi,e⟩ := List.getElem_of_mem m
    refine ⟨i,r,by rw [List.getElem?_eq_getElem hi,e],?_⟩
    have hro := hr.row r m
    obtain ⟨e1,h1⟩ := cnts_sub hb (Int.natCast_nonneg n) (by lia) hro.nn l
    obtain ⟨j,hj⟩ := Int.eq_ofNat_of_zero_le (num_nn hb hro.nn)
    rw [hj,show (n : Int) - (j : Int) = ((n - j : Nat) : Int) by lia] at e1
    have hlt : n - j < f.length := by lia
    have hq := ht (n - j) hlt
    rw [e1] at hq
    have a1 := hq.2 p w
    have a2 := hmin _ (.step m l hq.1)
    have : f[n - j] + r.2 = f[n] := by lia
    unfold takesB
    rw [hj]
    simp [(leB_iff (by rw [hro.len,cnts_len])).2 l,hlt,hn,this]
theorem takesB_spec {b f : List Int} {rows : List Row} (hb : nnV b) (hf : (f.length : Int) = many b) {n : Nat} (hn : n < f.length) {r : Row} (hro : RowOk b.length r) (h : takesB b f n r = true) :
    ∃ j : Nat,num b r.1 = j ∧ 0 < j ∧ j ≤ n ∧ cnts b ((n - j : Nat) : Int) = subV (cnts b n) r.1 ∧ f[n - j]?.getD 0 + r.2 = f[n]?.getD 0 := by
  unfold takesB at h
  simp only [Bool.and_eq_true,beq_iff_eq] at h
  have l := (leB_iff (by rw [hro.len,cnts_len])).1 h.1
  obtain ⟨e1,h1⟩ := cnts_sub hb (Int.natCast_nonneg n) (by lia) hro.nn l
  obtain ⟨j,hj⟩ := Int.eq_ofNat_of_zero_le (num_nn hb hro.nn)
  have hp := num_pos hb hro
  refine ⟨j,hj,by lia,by lia,?_,?_⟩
  · rw [hj,show (n : Int) - (j : Int) = ((n - j : Nat) : Int) by lia] at e1; exact e1
  · have := h.2; rw [hj] at this; simpa using this
end Mine.PL
namespace Mine.PL
open Mine
variable {fns : List Fn}
structure PaidOk (b : List Int) (rows : List Row) (c : Int) (y : List Int) : Prop where
  len : y.length = rows.length
  nn : nnV y
  left : takeV rows y b = List.replicate b.length 0
  spent : spend rows y = c
  least : Least rows b c
  small : ∀ x ∈ y,x ≤ 300
theorem cnts_zero_eq : ∀ (b : List Int),cnts b 0 = List.replicate b.length 0
  | [] => rfl
  | a :: b => by
    show (0 % (a + 1)) :: cnts b (0 / (a + 1)) = 0 :: List.replicate b.length 0
    rw [Int.zero_emod,Int.zero_ediv,cnts_zero_eq b]
theorem paid_turn (H5 : Has5 fns) (H : Has7 fns) (b f : List Int) (hb : BaskOk b) (hb5 : b.length ≤ 5) (rows : List Row) (hr : RowsOk rows b.length) (hrl : rows.length ≤ 100) (hf : (f.length : Int) = many b) (ht : TabOk b rows f)
    (x0 x1 : Val) (n : Nat) (hn : n < f.length) (h0 : 0 < n) (y : List Int) (hy : y.length = rows.length) (y8 y9 : Val) :
    ∃ (i : Nat) (r : Row) (v : Int),rows[i]? = some r ∧ y[i]? = some v ∧ takesB b f n r = true ∧
      ∀ k,stepW (callF fns (k + 2)) (.cmp .gt (.v 7) (.cI 0)) b_paid_2 [x0,x1,.sh (.lst (iD b)),.sh (.lst (rows.map rD)),.sh (.lst (iD f)),.sh (.lst (rows.map (sD b))),.own (iD y),.sh (.int n),y8,y9] =
        .ok (some (.next,[x0,x1,.sh (.lst (iD b)),.sh (.lst (rows.map rD)),.sh (.lst (iD f)),.sh (.lst (rows.map (sD b))),.own (iD (y.set i (v + 1))),.sh (.int ((n : Int) - num b r.1)),.sh (.lst (iD (cnts b n))),.sh (.int i)])) := by
  refine cps fun P_ hP_ => ?_
  obtain ⟨N,rN,hN,hTN⟩ := takes_some hb.nn hr hf ht hn h0
  refine hP_ ?_
  clear hP_ P_
  have hNl : N < rows.length := (List.getElem?_eq_some_iff.1 hN).1
  have hat : ∀ i,i < rows.length → ∃ r,rows[i]? = some r ∧ r ∈ rows ∧ idxL (rows.map (sD b)) i = .ok (.sh (sD b r)) := fun i hi => by
    refine ⟨rows[i],List.getElem?_eq_getElem hi,List.getElem_mem hi,?_⟩
    exact idxL_at (by lia) (by simp [hi])
  let P : Nat → Bool := fun i => (rows[i]?.map (takesB b f n)).getD false
  refine cps fun P_ hP_ => ?_
  obtain ⟨i,hiN,hPi,hfi⟩ := first_P (P := P) N (by simp [P,hN,hTN])
  obtain ⟨r,h1,h2,h3⟩ := hat i (by lia)
  refine hP_ ?_
  clear hP_ P_
  have hTi : takesB b f n r = true := by simpa [P,h1] using hPi
  have hil : i < y.length := by lia
  refine ⟨i,r,y[i],h1,List.getElem?_eq_getElem hil,hTi,fun k => ?_⟩
  have ec := sp_counts_of H5 (k + 1) b hb (by lia) n
  have hst : ∀ j,j ≤ i → stepW (callF fns (k + 2)) (.not (.call 33 (.cons (.idx (.v 5) (.v 9)) (.cons (.v 8) (.cons (.v 4) (.cons (.v 7) .nil)))))) b_paid_1
      [x0,x1,.sh (.lst (iD b)),.sh (.lst (rows.map rD)),.sh (.lst (iD f)),.sh (.lst (rows.map (sD b))),.own (iD y),.sh (.int n),.sh (.lst (iD (cnts b n))),.sh (.int (j : Nat))] =
      .ok (if P j then Option.none else some (.next,[x0,x1,.sh (.lst (iD b)),.sh (.lst (rows.map rD)),.sh (.lst (iD f)),.sh (.lst (rows.map (sD b))),.own (iD y),.sh (.int n),.sh (.lst (iD (cnts b n))),.sh (.int ((j + 1 : Nat) : Int))])) := fun j hj => by
    refine cps fun P_ hP_ => ?_
    obtain ⟨r,h1,h2,h3⟩ := hat j (by lia)
    refine hP_ ?_
    clear hP_ P_
    have et := sp_takes H5 H k b f hb n hn hf r (hr.row r h2)
    have hP : P j = takesB b f n r := by simp [P,h1]
    rw [hP]
    generalize callF fns (k + 2) = Φ at *
    cases hT : takesB b f n r with
    | true => rw [hT] at et; exact sw_no (sv_not (sv_call (st_cons (sv_idxL rfl rfl h3) rfl rfl) et))
    | false => rw [hT] at et; exact sw_yes (sv_not (sv_call (st_cons (sv_idxL rfl rfl h3) rfl rfl) et)) rfl
  have ew := whlL_find (f := stepW (callF fns (k + 2)) (.not (.call 33 (.cons (.idx (.v 5) (.v 9)) (.cons (.v 8) (.cons (.v 4) (.cons (.v 7) .nil)))))) b_paid_1)
    (enc := fun i => [x0,x1,.sh (.lst (iD b)),.sh (.lst (rows.map rD)),.sh (.lst (iD f)),.sh (.lst (rows.map (sD b))),.own (iD y),.sh (.int n),.sh (.lst (iD (cnts b n))),.sh (.int (i : Nat))]) (P := P) hst hPi hfi i 0 turns (by lia) (by lia) (by unfold turns; lia)
  have ey : idxL (iD y) i = .ok (.sh (.int y[i])) := idxL_at (by lia) (by rw [iD_get]; simp [hil])
  have hs1 : idx2 (.sh (sD b r)) 1 = .ok (.sh (.int (num b r.1))) := by simp [sD]
  have hng : (0 : Int) < n := by lia
  generalize callF fns (k + 2) = Φ at *
  have R : ex Φ b_paid_2 [x0,x1,.sh (.lst (iD b)),.sh (.lst (rows.map rD)),.sh (.lst (iD f)),.sh (.lst (rows.map (sD b))),.own (iD y),.sh (.int n),y8,y9] = .ok (.next,[x0,x1,.sh (.lst (iD b)),.sh (.lst (rows.map rD)),.sh (.lst (iD f)),.sh (.lst (rows.map (sD b))),.own (iD (y.set i (y[i] + 1))),.sh (.int ((n : Int) - num b r.1)),.sh (.lst (iD (cnts b n))),.sh (.int i)]) := by
    unfold b_paid_2
    refine ex_next (sx_asg (sv_call rfl ec) rfl) ?_
    refine ex_next rfl ?_
    refine ex_next ew ?_
    refine ex_next (sx_setI (sb (sv_idx rfl rfl ey) rfl rfl) rfl rfl hil) ?_
    refine ex_next (sx_asg (sb rfl (sv_idx (sv_idxL rfl rfl h3) rfl hs1) rfl) rfl) ?_
    rfl
  exact sw_yes (sv_cmp rfl rfl rfl rfl (congrArg Out.ok (decide_eq_true hng))) R
end Mine.PL
namespace Mine.PL
open Mine
variable {fns : List Fn}
theorem nn_set {y : List Int} {i : Nat} {v : Int} (h : nnV y) (hv : y[i]? = some v) : nnV (y.set i (v + 1)) := fun x hx => by
  rcases List.mem_or_eq_of_mem_set hx with e | e
  · exact h x e
  · subst e
    have := h v (List.mem_of_getElem? hv)
    lia
theorem TabOk.unique {b : List Int} {rows : List Row} {f g : List Int} (hf : TabOk b rows f) (hg : TabOk b rows g) (hl : f.length = g.length) : f = g :=
  List.ext_getElem hl fun i h1 h2 => (hf i h1).unique (hg i h2)
theorem sp_paidA (H1 : Has1 fns) (H2 : Has2 fns) (H5 : Has5 fns) (H : Has7 fns) (ks : List Kind) (hk : KindsOk ks) (os : List Off) (ho : ∀ o ∈ os,OffOk ks o) (hos : os.length ≤ 50) (b : List Int) (hl : b.length = ks.length) (hb : BaskOk b) (hm : many b ≤ 300) :
    ∃ c y,PaidOk b (rowsOf ks os) c y ∧ ∀ n,callF fns (n + 7) 32 [.shop (nD ks) (pD ks),.sh (.lst (os.map Off.dat)),.sh (.lst (iD b))] = .ok (.pr (.int c) (iD y)) := by
  have h5 := hk.len5
  have hr := rowsOf_ok hk ho
  rw [← hl] at hr
  have hrl : (rowsOf ks os).length ≤ 55 := by simp [rowsOf]; lia
  refine cps fun P_ hP_ => ?_
  obtain ⟨f,hf,ht,_⟩ := sp_costs_of H5 0 b hb (by lia) (rowsOf ks os) hr (by lia)
  refine hP_ ?_
  clear hP_ P_
  have ec : ∀ n,callF fns (n + 6) 17 [.sh (.lst (iD b)),.sh (.lst ((rowsOf ks os).map rD))] = .ok (.own (iD f)) := fun n => by
    obtain ⟨g,hg,tg,e⟩ := sp_costs_of H5 (n + 3) b hb (by lia) (rowsOf ks os) hr (by lia)
    rw [ht.unique tg (by lia)]; exact e
  have hn := fun n => sp_need_basket H1 H5 (n + 4) ks b hl hb hm
  have hd := fun n => sp_deals H1 H2 n ks hk os ho (by lia)
  have es := fun n => sp_steps_of H5 (n + 4) b hb (rowsOf ks os) (fun r hr' => ⟨hr.nine r hr',(hr.row r hr').len⟩)
  generalize hrows : rowsOf ks os = rows at *
  have hp := many_pos hb.nn
  have hfl : 0 < f.length := by lia
  obtain ⟨g,v,eg,hv⟩ := tab_last hb.nn hf ht
  have hlast : f[f.length - 1]?.getD 0 = v := by rw [eg]; simp
  have hz := mul_l1 (a := .int 0) (n := rows.length) (by lia)
  rw [iD_rep] at hz
  refine cps fun P_ hP_ => ?_
  obtain ⟨ρ',ew,y,y8,y9,rfl,q1,q2,_,q3,q4,q5⟩ := whlL_inv (f := fun n => stepW (callF fns (n + 6)) (.cmp .gt (.v 7) (.cI 0)) b_paid_2)
    (I := fun m ρ => ∃ y y8 y9,ρ = [.shop (nD ks) (pD ks),.sh (.lst (os.map Off.dat)),.sh (.lst (iD b)),.sh (.lst (rows.map rD)),.sh (.lst (iD f)),.sh (.lst (rows.map (sD b))),.own (iD y),.sh (.int m),y8,y9] ∧
      y.length = rows.length ∧ nnV y ∧ m < f.length ∧ takeV rows y b = cnts b m ∧ spend rows y = v - f[m]?.getD 0 ∧ ∀ x ∈ y,x + m < f.length)
    (by
      intro m ρ h0 hm0
      refine cps fun P_ hP_ => ?_
      obtain ⟨y,y8,y9,rfl,q1,q2,q3,q4,q5,q6⟩ := h0
      refine hP_ ?_
      clear hP_ P_
      obtain ⟨i,r,w,h1,h2,h3,h4⟩ := paid_turn H5 H b f hb (by lia) rows hr (by lia) hf ht (.shop (nD ks) (pD ks)) (.sh (.lst (os.map Off.dat))) m q3 hm0 y q1 y8 y9
      have hro := hr.row r (List.mem_of_getElem? h1)
      obtain ⟨j,hj,j0,jm,e1,e2⟩ := takesB_spec (rows := rows) hb.nn hf q3 hro h3
      refine ⟨m - j,_,by lia,fun n => h4 (n + 4),y.set i (w + 1),.sh (.lst (iD (cnts b m))),.sh (.int i),?_,by simpa using q1,nn_set q2 h2,by lia,?_,?_,?_⟩
      · rw [hj,show (m : Int) - (j : Int) = ((m - j : Nat) : Int) by lia]
      · rw [takeV_set rows y b i r w h1 h2,q4,e1]
      · rw [spend_set rows y i r w h1 h2,q5]; lia
      · intro x hx
        rcases List.mem_or_eq_of_mem_set hx with e | e
        · have := q6 x e; lia
        · subst e; have := q6 w (List.mem_of_getElem? h2); lia)
    (by
      rintro n ρ ⟨y,y8,y9,rfl,_⟩
      rfl)
    turns (f.length - 1) [.shop (nD ks) (pD ks),.sh (.lst (os.map Off.dat)),.sh (.lst (iD b)),.sh (.lst (rows.map rD)),.sh (.lst (iD f)),.sh (.lst (rows.map (sD b))),.own (iD (List.replicate rows.length 0)),.sh (.int ((f.length - 1 : Nat) : Int)),.un,.un] (by unfold turns; lia)
    ⟨_,_,_,rfl,by simp,fun x hx => by rw [List.eq_of_mem_replicate hx]; lia,by lia,by
      rw [takeV_zero _ _ _ fun r hr' => (hr.row r hr').len,show ((f.length - 1 : Nat) : Int) = num b b by rw [num_full]; lia,cnts_num hb.nn (leV_refl b)],by rw [spend_zero,hlast]; lia,fun x hx => by rw [List.eq_of_mem_replicate hx]; lia⟩
  refine hP_ ?_
  clear hP_ P_
  have hf0 : f[0]?.getD 0 = 0 := by
    have h0 := ht 0 hfl
    have hz0 := TabOk.one hr 0 (by simp)
    have := h0.unique hz0
    simp [hfl,this]
  refine ⟨v,y,⟨q1,q2,by rw [q3]; exact cnts_zero_eq b,by rw [q4,hf0]; lia,hv,fun x hx => by have := q5 x hx; lia⟩,fun n => ?_⟩
  rw [callF_succ H.b32,runFn_plain rfl rfl]
  replace hn := hn n
  replace hd := hd n
  replace ec := ec n
  replace es := es n
  replace ew := ew n
  have hx1 : idxL (iD f) (-1) = .ok (.sh (.int v)) := by rw [eg,iD_app]; exact idxL_last
  have e7 : ((f.length : Int) - 1) = ((f.length - 1 : Nat) : Int) := by lia
  simp only [Nat.add_assoc,Nat.reduceAdd] at hn hd ec es
  generalize callF fns (n + 6) = Φ at *
  have R : ∃ ρ',ex Φ t_paid [.shop (nD ks) (pD ks),.sh (.lst (os.map Off.dat)),.sh (.lst (iD b)),.un,.un,.un,.un,.un,.un,.un] = .ok (.ret (.pr (.int v) (iD y)),ρ') := by
    unfold t_paid
    refine ex_step (sx_ex (sv_call rfl hn) rfl) ?_
    refine ex_step (sx_asg (sv_call rfl hd) rfl) ?_
    refine ex_step (sx_asg (sv_call rfl ec) rfl) ?_
    refine ex_step (sx_asg (sv_call rfl es) rfl) ?_
    refine ex_step (sx_asgO (sv_bin rfl (sv_bi rfl rfl (len_map rD rows)) rfl rfl hz)) ?_
    refine ex_step (sx_asg (v := .sh (.int ((f.length - 1 : Nat) : Int))) (sb (sv_bi rfl rfl (len_ints f)) rfl (congrArg (fun x => Out.ok (Val.sh (.int x))) e7)) rfl) ?_
    refine ex_step ew ?_
    exact ⟨_,by simp [hx1]; rfl⟩
  obtain ⟨ρ',R⟩ := R
  exact (congrArg (· >>= fun r => Out.ok (outOf r)) R).trans rfl
end Mine.PL
namespace Mine.PL
open Mine
variable {fns : List Fn}
theorem strOf_len {i : Int} (h0 : 0 ≤ i) (h : i < 10 ^ 12) : (strOfInt i).length ≤ 12 := by
  obtain ⟨n,rfl⟩ := Int.eq_ofNat_of_zero_le h0
  show (n.repr.toList.map Char.toNat).length ≤ 12
  rw [List.length_map,Nat.toList_repr,Nat.length_toDigits_le_iff (by decide) (by decide)]
  exact Int.ofNat_lt.1 h
theorem str_i {i : Int} (h0 : 0 ≤ i) (h : i < 10 ^ 12) : biD .str [.int i] = .ok (.str (strOfInt i)) := by
  have h1 := strOf_len h0 h
  exact if_pos ⟨by lia,le_line (by lia)⟩
noncomputable def sDs (ws : List (List Nat)) : List Dat := ws.map Dat.str
theorem strsOf_sDs : ∀ ws : List (List Nat),strsOf (sDs ws) = some ws
  | [] => rfl
  | w :: ws => by
    show (strsOf (sDs ws)).map (w :: ·) = _
    rw [strsOf_sDs ws]; rfl
noncomputable def small (ws : List (List Nat)) : Prop := ∀ w ∈ ws,w.length ≤ 12
theorem sum_small : ∀ {ws : List (List Nat)},small ws → (ws.map List.length).sum ≤ 12 * ws.length
  | [],_ => Nat.le_refl _
  | w :: ws,h => by
    have h1 := h w (List.mem_cons_self ..)
    have h2 := sum_small (ws := ws) fun x hx => h x (List.mem_cons_of_mem _ hx)
    simp only [List.map_cons,List.sum_cons,List.length_cons]; lia
theorem joinW_len : ∀ {ws : List (List Nat)},(joinW [32] ws).length ≤ (ws.map List.length).sum + ws.length
  | [] => Nat.le_refl _
  | [x] => by simp [joinW]
  | x :: y :: ws => by
    have h := joinW_len (ws := y :: ws)
    show (x ++ [32] ++ joinW [32] (y :: ws)).length ≤ _
    simp only [List.length_append,List.map_cons,List.sum_cons,List.length_cons,List.length_nil] at h ⊢; lia
theorem join_ok {ws : List (List Nat)} (h : small ws) (hl : ws.length ≤ 20) : joinD [32] (sDs ws) = .ok (.sh (.str (joinW [32] ws))) := by
  have h1 := sum_small h
  unfold joinD
  rw [strsOf_sDs]
  exact if_pos (le_line (by simp only [List.length_cons,List.length_nil]; lia))
theorem join_small {ws : List (List Nat)} (h : small ws) (hl : ws.length ≤ 20) : (joinW [32] ws).length ≤ 300 := by
  have h1 := sum_small h
  have h2 := joinW_len (ws := ws)
  lia
noncomputable def pairW (k : Kind) : List (List Nat) := [k.1,strOfInt k.2]
noncomputable def wordsOf : Off → List (List Nat)
  | .more nm m c => [sMore,nm,strOfInt m,strOfInt c]
  | .set ws p => (sSet :: ws.flatMap pairW) ++ [[97,116],strOfInt p]
  | .share nm p => [sShare,nm,strOfInt p]
  | .slip a b x => [sSlip,a,b,strOfInt x]
noncomputable def textOf (o : Off) : List Nat := joinW [32] (wordsOf o)
theorem small_c {w : List Nat} {ws : List (List Nat)} (h : w.length ≤ 12) (hs : small ws) : small (w :: ws) := fun x hx => (List.mem_cons.1 hx).elim (fun e => e ▸ h) (hs x)
theorem small_n : small [] := fun _ hx => nomatch hx
theorem name_le {ks : List Kind} (hk : KindsOk ks) {nm : List Nat} (h : nm ∈ ks.map (·.1)) : nm.length ≤ 12 := by
  obtain ⟨k,hk1,rfl⟩ := List.mem_map.1 h
  have := (hk.names k hk1).2.1
  lia
theorem flat_len : ∀ ws : List Kind,(ws.flatMap pairW).length = 2 * ws.length
  | [] => rfl
  | w :: ws => by
    rw [List.flatMap_cons,List.length_append,flat_len ws,List.length_cons]; show 2 + _ = _; lia
theorem words_ok {ks : List Kind} (hk : KindsOk ks) {o : Off} (h : OffOk ks o) : small (wordsOf o) ∧ (wordsOf o).length ≤ 20 := by
  cases o with
  | more nm m c => exact ⟨small_c (by decide) (small_c (name_le hk h.1) (small_c (strOf_len (by have := h.2; lia) (by have := h.2; lia)) (small_c (strOf_len (by have := h.2; lia) (by have := h.2; lia)) small_n))),by show 4 ≤ 20; decide⟩
  | share nm p => exact ⟨small_c (by decide) (small_c (name_le hk h.1) (small_c (strOf_len (by have := h.2; lia) (by have := h.2; lia)) small_n)),by show 3 ≤ 20; decide⟩
  | slip a b x => exact ⟨small_c (by decide) (small_c (name_le hk h.1) (small_c (name_le hk h.2.1) (small_c (strOf_len (by have := h.2.2; lia) (by have := h.2.2; lia)) small_n))),by show 4 ≤ 20; decide⟩
  | set ws p =>
    obtain ⟨hw,h0,h1⟩ := h
    refine ⟨?_,?_⟩
    · intro x hx
      rcases List.mem_append.1 hx with hx | hx
      · rcases List.mem_cons.1 hx with rfl | hx
        · decide
        · obtain ⟨k,hk1,hx⟩ := List.mem_flatMap.1 hx
          have hr := hw.rng k hk1
          exact small_c (name_le hk (hw.sub k hk1)) (small_c (strOf_len (by lia) (by lia)) small_n) x hx
      · exact small_c (by decide) (small_c (strOf_len h0 (by lia)) small_n) x hx
    · have := hw.len5
      show ((sSet :: ws.flatMap pairW) ++ [[97,116],strOfInt p]).length ≤ 20
      rw [List.length_append,List.length_cons,flat_len]
      show 2 * ws.length + 1 + 2 ≤ 20
      lia
theorem text_len {ks : List Kind} (hk : KindsOk ks) {o : Off} (h : OffOk ks o) : (textOf o).length ≤ 300 := join_small (words_ok hk h).1 (words_ok hk h).2
end Mine.PL
namespace Mine.PL
open Mine
variable {fns : List Fn}
noncomputable def PartOk (p : Dat × List Nat) : Prop := biD .str [p.1] = .ok (.str p.2) ∧ isiD .tuple p.1 = .ok false
theorem part_i {i : Int} (h0 : 0 ≤ i) (h : i < 10 ^ 12) : PartOk (.int i,strOfInt i) := ⟨str_i h0 h,rfl⟩
theorem part_s (x : List Nat) : PartOk (.str x,x) := ⟨rfl,rfl⟩
theorem sDs_app (w : List (List Nat)) (x : List Nat) : sDs w ++ [.str x] = sDs (w ++ [x]) := by simp [sDs]
theorem sDs_len (w : List (List Nat)) : (sDs w).length = w.length := by simp [sDs]
theorem shown_parts (Φ : Nat → List Val → Out Val) (x0 x2 x3 : Val) : ∀ (l : List (Dat × List Nat)) (w : List (List Nat)) (y4 : Val),(∀ p ∈ l,PartOk p) → w.length + l.length ≤ 100 →
    ∃ z,forL (stepF Φ [4] b_shown_2) (l.map (·.1)) [x0,.own (sDs w),x2,x3,y4] = .ok (.next,[x0,.own (sDs (w ++ l.map (·.2))),x2,x3,z])
  | [],w,y4,_,_ => ⟨y4,by rw [List.map_nil,List.map_nil,List.append_nil]; rfl⟩
  | p :: l,w,y4,hl,hlen => by
    have hw : w.length + (l.length + 1) ≤ 100 := hlen
    obtain ⟨z,e⟩ := shown_parts Φ x0 x2 x3 l (w ++ [p.2]) (.sh p.1) (fun x hx => hl x (List.mem_cons_of_mem _ hx)) (by rw [List.length_append]; show _ + 1 + _ ≤ _; lia)
    have hll : (sDs w).length < line := by rw [sDs_len]; exact lt_line (by lia)
    rw [← sDs_app w p.2,List.append_assoc] at e
    exact ⟨z,(forL_next (show ex Φ b_shown_2 [x0,.own (sDs w),x2,x3,.sh p.1] = _ from ex_next (sx_app rfl (sv_bi rfl rfl (hl p (List.mem_cons_self ..)).1) rfl hll) rfl)).trans e⟩
theorem shown_pairs (Φ : Nat → List Val → Out Val) (x0 x4 : Val) : ∀ (l : List Kind) (w : List (List Nat)) (y2 y3 : Val),(∀ k ∈ l,1 ≤ k.2 ∧ k.2 ≤ 9) → w.length + 2 * l.length ≤ 100 →
    ∃ z2 z3,forL (stepF Φ [2,3] b_shown_1) (l.map kD) [x0,.own (sDs w),y2,y3,x4] = .ok (.next,[x0,.own (sDs (w ++ l.flatMap pairW)),z2,z3,x4])
  | [],w,y2,y3,_,_ => ⟨y2,y3,by rw [List.flatMap_nil,List.append_nil]; rfl⟩
  | k :: l,w,y2,y3,hl,hlen => by
    have hp := hl k (List.mem_cons_self ..)
    have hw : w.length + 2 * (l.length + 1) ≤ 100 := hlen
    obtain ⟨z2,z3,e⟩ := shown_pairs Φ x0 x4 l (w ++ [k.1] ++ [strOfInt k.2]) (.sh (.str k.1)) (.sh (.int k.2)) (fun x hx => hl x (List.mem_cons_of_mem _ hx)) (by rw [List.length_append,List.length_append]; show _ + 1 + 1 + _ ≤ _; lia)
    have hll : (sDs w).length < line := by rw [sDs_len]; exact lt_line (by lia)
    have hll2 : (sDs w ++ [Dat.str k.1]).length < line := by rw [sDs_app,sDs_len,List.length_append]; exact lt_line (by show _ + 1 ≤ _; lia)
    have hs := str_i (i := k.2) (by lia) (by lia)
    rw [show w ++ [k.1] ++ [strOfInt k.2] ++ l.flatMap pairW = w ++ (k :: l).flatMap pairW by rw [List.append_assoc,List.append_assoc]; rfl,← sDs_app _ (strOfInt k.2),← sDs_app w k.1] at e
    exact ⟨z2,z3,(forL_next (show ex Φ b_shown_1 [x0,.own (sDs w),.sh (.str k.1),.sh (.int k.2),x4] = _ from ex_next (sx_app rfl rfl rfl hll) (ex_next (sx_app rfl (sv_bi rfl rfl hs) rfl hll2) rfl))).trans e⟩
noncomputable def partsOf : Off → List (Dat × List Nat)
  | .more nm m c => [(.str nm,nm),(.int m,strOfInt m),(.int c,strOfInt c)]
  | .set _ _ => []
  | .share nm p => [(.str nm,nm),(.int p,strOfInt p)]
  | .slip a b x => [(.str a,a),(.str b,b),(.int x,strOfInt x)]
noncomputable def tagOf : Off → List Nat
  | .more _ _ _ => sMore
  | .set _ _ => sSet
  | .share _ _ => sShare
  | .slip _ _ _ => sSlip
noncomputable def isSet : Off → Bool
  | .set _ _ => true
  | _ => false
theorem mem_p {P : Dat × List Nat → Prop} {a : Dat × List Nat} {l : List (Dat × List Nat)} (ha : P a) (h : ∀ x ∈ l,P x) : ∀ x ∈ a :: l,P x := fun x hx => (List.mem_cons.1 hx).elim (fun e => e ▸ ha) (h x)
theorem mem_p0 {P : Dat × List Nat → Prop} : ∀ x ∈ ([] : List (Dat × List Nat)),P x := fun _ hx => nomatch hx
structure PlainOff (o : Off) : Prop where
  ok : ∀ p ∈ partsOf o,PartOk p
  len : (partsOf o).length ≤ 3
  dat : o.dat = .tup (.str (tagOf o) :: (partsOf o).map (·.1))
  words : wordsOf o = tagOf o :: (partsOf o).map (·.2)
  tag : (tagOf o == sSet) = false
theorem plain_off {ks : List Kind} {o : Off} (h : OffOk ks o) (hs : isSet o = false) : PlainOff o := by
  cases o with
  | more nm m c => exact ⟨mem_p (part_s _) (mem_p (part_i (by have := h.2; lia) (by have := h.2; lia)) (mem_p (part_i (by have := h.2; lia) (by have := h.2; lia)) mem_p0)),by show 3 ≤ 3; decide,rfl,rfl,rfl⟩
  | set ws p => cases hs
  | share nm p => exact ⟨mem_p (part_s _) (mem_p (part_i (by have := h.2; lia) (by have := h.2; lia)) mem_p0),by show 2 ≤ 3; decide,rfl,rfl,rfl⟩
  | slip a b x => exact ⟨mem_p (part_s _) (mem_p (part_s _) (mem_p (part_i (by have := h.2.2; lia) (by have := h.2.2; lia)) mem_p0)),by show 3 ≤ 3; decide,rfl,rfl,rfl⟩
theorem sp_shown (h47 : fns[47]? = some f_shown) (n : Nat) {ks : List Kind} (hk : KindsOk ks) (o : Off) (h : OffOk ks o) : callF fns (n + 1) 47 [.sh o.dat] = .ok (.sh (.str (textOf o))) := by
  rw [callF_succ h47,runFn_plain rfl rfl]
  generalize callF fns n = Φ
  obtain ⟨hw1,hw2⟩ := words_ok hk h
  have hj : joinD [32] (sDs (wordsOf o)) = .ok (.sh (.str (textOf o))) := join_ok hw1 hw2
  suffices R : ∃ ρ',ex Φ t_shown [.sh o.dat,.un,.un,.un,.un] = .ok (.ret (.sh (.str (textOf o))),ρ') by
    obtain ⟨ρ',R⟩ := R
    exact (congrArg (· >>= fun r => Out.ok (outOf r)) R).trans rfl
  cases hs : isSet o with
  | false =>
    obtain ⟨p1,p2,p3,p4,p5⟩ := plain_off h hs
    obtain ⟨z,e⟩ := shown_parts Φ (.sh o.dat) .un .un (partsOf o) [tagOf o] .un p1 (by simp; lia)
    have e : forL (stepF Φ [4] b_shown_2) ((partsOf o).map (·.1)) [.sh o.dat,.own [.str (tagOf o)],.un,.un,.un] = .ok (.next,[.sh o.dat,.own (sDs (wordsOf o)),.un,.un,z]) := by rw [p4]; exact e
    rw [p3] at e ⊢
    exact ex_step (sx_asgO (sv_lst (st_cons (sv_idxT rfl rfl idxL_0) rfl rfl) rfl)) (ex_step (sx_else (sv_cmp (sv_idxT rfl rfl idxL_0) rfl rfl rfl (eq_s.trans (congrArg Out.ok p5))) (ex_next (sx_for (sv_slT rfl) e) rfl)) (ex_ret1 (sx_ret (sv_meth rfl rfl rfl rfl rfl hj) rfl)))
  | true =>
    cases o with
    | set ws p =>
      obtain ⟨hw,h0,h1⟩ := h
      have h5 := hw.len5
      obtain ⟨z2,z3,e⟩ := shown_pairs Φ (.sh (Off.set ws p).dat) .un ws [sSet] .un .un hw.rng (by simp; lia)
      have ew : wordsOf (.set ws p) = ([sSet] ++ ws.flatMap pairW) ++ [[97,116],strOfInt p] := rfl
      rw [ew] at hj
      have hl1 : (sDs ([sSet] ++ ws.flatMap pairW)).length < line := by rw [sDs_len]; exact lt_line (by rw [List.length_append,flat_len]; show 1 + _ ≤ 2000; lia)
      have hl2 : (sDs (([sSet] ++ ws.flatMap pairW) ++ [[97,116]])).length < line := by rw [sDs_len]; exact lt_line (by rw [List.length_append,List.length_append,flat_len]; show 1 + _ + 1 ≤ 2000; lia)
      have hs := str_i (i := p) (by lia) (by lia)
      have e : forL (stepF Φ [2,3] b_shown_1) (ws.map kD) [.sh (.tup [.str sSet,.tup (ws.map kD),.int p]),.own [.str sSet],.un,.un,.un] = .ok (.next,[.sh (.tup [.str sSet,.tup (ws.map kD),.int p]),.own (sDs ([sSet] ++ ws.flatMap pairW)),z2,z3,.un]) := e
      generalize [sSet] ++ ws.flatMap pairW = w at *
      have hl2 : (sDs w ++ [Dat.str [97,116]]).length < line := by rw [sDs_app]; exact hl2
      rw [show w ++ [[97,116],strOfInt p] = w ++ [[97,116]] ++ [strOfInt p] by rw [List.append_assoc]; rfl,← sDs_app,← sDs_app] at hj
      exact ex_step (sx_asgO (sv_lst (st_cons (sv_idxT rfl rfl idxL_0) rfl rfl) rfl)) (ex_step (sx_yes (sv_cmp (sv_idxT rfl rfl idxL_0) rfl rfl rfl rfl) (ex_next (sx_for (sv_itsI (sv_idxT rfl rfl idxL_1)) e) (ex_next (sx_app rfl rfl rfl hl1) (ex_next (sx_app rfl (sv_bi (st_cons (sv_idxT rfl rfl idxL_2) rfl rfl) rfl hs) rfl hl2) rfl)))) (ex_ret1 (sx_ret (sv_meth rfl rfl rfl rfl rfl hj) rfl)))
    | _ => cases hs
end Mine.PL
namespace Mine.PL
open Mine
variable {fns : List Fn}
theorem price_rng {ks : List Kind} (hk : KindsOk ks) (i : Nat) : 0 ≤ priceAt ks i ∧ priceAt ks i ≤ 100000 := by
  unfold priceAt
  cases e : (ks.map (·.2))[i]? with
  | none => exact ⟨by decide,by decide⟩
  | some p =>
    obtain ⟨k,hk1,rfl⟩ := List.mem_map.1 (List.mem_of_getElem? e)
    exact hk.prices k hk1
theorem deal_price {ks : List Kind} (hk : KindsOk ks) {o : Off} (h : OffOk ks o) : 0 ≤ (dealOf ks o).2 ∧ (dealOf ks o).2 ≤ 900000 := by
  cases o with
  | more nm m c =>
    have hp := price_rng hk (placeOf ks nm)
    obtain ⟨_,h1,h2,h3,h4⟩ := h
    refine ⟨Int.mul_nonneg (by lia) hp.1,?_⟩
    have : c * priceAt ks (placeOf ks nm) ≤ 8 * 100000 := Int.mul_le_mul (by lia) hp.2 hp.1 (by decide)
    show c * priceAt ks (placeOf ks nm) ≤ 900000
    lia
  | set ws p => exact ⟨h.2.1,Int.le_trans h.2.2 (by decide)⟩
  | share nm pc =>
    have hp := price_rng hk (placeOf ks nm)
    obtain ⟨_,h1,h2⟩ := h
    show 0 ≤ priceAt ks (placeOf ks nm) - priceAt ks (placeOf ks nm) * pc / 100 ∧ priceAt ks (placeOf ks nm) - priceAt ks (placeOf ks nm) * pc / 100 ≤ 900000
    generalize priceAt ks (placeOf ks nm) = p at *
    have q0 : 0 ≤ p * pc := Int.mul_nonneg hp.1 (by lia)
    have q1 : p * pc ≤ p * 100 := Int.mul_le_mul_of_nonneg_left h2 hp.1
    omega
  | slip a b x =>
    have hp := price_rng hk (placeOf ks b)
    obtain ⟨_,_,_,h1,h2⟩ := h
    show 0 ≤ (if priceAt ks (placeOf ks b) - x > 0 then priceAt ks (placeOf ks b) - x else 0) ∧ (if priceAt ks (placeOf ks b) - x > 0 then priceAt ks (placeOf ks b) - x else 0) ≤ 900000
    split <;> lia
theorem rows_price {ks : List Kind} (hk : KindsOk ks) {os : List Off} (ho : ∀ o ∈ os,OffOk ks o) : ∀ r ∈ rowsOf ks os,0 ≤ r.2 ∧ r.2 ≤ 900000 := by
  intro r hr
  rcases List.mem_append.1 hr with hr | hr
  · obtain ⟨i,_,rfl⟩ := List.mem_map.1 hr
    have := price_rng hk i
    exact ⟨this.1,Int.le_trans this.2 (by decide)⟩
  · obtain ⟨o,hm,rfl⟩ := List.mem_map.1 hr
    exact deal_price hk (ho o hm)
noncomputable def wdAt (ws : List (List Nat)) (k : Nat) : List Nat := ws[k]?.getD []
noncomputable def cntAt (y : List Int) (k : Nat) : Int := y[k]?.getD 0
noncomputable def prAt (rows : List Row) (k : Nat) : Int := (rows[k]?.map (·.2)).getD 0
noncomputable def lineOf (w : List Nat) (c p : Int) : List Nat := strOfInt c ++ [32,120,32] ++ w ++ [58,32] ++ strOfInt (c * p)
noncomputable def lineAt (y : List Int) (ws : List (List Nat)) (rows : List Row) (k : Nat) : Option (List Nat) := if 0 < cntAt y k then some (lineOf (wdAt ws k) (cntAt y k) (prAt rows k)) else Option.none
noncomputable def linesTo (y : List Int) (ws : List (List Nat)) (rows : List Row) (n : Nat) : List (List Nat) := (List.range n).filterMap (lineAt y ws rows)
noncomputable def billOf (y : List Int) (ws : List (List Nat)) (rows : List Row) (c : Int) : List (List Nat) := linesTo y ws rows rows.length ++ [[115,117,109,58,32] ++ strOfInt c]
theorem cat {a b : List Nat} (h : a.length + b.length ≤ 2000) : binD .add (.str a) (.str b) = .ok (.sh (.str (a ++ b))) := if_pos (le_line h)
theorem line_ev {w : List Nat} {c p : Int} (hw : w.length ≤ 300) (hc : 0 ≤ c ∧ c ≤ 300) (hp : 0 ≤ c * p ∧ c * p < 10 ^ 12) : ∃ p1 p2 p3,binD .add (.str (strOfInt c)) (.str [32,120,32]) = .ok (.sh (.str p1)) ∧ binD .add (.str p1) (.str w) = .ok (.sh (.str p2)) ∧ binD .add (.str p2) (.str [58,32]) = .ok (.sh (.str p3)) ∧ binD .add (.str p3) (.str (strOfInt (c * p))) = .ok (.sh (.str (lineOf w c p))) := by
  have h1 := strOf_len (i := c) hc.1 (by lia)
  have h2 := strOf_len hp.1 hp.2
  refine ⟨_,_,_,cat (by simp; lia),cat (by simp; lia),cat (by simp; lia),cat (by simp; lia)⟩
theorem sum_ev {c : Int} (hc : 0 ≤ c ∧ c < 10 ^ 12) : binD .add (.str [115,117,109,58,32]) (.str (strOfInt c)) = .ok (.sh (.str ([115,117,109,58,32] ++ strOfInt c))) := cat (by have := strOf_len hc.1 hc.2; simp; lia)
structure BillOk (y : List Int) (ws : List (List Nat)) (rows : List Row) : Prop where
  ly : y.length = rows.length
  lw : ws.length = rows.length
  len : rows.length ≤ 100
  nn : ∀ x ∈ y,0 ≤ x ∧ x ≤ 300
  pr : ∀ r ∈ rows,0 ≤ r.2 ∧ r.2 ≤ 900000
  wd : ∀ w ∈ ws,w.length ≤ 300
structure AtOk (y : List Int) (ws : List (List Nat)) (rows : List Row) (k : Nat) : Prop where
  iy : idxL (iD y) k = .ok (.sh (.int (cntAt y k)))
  iw : idxL (sDs ws) k = .ok (.sh (.str (wdAt ws k)))
  ir : ∃ r : Row,idxL (rows.map rD) k = .ok (.sh (rD r)) ∧ r.2 = prAt rows k
  cnt : 0 ≤ cntAt y k ∧ cntAt y k ≤ 300
  wd : (wdAt ws k).length ≤ 300
  prod : 0 ≤ cntAt y k * prAt rows k ∧ cntAt y k * prAt rows k < 10 ^ 12
  price : 0 ≤ prAt rows k ∧ prAt rows k ≤ 900000
theorem BillOk.at {y ws rows} (h : BillOk y ws rows) {k : Nat} (hk : k < rows.length) : AtOk y ws rows k := by
  have hy : k < y.length := by rw [h.ly]; exact hk
  have hw : k < ws.length := by rw [h.lw]; exact hk
  have ey : cntAt y k = y[k] := by rw [cntAt,List.getElem?_eq_getElem hy]; rfl
  have ew : wdAt ws k = ws[k] := by rw [wdAt,List.getElem?_eq_getElem hw]; rfl
  have er : prAt rows k = rows[k].2 := by rw [prAt,List.getElem?_eq_getElem hk]; rfl
  have h1 := h.nn _ (List.getElem_mem hy)
  have h2 := h.pr _ (List.getElem_mem hk)
  refine ⟨?_,?_,⟨rows[k],?_,er.symm⟩,by rw [ey]; exact h1,by rw [ew]; exact h.wd _ (List.getElem_mem hw),?_,by rw [er]; exact h2⟩
  · rw [ey]; exact idx_iD (by lia) (by lia)
  · refine idxL_at (by lia) ?_
    rw [Int.toNat_natCast,sDs,List.getElem?_map,List.getElem?_eq_getElem hw,ew]; rfl
  · refine idxL_at (by lia) ?_
    rw [Int.toNat_natCast,List.getElem?_map,List.getElem?_eq_getElem hk]; rfl
  · rw [ey,er]
    refine ⟨Int.mul_nonneg h1.1 h2.1,?_⟩
    have : y[k] * rows[k].2 ≤ 300 * 900000 := Int.mul_le_mul h1.2 h2.2 h2.1 (by decide)
    lia
theorem lines_no {y ws rows} {k : Nat} (h : ¬ 0 < cntAt y k) : linesTo y ws rows (k + 1) = linesTo y ws rows k := by
  unfold linesTo
  rw [List.range_succ,List.filterMap_append,List.filterMap_cons_none (by rw [lineAt,if_neg h]),List.filterMap_nil,List.append_nil]
theorem lines_yes {y ws rows} {k : Nat} (h : 0 < cntAt y k) : linesTo y ws rows (k + 1) = linesTo y ws rows k ++ [lineOf (wdAt ws k) (cntAt y k) (prAt rows k)] := by
  unfold linesTo
  rw [List.range_succ,List.filterMap_append,List.filterMap_cons_some (by rw [lineAt,if_pos h]),List.filterMap_nil]
theorem lines_len {y ws rows} {k : Nat} (h : k ≤ 100) : (sDs (linesTo y ws rows k)).length < line := by
  rw [sDs_len]
  refine lt_line ?_
  have h1 : (linesTo y ws rows k).length ≤ _ := List.length_filterMap_le _ _
  rw [List.length_range] at h1
  lia
theorem billed_loop (Φ : Nat → List Val → Out Val) (x0 x1 x2 x3 x9 : Val) {y : List Int} {ws : List (List Nat)} {rows : List Row} (H : BillOk y ws rows) :
    ∃ z8,forL (stepF Φ [8] b_billed_1) (rangeL 0 1 rows.length) [x0,x1,x2,x3,.sh (.lst (iD y)),.sh (.lst (sDs ws)),.sh (.lst (rows.map rD)),.own [],.un,x9] =
      .ok (.next,[x0,x1,x2,x3,.sh (.lst (iD y)),.sh (.lst (sDs ws)),.sh (.lst (rows.map rD)),.own (sDs (linesTo y ws rows rows.length)),z8,x9]) := by
  obtain ⟨ρ',e,y8,er⟩ := forL_idx (stepF Φ [8] b_billed_1) (fun o ρ => ∃ y8,ρ = [x0,x1,x2,x3,.sh (.lst (iD y)),.sh (.lst (sDs ws)),.sh (.lst (rows.map rD)),.own (sDs (linesTo y ws rows o)),y8,x9])
    (rangeL 0 1 rows.length) 0 _ ⟨.un,rfl⟩ (by
      intro i d ρ hd h0
      refine cps fun P_ hP_ => ?_
      obtain ⟨y8,er⟩ := h0
      refine hP_ ?_
      clear hP_ P_
      obtain ⟨hi,rfl⟩ := rangeL_get hd
      subst er
      rw [Nat.zero_add]
      obtain ⟨iy,iw,⟨r,ir,ep⟩,hc,hw,hp,hpr⟩ := H.at hi
      refine ⟨_,?_,.sh (.int i),rfl⟩
      show ex Φ b_billed_1 [x0,x1,x2,x3,.sh (.lst (iD y)),.sh (.lst (sDs ws)),.sh (.lst (rows.map rD)),.own (sDs (linesTo y ws rows i)),.sh (.int i),x9] = _
      unfold b_billed_1
      refine ex_next ?_ rfl
      by_cases h0 : 0 < cntAt y i
      · obtain ⟨p1,p2,p3,e1,e2,e3,e4⟩ := line_ev hw hc hp
        have r1 : idx2 (.sh (rD r)) 1 = .ok (.sh (.int (prAt rows i))) := by rw [← ep]; simp [rD]
        have em := mul_i (a := cntAt y i) (b := prAt rows i) (.inl (by lia))
        have s1 := str_i (i := cntAt y i) hc.1 (by lia)
        have s2 := str_i hp.1 hp.2
        have hl := lines_len (y := y) (ws := ws) (rows := rows) (k := i) (by have := H.len; lia)
        rw [lines_yes h0,← sDs_app]
        exact sx_yes (sv_cmp (sv_idx rfl rfl iy) rfl rfl rfl (congrArg Out.ok (decide_eq_true h0))) (ex_next (sx_app rfl (sv_bin (sv_bin (sv_bin (sv_bin (sv_bi (st_cons (sv_idx rfl rfl iy) rfl rfl) rfl s1) rfl rfl rfl e1) (sv_idx rfl rfl iw) rfl rfl e2) rfl rfl rfl e3) (sv_bi (st_cons (sv_bin (sv_idx rfl rfl iy) (sv_idx (sv_idx rfl rfl ir) rfl r1) rfl rfl em) rfl rfl) rfl s2) rfl rfl e4) rfl hl) rfl)
      · rw [lines_no h0]
        exact sx_no (sv_cmp (sv_idx rfl rfl iy) rfl rfl rfl (congrArg Out.ok (decide_eq_false h0))))
  rw [er,rangeL_length,Nat.zero_add] at e
  exact ⟨y8,e⟩
end Mine.PL
namespace Mine.PL
open Mine
variable {fns : List Fn}
noncomputable def wordL (ks : List Kind) (os : List Off) : List (List Nat) := ks.map (·.1) ++ os.map textOf
theorem spend_rng : ∀ (rows : List Row) (y : List Int),(∀ x ∈ y,0 ≤ x ∧ x ≤ 300) → (∀ r ∈ rows,0 ≤ r.2 ∧ r.2 ≤ 900000) → 0 ≤ spend rows y ∧ spend rows y ≤ 270000000 * rows.length
  | [],_,_,_ => ⟨Int.le_refl _,Int.le_refl _⟩
  | r :: rows,[],_,_ => ⟨Int.le_refl _,by show (0 : Int) ≤ _; lia⟩
  | r :: rows,k :: y,hy,hr => by
    have h1 := hy k (List.mem_cons_self ..)
    have h2 := hr r (List.mem_cons_self ..)
    have h3 := spend_rng rows y (fun x hx => hy x (List.mem_cons_of_mem _ hx)) fun x hx => hr x (List.mem_cons_of_mem _ hx)
    have h4 : k * r.2 ≤ 300 * 900000 := Int.mul_le_mul h1.2 h2.2 h2.1 (by decide)
    have h5 := Int.mul_nonneg h1.1 h2.1
    show 0 ≤ k * r.2 + spend rows y ∧ k * r.2 + spend rows y ≤ 270000000 * ((rows.length + 1 : Nat) : Int)
    lia
theorem bill_ok {ks : List Kind} (hk : KindsOk ks) {os : List Off} (ho : ∀ o ∈ os,OffOk ks o) (hos : os.length ≤ 50) {b : List Int} {c : Int} {y : List Int} (hp : PaidOk b (rowsOf ks os) c y) : BillOk y (wordL ks os) (rowsOf ks os) ∧ 0 ≤ c ∧ c < 10 ^ 12 := by
  have h5 := hk.len5
  have hrl : (rowsOf ks os).length = ks.length + os.length := by simp [rowsOf]
  have hy : ∀ x ∈ y,0 ≤ x ∧ x ≤ 300 := fun x hx => ⟨hp.nn x hx,hp.small x hx⟩
  have hr := rows_price hk ho
  refine ⟨⟨hp.len,by simp [wordL,hrl],by lia,hy,hr,fun w hw => ?_⟩,?_⟩
  · rcases List.mem_append.1 hw with hw | hw
    · have := name_le hk hw; lia
    · obtain ⟨o,hm,rfl⟩ := List.mem_map.1 hw
      exact text_len hk (ho o hm)
  · have h := spend_rng (rowsOf ks os) y hy hr
    rw [hp.spent] at h
    lia
theorem words_dat (ks : List Kind) (os : List Off) : nD ks ++ os.map (fun o => Dat.str (textOf o)) = sDs (wordL ks os) := by rw [sDs,wordL,List.map_append,List.map_map,List.map_map]; rfl
theorem texts_comp {Φ : Nat → List Val → Out Val} {f i : Nat} {os : List Off} (h : ∀ o ∈ os,Φ f [.sh o.dat] = .ok (.sh (.str (textOf o)))) (ρ : List Val) (hi : i < ρ.length) : compL (compF Φ (.call f (.cons (.v i) .nil)) [i] .nil ρ) (os.map Off.dat) = .ok (os.map (fun o => Dat.str (textOf o))) := by
  rw [compL_mapO (g := fun o => some (Dat.str (textOf o)))]
  · simp
  · intro o ho
    simp [compF_nil,List.getElem?_set,hi,h o ho]
theorem sp_billed (H1 : Has1 fns) (H2 : Has2 fns) (h47 : fns[47]? = some f_shown) (h48 : fns[48]? = some f_billed) (n : Nat) (ks : List Kind) (hk : KindsOk ks) (os : List Off) (ho : ∀ o ∈ os,OffOk ks o) (hos : os.length ≤ 50) (b : List Int) {c : Int} {y : List Int} (hp : PaidOk b (rowsOf ks os) c y)
    (ep : ∀ n,callF fns (n + 7) 32 [.shop (nD ks) (pD ks),.sh (.lst (os.map Off.dat)),.sh (.lst (iD b))] = .ok (.pr (.int c) (iD y))) :
    callF fns (n + 8) 48 [.shop (nD ks) (pD ks),.sh (.lst (os.map Off.dat)),.sh (.lst (iD b))] = .ok (.own (sDs (billOf y (wordL ks os) (rowsOf ks os) c))) := by
  rw [callF_succ h48,runFn_plain rfl rfl]
  obtain ⟨hB,hc⟩ := bill_ok hk ho hos hp
  have h5 := hk.len5
  have hrl : (rowsOf ks os).length = ks.length + os.length := by simp [rowsOf]
  have e32 := ep n
  have e14 := sp_deals H1 H2 (n + 1) ks hk os ho (by lia)
  have e47 := fun o (hm : o ∈ os) => sp_shown h47 (n + 6) hk o (ho o hm)
  have hnl : (nD ks).length = ks.length := by simp [nD]
  have hl1 : ks.length + os.length ≤ line := le_line (by lia)
  have hyl := hp.len
  have hrg := rngOk_of (y := (y.length : Int)) (by lia) (by lia)
  rw [Int.toNat_natCast,hyl] at hrg
  have hyi : (iD y).length = (rowsOf ks os).length := by simp [iD,hyl]
  have sc := str_i hc.1 hc.2
  have se := sum_ev hc
  have hll := lines_len (y := y) (ws := wordL ks os) (rows := rowsOf ks os) (k := (rowsOf ks os).length) (by lia)
  have hll1 : (sDs (linesTo y (wordL ks os) (rowsOf ks os) (rowsOf ks os).length)).length + 1 ≤ line := hll
  have eb : sDs (linesTo y (wordL ks os) (rowsOf ks os) (rowsOf ks os).length) ++ [.str ([115,117,109,58,32] ++ strOfInt c)] = sDs (billOf y (wordL ks os) (rowsOf ks os) c) := sDs_app _ _
  simp only [Nat.add_assoc,Nat.reduceAdd] at e14 e47
  generalize hrows : rowsOf ks os = rows at *
  generalize callF fns (n + 7) = Φ at *
  have ec := fun ρ hρ => texts_comp (i := 9) e47 ρ hρ
  have ew := words_dat ks os
  generalize hs : [115,117,109,58,32] ++ strOfInt c = sm at *
  generalize sDs (billOf y (wordL ks os) rows c) = res at *
  suffices R : ∃ ρ',ex Φ t_billed [.shop (nD ks) (pD ks),.sh (.lst (os.map Off.dat)),.sh (.lst (iD b)),.un,.un,.un,.un,.un,.un,.un] = .ok (.ret (.own res),ρ') by
    obtain ⟨ρ',R⟩ := R
    exact (congrArg (· >>= fun r => Out.ok (outOf r)) R).trans rfl
  obtain ⟨z8,el⟩ := billed_loop Φ (.shop (nD ks) (pD ks)) (.sh (.lst (os.map Off.dat))) (.sh (.lst (iD b))) (.sh (.tup [.int c,.lst (iD y)])) .un hB
  unfold t_billed
  refine ex_step (sx_asg (sv_call rfl e32) rfl) ?_
  refine ex_step (sx_asg (v := .sh (.lst (iD y))) rfl rfl) ?_
  refine ex_step (sx_asg (v := .own (sDs (wordL ks os))) (sv_bin (x := .sh (.lst (nD ks))) (d := .lst (nD ks)) rfl (sv_comp rfl (ec _ (Nat.le_of_ble_eq_true rfl))) rfl rfl ((if_pos (by rw [hnl,List.length_map]; exact hl1)).trans (by rw [ew]))) rfl) ?_
  refine ex_step (sx_asg (sv_call rfl e14) rfl) ?_
  refine ex_step rfl ?_
  refine ex_step (sx_for (sv_rng (sv_bi rfl rfl (len_ints y)) (hyl.symm ▸ hrg)) el) ?_
  exact ex_ret1 (sx_ret (v := .own res) (sv_bin rfl (sv_lst (st_cons (sv_bin rfl (sv_bi rfl rfl sc) rfl rfl se) rfl rfl) rfl) rfl rfl ((if_pos hll1).trans (by rw [eb]))) rfl)
end Mine.PL
namespace Mine.PL
open Mine
structure Has04 (fns : List Fn) : Prop where
  h1 : Has1 fns
  h2 : Has2 fns
  h3 : Has3 fns
  h5 : Has5 fns
  h6 : Has6 fns
  h7 : Has7 fns
  b28 : fns[28]? = some f_l_whole
  b45 : fns[45]? = some f_l_basket_c
  b47 : fns[47]? = some f_shown
  b48 : fns[48]? = some f_billed
  b63 : fns[63]? = some f_l_one_class
  b66 : fns[66]? = some f_l_changed_b
  b67 : fns[67]? = some f_l_due_b
  b68 : fns[68]? = some f_l_asked
  b69 : fns[69]? = some f_law04
variable {fns : List Fn}
noncomputable def manyD : List Dat → Int
  | [] => 1
  | d :: l => (intOf d + 1) * manyD l
noncomputable def allR (l : List Dat) : Bool := l.all fun d => rangeD d 0 9
noncomputable def listW (k : Nat) (l : List Dat) : Option Nat := if l.length = k then (if allR l = true then (if 300 < manyD l then some 7 else none) else some 6) else some 6
noncomputable def nbW (k : Nat) (D : Dat) : Option Nat := match D with
  | .lst l => listW k l
  | _ => some 6
theorem allR_ints : ∀ {l : List Dat},allR l = true → ∃ b : List Int,l = iD b ∧ BaskOk b ∧ manyD l = many b
  | [],_ => ⟨[],rfl,fun _ h => (nomatch h),rfl⟩
  | d :: l,h => by
    have h : (rangeD d 0 9 && allR l) = true := h
    obtain ⟨h1,h2⟩ := Bool.and_eq_true_iff.mp h
    obtain ⟨i,rfl,i0,i1⟩ := range_int h1
    obtain ⟨b,rfl,hb,hm⟩ := allR_ints h2
    refine ⟨i :: b,rfl,fun c hc => ?_,?_⟩
    · rcases List.mem_cons.1 hc with rfl | hc
      · exact ⟨i0,i1⟩
      · exact hb c hc
    · show (i + 1) * manyD (iD b) = (i + 1) * many b
      rw [hm]
noncomputable def wordX (c : Nat) : List Nat := if c = 6 then [98,97,115,107,101,116] else if c = 7 then [109,97,110,121] else if c = 8 then [111,102,102,101,114] else [107,105,110,100]
noncomputable def wordB (q : Option Nat) : List Nat := match q with
  | none => []
  | some c => wordX c
theorem need_loop4 (H : Has01 fns) (n : Nat) (S X : Val) : ∀ (l : List Dat) (y : Val),(∀ d ∈ l,d ≠ .dic) → ∃ z,forL (stepF (callF fns (n + 1)) [2] b_need_basket_1) l [S,X,y] = if allR l then .ok (.next,[S,X,z]) else .exn 6
  | [],y,_ => ⟨y,rfl⟩
  | d :: l,y,hd => by
    obtain ⟨z,ih⟩ := need_loop4 H n S X l (.sh d) fun x hx => hd x (List.mem_cons_of_mem _ hx)
    have t : ev (callF fns (n + 1)) (.not (.call 0 (.cons (.v 2) (.cons (.cI 0) (.cons (.gI 9) .nil))))) [S,X,.sh d] = .ok (.sh (.bool (!rangeD d 0 9))) := sv_not (sv_call rfl (sp_betweenR H n d 0 9 (hd d (List.mem_cons_self ..))))
    refine ⟨z,?_⟩
    show _ = if (rangeD d 0 9 && allR l) then _ else _
    cases h : rangeD d 0 9 with
    | true =>
      rw [h] at t
      rw [Bool.true_and,← ih]
      exact forL_next (show ex (callF fns (n + 1)) b_need_basket_1 [S,X,.sh d] = _ from ex_next (sx_no t) rfl)
    | false =>
      rw [h] at t
      exact forL_exn (show ex (callF fns (n + 1)) b_need_basket_1 [S,X,.sh d] = _ from ex_exn (sx_yes t (ex_exn rfl)))
noncomputable def ItemsD (D : Dat) : Prop := ∀ l,D = .lst l → ∀ d ∈ l,d ≠ .dic
theorem run_exn' {Φ : Nat → List Val → Out Val} {t : T} {ρ : List Val} {c : Nat} (h : ex Φ t ρ = .exn c) : (ex Φ t ρ >>= fun r => Out.ok (outOf r)) = .exn c := by rw [h]; rfl
noncomputable def rsn (q : Option Nat) : Out Val := match q with
  | some c => .exn c
  | none => .ok (.sh .none)
theorem sp_needD (H : Has04 fns) (n : Nat) (ks : List Kind) {D : Dat} (hD : ItemsD D) : callF fns (n + 2) 4 [.shop (nD ks) (pD ks),.sh D] = rsn (nbW ks.length D) := by
  rw [callF_succ H.h5.b4,runFn_plain rfl rfl]
  cases D with
  | lst l =>
    obtain ⟨z,lp⟩ := need_loop4 H.h1.toHas01 n (.shop (nD ks) (pD ks)) (.sh (.lst l)) l .un (hD l rfl)
    have hn : (nD ks).length = ks.length := by simp [nD]
    have t : ev (callF fns (n + 1)) (.or (.not (.isi .list (.v 1))) (.cmp .ne (.bi .len (.cons (.v 1) .nil)) (.bi .len (.cons (.attr false (.v 0)) .nil)))) [.shop (nD ks) (pD ks),.sh (.lst l),.un] = .ok (.sh (.bool (!((l.length : Int) == (ks.length : Int))))) := sv_or rfl (sv_cmp (sv_bi rfl rfl rfl) (sv_bi rfl rfl (by rw [len_l]; exact congrArg (fun k : Nat => Out.ok (Dat.int k)) hn)) rfl rfl ne_i)
    show _ = rsn (listW ks.length l)
    unfold listW
    by_cases h1 : l.length = ks.length
    · rw [if_pos h1]
      rw [show ((l.length : Int) == (ks.length : Int)) = true from beq_iff_eq.mpr (by rw [h1])] at t
      cases h2 : allR l with
      | false =>
        rw [h2] at lp
        exact run_exn' (ex_next (sx_no t) (ex_exn (sx_for rfl lp)))
      | true =>
        rw [h2] at lp
        obtain ⟨b,rfl,hb,hm⟩ := allR_ints h2
        have hw := sp_within H.h5 n b hb
        have t2 : ev (callF fns (n + 1)) (.cmp .gt (.call 5 (.cons (.v 1) .nil)) (.gI 300)) [.shop (nD ks) (pD ks),.sh (.lst (iD b)),z] = .ok (.sh (.bool (decide (300 < many b)))) := sv_cmp (sv_call rfl hw) rfl rfl rfl gt_i
        rw [hm]
        by_cases h3 : 300 < many b
        · rw [decide_eq_true h3] at t2
          rw [if_pos rfl,if_pos h3]
          exact run_exn' (ex_next (sx_no t) (ex_next (sx_for rfl lp) (ex_exn (sx_yes t2 (ex_exn rfl)))))
        · rw [decide_eq_false h3] at t2
          rw [if_pos rfl,if_neg h3]
          exact run_next (ex_next (sx_no t) (ex_next (sx_for rfl lp) (ex_next (sx_no t2) rfl)))
    · rw [if_neg h1]
      rw [show ((l.length : Int) == (ks.length : Int)) = false from beq_eq_false_iff_ne.mpr fun e => h1 (Int.ofNat.inj e)] at t
      exact run_exn' (ex_exn (sx_yes t (ex_exn rfl)))
  | _ => exact run_exn' (ex_exn (sx_yes (sv_or_t rfl) (ex_exn rfl)))
theorem sp_whole4 (H : Has04 fns) (n : Nat) (d : Dat) (h : d ≠ .dic) : callF fns (n + 1) 28 [.sh d] = .ok (.sh (.bool (wholeD d))) := by
  rw [callF_succ H.b28,runFn_plain rfl rfl]
  cases d with
  | dic => exact absurd rfl h
  | _ => rfl
theorem due_loop4 (H : Has04 fns) (n : Nat) (K X : Val) : ∀ (l : List Dat) (m : Int) (y : Val),(∀ d ∈ l,d ≠ .dic) → ∃ z ρ,forL (stepF (callF fns (n + 1)) [3] b_l_due_b_1) l [K,X,.sh (.int m),y] = if allR l then .ok (.next,[K,X,.sh (.int (m * manyD l)),z]) else .ok (.ret (.sh (.str (wordX 6))),ρ)
  | [],m,y,_ => ⟨y,[],by show Out.ok _ = Out.ok _; rw [show m * manyD [] = m from Int.mul_one m]⟩
  | d :: l,m,y,hd => by
    have hw := sp_whole4 H n d (hd d (List.mem_cons_self ..))
    show ∃ z ρ,_ = if (rangeD d 0 9 && allR l) then _ else _
    have t1 := sv_not (Φ := callF fns (n + 1)) (ρ := [K,X,.sh (.int m),.sh d]) (a := .call 28 (.cons (.v 3) .nil)) (sv_call rfl hw)
    have bad : rangeD d 0 9 = false → ev (callF fns (n + 1)) (.or (.not (.call 28 (.cons (.v 3) .nil))) (.not (.cmp2 .le .le (.cI 0) (.v 3) (.cI 9)))) [K,X,.sh (.int m),.sh d] = .ok (.sh (.bool true)) := fun h => by
      cases d with
      | int i =>
        have t2 : ev (callF fns (n + 1)) (.not (.cmp2 .le .le (.cI 0) (.v 3) (.cI 9))) [K,X,.sh (.int m),.sh (.int i)] = .ok (.sh (.bool (!(decide (0 ≤ i) && decide (i ≤ 9))))) := sv_not (sv_cmp2 rfl rfl rfl rfl rfl rfl le_i le_i)
        rw [show (decide ((0 : Int) ≤ i) && decide (i ≤ 9)) = false from h] at t2
        exact sv_or t1 t2
      | _ => exact sv_or_t t1
    cases h : rangeD d 0 9 with
    | false =>
      exact ⟨y,_,forL_ret (show ex (callF fns (n + 1)) b_l_due_b_1 [K,X,.sh (.int m),.sh d] = _ from sx_stop (sx_yes (bad h) (sx_cret rfl rfl)))⟩
    | true =>
      obtain ⟨i,rfl,i0,i1⟩ := range_int h
      have t2 : ev (callF fns (n + 1)) (.not (.cmp2 .le .le (.cI 0) (.v 3) (.cI 9))) [K,X,.sh (.int m),.sh (.int i)] = .ok (.sh (.bool (!(decide (0 ≤ i) && decide (i ≤ 9))))) := sv_not (sv_cmp2 rfl rfl rfl rfl rfl rfl le_i le_i)
      rw [decide_eq_true i0,decide_eq_true i1] at t2
      obtain ⟨z,ρ,ih⟩ := due_loop4 H n K X l (m * (i + 1)) (.sh (.int i)) fun x hx => hd x (List.mem_cons_of_mem _ hx)
      refine ⟨z,ρ,?_⟩
      rw [Bool.true_and,show m * manyD (.int i :: l) = m * (i + 1) * manyD l from (Int.mul_assoc ..).symm,← ih]
      exact forL_next (show ex (callF fns (n + 1)) b_l_due_b_1 [K,X,.sh (.int m),.sh (.int i)] = _ from ex_next (sx_no (sv_or t1 t2)) (ex_next (sx_asg (sb rfl (sb rfl rfl add_i) (mul_i (.inr (by lia)))) rfl) rfl))
theorem sp_due_b (H : Has04 fns) (n : Nat) (ks : List Kind) {D : Dat} (hD : ItemsD D) : callF fns (n + 2) 67 [.sh (.lst (ks.map kD)),.sh D] = .ok (.sh (.str (wordB (nbW ks.length D)))) := by
  rw [callF_succ H.b67,runFn_plain rfl rfl]
  refine run_ret ?_
  cases D with
  | lst l =>
    obtain ⟨z,ρ,lp⟩ := due_loop4 H n (.sh (.lst (ks.map kD))) (.sh (.lst l)) l 1 .un (hD l rfl)
    have t : ev (callF fns (n + 1)) (.or (.not (.isi .list (.v 1))) (.cmp .ne (.bi .len (.cons (.v 1) .nil)) (.bi .len (.cons (.v 0) .nil)))) [.sh (.lst (ks.map kD)),.sh (.lst l),.un,.un] = .ok (.sh (.bool (!((l.length : Int) == (ks.length : Int))))) := sv_or rfl (sv_cmp (sv_bi rfl rfl rfl) (sv_bi rfl rfl (len_map _ ks)) rfl rfl ne_i)
    show ∃ ρ2,ex (callF fns (n + 1)) t_l_due_b [.sh (.lst (ks.map kD)),.sh (.lst l),.un,.un] = Out.ok (.ret (.sh (.str (wordB (listW ks.length l)))),ρ2)
    unfold listW
    by_cases h1 : l.length = ks.length
    · rw [if_pos h1]
      rw [show ((l.length : Int) == (ks.length : Int)) = true from beq_iff_eq.mpr (by rw [h1])] at t
      cases h2 : allR l with
      | false =>
        rw [h2] at lp
        exact ex_step (sx_no t) (ex_step rfl (ex_ret1 (sx_for rfl lp)))
      | true =>
        rw [h2] at lp
        rw [if_pos rfl] at lp ⊢
        rw [Int.one_mul] at lp
        refine ex_step (sx_no t) (ex_step rfl (ex_step (sx_for rfl lp) ?_))
        have t2 : ev (callF fns (n + 1)) (.cmp .gt (.v 2) (.cI 300)) [.sh (.lst (ks.map kD)),.sh (.lst l),.sh (.int (manyD l)),z] = .ok (.sh (.bool (decide (300 < manyD l)))) := sv_cmp rfl rfl rfl rfl gt_i
        by_cases h3 : 300 < manyD l
        · rw [decide_eq_true h3] at t2
          rw [if_pos h3]
          exact ex_ret1 (sx_ret (v := .sh (.str [109,97,110,121])) (by rw [ev_ite,t2]; rfl) rfl)
        · rw [decide_eq_false h3] at t2
          rw [if_neg h3]
          exact ex_ret1 (sx_ret (v := .sh (.str [])) (by rw [ev_ite,t2]; rfl) rfl)
    · rw [if_neg h1]
      rw [show ((l.length : Int) == (ks.length : Int)) = false from beq_eq_false_iff_ne.mpr fun e => h1 (Int.ofNat.inj e)] at t
      exact ex_ret1 (sx_yes t (sx_cret rfl rfl))
  | _ => exact ex_ret1 (sx_yes (sv_or_t rfl) (sx_cret rfl rfl))
end Mine.PL
namespace Mine.PL
open Mine
variable {fns : List Fn}
section
variable {Φ : Nat → List Val → Out Val} {ρ : List Val} {a b t e : T} {v x : Val} {c i f : Nat} {as : List Val} {l : List Dat}
theorem st_exn1 (h : ev Φ a ρ = .exn c) : evT Φ (.cons a b) ρ = .exn c := by
  show (ev Φ a ρ >>= argV >>= fun x => evT Φ b ρ >>= fun y => Out.ok (x :: y)) = _
  rw [h]; rfl
theorem st_exn2 (ha : ev Φ a ρ = .ok v) (hx : argV v = .ok x) (h : evT Φ b ρ = .exn c) : evT Φ (.cons a b) ρ = .exn c := by
  show (ev Φ a ρ >>= argV >>= fun x => evT Φ b ρ >>= fun y => Out.ok (x :: y)) = _
  rw [ha]
  show (argV v >>= fun x => evT Φ b ρ >>= fun y => Out.ok (x :: y)) = _
  rw [hx]
  show (evT Φ b ρ >>= fun y => Out.ok (x :: y)) = _
  rw [h]; rfl
theorem sv_callX (h1 : evT Φ t ρ = .ok as) (h2 : Φ f as = .exn c) : ev Φ (.call f t) ρ = .exn c := by rw [ev_call,h1]; exact h2
theorem sv_callX1 (h1 : evT Φ t ρ = .exn c) : ev Φ (.call f t) ρ = .exn c := by rw [ev_call,h1]; rfl
theorem sv_idxX (h : ev Φ a ρ = .exn c) : ev Φ (.idx a b) ρ = .exn c := by rw [ev_idx,h]; rfl
theorem sv_iteX {p q r : T} (h : ev Φ p ρ = .exn c) : ev Φ (.ite p q r) ρ = .exn c := by rw [ev_ite,h]; rfl
theorem sv_isNX {n : Bool} (h : ev Φ a ρ = .exn c) : ev Φ (.isN n a) ρ = .exn c := by rw [ev_isN,h]; rfl
theorem sx_exX4 (h : ev Φ e ρ = .exn c) : ex Φ (.ex e) ρ = .exn c := by rw [ex_ex,h]; rfl
theorem sx_appX4 (hl : ρ.getD i .un = .own l) (h : ev Φ e ρ = .exn c) : ex Φ (.app i e) ρ = .exn c := by rw [ex_app,hl,ownX_own,h]; rfl
end
theorem deals_units (H1 : Has1 fns) (n : Nat) {ks : List Kind} (hk : KindsOk ks) (X : Val) : ∃ y3 y4,forL (stepF (callF fns (n + 5)) [3] b_deals_1) (rangeL 0 1 ks.length) [.shop (nD ks) (pD ks),X,.own [],.un,.un,.un] = .ok (.next,[.shop (nD ks) (pD ks),X,.own ((rowsOf ks []).map rD),y3,y4,.un]) := by
  have h5 := hk.len5
  have hz := mul_l1 (a := .int 0) (n := ks.length) (by lia)
  rw [iD_rep] at hz
  have ez : iD (List.replicate ks.length 0) = iD (zs ks) := rfl
  rw [ez] at hz
  have hzl : (zs ks).length = ks.length := by simp [zs]
  obtain ⟨ρ',eρ,y3,y4,er⟩ := forL_idx (stepF (callF fns (n + 5)) [3] b_deals_1) (fun o ρ => ∃ y3 y4,ρ = [.shop (nD ks) (pD ks),X,.own (((List.range o).map (unitRow ks)).map rD),y3,y4,.un])
    (rangeL 0 1 ks.length) 0 [.shop (nD ks) (pD ks),X,.own [],.un,.un,.un] ⟨.un,.un,rfl⟩ (by
      intro i d ρ hd ⟨y3,y4,er⟩
      obtain ⟨hi,ed⟩ := rangeL_get hd
      subst er ed
      simp only [Nat.zero_add]
      have hp := priceAt_at hi
      have hl : i < line := lt_line (by lia)
      have hb : i < (zs ks).length := by lia
      refine ⟨[.shop (nD ks) (pD ks),X,.own (((List.range (i + 1)).map (unitRow ks)).map rD),.sh (.int i),.own (iD ((zs ks).set i 1)),.un],?_,_,_,rfl⟩
      show ex (callF fns (n + 5)) b_deals_1 [.shop (nD ks) (pD ks),X,.own (((List.range i).map (unitRow ks)).map rD),.sh (.int i),y4,.un] = _
      rw [range_map_succ,List.map_append]
      generalize callF fns (n + 5) = Φ
      exact ex_next (sx_asgO (sv_bin rfl (sv_bi rfl rfl (len_map _ ks)) rfl rfl hz)) (ex_next (sx_setI rfl rfl rfl hb) (ex_next (sx_app rfl (sv_tup (st_cons rfl rfl (st_cons (sv_idxL rfl rfl hp) rfl rfl)) rfl) rfl (by rw [List.length_map,List.length_map,List.length_range]; exact hl)) rfl)))
  subst er
  rw [rangeL_length,Nat.zero_add] at eρ
  refine ⟨y3,y4,eρ.trans ?_⟩
  rw [show rowsOf ks [] = (List.range ks.length).map (unitRow ks) by simp [rowsOf]]
noncomputable def z9 : List Nat := [122,122,122,122,122,122,122,122,122]
noncomputable def bad1 (s : List Nat) : Dat := .tup [.str sMore,.str s,.int 1,.int 1]
noncomputable def bad2 : Dat := .tup [.str sShare,.str z9,.int 5]
theorem need_bad1 (H1 : Has1 fns) (H2 : Has2 fns) (n : Nat) {ks : List Kind} (hk : KindsOk ks) {s : List Nat} (h : s ∈ ks.map (·.1)) : callF fns (n + 4) 12 [.shop (nD ks) (pD ks),.sh (bad1 s)] = .exn 8 := by
  obtain ⟨k,hk1,rfl⟩ := List.mem_map.1 h
  have pl := sp_place H1 (n + 1) ks k.1 (hk.names k hk1) h
  have e9 := sp_namesD H2 (n + 1) (Sh.more (.str k.1) (.int 1) (.int 1)) rfl
  have e11 := sp_fitsD H1.toHas01 H2.toHas2f n (SoundIs.more (.str k.1) (.int 1) (.int 1)) rfl
  rw [callF_succ H2.b12,runFn_plain rfl rfl]
  have it9 : itsF (callF fns (n + 3)) (.call 9 (.cons (.v 1) .nil)) [.shop (nD ks) (pD ks),.sh (bad1 k.1),.un] = .ok [.str k.1] := sv_itsC (sv_call rfl e9)
  exact run_exn' (ex_next (sx_no rfl) (ex_next (sx_no rfl) (ex_next (sx_for it9 (forL_next (show ex (callF fns (n + 3)) b_need_offer_1 [.shop (nD ks) (pD ks),.sh (bad1 k.1),.sh (.str k.1)] = _ from ex_next (sx_ex (sv_mcall rfl rfl pl) rfl) rfl))) (ex_exn (sx_yes (sv_not (sv_call rfl e11)) (ex_exn rfl))))))
theorem need_bad2 (H1 : Has1 fns) (H2 : Has2 fns) (n : Nat) {ks : List Kind} (hk : KindsOk ks) : callF fns (n + 4) 12 [.shop (nD ks) (pD ks),.sh bad2] = .exn 9 := by
  have hin : inNames (nD ks) (.str z9) = false := (any_names ks z9).trans (decide_eq_false fun h => by
    obtain ⟨k,hk1,e⟩ := List.mem_map.1 h
    have := (hk.names k hk1).2.1
    rw [e] at this
    exact absurd this (by decide))
  have pl := (sp_placeX H1 (n + 1) (ps := pD ks) (d := .str z9) rfl (fine_names ks)).1 hin
  have e9 := sp_namesD H2 (n + 1) (Sh.share (.str z9) (.int 5)) rfl
  rw [callF_succ H2.b12,runFn_plain rfl rfl]
  have it9 : itsF (callF fns (n + 3)) (.call 9 (.cons (.v 1) .nil)) [.shop (nD ks) (pD ks),.sh bad2,.un] = .ok [.str z9] := sv_itsC (sv_call rfl e9)
  exact run_exn' (ex_next (sx_no rfl) (ex_next (sx_no rfl) (ex_exn (sx_for it9 (forL_exn (show ex (callF fns (n + 3)) b_need_offer_1 [.shop (nD ks) (pD ks),.sh bad2,.sh (.str z9)] = _ from ex_exn (sx_exX4 (sv_mcallX rfl rfl pl))))))))
theorem deal_bad (H2 : Has2 fns) (n : Nat) {ks : List Kind} {o : Dat} {c : Nat} (h : callF fns (n + 4) 12 [.shop (nD ks) (pD ks),.sh o] = .exn c) : callF fns (n + 5) 13 [.shop (nD ks) (pD ks),.sh o] = .exn c := by
  rw [callF_succ H2.b13,runFn_plain rfl rfl]
  exact run_exn' (ex_exn (sx_exX4 (sv_callX (f := 12) rfl h)))
theorem deals_bad (H1 : Has1 fns) (H2 : Has2 fns) (n : Nat) {ks : List Kind} (hk : KindsOk ks) {o : Dat} {c : Nat} (h : callF fns (n + 4) 12 [.shop (nD ks) (pD ks),.sh o] = .exn c) : callF fns (n + 6) 14 [.shop (nD ks) (pD ks),.sh (.lst [o])] = .exn c := by
  obtain ⟨y3,y4,e1⟩ := deals_units H1 n hk (.sh (.lst [o]))
  have hd := deal_bad H2 n h
  have h5 := hk.len5
  rw [callF_succ H2.b14,runFn_plain rfl rfl]
  have lp : forL (stepF (callF fns (n + 5)) [5] b_deals_2) [o] [.shop (nD ks) (pD ks),.sh (.lst [o]),.own ((rowsOf ks []).map rD),y3,y4,.un] = .exn c := forL_exn (show ex (callF fns (n + 5)) b_deals_2 [.shop (nD ks) (pD ks),.sh (.lst [o]),.own ((rowsOf ks []).map rD),y3,y4,.sh o] = _ from ex_exn (sx_appX4 rfl (sv_callX (f := 13) rfl hd)))
  exact run_exn' (ex_next (sx_asgO rfl) (ex_next (sx_for (sv_rng (sv_bi rfl rfl (len_map _ ks)) (rngOk_of (by lia) (by lia))) e1) (ex_exn (sx_for rfl lp))))
structure AllX (fns : List Fn) (n : Nat) (S O B : Val) (c : Nat) : Prop where
  x18 : callF fns (n + 7) 18 [S,O,B] = .exn c
  x19 : callF fns (n + 8) 19 [S,O,B] = .exn c
  x32 : callF fns (n + 7) 32 [S,O,B] = .exn c
  x48 : callF fns (n + 8) 48 [S,O,B] = .exn c
theorem AllX.of (H : Has04 fns) {n : Nat} {S O B : Val} {c : Nat} (h18 : callF fns (n + 7) 18 [S,O,B] = .exn c) (h32 : callF fns (n + 7) 32 [S,O,B] = .exn c) (hS : rd S = .ok S ∧ argV S = .ok S) (hO : rd O = .ok O ∧ argV O = .ok O) (hB : rd B = .ok B ∧ argV B = .ok B) : AllX fns n S O B c := by
  have ar : ∀ (Φ : Nat → List Val → Out Val) (r : List Val),evT Φ (.cons (.v 0) (.cons (.v 1) (.cons (.v 2) .nil))) (S :: O :: B :: r) = .ok [S,O,B] := fun Φ r => st_cons (show rd S = _ from hS.1) hS.2 (st_cons (show rd O = _ from hO.1) hO.2 (st_cons (show rd B = _ from hB.1) hB.2 rfl))
  refine ⟨h18,?_,h32,?_⟩
  · rw [callF_succ H.h6.b19,runFn_plain rfl rfl]
    exact run_exn' (ex_exn (sx_retX (sv_idxX (sv_callX (f := 18) (ar _ _) h18))))
  · rw [callF_succ H.b48,runFn_plain rfl rfl]
    exact run_exn' (ex_exn (sx_asgX (sv_callX (f := 32) (ar _ _) h32)))
theorem sh_ok (d : Dat) : rd (.sh d) = .ok (.sh d) ∧ argV (.sh d) = .ok (.sh d) := ⟨rfl,rfl⟩
theorem allX_need (H : Has04 fns) (n : Nat) {ns ps : List Dat} {o D : Dat} {c : Nat} (h : callF fns (n + 6) 4 [.shop ns ps,.sh D] = .exn c) : AllX fns n (.shop ns ps) (.sh o) (.sh D) c := by
  refine AllX.of H ?_ ?_ ⟨rfl,rfl⟩ (sh_ok _) (sh_ok _)
  · rw [callF_succ H.h6.b18,runFn_plain rfl rfl]
    exact run_exn' (ex_exn (sx_exX4 (sv_callX (f := 4) rfl h)))
  · rw [callF_succ H.h7.b32,runFn_plain rfl rfl]
    exact run_exn' (ex_exn (sx_exX4 (sv_callX (f := 4) rfl h)))
theorem allX_deals (H : Has04 fns) (n : Nat) {ns ps : List Dat} {o D : Dat} {c : Nat} (h : callF fns (n + 6) 4 [.shop ns ps,.sh D] = .ok (.sh .none)) (hd : callF fns (n + 6) 14 [.shop ns ps,.sh o] = .exn c) : AllX fns n (.shop ns ps) (.sh o) (.sh D) c := by
  refine AllX.of H ?_ ?_ ⟨rfl,rfl⟩ (sh_ok _) (sh_ok _)
  · rw [callF_succ H.h6.b18,runFn_plain rfl rfl]
    exact run_exn' (ex_next (sx_ex (sv_call (f := 4) rfl h) rfl) (ex_exn (sx_retX (sv_callX1 (st_exn2 rfl rfl (st_exn1 (sv_callX (f := 14) rfl hd)))))))
  · rw [callF_succ H.h7.b32,runFn_plain rfl rfl]
    exact run_exn' (ex_next (sx_ex (sv_call (f := 4) rfl h) rfl) (ex_exn (sx_asgX (sv_callX (f := 14) rfl hd))))
theorem sp_class4 (H : Has04 fns) (n : Nat) {c : Nat} (h : c = 6 ∨ c = 7 ∨ c = 8 ∨ c = 9) : callF fns (n + 1) 63 [.exc c] = .ok (.sh (.bool true)) := by
  rw [callF_succ H.b63,runFn_plain rfl rfl]
  rcases h with rfl | rfl | rfl | rfl <;> rfl
noncomputable def tryB : T := (.cons (.iff (.cmp .eq (.v 3) (.cI 0)) (.cons (.ret (.ite (.isN false (.call 4 (.cons (.v 0) (.cons (.v 2) .nil)))) (.cS []) (.cS [97,110,115,119,101,114]))) .nil) (.cons (.iff (.cmp .eq (.v 3) (.cI 1)) (.cons (.ex (.call 18 (.cons (.v 0) (.cons (.v 1) (.cons (.v 2) .nil))))) .nil) (.cons (.iff (.cmp .eq (.v 3) (.cI 2)) (.cons (.ex (.call 19 (.cons (.v 0) (.cons (.v 1) (.cons (.v 2) .nil))))) .nil) (.cons (.iff (.cmp .eq (.v 3) (.cI 3)) (.cons (.ex (.call 48 (.cons (.v 0) (.cons (.v 1) (.cons (.v 2) .nil))))) .nil) (.cons (.ex (.call 32 (.cons (.v 0) (.cons (.v 1) (.cons (.v 2) .nil))))) .nil)) .nil)) .nil)) .nil)) .nil)
theorem asked_exn (H : Has04 fns) (n : Nat) {S O B W : Val} {c : Nat} (hc : c = 6 ∨ c = 7 ∨ c = 8 ∨ c = 9) (h : ex (callF fns (n + 9)) tryB [S,O,B,W,.un,.un] = .exn c) : callF fns (n + 10) 68 [S,O,B,W] = .ok (.sh (.str (wordX c))) := by
  have cl := sp_class4 H (n + 8) hc
  rw [callF_succ H.b68,runFn_plain rfl rfl]
  have fin : ∀ w : List Nat,ev (callF fns (n + 9)) (.ite (.call 63 (.cons (.v 4) .nil)) (.v 5) (.cS [111,116,104,101,114])) [.un,.un,.un,.un,.exc c,.sh (.str w)] = .ok (.sh (.str w)) := fun w => by
    rw [ev_ite,show ev (callF fns (n + 9)) (.call 63 (.cons (.v 4) .nil)) [.un,.un,.un,.un,.exc c,.sh (.str w)] = .ok (.sh (.bool true)) from sv_call rfl cl]
    rfl
  refine run_ret (ex_ret1 (sx_try (c := c) (ρ2 := [.un,.un,.un,.un,.exc c,.sh (.str (wordX c))]) h ?_))
  show ex (callF fns (n + 9)) _ [.un,.un,.un,.un,.exc c,.un] = _
  rcases hc with rfl | rfl | rfl | rfl
  · exact ex_next (ρ' := [.un,.un,.un,.un,.exc 6,.sh (.str (wordX 6))]) rfl (ex_next (ρ' := [.un,.un,.un,.un,.exc 6,.sh (.str (wordX 6))]) rfl (sx_cret (fin _) rfl))
  · exact ex_next (ρ' := [.un,.un,.un,.un,.exc 7,.sh (.str (wordX 7))]) rfl (ex_next (ρ' := [.un,.un,.un,.un,.exc 7,.sh (.str (wordX 7))]) rfl (sx_cret (fin _) rfl))
  · exact ex_next (ρ' := [.un,.un,.un,.un,.exc 8,.sh (.str [])]) rfl (ex_next (ρ' := [.un,.un,.un,.un,.exc 8,.sh (.str (wordX 8))]) rfl (sx_cret (fin _) rfl))
  · exact ex_next (ρ' := [.un,.un,.un,.un,.exc 9,.sh (.str [])]) rfl (ex_next (ρ' := [.un,.un,.un,.un,.exc 9,.sh (.str (wordX 9))]) rfl (sx_cret (fin _) rfl))
theorem asked_next (H : Has04 fns) (n : Nat) {S O B W : Val} {ρ : List Val} (h : ex (callF fns (n + 9)) tryB [S,O,B,W,.un,.un] = .ok (.next,ρ)) : callF fns (n + 10) 68 [S,O,B,W] = .ok (.sh (.str [])) := by
  rw [callF_succ H.b68,runFn_plain rfl rfl]
  exact run_ret (ex_step (sx_tryN h) (ex_ret1 (sx_ret rfl rfl)))
theorem asked_ret (H : Has04 fns) (n : Nat) {S O B W : Val} {ρ : List Val} {d : Dat} (h : ex (callF fns (n + 9)) tryB [S,O,B,W,.un,.un] = .ok (.ret (.sh d),ρ)) : callF fns (n + 10) 68 [S,O,B,W] = .ok (.sh d) := by
  rw [callF_succ H.b68,runFn_plain rfl rfl]
  exact run_ret (ex_ret1 (sx_tryN h))
end Mine.PL
namespace Mine.PL
open Mine
variable {fns : List Fn}
section
variable {Φ : Nat → List Val → Out Val} {S O B : Val}
theorem try_way {S O B : Val} (k : Nat) (hk : k < 5) {r : Out (Fl × List Val)} (hr : r = .ok (.next,[S,O,B,.sh (.int (k : Nat)),.un,.un]) ∨ ∃ c,r = .exn c)
    (h0 : k = 0 → ex Φ (.cons (.ret (.ite (.isN false (.call 4 (.cons (.v 0) (.cons (.v 2) .nil)))) (.cS []) (.cS [97,110,115,119,101,114]))) .nil) [S,O,B,.sh (.int (k : Nat)),.un,.un] = r)
    (h : k ≠ 0 → ∀ f,(k = 1 ∧ f = 18 ∨ k = 2 ∧ f = 19 ∨ k = 3 ∧ f = 48 ∨ k = 4 ∧ f = 32) → ex Φ (.cons (.ex (.call f (.cons (.v 0) (.cons (.v 1) (.cons (.v 2) .nil))))) .nil) [S,O,B,.sh (.int (k : Nat)),.un,.un] = r) : ex Φ tryB [S,O,B,.sh (.int (k : Nat)),.un,.un] = r := by
  have e : ∀ j : Int,ev Φ (.cmp .eq (.v 3) (.cI j)) [S,O,B,.sh (.int (k : Nat)),.un,.un] = .ok (.sh (.bool (((k : Nat) : Int) == j))) := fun j => sv_cmp rfl rfl rfl rfl eq_i
  have fin : ∀ {a : T},ex Φ a [S,O,B,.sh (.int (k : Nat)),.un,.un] = r → ex Φ (.cons a .nil) [S,O,B,.sh (.int (k : Nat)),.un,.un] = r := fun {a} h => by
    rcases hr with q | ⟨c,q⟩
    · rw [q] at h ⊢; exact ex_next h rfl
    · rw [q] at h ⊢; exact ex_exn h
  have e0 := e 0; have e1 := e 1; have e2 := e 2; have e3 := e 3
  rcases (show k = 0 ∨ k = 1 ∨ k = 2 ∨ k = 3 ∨ k = 4 by lia) with rfl | rfl | rfl | rfl | rfl
  · exact fin (sx_yes e0 (h0 rfl))
  · exact fin (sx_else e0 (fin (sx_yes e1 (h (by decide) 18 (by simp)))))
  · exact fin (sx_else e0 (fin (sx_else e1 (fin (sx_yes e2 (h (by decide) 19 (by simp)))))))
  · exact fin (sx_else e0 (fin (sx_else e1 (fin (sx_else e2 (fin (sx_yes e3 (h (by decide) 48 (by simp)))))))))
  · exact fin (sx_else e0 (fin (sx_else e1 (fin (sx_else e2 (fin (sx_else e3 (h (by decide) 32 (by simp)))))))))
end
theorem asked_X (H : Has04 fns) (n : Nat) {ns ps : List Dat} {o D : Dat} {c : Nat} (hc : c = 6 ∨ c = 7 ∨ c = 8 ∨ c = 9) (k : Nat) (hk : k < 5) (h0 : k = 0 → callF fns (n + 9) 4 [.shop ns ps,.sh D] = .exn c) (h : k ≠ 0 → ∀ m,AllX fns (n + m) (.shop ns ps) (.sh o) (.sh D) c) :
    callF fns (n + 10) 68 [.shop ns ps,.sh o,.sh D,.sh (.int (k : Nat))] = .ok (.sh (.str (wordX c))) := by
  refine asked_exn H n hc (try_way k hk (.inr ⟨c,rfl⟩) (fun q => ?_) fun q f hf => ?_)
  · exact ex_exn (sx_retX (sv_iteX (sv_isNX (sv_callX (f := 4) rfl (h0 q)))))
  · have X1 := h q 1
    have X2 := h q 2
    refine ex_exn (sx_exX4 (sv_callX rfl ?_))
    rcases hf with ⟨_,rfl⟩ | ⟨_,rfl⟩ | ⟨_,rfl⟩ | ⟨_,rfl⟩
    · exact X2.x18
    · exact X1.x19
    · exact X1.x48
    · exact X2.x32
theorem asked_ok0 (H : Has04 fns) (n : Nat) {ns ps : List Dat} {o D : Dat} (h : callF fns (n + 9) 4 [.shop ns ps,.sh D] = .ok (.sh .none)) : callF fns (n + 10) 68 [.shop ns ps,.sh o,.sh D,.sh (.int 0)] = .ok (.sh (.str [])) := by
  refine asked_ret H n (ρ := [.shop ns ps,.sh o,.sh D,.sh (.int 0),.un,.un]) ?_
  have hn : ev (callF fns (n + 9)) (.isN false (.call 4 (.cons (.v 0) (.cons (.v 2) .nil)))) [.shop ns ps,.sh o,.sh D,.sh (.int 0),.un,.un] = .ok (.sh (.bool true)) := by
    rw [ev_isN,show ev (callF fns (n + 9)) (.call 4 (.cons (.v 0) (.cons (.v 2) .nil))) [.shop ns ps,.sh o,.sh D,.sh (.int 0),.un,.un] = .ok (.sh .none) from sv_call rfl h]; rfl
  exact sx_stop (sx_yes rfl (sx_cret (by rw [ev_ite,hn]; rfl) rfl))
theorem asked_ok (H : Has04 fns) (n : Nat) {ks : List Kind} (hk : KindsOk ks) {b : List Int} (hl : b.length = ks.length) (hb : BaskOk b) (hm : many b ≤ 300) (k : Nat) (hk5 : k < 5) :
    callF fns (n + 10) 68 [.shop (nD ks) (pD ks),.sh (.lst []),.sh (.lst (iD b)),.sh (.int (k : Nat))] = .ok (.sh (.str [])) := by
  by_cases h0 : k = 0
  · subst h0
    exact asked_ok0 H n (sp_need_basket H.h1 H.h5 (n + 7) ks b hl hb hm)
  · have ho : ∀ o ∈ ([] : List Off),OffOk ks o := fun _ h => nomatch h
    obtain ⟨f,_,_,e18⟩ := sp_table H.h1 H.h2 H.h5 H.h6 (n + 2) ks hk [] ho (by decide) b hl hb hm
    obtain ⟨v,_,e19⟩ := sp_cost H.h1 H.h2 H.h5 H.h6 (n + 1) ks hk [] ho (by decide) b hl hb hm
    obtain ⟨c,y,hp,e32⟩ := sp_paidA H.h1 H.h2 H.h5 H.h7 ks hk [] ho (by decide) b hl hb hm
    have e48 := sp_billed H.h1 H.h2 H.b47 H.b48 (n + 1) ks hk [] ho (by decide) b hp e32
    have e32 := e32 (n + 2)
    refine asked_next H n (try_way k hk5 (.inl rfl) (fun q => absurd q h0) fun q f' hf => ?_)
    rcases hf with ⟨_,rfl⟩ | ⟨_,rfl⟩ | ⟨_,rfl⟩ | ⟨_,rfl⟩
    · exact ex_next (sx_ex (sv_call (f := 18) rfl e18) rfl) rfl
    · exact ex_next (sx_ex (sv_call (f := 19) rfl e19) rfl) rfl
    · exact ex_next (sx_ex (sv_call (f := 48) rfl e48) rfl) rfl
    · exact ex_next (sx_ex (sv_call (f := 32) rfl e32) rfl) rfl
inductive OffB (fns : List Fn) (ks : List Kind) : Dat → Option Nat → Prop
  | none : OffB fns ks (.lst []) Option.none
  | one (o : Dat) (c : Nat) (hc : c = 8 ∨ c = 9) (h : ∀ n,callF fns (n + 4) 12 [.shop (nD ks) (pD ks),.sh o] = .exn c) : OffB fns ks (.lst [o]) (some c)
noncomputable def orW (q p : Option Nat) : Option Nat := match q with
  | some c => some c
  | none => p
theorem nb_class {k : Nat} {D : Dat} {c : Nat} (h : nbW k D = some c) : c = 6 ∨ c = 7 := by
  cases D with
  | lst l =>
    have h : listW k l = some c := h
    unfold listW at h
    split at h
    · split at h
      · split at h
        · cases h; exact .inr rfl
        · cases h
      · cases h; exact .inl rfl
    · cases h; exact .inl rfl
  | _ => cases h; exact .inl rfl
theorem nb_none {k : Nat} {D : Dat} (h : nbW k D = none) : ∃ b : List Int,D = .lst (iD b) ∧ BaskOk b ∧ b.length = k ∧ many b ≤ 300 := by
  cases D with
  | lst l =>
    have h : listW k l = none := h
    unfold listW at h
    split at h
    · rename_i h1
      split at h
      · rename_i h2
        split at h
        · cases h
        · rename_i h3
          obtain ⟨b,rfl,hb,hm⟩ := allR_ints h2
          rw [hm] at h3
          exact ⟨b,rfl,hb,by rw [← h1]; simp [iD],by lia⟩
      · cases h
    · cases h
  | _ => cases h
theorem sp_asked (H : Has04 fns) (n : Nat) {ks : List Kind} (hk : KindsOk ks) {D : Dat} (hD : ItemsD D) {O : Dat} {p : Option Nat} (hO : OffB fns ks O p) (k : Nat) (hk5 : k < 5) :
    callF fns (n + 10) 68 [.shop (nD ks) (pD ks),.sh O,.sh D,.sh (.int (k : Nat))] = .ok (.sh (.str (wordB (orW (nbW ks.length D) (if k = 0 then none else p))))) := by
  have hN := fun m => sp_needD H m ks hD
  cases hq : nbW ks.length D with
  | some c =>
    rw [hq] at hN
    have hc := nb_class hq
    refine asked_X H n (c := c) (by rcases hc with rfl | rfl <;> simp) k hk5 (fun _ => hN (n + 7)) fun _ m => allX_need H (n + m) (hN (n + m + 4))
  | none =>
    rw [hq] at hN
    obtain ⟨b,rfl,hb,hl,hm⟩ := nb_none hq
    cases hO with
    | none =>
      show _ = Out.ok (Val.sh (.str (wordB (if k = 0 then none else none))))
      rw [ite_self]
      exact asked_ok H n hk hl hb hm k hk5
    | one o c hc h =>
      by_cases h0 : k = 0
      · rw [if_pos h0]
        subst h0
        exact asked_ok0 H n (hN (n + 7))
      · rw [if_neg h0]
        exact asked_X H n (c := c) (by rcases hc with rfl | rfl <;> simp) k hk5 (fun q => absurd q h0) fun _ m => allX_deals H (n + m) (hN (n + m + 4)) (deals_bad H.h1 H.h2 (n + m) hk (h (n + m)))
end Mine.PL
namespace Mine.PL
open Mine
variable {fns : List Fn}
theorem sp_basket_c (H : Has3 fns) (h45 : fns[45]? = some f_l_basket_c) (n : Nat) (s : List Int) (hs : s.length ≤ 63) (ks : List Kind) (hk : KindsOk ks) (st : Int) (h0 : 0 ≤ st) (h1 : st ≤ 500) :
    ∃ b : List Int,b.length = ks.length ∧ BaskOk b ∧ many b ≤ 24 ∧ callF fns (n + 2) 45 [.sh (.lst (iD s)),.sh (.lst (ks.map kD)),.sh (.int st)] = .ok (.own (iD b)) := by
  rw [callF_succ h45,runFn_plain rfl rfl]
  obtain ⟨b,room,y5,y6,e,q1,q2,q3,q4⟩ := basket_loop H n s hs st h0 h1 (.sh (.lst (ks.map kD))) 24 (by decide) (by decide) ks.length hk.len5
  refine ⟨b,q1,q2,?_,?_⟩
  · have hp := many_pos q2.nn
    have : 1 * many b ≤ room * many b := Int.mul_le_mul_of_nonneg_right q3 (by lia)
    lia
  · have hr := rngOk_of (y := (ks.length : Int)) (by lia) (by have := hk.len5; lia)
    rw [Int.toNat_natCast] at hr
    exact run_ret (ex_step rfl (ex_step rfl (ex_step (sx_for (sv_rng (sv_bi rfl rfl (len_map kD ks)) hr) e) ⟨_,rfl⟩)))
inductive HandD (v : Val) : Prop
  | mk (D : Dat) : stoV v = .ok (.sh D) → (D = .dic ∨ Dat.fine 20 D = true) → HandD v
theorem hand_lst {l : List Dat} (h : ∀ d ∈ l,Dat.fine 19 d = true) : HandD (.own l) := ⟨.lst l,rfl,.inr (List.all_eq_true.mpr h)⟩
theorem fine_ints19 {l : List Int} : ∀ d ∈ iD l,Dat.fine 19 d = true := fun d hd => by obtain ⟨i,_,rfl⟩ := List.mem_map.1 hd; rfl
theorem m_app {p : Dat → Prop} {k l : List Dat} (h1 : ∀ d ∈ k,p d) (h2 : ∀ d ∈ l,p d) : ∀ d ∈ k ++ l,p d := fun d hd => (List.mem_append.1 hd).elim (h1 d) (h2 d)
theorem m_cons {p : Dat → Prop} {x : Dat} {l : List Dat} (h1 : p x) (h2 : ∀ d ∈ l,p d) : ∀ d ∈ x :: l,p d := fun d hd => (List.mem_cons.1 hd).elim (fun e => e ▸ h1) (h2 d)
theorem m_nil {p : Dat → Prop} : ∀ d ∈ ([] : List Dat),p d := fun _ h => nomatch h
theorem m_cut {p : Dat → Prop} {x y : Option Int} {l : List Dat} (h : ∀ d ∈ l,p d) : ∀ d ∈ cut x y l,p d := fun d hd => h d (mem_cut hd)
section
variable {Φ : Nat → List Val → Out Val} {ρ : List Val} {a lo hi : T} {l : List Dat} {x y : Option Int}
theorem comp_const {i : Nat} {n : Int} (l : List Dat) : compL (compF Φ (.cI n) [i] .nil ρ) l = .ok (l.map fun _ => .int n) := compL_map fun d _ => cf_nil (show bindT [i] d ρ = .ok (ρ.set i (.sh d)) from rfl) rfl rfl
theorem its_slL (h : ev Φ a ρ = .ok (.sh (.lst l))) (h1 : evO Φ lo ρ = .ok x) (h2 : evO Φ hi ρ = .ok y) : its Φ (.sl a lo hi) ρ = .ok (cut x y l) := by
  rw [its_sl,sv_slL h h1 h2]; rfl
end
theorem const_fine {n : Int} (l : List Dat) : ∀ d ∈ l.map fun _ => Dat.int n,Dat.fine 19 d = true := fun d hd => by obtain ⟨_,_,rfl⟩ := List.mem_map.1 hd; rfl
theorem idx_get' {l : List Dat} {k : Int} (h0 : 0 ≤ k) (h : k < l.length) : ∃ d ∈ l,idxL l k = .ok (.sh d) := idx_get h0 h
set_option maxHeartbeats 2000000 in
theorem sp_changed_b (H : Has04 fns) (n : Nat) {b : List Int} (h1 : 1 ≤ b.length) (h5 : b.length ≤ 5) (k m : Int) (hm : 0 ≤ m) : ∃ v,callF fns (n + 1) 66 [.sh (.lst (iD b)),.sh (.int k),.sh (.int m)] = .ok v ∧ HandD v := by
  rw [callF_succ H.b66,runFn_plain rfl rfl]
  generalize callF fns n = Φ
  suffices R : ∃ v,HandD v ∧ ∃ ρ2,ex Φ t_l_changed_b [.sh (.lst (iD b)),.sh (.int k),.sh (.int m),.un,.un,.un,.un,.un] = .ok (.ret v,ρ2) by
    obtain ⟨v,h,R⟩ := R
    exact ⟨v,run_ret R,h⟩
  have hl : (iD b).length = b.length := by simp [iD]
  have hp : (0 : Int) < ((iD b).length : Nat) := by rw [hl]; lia
  have mL := mod_i (a := m) hp
  have d5 := fdiv_i (a := m) (b := 5) (by decide) (by decide)
  have m5 := mod_i (a := m / 5) (b := 5) (by decide)
  have m7 := mod_i (a := m / 5) (b := 7) (by decide)
  have m3 := mod_i (a := m / 5) (b := 3) (by decide)
  have fb : ∀ d ∈ iD b,Dat.fine 19 d = true := fine_ints19
  have lc : ∀ x y,(cut x y (iD b)).length ≤ 5 := fun x y => Nat.le_trans len_cut (by rw [hl]; exact h5)
  generalize hat : m % (((iD b).length : Nat) : Int) = at_ at mL
  refine ex_stepP (sx_asg (sb rfl (sv_bi rfl rfl rfl) mL) rfl) ?_
  show ∃ v,HandD v ∧ ∃ ρ2,ex Φ _ [.sh (.lst (iD b)),.sh (.int k),.sh (.int m),.sh (.int at_),.un,.un,.un,.un] = _
  generalize hB : iD b = L at *
  have kk : ∀ (c : Int) x,ev Φ (.cmp .eq (.v 1) (.cI c)) [.sh (.lst L),.sh (.int k),.sh (.int m),.sh (.int at_),x,.un,.un,.un] = .ok (.sh (.bool (k == c))) := fun c x => sv_cmp rfl rfl rfl rfl eq_i
  have ll : ev Φ (.cmp .gt (.bi .len (.cons (.v 0) .nil)) (.cI 2)) [.sh (.lst L),.sh (.int k),.sh (.int m),.sh (.int at_),.un,.un,.un,.un] = .ok (.sh (.bool (decide ((2 : Int) < (L.length : Nat))))) := sv_cmp (sv_bi rfl rfl rfl) rfl rfl rfl gt_i
  have e0 := kk 0 .un
  cases c0 : (k == 0) with
  | true =>
    rw [c0] at e0
    refine ex_retsP (sx_yes e0 (sx_cret (sv_addL rfl rfl rfl rfl (line_le ?_)) rfl)) (hand_lst (m_app fb (m_cons rfl m_nil)))
    show _ + 1 ≤ _; lia
  | false =>
  rw [c0] at e0
  refine ex_stepP (sx_no e0) ?_
  have e1 := kk 1 .un
  have l1 := lc none (some at_)
  have l2 := lc (some (at_ + 1)) none
  cases c1 : (k == 1) with
  | true =>
    rw [c1] at e1
    refine ex_retsP (sx_yes e1 (sx_cret (sv_addL (sv_slL (l := L) rfl rfl rfl) (sv_slL (l := L) rfl rfl rfl) rfl rfl (line_le ?_)) rfl)) (hand_lst (m_app (m_cut fb) (m_cut fb)))
    lia
  | false =>
  rw [c1] at e1
  refine ex_stepP (sx_no e1) ?_
  have e2 := kk 2 .un
  cases c2 : (k == 2) with
  | true =>
    rw [c2] at e2
    obtain ⟨d,hd,ed⟩ := idx_get' (l := [.tup L,.int 5,.none,.str [49,49],.dic]) (k := m / 5 % 5) (Int.emod_nonneg _ (by decide)) (Int.emod_lt_of_pos _ (by decide))
    refine ex_retsP (sx_yes e2 (sx_cret (sv_idx (x := .own [.tup L,.int 5,.none,.str [49,49],.dic]) (sv_lst (st_cons (sv_mkT rfl rfl) rfl rfl) rfl) (sb (sb rfl rfl d5) rfl m5) ed) rfl)) ⟨d,rfl,?_⟩
    refine (?_ : ∀ d ∈ _,d = Dat.dic ∨ Dat.fine 20 d = true) d hd
    exact m_cons (.inr (List.all_eq_true.mpr fb)) (m_cons (.inr rfl) (m_cons (.inr rfl) (m_cons (.inr rfl) (m_cons (.inl rfl) m_nil))))
  | false =>
  rw [c2] at e2
  refine ex_stepP (sx_no e2) ?_
  have e3 := kk 3 .un
  cases c3 : (k == 3) with
  | true =>
    rw [c3] at e3
    obtain ⟨d,hd,ed⟩ := idx_get' (l := [.int (-1),.int 10,.bool true,.none,.str [49],.int (-m),.int (10 + m)]) (k := m / 5 % 7) (Int.emod_nonneg _ (by decide)) (Int.emod_lt_of_pos _ (by decide))
    have fd : Dat.fine 19 d = true := (?_ : ∀ d ∈ _,Dat.fine 19 d = true) d hd
    · refine ex_retsP (sx_yes e3 (ex_next (sx_asg (sv_idx (x := .own [.int (-1),.int 10,.bool true,.none,.str [49],.int (-m),.int (10 + m)]) rfl (sb (sb rfl rfl d5) rfl m7) ed) rfl) (sx_cret (sv_addL (sv_addL (sv_slL (l := L) rfl rfl rfl) rfl rfl rfl (line_le ?_)) (sv_slL (l := L) rfl rfl rfl) rfl rfl (line_le ?_)) rfl))) (hand_lst (m_app (m_app (m_cut fb) (m_cons fd m_nil)) (m_cut fb)))
      · show _ + 1 ≤ _; lia
      · rw [List.length_append]; show _ + 1 + _ ≤ _; lia
    · exact m_cons rfl (m_cons rfl (m_cons rfl (m_cons rfl (m_cons rfl (m_cons rfl (m_cons rfl m_nil))))))
  | false =>
  rw [c3] at e3
  refine ex_stepP (sx_no e3) ?_
  have l3 := lc (some 3) none
  have e4 := sv_andB (kk 4 .un) fun _ => ll
  cases c4 : (k == 4 && decide ((2 : Int) < (L.length : Nat))) with
  | true =>
    rw [c4] at e4
    refine ex_retsP (sx_yes e4 (sx_cret (sv_addL rfl (sv_comp (its_slL rfl rfl rfl) (comp_const _)) rfl rfl (line_le ?_)) rfl)) (hand_lst (m_app (m_cons rfl (m_cons rfl (m_cons rfl m_nil))) (const_fine _)))
    rw [List.length_map]; show 3 + _ ≤ _; lia
  | false =>
  rw [c4] at e4
  refine ex_stepP (sx_no e4) ?_
  have e5 := sv_andB (kk 5 .un) fun _ => ll
  cases c5 : (k == 5 && decide ((2 : Int) < (L.length : Nat))) with
  | true =>
    rw [c5] at e5
    obtain ⟨d,hd,ed⟩ := idx_get' (l := [.lst [.int 8,.int 6,.int 4],.lst [.int 6,.int 6,.int 6],.lst [.int 9,.int 7,.int 3]]) (k := m / 5 % 3) (Int.emod_nonneg _ (by decide)) (Int.emod_lt_of_pos _ (by decide))
    have fd : ∃ x y z : Int,d = .lst [.int x,.int y,.int z] := (?_ : ∀ d ∈ _,∃ x y z : Int,d = Dat.lst [.int x,.int y,.int z]) d hd
    · obtain ⟨x,y,z,rfl⟩ := fd
      refine ex_retsP (sx_yes e5 (sx_cret (sv_addL (l := [.int x,.int y,.int z]) (sv_idx (x := .own [.lst [.int 8,.int 6,.int 4],.lst [.int 6,.int 6,.int 6],.lst [.int 9,.int 7,.int 3]]) rfl (sb (sb rfl rfl d5) rfl m3) ed) (sv_comp (its_slL rfl rfl rfl) (comp_const _)) rfl rfl (line_le ?_)) rfl)) (hand_lst (m_app (m_cons rfl (m_cons rfl (m_cons rfl m_nil))) (const_fine _)))
      rw [List.length_map]; show 3 + _ ≤ _; lia
    · exact m_cons ⟨_,_,_,rfl⟩ (m_cons ⟨_,_,_,rfl⟩ (m_cons ⟨_,_,_,rfl⟩ m_nil))
  | false =>
  rw [c5] at e5
  refine ex_stepP (sx_no e5) ?_
  have e6 := kk 6 .un
  cases c6 : (k == 6) with
  | true =>
    rw [c6] at e6
    exact ex_retsP (sx_yes e6 (sx_cret (sv_comp rfl (comp_const _)) rfl)) (hand_lst (const_fine _))
  | false =>
  rw [c6] at e6
  exact ex_stepP (sx_no e6) (ex_retsP (sx_ret rfl rfl) ⟨.lst L,rfl,.inr (List.all_eq_true.mpr fb)⟩)
end Mine.PL
namespace Mine.PL
open Mine
variable {fns : List Fn}
theorem hand_items {D : Dat} (h : D = .dic ∨ Dat.fine 20 D = true) : ItemsD D := fun l e d hd q => by
  subst e
  rcases h with h | h
  · cases h
  · exact fine_dic (List.all_eq_true.mp (show l.all (Dat.fine 19) = true from h) d hd) q
theorem hand_eq {D : Dat} (h : D = .dic ∨ Dat.fine 20 D = true) : cmpD .eq D D = .ok true := by
  rcases h with rfl | h
  · rfl
  · exact (self_cmp h).1
theorem hand_ev {Φ : Nat → List Val → Out Val} {ρ : List Val} {D : Dat} (hv : ρ.getD 3 .un = .sh D) : ∃ v,ev Φ (.ite (.isi .list (.v 3)) (.mkL (.v 3)) (.v 3)) ρ = .ok v ∧ stoV v = .ok (.sh D) := by
  have e := ev_at (Φ := Φ) hv
  cases D with
  | lst l =>
    refine ⟨.own l,?_,rfl⟩
    rw [ev_ite,show ev Φ (.isi .list (.v 3)) ρ = .ok (.sh (.bool true)) from sv_isi e rfl rfl]
    show ev Φ (.mkL (.v 3)) ρ = _
    rw [ev_mkL_v,hv]; rfl
  | _ =>
    refine ⟨.sh _,?_,rfl⟩
    rw [ev_ite,show ev Φ (.isi .list (.v 3)) ρ = .ok (.sh (.bool false)) from sv_isi e rfl rfl]
    exact e
theorem wordB_ne {k : Nat} {D : Dat} {c : Nat} (h : nbW k D = some c) : (wordB (nbW k D) == []) = false := by
  rw [h]
  rcases nb_class h with rfl | rfl <;> rfl
theorem zeros_ok (n : Nat) : BaskOk (List.replicate n 0) ∧ many (List.replicate n 0) = 1 := by
  refine ⟨fun c hc => by rw [(List.mem_replicate.1 hc).2]; exact ⟨by decide,by decide⟩,?_⟩
  induction n with
  | zero => rfl
  | succ n ih => rw [List.replicate_succ]; show (0 + 1) * many (List.replicate n 0) = 1; rw [ih]; rfl
theorem str_fine (w : List (List Nat)) : ∀ d ∈ w.map Dat.str,Dat.fine 19 d = true := fun d hd => by obtain ⟨_,_,rfl⟩ := List.mem_map.1 hd; rfl
theorem ones_w {ks : List Kind} (hk : KindsOk ks) : ∃ nm p r,ks = (nm,p) :: r := by
  cases ks with
  | nil => exact absurd hk.len1 (by decide)
  | cons k r => exact ⟨k.1,k.2,r,rfl⟩
theorem pow60 : binD .pow (.int 10) (.int 60) = .ok (.sh (.int (10 ^ 60))) := by
  show (if (10 : Int) = 10 ∧ (60 : Int) = 60 then Out.ok (Val.sh (.int (10 ^ 60))) else .bad) = _
  exact if_pos ⟨rfl,rfl⟩
theorem map_zero (ks : List Kind) : ((ks.map kD).map fun _ => Dat.int 0) = iD (List.replicate ks.length 0) := by
  induction ks with
  | nil => rfl
  | cons k ks ih => rw [List.map_cons,List.map_cons,List.length_cons,List.replicate_succ,iD_cons,ih]
noncomputable abbrev e04 (s : List Int) (ks : List Kind) (D : Dat) (k : Int) (W : List Nat) (o : Val) (r : List Val) : List Val := .sh (.lst (iD s)) :: .sh (.lst (ks.map kD)) :: .shop (nD ks) (pD ks) :: .sh D :: .sh (.int k) :: .sh (.str W) :: o :: r
noncomputable def tRest : T := (.cons (.asg 8 (.comp (.call 68 (.cons (.v 2) (.cons (.mkL (.v 6)) (.cons (.v 7) (.cons (.v 11) .nil))))) [11] (.rng .nil (.cI 5) .nil) .nil)) (.cons (.asg 9 (.v 5)) (.cons (.iff (.and (.cmp .eq (.v 5) (.cS [])) (.cmp .gt (.bi .len (.cons (.v 6) .nil)) (.cI 0))) (.cons (.asg 9 (.idx (.lst (.cons (.cS [111,102,102,101,114]) (.cons (.cS [107,105,110,100]) .nil))) (.bin .mod (.bin .fdiv (.call 20 (.cons (.v 0) (.cons (.cI 5) .nil))) (.cI 2)) (.cI 2)))) .nil) .nil) (.cons (.ret (.and (.cmp .eq (.v 8) (.lst (.cons (.v 5) (.cons (.v 9) (.cons (.v 9) (.cons (.v 9) (.cons (.v 9) .nil))))))) (.cmp .eq (.v 7) (.v 3)))) .nil))))
noncomputable def tOffs : T := (.iff (.cmp .eq (.bin .mod (.call 20 (.cons (.v 0) (.cons (.cI 5) .nil))) (.cI 2)) (.cI 1)) (.cons (.asg 6 (.lst (.cons (.idx (.lst (.cons (.tup (.cons (.cS [109,111,114,101]) (.cons (.idx (.idx (.v 1) (.cI 0)) (.cI 0)) (.cons (.cI 1) (.cons (.cI 1) .nil))))) (.cons (.tup (.cons (.cS [115,104,97,114,101]) (.cons (.cS [122,122,122,122,122,122,122,122,122]) (.cons (.cI 5) .nil)))) .nil))) (.bin .mod (.bin .fdiv (.call 20 (.cons (.v 0) (.cons (.cI 5) .nil))) (.cI 2)) (.cI 2))) .nil))) .nil) .nil)
section
variable {Φ : Nat → List Val → Out Val} {s : List Int} {ks : List Kind} {D : Dat} {k i5 : Int} {W W2 : List Nat} {os : List Dat}
theorem rest04 (q0 : Φ 68 [.shop (nD ks) (pD ks),.sh (.lst os),.sh D,.sh (.int 0)] = .ok (.sh (.str W))) (q : ∀ j : Nat,j ≠ 0 → j < 5 → Φ 68 [.shop (nD ks) (pD ks),.sh (.lst os),.sh D,.sh (.int (j : Nat))] = .ok (.sh (.str W2))) (e5 : Φ 20 [.sh (.lst (iD s)),.sh (.int 5)] = .ok (.sh (.int i5))) (heq : cmpD .eq D D = .ok true)
    (hw : ((W == ([] : List Nat)) && decide ((0 : Int) < (os.length : Nat))) = false ∧ W2 = W ∨ ((W == ([] : List Nat)) && decide ((0 : Int) < (os.length : Nat))) = true ∧ idxL [.str [111,102,102,101,114],.str [107,105,110,100]] (i5 / 2 % 2) = .ok (.sh (.str W2))) :
    ∃ ρ2,ex Φ tRest (e04 s ks D k W (.sh (.lst os)) [.sh D,.un,.un,.un,.un]) = .ok (.ret (.sh (.bool true)),ρ2) := by
  have st : ∀ (j : Nat) (w : List Nat),Φ 68 [.shop (nD ks) (pD ks),.sh (.lst os),.sh D,.sh (.int (j : Nat))] = .ok (.sh (.str w)) → compF Φ (.call 68 (.cons (.v 2) (.cons (.mkL (.v 6)) (.cons (.v 7) (.cons (.v 11) .nil))))) [11] .nil (e04 s ks D k W (.sh (.lst os)) [.sh D,.un,.un,.un,.un]) (.int (j : Nat)) = .ok (some (.str w)) := fun j w h =>
    cf_nil (ρ' := e04 s ks D k W (.sh (.lst os)) [.sh D,.un,.un,.un,.sh (.int (j : Nat))]) rfl (sv_call rfl h) rfl
  have hc := compL_yes (st 0 _ q0) (compL_yes (st 1 _ (q 1 (by decide) (by decide))) (compL_yes (st 2 _ (q 2 (by decide) (by decide))) (compL_yes (st 3 _ (q 3 (by decide) (by decide))) (compL_yes (st 4 _ (q 4 (by decide) (by decide))) (show compL _ [] = _ from rfl)))))
  refine ex_step (sx_asg (sv_comp (sv_rngI rfl (rngOk_of (y := 5) (by decide) (by decide))) hc) rfl) (ex_step (sx_asg rfl rfl) ?_)
  show ∃ ρ2,ex Φ _ (e04 s ks D k W (.sh (.lst os)) [.sh D,.sh (.lst [.str W,.str W2,.str W2,.str W2,.str W2]),.sh (.str W),.un,.un]) = _
  have t := sv_andB (Φ := Φ) (ρ := e04 s ks D k W (.sh (.lst os)) [.sh D,.sh (.lst [.str W,.str W2,.str W2,.str W2,.str W2]),.sh (.str W),.un,.un]) (a := .cmp .eq (.v 5) (.cS [])) (b := .cmp .gt (.bi .len (.cons (.v 6) .nil)) (.cI 0)) (sv_cmp rfl rfl rfl rfl eq_s) fun _ => sv_cmp (sv_bi rfl rfl rfl) rfl rfl rfl gt_i
  have last : ∃ ρ2,ex Φ (.cons (.ret (.and (.cmp .eq (.v 8) (.lst (.cons (.v 5) (.cons (.v 9) (.cons (.v 9) (.cons (.v 9) (.cons (.v 9) .nil))))))) (.cmp .eq (.v 7) (.v 3)))) .nil) (e04 s ks D k W (.sh (.lst os)) [.sh D,.sh (.lst [.str W,.str W2,.str W2,.str W2,.str W2]),.sh (.str W2),.un,.un]) = .ok (.ret (.sh (.bool true)),ρ2) :=
    ex_ret1 (sx_ret (sv_and (sv_cmp rfl rfl rfl rfl (self_cmp (d := .lst [.str W,.str W2,.str W2,.str W2,.str W2]) (List.all_eq_true.mpr (str_fine [W,W2,W2,W2,W2]))).1) (sv_cmp rfl rfl rfl rfl heq)) rfl)
  rcases hw with ⟨h,rfl⟩ | ⟨h,hi⟩
  · rw [h] at t; exact ex_step (sx_no t) last
  · rw [h] at t
    exact ex_step (sx_yes t (ex_next (sx_asg (sv_idx (x := .own [.str [111,102,102,101,114],.str [107,105,110,100]]) rfl (sb (sb (sv_call rfl e5) rfl (fdiv_i (by decide) (by decide))) rfl (mod_i (by decide))) hi) rfl) rfl)) last
theorem offs04 {x2 x3 x4 x5 y : Val} {nm : List Nat} {pr : Int} {r : List Kind} (e5 : Φ 20 [.sh (.lst (iD s)),.sh (.int 5)] = .ok (.sh (.int i5))) : ex Φ tOffs (.sh (.lst (iD s)) :: .sh (.lst (((nm,pr) :: r).map kD)) :: x2 :: x3 :: x4 :: x5 :: .sh (.lst []) :: y :: ks.map fun _ => .un) = .ok (.next,.sh (.lst (iD s)) :: .sh (.lst (((nm,pr) :: r).map kD)) :: x2 :: x3 :: x4 :: x5 :: .sh (.lst (if i5 % 2 = 1 then (if i5 / 2 % 2 = 1 then [bad2] else [bad1 nm]) else [])) :: y :: ks.map fun _ => .un) := by
  have t : ∀ ρ,ρ.getD 0 .un = .sh (.lst (iD s)) → ev Φ (.cmp .eq (.bin .mod (.call 20 (.cons (.v 0) (.cons (.cI 5) .nil))) (.cI 2)) (.cI 1)) ρ = .ok (.sh (.bool (i5 % 2 == 1))) := fun ρ h => sv_cmp (sb (sv_call (st_cons (ev_at h) rfl rfl) e5) rfl (mod_i (by decide))) rfl rfl rfl eq_i
  by_cases ho : i5 % 2 = 1
  · rw [if_pos ho]
    have ei : ∀ d : Dat,idxL [bad1 nm,bad2] (i5 / 2 % 2) = .ok (.sh d) → ev Φ (.idx (.lst (.cons (.tup (.cons (.cS [109,111,114,101]) (.cons (.idx (.idx (.v 1) (.cI 0)) (.cI 0)) (.cons (.cI 1) (.cons (.cI 1) .nil))))) (.cons (.tup (.cons (.cS [115,104,97,114,101]) (.cons (.cS [122,122,122,122,122,122,122,122,122]) (.cons (.cI 5) .nil)))) .nil))) (.bin .mod (.bin .fdiv (.call 20 (.cons (.v 0) (.cons (.cI 5) .nil))) (.cI 2)) (.cI 2))) (.sh (.lst (iD s)) :: .sh (.lst (((nm,pr) :: r).map kD)) :: x2 :: x3 :: x4 :: x5 :: .sh (.lst []) :: y :: ks.map fun _ => .un) = .ok (.sh d) := fun d hd =>
      sv_idx (x := .own [bad1 nm,bad2]) (sv_lst (st_cons (sv_tup (st_cons rfl rfl (st_cons (sv_idxT (sv_idxL rfl rfl idxL_0) rfl rfl) rfl rfl)) rfl) rfl rfl) rfl) (sb (sb (sv_call rfl e5) rfl (fdiv_i (by decide) (by decide))) rfl (mod_i (by decide))) hd
    have t := (t (.sh (.lst (iD s)) :: .sh (.lst (((nm,pr) :: r).map kD)) :: x2 :: x3 :: x4 :: x5 :: .sh (.lst []) :: y :: ks.map fun _ => .un) rfl).trans (by rw [ho])
    by_cases hh : i5 / 2 % 2 = 1
    · rw [if_pos hh]
      exact sx_yes t (ex_next (sx_asg (sv_lst (st_cons (ei bad2 (by rw [hh]; exact idxL_1)) rfl rfl) rfl) rfl) rfl)
    · rw [if_neg hh]
      exact sx_yes t (ex_next (sx_asg (sv_lst (st_cons (ei (bad1 nm) (by rw [show i5 / 2 % 2 = 0 by lia]; exact idxL_0)) rfl rfl) rfl) rfl) rfl)
  · rw [if_neg ho]
    exact sx_no ((t _ rfl).trans (by rw [beq_eq_false_iff_ne.mpr ho]))
end
theorem law04 (H : Has04 fns) (n : Nat) (s : List Int) (hs : s.length ≤ 63) : callF fns (n + 12) 69 [.sh (.lst (iD s))] = .ok (.sh (.bool true)) := by
  rw [callF_succ H.b69,runFn_plain rfl rfl]
  refine run_ret ?_
  obtain ⟨ks,hk,ek⟩ := sp_kinds H.h3 (n + 8) s hs
  have esh := sp_shop H.h1 (n + 9) ks hk
  obtain ⟨b,hbl,hb,hbm,eb⟩ := sp_basket_c H.h3 H.b45 (n + 9) s hs ks hk 30 (by decide) (by decide)
  have h1 := hk.len1
  have h5 := hk.len5
  obtain ⟨i3,e3⟩ := sp_cell H.h3 (n + 10) s 3 (by decide)
  obtain ⟨i4,e4⟩ := sp_cell H.h3 (n + 10) s 4 (by decide)
  obtain ⟨i5,e5⟩ := sp_cell H.h3 (n + 10) s 5 (by decide)
  obtain ⟨nm,pr,r,rfl⟩ := ones_w hk
  generalize hks : (nm,pr) :: r = ks at *
  have hO : ∃ p,OffB fns ks (.lst (if i5 % 2 = 1 then (if i5 / 2 % 2 = 1 then [bad2] else [bad1 nm]) else [])) p ∧ p = (if i5 % 2 = 1 then some (if i5 / 2 % 2 = 1 then 9 else 8) else none) := by
    by_cases ho : i5 % 2 = 1
    · rw [if_pos ho,if_pos ho]
      by_cases hh : i5 / 2 % 2 = 1
      · rw [if_pos hh,if_pos hh]; exact ⟨_,.one _ 9 (.inr rfl) fun n => need_bad2 H.h1 H.h2 n hk,rfl⟩
      · rw [if_neg hh,if_neg hh]; exact ⟨_,.one _ 8 (.inl rfl) fun n => need_bad1 H.h1 H.h2 n hk (by rw [← hks]; exact List.mem_cons_self ..),rfl⟩
    · rw [if_neg ho,if_neg ho]; exact ⟨_,.none,rfl⟩
  obtain ⟨p,hO,hp⟩ := hO
  have ok0 := asked_ok H (n + 1) hk hbl hb (by lia) 0 (by decide)
  have ok3 := asked_ok H (n + 1) hk (b := List.replicate ks.length 0) (List.length_replicate ..) (zeros_ok _).1 (by rw [(zeros_ok _).2]; decide) 3 (by decide)
  have mp := mod_i (a := if i4 < 0 then -i4 else i4) (b := 10 ^ 60) (by decide)
  have hp0 : 0 ≤ (if i4 < 0 then -i4 else i4) % 10 ^ 60 := Int.emod_nonneg _ (by decide)
  generalize (if i4 < 0 then -i4 else i4) % 10 ^ 60 = m at mp hp0
  obtain ⟨v,ev66,⟨D,hv,hDf⟩⟩ := sp_changed_b H (n + 10) (b := b) (by lia) (by lia) (i3 % 9) m hp0
  have hD := hand_items hDf
  have heq := hand_eq hDf
  have due := sp_due_b H (n + 9) ks hD
  have ask := fun {O : Dat} {p : Option Nat} (hO : OffB fns ks O p) (k : Nat) (hk5 : k < 5) => sp_asked H (n + 1) hk hD hO k hk5
  have a0 := ask .none 0 (by decide)
  have q0 := ask hO 0 (by decide)
  have q := fun j (hj : j ≠ 0) hj5 => ask hO j hj5
  have e : orW (nbW ks.length D) none = nbW ks.length D := by cases nbW ks.length D <;> rfl
  rw [if_pos rfl,e] at a0 q0
  generalize hos : (if i5 % 2 = 1 then (if i5 / 2 % 2 = 1 then [bad2] else [bad1 nm]) else []) = os at *
  generalize hΦ : callF fns (n + 11) = Φ at ek esh eb e3 e4 e5 ok0 ok3 ev66 due a0 q0 q
  have eo := offs04 (Φ := Φ) (s := s) (ks := [(nm,pr),(nm,pr),(nm,pr),(nm,pr)]) (i5 := i5) (nm := nm) (pr := pr) (r := r) (x2 := .shop (nD ks) (pD ks)) (x3 := .sh D) (x4 := .sh (.int (i3 % 9))) (x5 := .sh (.str (wordB (nbW ks.length D)))) (y := .un) e5
  rw [hks,hos] at eo
  have hw : ((wordB (nbW ks.length D) == ([] : List Nat)) && decide ((0 : Int) < (os.length : Nat))) = false ∧ wordB (orW (nbW ks.length D) p) = wordB (nbW ks.length D) ∨ ((wordB (nbW ks.length D) == ([] : List Nat)) && decide ((0 : Int) < (os.length : Nat))) = true ∧ idxL [.str [111,102,102,101,114],.str [107,105,110,100]] (i5 / 2 % 2) = .ok (.sh (.str (wordB (orW (nbW ks.length D) p)))) := by
    cases hq : nbW ks.length D with
    | some c => have hne := wordB_ne hq; rw [hq] at hne; rw [hne]; exact .inl ⟨rfl,rfl⟩
    | none =>
      by_cases ho : i5 % 2 = 1
      · rw [if_pos ho] at hp hos
        by_cases hh : i5 / 2 % 2 = 1
        · rw [if_pos hh] at hp hos; rw [← hos,hp,hh]; exact .inr ⟨rfl,idxL_1⟩
        · rw [if_neg hh] at hp hos; rw [← hos,hp,show i5 / 2 % 2 = 0 by lia]; exact .inr ⟨rfl,idxL_0⟩
      · rw [if_neg ho] at hp hos; rw [← hos,hp]; exact .inl ⟨rfl,rfl⟩
  have q : ∀ j : Nat,j ≠ 0 → j < 5 → Φ 68 [.shop (nD ks) (pD ks),.sh (.lst os),.sh D,.sh (.int (j : Nat))] = .ok (.sh (.str (wordB (orW (nbW ks.length D) p)))) := fun j hj hj5 => (q j hj hj5).trans (by rw [if_neg hj])
  have rest := rest04 (Φ := Φ) (s := s) (ks := ks) (k := i3 % 9) q0 q e5 heq hw
  generalize wordB (nbW ks.length D) = W at *
  clear hΦ q0 q hw
  refine ex_step (sx_asg (sv_call rfl ek) rfl) (ex_step (sx_asg (sv_new rfl esh) rfl) (ex_step (sx_asg (sv_call rfl eb) rfl) ?_))
  have zc : ev Φ (.comp (.cI 0) [10] (.v 1) .nil) [.sh (.lst (iD s)),.sh (.lst (ks.map kD)),.shop (nD ks) (pD ks),.sh (.lst (iD b)),.un,.un,.un,.un,.un,.un,.un,.un] = .ok (.own (iD (List.replicate ks.length 0))) := by
    rw [← map_zero]
    exact sv_comp rfl (comp_const _)
  refine ex_step (sx_no (sv_or (sv_cmp (sv_call rfl ok0) rfl rfl rfl rfl) (sv_cmp (sv_call (st_cons rfl rfl (st_cons rfl rfl (st_cons zc rfl (st_cons rfl rfl rfl)))) ok3) rfl rfl rfl rfl))) ?_
  refine ex_step (sx_asg (sb (sv_call rfl e3) rfl (mod_i (by decide))) rfl) (ex_step (sx_asg (sv_call (st_cons rfl rfl (st_cons rfl rfl (st_cons (sb (sv_bi (st_cons (sv_call rfl e4) rfl rfl) rfl rfl) (sb rfl rfl pow60) mp) rfl rfl))) ev66) hv) ?_)
  refine ex_step (sx_asg (sv_call rfl due) rfl) (ex_step (sx_asg rfl rfl) (ex_step eo ?_))
  obtain ⟨v7,e7,s7⟩ := hand_ev (Φ := Φ) (ρ := e04 s ks D (i3 % 9) W (.sh (.lst os)) [.un,.un,.un,.un,.un]) (D := D) rfl
  refine ex_step (sx_asg e7 s7) ?_
  have t4 := sv_orB (Φ := Φ) (ρ := e04 s ks D (i3 % 9) W (.sh (.lst os)) [.sh D,.un,.un,.un,.un]) (a := .cmp .eq (.v 4) (.cI 4)) (b := .cmp .ne (.v 5) (.cS [])) (sv_cmp rfl rfl rfl rfl eq_i) fun _ => sv_cmp rfl rfl rfl rfl ne_s
  cases hq4 : ((i3 % 9 == 4) || !(W == [])) with
  | false => rw [hq4] at t4; exact ex_step (sx_no t4) rest
  | true =>
    rw [hq4] at t4
    have na : ev Φ (.cmp .ne (.call 68 (.cons (.v 2) (.cons (.lst .nil) (.cons (.v 7) (.cons (.cI 0) .nil))))) (.v 5)) (e04 s ks D (i3 % 9) W (.sh (.lst os)) [.sh D,.un,.un,.un,.un]) = .ok (.sh (.bool false)) := sv_cmp (sv_call rfl a0) rfl rfl rfl (by rw [ne_s,beq_self_eq_true]; rfl)
    have tw : ev Φ (.cmp .eq (.v 5) (.cS [])) (e04 s ks D (i3 % 9) W (.sh (.lst os)) [.sh D,.un,.un,.un,.un]) = .ok (.sh (.bool (W == []))) := sv_cmp rfl rfl rfl rfl eq_s
    cases hwe : (W == ([] : List Nat)) with
    | true =>
      rw [hwe] at tw
      exact ex_ret1 (sx_yes t4 (ex_next (sx_no na) (sx_stop (sx_yes tw (sx_cret (sv_cmp rfl rfl rfl rfl heq) rfl)))))
    | false =>
      rw [hwe] at tw
      exact ex_step (sx_yes t4 (ex_next (sx_no na) (ex_next (sx_no tw) rfl))) rest
end Mine.PL
namespace Mine.L04
open Mine PySem PySem.W PyProof.Rows PySem.Challenge
noncomputable abbrev S := Str.ofString
noncomputable def n_between : Nm := [(S "thing",0),(S "low",1),(S "high",2)]
noncomputable def n_is_name : Nm := [(S "thing",0),(S "sign",1)]
noncomputable def n_Shop_init : Nm := [(S "kinds",1),(S "names",2),(S "prices",3),(S "kind",4)]
noncomputable def n_Shop_place : Nm := [(S "self",0),(S "name",1)]
noncomputable def n_need_basket : Nm := [(S "shop",0),(S "basket",1),(S "count",2)]
noncomputable def n_within : Nm := [(S "basket",0),(S "many",1),(S "count",2)]
noncomputable def n_number_of : Nm := [(S "basket",0),(S "inner",1),(S "number",2),(S "step",3),(S "count",4),(S "part",5)]
noncomputable def n_counts_of : Nm := [(S "basket",0),(S "number",1),(S "counts",2),(S "count",3)]
noncomputable def n_wants_pairs : Nm := [(S "wants",0),(S "pair",1)]
noncomputable def n_names_in : Nm := [(S "offer",0)]
noncomputable def n_set_fits : Nm := [(S "wants",0),(S "price",1),(S "names",2),(S "pair",3)]
noncomputable def n_fits : Nm := [(S "offer",0)]
noncomputable def n_need_offer : Nm := [(S "shop",0),(S "offer",1),(S "name",2)]
noncomputable def n_deal_of : Nm := [(S "shop",0),(S "offer",1),(S "counts",2),(S "name",3),(S "many",4),(S "place",5),(S "price",6)]
noncomputable def n_deals : Nm := [(S "shop",0),(S "offers",1),(S "found",2),(S "place",3),(S "counts",4),(S "offer",5)]
noncomputable def n_lies_in : Nm := [(S "wants",0),(S "counts",1),(S "want",2),(S "count",3)]
noncomputable def n_steps_of : Nm := [(S "basket",0),(S "rows",1)]
noncomputable def n_costs_of : Nm := [(S "basket",0),(S "rows",1),(S "steps",2),(S "found",3),(S "number",4),(S "counts",5),(S "some",6)]
noncomputable def n_table : Nm := [(S "shop",0),(S "offers",1),(S "basket",2)]
noncomputable def n_cost : Nm := [(S "shop",0),(S "offers",1),(S "basket",2)]
noncomputable def n_paid : Nm := [(S "shop",0),(S "offers",1),(S "basket",2),(S "rows",3),(S "costs",4),(S "steps",5),(S "way",6),(S "number",7),(S "counts",8),(S "at",9)]
noncomputable def n_takes : Nm := [(S "step",0),(S "counts",1),(S "costs",2),(S "number",3)]
noncomputable def n_shown : Nm := [(S "offer",0),(S "words",1),(S "name",2),(S "many",3),(S "part",4)]
noncomputable def n_billed : Nm := [(S "shop",0),(S "offers",1),(S "basket",2),(S "pair",3),(S "way",4),(S "words",5),(S "rows",6),(S "found",7),(S "at",8)]
noncomputable def n_l_cell_at : Nm := [(S "_law_script",0),(S "_law_k",1)]
noncomputable def n_l_number : Nm := [(S "_law_script",0),(S "_law_k",1),(S "_law_base",2)]
noncomputable def n_l_name_by : Nm := [(S "_law_script",0),(S "_law_k",1),(S "_law_some",2),(S "_law_alike",3),(S "_law_number_here",4),(S "_law_step",5),(S "_law_name",6),(S "_law_j",7),(S "_law_place",8),(S "_law_sign",9)]
noncomputable def n_l_kinds : Nm := [(S "_law_script",0),(S "_law_kinds_here",1),(S "_law_names",2),(S "_law_k",3),(S "_law_number_here",4),(S "_law_name",5),(S "_law_price",6)]
noncomputable def n_l_basket_c : Nm := [(S "_law_script",0),(S "_law_kinds_here",1),(S "_law_start",2),(S "_law_room",3),(S "_law_basket_here",4),(S "_law_k",5),(S "_law_count",6)]
noncomputable def n_l_whole : Nm := [(S "_law_found",0)]
noncomputable def n_l_listed : Nm := [(S "_law_found",0),(S "_law_due_here",1),(S "_law_one",2)]
noncomputable def n_l_changed_b : Nm := [(S "_law_basket_here",0),(S "_law_kind",1),(S "_law_number_here",2),(S "_law_at",3),(S "_law_bad",4)]
noncomputable def n_l_due_b : Nm := [(S "_law_kinds_here",0),(S "_law_basket_here",1),(S "_law_many",2),(S "_law_one",3)]
noncomputable def n_l_one_class : Nm := [(S "_law_e",0),(S "_law_told",1),(S "%quiet",2)]
noncomputable def n_l_asked : Nm := [(S "_law_shop",0),(S "_law_offers",1),(S "_law_basket_here",2),(S "_law_way",3),(S "_law_e",4),(S "_law_told",5)]
noncomputable def n_law04 : Nm := [(S "_law_script",0),(S "_law_kinds_here",1),(S "_law_shop",2),(S "_law_basket_here",3),(S "_law_kind",4),(S "_law_due_here",5),(S "_law_offers",6),(S "_law_handed",7),(S "_law_told",8),(S "_law_word",9)]
noncomputable def gs : Gs := [(S "between",G.fn 0),(S "is_name",G.fn 1),(S "Shop.place",G.meth 3),(S "need_basket",G.fn 4),(S "within",G.fn 5),(S "number_of",G.fn 6),(S "counts_of",G.fn 7),(S "wants_pairs",G.fn 8),(S "names_in",G.fn 9),(S "set_fits",G.fn 10),(S "fits",G.fn 11),(S "need_offer",G.fn 12),(S "deal_of",G.fn 13),(S "deals",G.fn 14),(S "lies_in",G.fn 15),(S "steps_of",G.fn 16),(S "costs_of",G.fn 17),(S "table",G.fn 18),(S "cost",G.fn 19),(S "paid",G.fn 32),(S "takes",G.fn 33),(S "shown",G.fn 47),(S "billed",G.fn 48),(S "_law_cell_at",G.fn 20),(S "_law_number",G.fn 21),(S "_law_name_by",G.fn 22),(S "_law_kinds",G.fn 23),(S "_law_basket",G.fn 45),(S "_law_whole",G.fn 28),(S "_law_changed",G.fn 66),(S "_law_due",G.fn 67),(S "_law_one_class",G.fn 63),(S "_law_asked",G.fn 68),(S "law",G.fn 69),(S "LETTERS",G.cS [97,98,99,100,101,102,103,104,105,106,107,108,109,110,111,112,113,114,115,116,117,118,119,120,121,122]),(S "MOST_KINDS",G.cI 5),(S "LONGEST",G.cI 8),(S "GREATEST",G.cI 100000),(S "MOST",G.cI 300),(S "MOST_PIECES",G.cI 9),(S "PARTS",G.dict [([109,111,114,101],4),([115,101,116],3),([115,104,97,114,101],3),([115,108,105,112],4)]),(S "Shop",G.cls 2),(S "ValueError",G.exc 0),(S "TillError",G.exc 1),(S "BadKinds",G.exc 2),(S "BadName",G.exc 3),(S "Twice",G.exc 4),(S "BadPrice",G.exc 5),(S "BadBasket",G.exc 6),(S "TooMany",G.exc 7),(S "BadOffer",G.exc 8),(S "NoKind",G.exc 9),(S "NoOffer",G.exc 10),(S "len",G.bi (.builtin "len")),(S "min",G.bi (.builtin "min")),(S "max",G.bi (.builtin "max")),(S "sum",G.bi (.builtin "sum")),(S "abs",G.bi (.builtin "abs")),(S "isinstance",G.bi (.builtin "isinstance")),(S "int",G.bi (.type "int")),(S "str",G.bi (.type "str")),(S "bool",G.bi (.type "bool")),(S "list",G.bi (.type "list")),(S "tuple",G.bi (.type "tuple")),(S "range",G.bi (.type "range")),(S "zip",G.bi (.type "zip")),(S "reversed",G.bi (.type "reversed"))]
noncomputable def nmL : List (Nat × Nm) := [(0,n_between),(1,n_is_name),(2,n_Shop_init),(3,n_Shop_place),(4,n_need_basket),(5,n_within),(6,n_number_of),(7,n_counts_of),(8,n_wants_pairs),(9,n_names_in),(10,n_set_fits),(11,n_fits),(12,n_need_offer),(13,n_deal_of),(14,n_deals),(15,n_lies_in),(16,n_steps_of),(17,n_costs_of),(18,n_table),(19,n_cost),(32,n_paid),(33,n_takes),(47,n_shown),(48,n_billed),(20,n_l_cell_at),(21,n_l_number),(22,n_l_name_by),(23,n_l_kinds),(45,n_l_basket_c),(28,n_l_whole),(29,n_l_listed),(66,n_l_changed_b),(67,n_l_due_b),(63,n_l_one_class),(68,n_l_asked),(69,n_law04)]
noncomputable def fns : List Fn := [f_between,f_is_name,f_Shop_init,f_Shop_place,f_need_basket,f_within,f_number_of,f_counts_of,f_wants_pairs,f_names_in,f_set_fits,f_fits,f_need_offer,f_deal_of,f_deals,f_lies_in,f_steps_of,f_costs_of,f_table,f_cost,f_l_cell_at,f_l_number,f_l_name_by,f_l_kinds,f_none,f_none,f_none,f_none,f_l_whole,f_l_listed,f_none,f_none,f_paid,f_takes,f_none,f_none,f_none,f_none,f_none,f_none,f_none,f_none,f_none,f_none,f_none,f_l_basket_c,f_none,f_shown,f_billed,f_none,f_none,f_none,f_none,f_none,f_none,f_none,f_none,f_none,f_none,f_none,f_none,f_none,f_none,f_l_one_class,f_none,f_none,f_l_changed_b,f_l_due_b,f_l_asked,f_law04]
noncomputable def nms (i : Nat) : Nm := (nmL.lookup i).getD []
theorem bi_all : biChk gs = true := by kernel_rfl
theorem dict_only : dictOnly gs (Str.ofString "PARTS") = true := by kernel_rfl
theorem law_at : gs.lookup (Str.ofString "law") = some (.fn 69) := by kernel_rfl
theorem plain (ns : List Int) (h : ns.length ≤ 63) : callF fns 40 69 [.sh (.lst (ns.map .int))] = .ok (.sh (.bool true)) :=
  PL.law04 (fns := fns) ⟨⟨⟨rfl,rfl⟩,rfl,rfl⟩,⟨⟨rfl,rfl,rfl⟩,rfl,rfl,rfl,rfl⟩,⟨rfl,rfl,rfl,rfl⟩,⟨rfl,rfl,rfl,rfl,rfl,rfl,rfl⟩,⟨rfl,rfl⟩,⟨rfl,rfl⟩,rfl,rfl,rfl,rfl,rfl,rfl,rfl,rfl,rfl⟩ 28 ns h
end Mine.L04
set_option maxHeartbeats 8000000
open PySem PySem.W PyProof.Rows Mine Mine.L04
namespace Mine.cw
theorem tw2245319242301140743:True:=⟨⟩
theorem tw6619987024997979267:True:=⟨⟩
theorem tw4984293869141996249:True:=⟨⟩
theorem tw14548968915000840582:True:=⟨⟩
theorem tw10836814977227583926:True:=⟨⟩
theorem tw7209464811757235864:True:=⟨⟩
theorem tw10642333452490522913:True:=⟨⟩
theorem tw18300981966276743051:True:=⟨⟩
theorem tw3358073120794002988:True:=⟨⟩
theorem tw15035397054470534092:True:=⟨⟩
theorem tw11260913956373821800:True:=⟨⟩
theorem tw11940688272778093951:True:=⟨⟩
theorem tw17729162322777953753:True:=⟨⟩
theorem tw9262325061618202332:True:=⟨⟩
theorem tw4754219302356205853:True:=⟨⟩
theorem tw8108114381917806831:True:=⟨⟩
theorem tw8654890065351889988:True:=⟨⟩
theorem tw16529872585032380816:True:=⟨⟩
theorem tw2642075761509026456:True:=⟨⟩
theorem tw11928798751556335818:True:=⟨⟩
theorem tw255326854664200784:True:=⟨⟩
theorem tw14788520036634372961:True:=⟨⟩
theorem tw3604583642412339696:True:=⟨⟩
theorem tw10485878008771408533:True:=⟨⟩
theorem tw11751927079061947295:True:=⟨⟩
theorem tw10716450737588456245:True:=⟨⟩
theorem tw14708432069784124976:True:=⟨⟩
theorem tw6649243955452880809:True:=⟨⟩
theorem tw12924146987078507549:True:=⟨⟩
theorem tw12914080906435047031:True:=⟨⟩
theorem tw13204498275336143057:True:=⟨⟩
theorem tw1732343715881608574:True:=⟨⟩
theorem tw2847033070647288395:True:=⟨⟩
theorem tw15914432114400275016:True:=⟨⟩
theorem tw16364737916135499738:True:=⟨⟩
theorem tw3298955843360003133:True:=⟨⟩
theorem tw14761310442516060954:True:=⟨⟩
theorem tw146145911627998957:True:=⟨⟩
theorem tw3274165426250351427:True:=⟨⟩
theorem tw12239477600099815877:True:=⟨⟩
theorem tw3893269019679806780:True:=⟨⟩
theorem tw8967970181776037616:True:=⟨⟩
theorem tw17491939209671086633:True:=⟨⟩
theorem tw3363377985580790232:True:=⟨⟩
theorem tw9732783464176380561:True:=⟨⟩
theorem tw4951841280732597803:True:=⟨⟩
theorem tw10787246075982744711:True:=⟨⟩
theorem tw16448210907181281830:True:=⟨⟩
theorem tw5635414492833330716:True:=⟨⟩
theorem tw9089546751780752331:True:=⟨⟩
theorem tw4432251587439159602:True:=⟨⟩
theorem tw12752629074769642444:True:=⟨⟩
theorem tw3860059829726791206:True:=⟨⟩
theorem tw5610338685648125367:True:=⟨⟩
theorem tw13164890707912857118:True:=⟨⟩
theorem tw2536484440049877633:True:=⟨⟩
theorem tw10410563499097374197:True:=⟨⟩
theorem tw16337725907850643880:True:=⟨⟩
theorem tw4357126401250407683:True:=⟨⟩
theorem tw18153323675266707290:True:=⟨⟩
theorem tw14951641260305525846:True:=⟨⟩
theorem tw7627799410307197:True:=⟨⟩
theorem tw15098035983816873264:True:=⟨⟩
theorem tw13741288145241353385:True:=⟨⟩
theorem tw9122601410144511000:True:=⟨⟩
theorem tw7593070186226503251:True:=⟨⟩
theorem tw7088457872291430868:True:=⟨⟩
theorem tw14457793533385175785:True:=⟨⟩
theorem tw4769817257947663983:True:=⟨⟩
theorem tw8240279851119034267:True:=⟨⟩
theorem tw11375821190854673680:True:=⟨⟩
theorem tw7333113482920346693:True:=⟨⟩
theorem tw14200389297463377969:True:=⟨⟩
theorem tw14294555197703138188:True:=⟨⟩
theorem tw6946250092498860507:True:=⟨⟩
theorem tw5960540646505071985:True:=⟨⟩
theorem tw7021196676479962670:True:=⟨⟩
theorem tw15940985733699833019:True:=⟨⟩
theorem tw18136070617529289488:True:=⟨⟩
theorem tw17387281983583371026:True:=⟨⟩
theorem tw16042547877381480675:True:=⟨⟩
theorem tw10001757822794293284:True:=⟨⟩
theorem tw17865991295642463455:True:=⟨⟩
theorem tw7384157455045015651:True:=⟨⟩
theorem tw12879298785024176671:True:=⟨⟩
theorem tw6539419282294539521:True:=⟨⟩
theorem tw9852409169342779629:True:=⟨⟩
theorem tw2088735340262782289:True:=⟨⟩
theorem tw3485045004042909264:True:=⟨⟩
theorem tw16622779924370142736:True:=⟨⟩
theorem tw16574793814118355034:True:=⟨⟩
theorem tw10858871412793448962:True:=⟨⟩
theorem tw904687230028414966:True:=⟨⟩
theorem tw9926899359172749013:True:=⟨⟩
theorem tw4652533487383075113:True:=⟨⟩
theorem tw14719815322784957477:True:=⟨⟩
theorem tw478726648789714012:True:=⟨⟩
theorem tw11835236348681913158:True:=⟨⟩
theorem tw9702267900656169311:True:=⟨⟩
theorem tw11754658650556267126:True:=⟨⟩
theorem tw3962496541271946108:True:=⟨⟩
theorem tw13536430150218294711:True:=⟨⟩
theorem tw10537277779084631892:True:=⟨⟩
theorem tw16482581780040293502:True:=⟨⟩
theorem tw7201222511497468304:True:=⟨⟩
theorem tw5680903237747551189:True:=⟨⟩
theorem tw9461631633261132872:True:=⟨⟩
theorem tw16892425095099944456:True:=⟨⟩
theorem tw11875235385263808230:True:=⟨⟩
theorem tw6403810052837582342:True:=⟨⟩
theorem tw11781060877705872058:True:=⟨⟩
theorem tw5824335537622360646:True:=⟨⟩
theorem tw8235274700520875756:True:=⟨⟩
theorem tw13875441437160936798:True:=⟨⟩
theorem tw1061759024922983633:True:=⟨⟩
theorem tw8612380763541040486:True:=⟨⟩
theorem tw7456562622790031247:True:=⟨⟩
theorem tw6910738804539150289:True:=⟨⟩
theorem tw9270990383643273699:True:=⟨⟩
theorem tw17262130787101969492:True:=⟨⟩
theorem tw13427813068156967423:True:=⟨⟩
theorem tw14438426639572044279:True:=⟨⟩
theorem tw15510850327984767076:True:=⟨⟩
theorem tw16966850244799370580:True:=⟨⟩
theorem tw15840832473071999535:True:=⟨⟩
theorem tw886166690863328485:True:=⟨⟩
theorem tw13883313689258838075:True:=⟨⟩
theorem tw8681520704858018953:True:=⟨⟩
theorem tw3097201625896000712:True:=⟨⟩
theorem tw3129355525941028504:True:=⟨⟩
theorem tw5790161404388931817:True:=⟨⟩
theorem tw1855280148956710301:True:=⟨⟩
theorem tw602248898015639982:True:=⟨⟩
theorem tw11276918991615045221:True:=⟨⟩
theorem tw295466338093642964:True:=⟨⟩
theorem tw8415975840473770697:True:=⟨⟩
theorem tw10133593751813262031:True:=⟨⟩
theorem tw3773175275827832469:True:=⟨⟩
theorem tw9120030487294489145:True:=⟨⟩
theorem tw11723249370181606347:True:=⟨⟩
theorem tw13828229439554513783:True:=⟨⟩
theorem tw7069858871986738619:True:=⟨⟩
theorem tw1192352477516011486:True:=⟨⟩
theorem tw7361954070945319235:True:=⟨⟩
theorem tw5122744651824193062:True:=⟨⟩
theorem tw15111483031490467662:True:=⟨⟩
theorem tw15570454731259054930:True:=⟨⟩
theorem tw12235438783284694707:True:=⟨⟩
theorem tw5265537290224106599:True:=⟨⟩
theorem tw1320032953589230437:True:=⟨⟩
theorem tw8982647976793043411:True:=⟨⟩
theorem tw6518825268287776730:True:=⟨⟩
theorem tw10497245345112351037:True:=⟨⟩
theorem tw9580786093286786816:True:=⟨⟩
theorem tw13509015979295805570:True:=⟨⟩
theorem tw1866788658771475695:True:=⟨⟩
theorem tw2998348815218018863:True:=⟨⟩
theorem tw13307330575346984341:True:=⟨⟩
theorem tw16028573636967759883:True:=⟨⟩
theorem tw4743089586618979064:True:=⟨⟩
theorem tw13780061514556756106:True:=⟨⟩
theorem tw12709157667166597622:True:=⟨⟩
theorem tw5446289514955409386:True:=⟨⟩
theorem tw7138865461323901148:True:=⟨⟩
theorem tw10417276246721045325:True:=⟨⟩
theorem tw5164600623723704576:True:=⟨⟩
theorem tw2636425540172471175:True:=⟨⟩
theorem tw2119496383272873293:True:=⟨⟩
theorem tw16880979030118593267:True:=⟨⟩
theorem tw10033072705830202664:True:=⟨⟩
theorem tw15992819923508515479:True:=⟨⟩
theorem tw12054122481165462934:True:=⟨⟩
theorem tw8455966481309877803:True:=⟨⟩
theorem tw10666049679076413966:True:=⟨⟩
theorem tw4594457182599078764:True:=⟨⟩
theorem tw6925770212547226674:True:=⟨⟩
theorem tw5000132874964926114:True:=⟨⟩
theorem tw8538403806035920175:True:=⟨⟩
theorem tw17085326466948407615:True:=⟨⟩
theorem tw5245493218853190803:True:=⟨⟩
theorem tw6771049911761263549:True:=⟨⟩
theorem tw8440572659557939377:True:=⟨⟩
theorem tw11220621319726393749:True:=⟨⟩
theorem tw9484423932939390980:True:=⟨⟩
theorem tw13438360705153437068:True:=⟨⟩
theorem tw12133997185408934581:True:=⟨⟩
theorem tw15049123542625464071:True:=⟨⟩
theorem tw2170339112981439272:True:=⟨⟩
theorem tw13440761400709180564:True:=⟨⟩
theorem tw11254835128405952838:True:=⟨⟩
theorem tw2001829792024246339:True:=⟨⟩
theorem tw6669705861437036512:True:=⟨⟩
theorem tw1234362014024236558:True:=⟨⟩
theorem tw2559185497009035100:True:=⟨⟩
theorem tw82334272504649403:True:=⟨⟩
theorem tw5318995997084724827:True:=⟨⟩
theorem tw3943993154990397314:True:=⟨⟩
theorem tw10220390648087449953:True:=⟨⟩
theorem tw10362361567543475196:True:=⟨⟩
theorem tw10362180420265512515:True:=⟨⟩
theorem tw7592274207237101366:True:=⟨⟩
theorem tw5854004994505877476:True:=⟨⟩
theorem tw8048641291553349087:True:=⟨⟩
theorem tw7509873989339655443:True:=⟨⟩
theorem tw15800916458890617462:True:=⟨⟩
theorem tw3050485629901723413:True:=⟨⟩
theorem tw14738603649851109533:True:=⟨⟩
theorem tw2889034122823521674:True:=⟨⟩
theorem tw1430634277976083635:True:=⟨⟩
theorem tw13661436319821634661:True:=⟨⟩
theorem tw7657905660152132556:True:=⟨⟩
theorem tw1976542675867556708:True:=⟨⟩
theorem tw14768827524389985878:True:=⟨⟩
theorem tw16935115531500542280:True:=⟨⟩
theorem tw16693563322189900785:True:=⟨⟩
theorem tw14890220570659453997:True:=⟨⟩
theorem tw14249023299064298872:True:=⟨⟩
theorem tw2034847326169890389:True:=⟨⟩
theorem tw2031960088512844715:True:=⟨⟩
theorem tw12670489939187605533:True:=⟨⟩
theorem tw150718097304624728:True:=⟨⟩
theorem tw15173685430485021829:True:=⟨⟩
theorem tw6799932458496700201:True:=⟨⟩
theorem tw4997054509317957469:True:=⟨⟩
theorem tw12377652847824706968:True:=⟨⟩
theorem tw9214817609474835982:True:=⟨⟩
theorem tw5010585969020163057:True:=⟨⟩
theorem tw3560595304242491492:True:=⟨⟩
theorem tw6368381345488123452:True:=⟨⟩
theorem tw16034630539431576811:True:=⟨⟩
theorem tw3614702511577044390:True:=⟨⟩
theorem tw1184031629254359674:True:=⟨⟩
theorem tw2843113680988522234:True:=⟨⟩
theorem tw8886525709245039632:True:=⟨⟩
theorem tw17925611632361815322:True:=⟨⟩
theorem tw5975198326110587854:True:=⟨⟩
theorem tw207604500973351841:True:=⟨⟩
theorem tw7417615246134051412:True:=⟨⟩
theorem tw6847272019824127103:True:=⟨⟩
theorem tw16187185622519977335:True:=⟨⟩
theorem tw8997325402272200545:True:=⟨⟩
theorem tw3968715040575513520:True:=⟨⟩
theorem tw6691103475315266967:True:=⟨⟩
theorem tw9834586408147574216:True:=⟨⟩
theorem tw1013543359794264780:True:=⟨⟩
theorem tw4114331005866857182:True:=⟨⟩
theorem tw2546800512522163093:True:=⟨⟩
theorem tw9919525273966334950:True:=⟨⟩
theorem tw10509066262467895687:True:=⟨⟩
theorem tw7674018889070341683:True:=⟨⟩
theorem tw10469622635208884771:True:=⟨⟩
theorem tw14984256209660822020:True:=⟨⟩
theorem tw4745555834983666509:True:=⟨⟩
theorem tw12604581072356917665:True:=⟨⟩
theorem tw15174872595650598156:True:=⟨⟩
theorem tw214405211444757829:True:=⟨⟩
theorem tw13151696102870119586:True:=⟨⟩
theorem tw13765553124723890696:True:=⟨⟩
theorem tw10894422157771956130:True:=⟨⟩
theorem tw9574553611694136491:True:=⟨⟩
theorem tw14339477176143079320:True:=⟨⟩
theorem tw3614371357110042262:True:=⟨⟩
theorem tw4319754535968967086:True:=⟨⟩
theorem tw1760405048886711807:True:=⟨⟩
theorem tw1517534825565237395:True:=⟨⟩
theorem tw10582871820063533239:True:=⟨⟩
theorem tw6625854827542380767:True:=⟨⟩
theorem tw16824190548350425898:True:=⟨⟩
theorem tw8384915272945194035:True:=⟨⟩
theorem tw11421232195869613319:True:=⟨⟩
theorem tw2165431362491003783:True:=⟨⟩
theorem tw11744499077472433453:True:=⟨⟩
theorem tw10429527013251239871:True:=⟨⟩
theorem tw12460997675799849042:True:=⟨⟩
theorem tw2912337862129523016:True:=⟨⟩
theorem tw13038600260403951778:True:=⟨⟩
theorem tw2582236779478434216:True:=⟨⟩
theorem tw2139275235861925300:True:=⟨⟩
theorem tw2424036609782971184:True:=⟨⟩
theorem tw3779545472530704611:True:=⟨⟩
theorem tw15377519182399367661:True:=⟨⟩
theorem tw1119846097978458417:True:=⟨⟩
theorem tw11381329923816113111:True:=⟨⟩
theorem tw16438877246773014368:True:=⟨⟩
theorem tw17395816810168964604:True:=⟨⟩
theorem tw150055803531023912:True:=⟨⟩
theorem tw18369400146589056343:True:=⟨⟩
theorem tw13342451505449514251:True:=⟨⟩
theorem tw2823607854020130885:True:=⟨⟩
theorem tw6963956771273217198:True:=⟨⟩
theorem tw2296967259863546239:True:=⟨⟩
theorem tw13720027318834144188:True:=⟨⟩
theorem tw11127803882114186156:True:=⟨⟩
theorem tw7800144678589849697:True:=⟨⟩
theorem tw8265391832754436437:True:=⟨⟩
theorem tw5375968824360660473:True:=⟨⟩
theorem tw11751998716075514716:True:=⟨⟩
theorem tw7780712772906032233:True:=⟨⟩
theorem tw15187549380642300617:True:=⟨⟩
theorem tw5985121463359028297:True:=⟨⟩
theorem tw15517905215004798913:True:=⟨⟩
theorem tw15375457237347083154:True:=⟨⟩
theorem tw606616763052236337:True:=⟨⟩
theorem tw6565294887129739502:True:=⟨⟩
theorem tw15779534605396823208:True:=⟨⟩
theorem tw3829546311948938476:True:=⟨⟩
theorem tw17544317311361296971:True:=⟨⟩
theorem tw4657666084184085436:True:=⟨⟩
theorem tw17526776900075017712:True:=⟨⟩
theorem tw7894522602903069913:True:=⟨⟩
theorem tw17589651760236113906:True:=⟨⟩
theorem tw2377609647856190301:True:=⟨⟩
theorem tw15426301682104869479:True:=⟨⟩
theorem tw9809503321613087508:True:=⟨⟩
theorem tw7633380312702834356:True:=⟨⟩
theorem tw7501645408350161839:True:=⟨⟩
theorem tw12728222785577406730:True:=⟨⟩
theorem tw14815655621447405532:True:=⟨⟩
theorem tw541702200365555811:True:=⟨⟩
theorem tw16318853312891250111:True:=⟨⟩
theorem tw9713538816024611350:True:=⟨⟩
theorem tw3764488511098954792:True:=⟨⟩
theorem tw6737585914892897284:True:=⟨⟩
theorem tw11474246971035347520:True:=⟨⟩
theorem tw15738741339427707777:True:=⟨⟩
theorem tw12041731551508008593:True:=⟨⟩
theorem tw14187503381994792775:True:=⟨⟩
theorem tw12196176389731286687:True:=⟨⟩
theorem tw4419025850130639362:True:=⟨⟩
theorem tw16807314847964708805:True:=⟨⟩
theorem tw11076772228991380029:True:=⟨⟩
theorem tw3935473582681719712:True:=⟨⟩
theorem tw3857961920327188869:True:=⟨⟩
theorem tw4175879605228117226:True:=⟨⟩
theorem tw9688325189225346270:True:=⟨⟩
theorem tw14452271069060164173:True:=⟨⟩
theorem tw3022869472097559339:True:=⟨⟩
theorem tw15766245182211837231:True:=⟨⟩
theorem tw8209079187462578595:True:=⟨⟩
theorem tw18130194285338661485:True:=⟨⟩
theorem tw10881834249466746773:True:=⟨⟩
theorem tw3023204895809439811:True:=⟨⟩
theorem tw13987649963944064819:True:=⟨⟩
theorem tw10395843251819449040:True:=⟨⟩
theorem tw12547047035168592067:True:=⟨⟩
theorem tw5193252912166639973:True:=⟨⟩
theorem tw2822634382750766397:True:=⟨⟩
theorem tw9459749993489986317:True:=⟨⟩
theorem tw5743529906376584556:True:=⟨⟩
theorem tw4921557877388104165:True:=⟨⟩
theorem tw1295104794031784457:True:=⟨⟩
theorem tw12292827367615619480:True:=⟨⟩
theorem tw4486984800207835088:True:=⟨⟩
theorem tw308970408450293369:True:=⟨⟩
theorem tw2302005364966875507:True:=⟨⟩
theorem tw1753351074557523059:True:=⟨⟩
theorem tw10085818013370136085:True:=⟨⟩
theorem tw1917101114534506941:True:=⟨⟩
theorem tw1439106546105372835:True:=⟨⟩
theorem tw3459936446253236937:True:=⟨⟩
theorem tw12315186274624023813:True:=⟨⟩
theorem tw13101704718675416334:True:=⟨⟩
theorem tw11961237888325340695:True:=⟨⟩
theorem tw8042496257394154199:True:=⟨⟩
theorem tw3168819232203767724:True:=⟨⟩
theorem tw18428560998126663368:True:=⟨⟩
theorem tw15759073248670287780:True:=⟨⟩
theorem tw13279229609582487449:True:=⟨⟩
theorem tw17788867100912671519:True:=⟨⟩
theorem tw9036864618746112827:True:=⟨⟩
theorem tw68855574625089363:True:=⟨⟩
theorem tw4196440405857626574:True:=⟨⟩
theorem tw16225993790663994938:True:=⟨⟩
theorem tw13747900882118374933:True:=⟨⟩
theorem tw16198640964549459898:True:=⟨⟩
theorem tw6421626014405569153:True:=⟨⟩
theorem tw2537711057378917062:True:=⟨⟩
theorem tw11905782810705850828:True:=⟨⟩
theorem tw9915596638382719116:True:=⟨⟩
theorem tw14289734765686230283:True:=⟨⟩
theorem tw16731437187866489228:True:=⟨⟩
theorem tw13630375179674840580:True:=⟨⟩
theorem tw8098402475368697700:True:=⟨⟩
theorem tw5873590440581843887:True:=⟨⟩
theorem tw152319972654231069:True:=⟨⟩
theorem tw2041038859986201105:True:=⟨⟩
theorem tw1657604574128037230:True:=⟨⟩
theorem tw9819567901576955970:True:=⟨⟩
theorem tw3100444119966152113:True:=⟨⟩
theorem tw2492944627912260907:True:=⟨⟩
theorem tw18335864770729216273:True:=⟨⟩
end Mine.cw
set_option Elab.async true
theorem Mine.cw : PySem.Challenge.rw_uf030032_04.Holds := by
  w_on
  o_law
  k_head
  (case hw => w_witness2)
  k_fill
  intro w s₀ s₁ mg mb G Y fa o pm cd doc dV kV ho hd hcd hD hmg hg args vals as hpre hlay hrd hwl hlo
  have KX := kIn_of Y
  refine Ground.open G ?_
  intro T B D TE TW
  clear hd hcd hD
  wrow_args hpre hlay hrd hwl hlo
  rename_i ns hs hlay0 hL1 hr1 hl2 as1 as2 l vs as3 hLst ra w1 r0 hI hr hc1 hc2
  have CN := cx_all (prog := PySem.Challenge.rw_uf030032_04.row.prog) (w := w) (fns := fns) (gs := gs) (nms := nms) (shopC := 173) (dx := Str.ofString "PARTS") (xs := [(1,24),(2,37),(3,49),(4,61),(5,73),(6,85),(7,97),(8,109),(9,121),(10,133)]) KX (PySem.W.topRead_of T) bi_all dict_only (by kernel_rfl) (by kernel_rfl) (by kernel_rfl) (by kernel_rfl)
  obtain ⟨f,hf,⟨F⟩⟩ := CN.1.gl _ _ law_at
  have hmg' : mg (Str.ofString "law") = some (.ref fa) := hmg
  have hf' : mg (Str.ofString "law") = some (.ref f) := hf
  rw [hmg'] at hf'
  cases hf'
  have hlen : ns.length ≤ 63 := by omega
  have hl : s₁.heap.get? l = some { cls := .type "list",data := .seq vs.toArray } := by
    have w1' : Well w.params s₁.heap (Value.ref l) (.list (ofPys (List.map PyData.int ns))) := w1
    cases w1' with
    | list e _ =>
      obtain ⟨o',ho',_,n',hd'⟩ := hLst
      rw [e] at ho'
      cases ho'
      cases hd'
      exact e
  refine law_run rfl CN F s₁ rfl hl hI hlen 40 (by decide) (Mine.L04.plain ns hlen) fun h' tk keep => ?_
  refine ⟨.inl ⟨.bool true,.bool true,[],rfl,fun cls => rfl,.bool true,?_,fun _ => ⟨List.nodup_nil,fun a ha => by cases ha⟩⟩,.of_keep keep,rfl,?_⟩
  · kernel_rfl
  · show AllBare s₁.gens
    exact .of_eq hg
theorem PySem.Challenge.cw_uf030032_04_holds : PySem.Challenge.rw_uf030032_04.Holds :=
  Mine.cw
