import PyProof.Rows.All
import Wide.All
import OpenK.AllK
import Wide.FinOn
import HandS.ForMost
import HandS.Wide
import HandS.IsInst
import HandS.Zip
import HandS.Conv
import HandS.TupAny
import HandS.TupMul
import HandS.Deep
import HandS.DictTup
import HandS.Star
import HandS.SortInts
import HandS.Small
import KE.GoesEnum
import KE.GoesNew
import KE.GoesZip
import HandS.Style
import HandS.Dict
import HandS.Defaults
import HandS.HeadHook2
import HandS.Ends
import HandS.HeadEnd
import HandS.Head0
import HandS.Head1
import HandS.Head2
import HandS.HeadHook1
import PySem.Challenge.RW_chordsuntold_k97_main_across_whole_backs
set_option Elab.async false
set_option linter.all false
set_option maxRecDepth 100000
set_option maxHeartbeats 4000000
set_option autoImplicit false
namespace Ev
open PySem PySem.Spec PyProof.Rows L2

/-! ## values, stores -/
inductive D where
  | non | bl (b : Bool) | int (i : Int) | str (s : Str)
  | tup (ds : List D) | lst (ds : List D) | fz (ds : List D) | cell (n : Nat)
inductive C where
  | lst (ds : List D) | dct (kvs : List (List Int × D)) | lck (kvs : List (List Int × D))
abbrev Store := List C
abbrev Env := List (Option D)

inductive Op where | add | sub | mul | fdiv | mod | pow
inductive Cm where | eq | ne | lt | le | gt | ge | isN | ntN | isIn | ntIn
inductive Ty where | int | bool | str | list | tuple
inductive Tg where | nm (i : Nat) | tnil | tcons (a b : Tg) | tup (a : Tg)
inductive Ex where
  | nil | cons (a b : Ex) | star (a : Ex)
  | var (i : Nat) | int (i : Int) | bl (b : Bool) | non | str (s : Str) | glob (g : Nat)
  | bin (o : Op) (a b : Ex) | neg (a : Ex) | nt (a : Ex) | cmp (c : Cm) (a b : Ex) | and (a b : Ex) | or (a b : Ex) | ite (c a b : Ex)
  | tupE (es : Ex) | lstE (es : Ex) | mk (a : Ex) | orL (a b : Ex)
  | idx (a b : Ex) | sl (a lo hi : Ex)
  | lc (elt : Ex) (tg : Tg) (it cnd : Ex) (own : List Nat)
  | it (a : Ex) | rng1 (a : Ex) | rng2 (a b : Ex) | zip (a b : Ex) | enm (a : Ex)
  | call (f : Nat) (es : Ex)
  | len (a : Ex) | tuple (a : Ex) | list (a : Ex) | listR (a : Ex) | tupleR (a : Ex) | absE (a : Ex) | intE (a : Ex) | allE (a : Ex) | anyE (a : Ex) | maxE (a : Ex) | min2 (a b : Ex) | sorted (a : Ex) | isi (ts : List Ty) (a : Ex)
  | popAt (o i : Ex) | dget (o k : Ex) | dgetD (o k d : Ex) | dnew | ddisp (k v : Ex)

/-! ## operations by values -/
def seqOf (S : Store) : D → Option (List D)
  | .tup ds => some ds
  | .lst ds => some ds
  | .fz ds => some ds
  | .cell n => match S[n]? with
    | some (.lst ds) => some ds
    | _ => none
  | _ => none
def intsOf : List D → Option (List Int)
  | [] => some []
  | .int i :: r => (intsOf r).map (i :: ·)
  | _ => none
def blsOf : List D → Option (List Bool)
  | [] => some []
  | .bl b :: r => (blsOf r).map (b :: ·)
  | _ => none
mutual
def toPy : D → Option PyData
  | .non => some .none
  | .bl b => some (.bool b)
  | .int i => some (.int i)
  | .str s => some (.str s)
  | .tup ds => (toPys ds).map .tuple
  | .lst ds => (toPys ds).map .list
  | .fz ds => (toPys ds).map .list
  | .cell _ => none
def toPys : List D → Option (List PyData)
  | [] => some []
  | d :: ds => (toPy d).bind fun x => (toPys ds).map (x :: ·)
end
def flat (S : Store) : D → D
  | .cell n => match S[n]? with
    | some (.lst ds) => .lst ds
    | _ => .cell n
  | d => d
def eqD (S : Store) (a b : D) : Option Bool :=
  (toPy (flat S a)).bind fun x => (toPy (flat S b)).bind fun y => if SeqAt.shaped x && SeqAt.shaped y then some (PyData.eqv x y) else none
def inD (S : Store) (a b : D) : Option Bool :=
  (toPy (flat S a)).bind fun x => (match flat S b with
    | .tup ds => toPys ds
    | .lst ds => toPys ds
    | _ => none).bind fun ys => if SeqAt.shaped x && SeqAt.shaped (.list ys) then some (ys.any fun z => PyData.eqv z x) else none
def mulOk (a b : Int) : Bool :=
  !(decide (Builtin.Int.intBits a > shortFactorBits) && decide (Builtin.Int.intBits b > shortFactorBits) && Builtin.Int.intTooBig (Builtin.Int.intBits a + Builtin.Int.intBits b))
def divOk (a b : Int) : Bool := decide (0 < b) && !Builtin.divisionGoesByPylong a b
def most : Nat := 1000
def binD (S : Store) : Op → D → D → Option D
  | .add, .int i, .int j => some (.int (i + j))
  | .sub, .int i, .int j => some (.int (i - j))
  | .mul, .int i, .int j => if mulOk i j then some (.int (i * j)) else none
  | .fdiv, .int i, .int j => if divOk i j then some (.int (i / j)) else none
  | .mod, .int i, .int j => if j = 0 then none else some (.int (i.fmod j))
  | .pow, .int i, .int j => if i = 10 ∧ j = 18 then some (.int 1000000000000000000) else none
  | .add, .tup xs, .tup ys => if xs.length + ys.length ≤ most then some (.tup (xs ++ ys)) else none
  | .add, .lst xs, .lst ys => if xs.length + ys.length ≤ most then some (.lst (xs ++ ys)) else none
  | .mul, .lst xs, .int k => if xs.length * k.toNat ≤ most ∧ k ≤ 1000 ∧ 0 ≤ k then some (.lst (List.replicate k.toNat xs).flatten) else none
  | .mul, .tup xs, .int k => if xs ≠ [] ∧ 1 ≤ k ∧ k ≤ 1000 ∧ xs.length * k.toNat ≤ most then some (.tup (List.replicate k.toNat xs).flatten) else none
  | _, _, _ => none
def cmpD (S : Store) : Cm → D → D → Option Bool
  | .eq, a, b => eqD S a b
  | .ne, a, b => (eqD S a b).map (!·)
  | .isIn, a, b => inD S a b
  | .ntIn, a, b => (inD S a b).map (!·)
  | .lt, .int i, .int j => some (decide (i < j))
  | .le, .int i, .int j => some (decide (i ≤ j))
  | .gt, .int i, .int j => some (decide (j < i))
  | .ge, .int i, .int j => some (decide (j ≤ i))
  | .isN, a, .non => some (match a with | .non => true | _ => false)
  | .ntN, a, .non => some (match a with | .non => false | _ => true)
  | _, _, _ => none
def tyD (S : Store) : D → Option (Option Ty)
  | .non => some none
  | .bl _ => some (some .bool)
  | .int _ => some (some .int)
  | .str _ => some (some .str)
  | .tup _ => some (some .tuple)
  | .lst _ => some (some .list)
  | .fz _ => some (some .list)
  | .cell n => match S[n]? with
    | some (.lst _) => some (some .list)
    | _ => none
def isTy : Option Ty → Ty → Bool
  | some .int, .int => true
  | some .bool, .bool => true
  | some .bool, .int => true
  | some .str, .str => true
  | some .list, .list => true
  | some .tuple, .tuple => true
  | _, _ => false
def cutL {α : Type} (xs : List α) (lo hi : Option Int) : List α := (xs.drop (HT.sIx xs.length 0 lo)).take (HT.sIx xs.length xs.length hi - HT.sIx xs.length 0 lo)
def idxL {α : Type} (xs : List α) (i : Int) : Option α := (ixN xs.length i).bind fun j => xs[j]?
def sg : List D → Option D
  | [d] => some d
  | _ => none
def keyOf : D → Option (List Int)
  | .tup ds => intsOf ds
  | _ => none
def lookK (kvs : List (List Int × D)) (k : List Int) : Option D := (kvs.find? fun kv => decide (kv.1 = k)).map (·.2)
def putK (kvs : List (List Int × D)) (k : List Int) (v : D) : List (List Int × D) :=
  if (kvs.any fun kv => decide (kv.1 = k)) = true then kvs.map (fun kv => if kv.1 = k then (kv.1, v) else kv) else kvs ++ [(k, v)]
def setT : Tg → List D → Env → Option Env
  | .nm i, ds, ρ => match ds with
    | [d] => if i < ρ.length then some (ρ.set i (some d)) else none
    | _ => none
  | .tnil, ds, ρ => match ds with
    | [] => some ρ
    | _ => none
  | .tcons a b, ds, ρ => match ds with
    | d :: r => (setT a [d] ρ).bind fun ρ1 => setT b r ρ1
    | _ => none
  | .tup a, ds, ρ => match ds with
    | [.tup xs] => setT a xs ρ
    | _ => none
def wipeE (ρ : Env) : List Nat → Env
  | [] => ρ
  | v :: vs => (wipeE ρ vs).set v none
structure GC where
  call : Nat → List D → Store → Option (D × Store)
  cs : List D
  W : Nat
def insI (i : Int) : List Int → List Int
  | [] => [i]
  | j :: r => if i ≤ j then i :: j :: r else j :: insI i r
def sortI : List Int → List Int
  | [] => []
  | i :: r => insI i (sortI r)
def maxI : Int → List Int → Int
  | m, [] => m
  | m, j :: r => maxI (if m < j then j else m) r
def rngD (a b : Int) : List D := (List.range (b - a).toNat).map fun i => .int (a + (i : Nat))
def zipD : List D → List D → List D
  | x :: xs, y :: ys => .tup [x, y] :: zipD xs ys
  | _, _ => []
def enumD : Nat → List D → List D
  | _, [] => []
  | n, x :: xs => .tup [.int (n : Nat), x] :: enumD (n + 1) xs
/-- a cell that a loop walks is as it was -/
def kept (g : List Nat) (S S' : Store) : Prop := ∀ n ∈ g, S'[n]? = S[n]?
open Classical in
/-- the loop of a comprehension -/
noncomputable def lcL (elt cnd : Env → Store → Option (D × Store)) (tg : Tg) (ρ : Env) (g : List Nat) : List D → Store → List D → Option (List D × Store)
  | [], S, acc => some (acc, S)
  | d :: ds, S, acc => (setT tg [d] ρ).bind fun ρ1 => (cnd ρ1 S).bind fun p => match p.1 with
    | .bl true => (elt ρ1 p.2).bind fun q => if acc.length < most ∧ kept g S q.2 then lcL elt cnd tg ρ g ds q.2 (acc ++ [q.1]) else none
    | .bl false => if kept g S p.2 then lcL elt cnd tg ρ g ds p.2 acc else none
    | _ => none
def guardOf : D → List Nat
  | .cell n => [n]
  | _ => []
/-- what comes of an iterable: its items, behind a tuple of the cells that must stay -/
def packG (g : List Nat) (xs : List D) : List D := .tup (g.map .cell) :: xs
def gNat : List D → List Nat
  | [] => []
  | .cell n :: r => n :: gNat r
  | _ :: r => gNat r
def unG : List D → Option (List Nat × List D)
  | .tup g :: xs => some (gNat g, xs)
  | _ => none
def oInt : List D → Option (Option Int)
  | [] => some none
  | [.int i] => some (some i)
  | _ => none
noncomputable def ev (G : GC) : Ex → Env → Store → Option (List D × Store)
  | .nil, _, S => some ([], S)
  | .cons a b, ρ, S => (ev G a ρ S).bind fun p => (ev G b ρ p.2).bind fun q => some (p.1 ++ q.1, q.2)
  | .star a, ρ, S => (ev G a ρ S).bind fun p => (sg p.1).bind fun d => (seqOf p.2 d).bind fun ds => some (ds, p.2)
  | .var i, ρ, S => match ρ[i]? with
    | some (some d) => some ([d], S)
    | _ => none
  | .int i, _, S => some ([.int i], S)
  | .bl b, _, S => some ([.bl b], S)
  | .non, _, S => some ([.non], S)
  | .str s, _, S => some ([.str s], S)
  | .glob g, _, S => (G.cs[g]?).bind fun d => some ([d], S)
  | .bin o a b, ρ, S => (ev G a ρ S).bind fun p => (sg p.1).bind fun x => (ev G b ρ p.2).bind fun q => (sg q.1).bind fun y => (binD q.2 o x y).bind fun z => some ([z], q.2)
  | .neg a, ρ, S => (ev G a ρ S).bind fun p => match p.1 with
    | [.int i] => some ([.int (-i)], p.2)
    | _ => none
  | .nt a, ρ, S => (ev G a ρ S).bind fun p => match p.1 with
    | [.bl b] => some ([.bl (!b)], p.2)
    | _ => none
  | .cmp c a b, ρ, S => (ev G a ρ S).bind fun p => (sg p.1).bind fun x => (ev G b ρ p.2).bind fun q => (sg q.1).bind fun y => (cmpD q.2 c x y).bind fun z => some ([.bl z], q.2)
  | .and a b, ρ, S => (ev G a ρ S).bind fun p => match p.1 with
    | [.bl true] => ev G b ρ p.2
    | [.bl false] => some ([.bl false], p.2)
    | _ => none
  | .or a b, ρ, S => (ev G a ρ S).bind fun p => match p.1 with
    | [.bl true] => some ([.bl true], p.2)
    | [.bl false] => ev G b ρ p.2
    | _ => none
  | .ite c a b, ρ, S => (ev G c ρ S).bind fun p => match p.1 with
    | [.bl true] => ev G a ρ p.2
    | [.bl false] => ev G b ρ p.2
    | _ => none
  | .tupE es, ρ, S => (ev G es ρ S).bind fun p => if p.1.length ≤ most then some ([.tup p.1], p.2) else none
  | .lstE es, ρ, S => (ev G es ρ S).bind fun p => if p.1.length ≤ most then some ([.lst p.1], p.2) else none
  | .mk a, ρ, S => (ev G a ρ S).bind fun p => match p.1 with
    | [.lst ds] => some ([.cell p.2.length], p.2 ++ [.lst ds])
    | _ => none
  | .orL a b, ρ, S => (ev G a ρ S).bind fun p => match p.1 with
    | [.lst []] => ev G b ρ p.2
    | [.lst (d :: ds)] => some ([.lst (d :: ds)], p.2)
    | _ => none
  | .idx a b, ρ, S => (ev G a ρ S).bind fun p => (sg p.1).bind fun x => (ev G b ρ p.2).bind fun q => match q.1 with
    | [.int i] => (seqOf q.2 x).bind fun xs => (idxL xs i).bind fun z => some ([z], q.2)
    | _ => none
  | .sl a lo hi, ρ, S => (ev G a ρ S).bind fun p => (sg p.1).bind fun x => (ev G lo ρ p.2).bind fun q => (oInt q.1).bind fun l => (ev G hi ρ q.2).bind fun r => (oInt r.1).bind fun h => match flat r.2 x with
    | .tup ds => some ([.tup (cutL ds l h)], r.2)
    | .lst ds => some ([.lst (cutL ds l h)], r.2)
    | .fz ds => some ([.lst (cutL ds l h)], r.2)
    | _ => none
  | .lc elt tg it cnd own, ρ, S => (ev G it ρ S).bind fun p => (unG p.1).bind fun u =>
      (lcL (fun ρ S => (ev G elt ρ S).bind fun p => (sg p.1).bind fun d => some (d, p.2)) (fun ρ S => (ev G cnd ρ S).bind fun p => (sg p.1).bind fun d => some (d, p.2)) tg (wipeE ρ own) u.1 u.2 p.2 []).bind fun q => some ([.lst q.1], q.2)
  | .it a, ρ, S => (ev G a ρ S).bind fun p => (sg p.1).bind fun d => (seqOf p.2 d).bind fun ds => some (packG (guardOf d) ds, p.2)
  | .rng1 a, ρ, S => (ev G a ρ S).bind fun p => match p.1 with
    | [.int j] => if j ≤ 1000 ∧ -1000 ≤ j then some (packG [] (rngD 0 j), p.2) else none
    | _ => none
  | .rng2 a b, ρ, S => (ev G a ρ S).bind fun p => (ev G b ρ p.2).bind fun q => match p.1, q.1 with
    | [.int i], [.int j] => if j ≤ 1000 ∧ -1000 ≤ j ∧ i ≤ 1000 ∧ -1000 ≤ i then some (packG [] (rngD i j), q.2) else none
    | _, _ => none
  | .zip a b, ρ, S => (ev G a ρ S).bind fun p => (sg p.1).bind fun x => (ev G b ρ p.2).bind fun q => (sg q.1).bind fun y => (seqOf q.2 x).bind fun xs => (seqOf q.2 y).bind fun ys => some (packG (guardOf x ++ guardOf y) (zipD xs ys), q.2)
  | .enm a, ρ, S => (ev G a ρ S).bind fun p => (sg p.1).bind fun d => (seqOf p.2 d).bind fun ds => some (packG (guardOf d) (enumD 0 ds), p.2)
  | .call f es, ρ, S => (ev G es ρ S).bind fun p => (G.call f p.1 p.2).bind fun q => some ([q.1], q.2)
  | .len a, ρ, S => (ev G a ρ S).bind fun p => (sg p.1).bind fun d => (seqOf p.2 d).bind fun ds => some ([.int (ds.length : Nat)], p.2)
  | .tuple a, ρ, S => (ev G a ρ S).bind fun p => (sg p.1).bind fun d => (seqOf p.2 d).bind fun ds => some ([.tup ds], p.2)
  | .list a, ρ, S => (ev G a ρ S).bind fun p => (sg p.1).bind fun d => (seqOf p.2 d).bind fun ds => some ([.lst ds], p.2)
  | .listR a, ρ, S => (ev G a ρ S).bind fun p => (unG p.1).bind fun u => some ([.lst u.2], p.2)
  | .tupleR a, ρ, S => (ev G a ρ S).bind fun p => (unG p.1).bind fun u => some ([.tup u.2], p.2)
  | .absE a, ρ, S => (ev G a ρ S).bind fun p => match p.1 with
    | [.int i] => some ([.int (if i < 0 then -i else i)], p.2)
    | _ => none
  | .intE a, ρ, S => (ev G a ρ S).bind fun p => match p.1 with
    | [.int i] => some ([.int i], p.2)
    | [.bl b] => some ([.int (if b then 1 else 0)], p.2)
    | _ => none
  | .allE a, ρ, S => (ev G a ρ S).bind fun p => match p.1 with
    | [.lst ds] => (blsOf ds).bind fun bs => some ([.bl (bs.all id)], p.2)
    | _ => none
  | .anyE a, ρ, S => (ev G a ρ S).bind fun p => match p.1 with
    | [.lst ds] => (blsOf ds).bind fun bs => some ([.bl (bs.any id)], p.2)
    | _ => none
  | .maxE a, ρ, S => (ev G a ρ S).bind fun p => match p.1 with
    | [.lst ds] => (intsOf ds).bind fun ns => match ns with
      | [] => none
      | m :: r => some ([.int (maxI m r)], p.2)
    | _ => none
  | .min2 a b, ρ, S => (ev G a ρ S).bind fun p => (ev G b ρ p.2).bind fun q => match p.1, q.1 with
    | [.int i], [.int j] => some ([.int (if j < i then j else i)], q.2)
    | _, _ => none
  | .sorted a, ρ, S => (ev G a ρ S).bind fun p => (sg p.1).bind fun d => (seqOf p.2 d).bind fun ds => (intsOf ds).bind fun ns => if ns.length < 64 then some ([.lst ((sortI ns).map .int)], p.2) else none
  | .isi ts a, ρ, S => (ev G a ρ S).bind fun p => (sg p.1).bind fun d => (tyD p.2 d).bind fun k => some ([.bl (ts.any fun t => isTy k t)], p.2)
  | .popAt o i, ρ, S => (ev G o ρ S).bind fun p => (ev G i ρ p.2).bind fun q => match p.1, q.1 with
    | [.cell n], [.int i] => match p.2[n]?, q.2[n]? with
      | some (.lst _), some (.lst ds) => if 0 ≤ i ∧ i < ds.length ∧ i < 1000 then (ds[i.toNat]?).bind fun d => some ([d], q.2.set n (.lst (ds.eraseIdx i.toNat))) else none
      | _, _ => none
    | _, _ => none
  | .dget o k, ρ, S => (ev G o ρ S).bind fun p => (ev G k ρ p.2).bind fun q => match p.1, q.1 with
    | [.cell n], [d] => (keyOf d).bind fun k => match q.2[n]? with
      | some (.dct kvs) => (lookK kvs k).bind fun v => some ([v], q.2)
      | some (.lck kvs) => (lookK kvs k).bind fun v => some ([v], q.2)
      | _ => none
    | _, _ => none
  | .dgetD o k e, ρ, S => (ev G o ρ S).bind fun p => (ev G k ρ p.2).bind fun q => (ev G e ρ q.2).bind fun r => match p.1, q.1, r.1 with
    | [.cell n], [d], [z] => (keyOf d).bind fun k => match p.2[n]?, r.2[n]? with
      | some (.dct _), some (.dct kvs) => some ([(lookK kvs k).getD z], r.2)
      | _, _ => none
    | _, _, _ => none
  | .dnew, _, S => some ([.cell S.length], S ++ [.dct []])
  | .ddisp k e, ρ, S => (ev G k ρ S).bind fun p => (ev G e ρ p.2).bind fun q => match p.1, q.1 with
    | [d], [z] => (keyOf d).bind fun k => some ([.cell q.2.length], q.2 ++ [.dct [(k, z)]])
    | _, _ => none
end Ev

set_option Elab.async false
set_option linter.all false
set_option maxRecDepth 100000
set_option maxHeartbeats 4000000
set_option autoImplicit false
namespace Ev
open PySem PySem.Spec PyProof.Rows L2

/-! ## what stands for what -/
def KL (K : PySem.W.Frag) (a : Addr) (xs : List V) : Prop := ∀ H : Hp, SqL K H a xs
def KT (K : PySem.W.Frag) (a : Addr) (xs : List V) : Prop := ∀ H : Hp, SqT K H a xs
/-- the addresses of the cells, and those that nothing speaks of -/
structure Ad where
  c : List Addr
  h : List Addr
def Ad.Out (m : Ad) (a : Addr) : Prop := a ∉ m.c ∧ a ∉ m.h
def Ad.add (m : Ad) (p : Addr) : Ad := ⟨m.c ++ [p], m.h⟩
def Ad.hide (m : Ad) (p : Addr) : Ad := ⟨m.c, p :: m.h⟩
mutual
inductive Is (K : PySem.W.Frag) (m : Ad) (H : Hp) : V → D → Prop
  | non : Is K m H .non .non
  | bl (b : Bool) : Is K m H (.bl b) (.bl b)
  | int (i : Int) : Is K m H (.int i) (.int i)
  | str (s : Str) : Is K m H (.str s) (.str s)
  | tup {a : Addr} {xs : List V} {ds : List D} : (m.Out a ∧ H a = some (.tup xs)) ∨ KT K a xs → IsAll K m H xs ds → Is K m H (.ref a) (.tup ds)
  | lst {a : Addr} {xs : List V} {ds : List D} : m.Out a → H a = some (.lst xs) → IsAll K m H xs ds → Is K m H (.ref a) (.lst ds)
  | fz {a : Addr} {xs : List V} {ds : List D} : (m.Out a ∧ Rd H a (.lst xs)) ∨ KL K a xs → IsAll K m H xs ds → Is K m H (.ref a) (.fz ds)
  | cell {n : Nat} {a : Addr} : m.c[n]? = some a → Is K m H (.ref a) (.cell n)
inductive IsAll (K : PySem.W.Frag) (m : Ad) (H : Hp) : List V → List D → Prop
  | nil : IsAll K m H [] []
  | cons {v : V} {vs : List V} {d : D} {ds : List D} : Is K m H v d → IsAll K m H vs ds → IsAll K m H (v :: vs) (d :: ds)
end
section
variable {K : PySem.W.Frag} {μ μ' μ'' : Ad} {H H' H'' : Hp} {v : V} {d : D} {vs : List V} {ds : List D}
/-- what each value leans on stays -/
structure Kp (μ : Ad) (H : Hp) (μ' : Ad) (H' : Hp) : Prop where
  rd : ∀ a u, μ.Out a → Rd H a u → μ'.Out a ∧ Rd H' a u
  at_ : ∀ a u, μ.Out a → H a = some u → H' a = some u
  get : ∀ (i : Nat) a, μ.c[i]? = some a → μ'.c[i]? = some a
mutual
theorem Is.kp (n : Kp μ H μ' H') : ∀ {d : D} {v : V}, Is K μ H v d → Is K μ' H' v d
  | _, _, .non => .non
  | _, _, .bl b => .bl b
  | _, _, .int i => .int i
  | _, _, .str s => .str s
  | _, _, .tup h a => .tup (h.elim (fun h => .inl ⟨(n.rd _ _ h.1 (.inl h.2)).1, n.at_ _ _ h.1 h.2⟩) .inr) (IsAll.kp n a)
  | _, _, .lst h e a => .lst (n.rd _ _ h (.inl e)).1 (n.at_ _ _ h e) (IsAll.kp n a)
  | _, _, .fz h a => .fz (h.elim (fun h => .inl (n.rd _ _ h.1 h.2)) .inr) (IsAll.kp n a)
  | _, _, .cell h => .cell (n.get _ _ h)
theorem IsAll.kp (n : Kp μ H μ' H') : ∀ {ds : List D} {vs : List V}, IsAll K μ H vs ds → IsAll K μ' H' vs ds
  | _, _, .nil => .nil
  | _, _, .cons a b => .cons (Is.kp n a) (IsAll.kp n b)
end
/-- the heap and the cells go on -/
structure Nxt (μ : Ad) (H : Hp) (μ' : Ad) (H' : Hp) : Prop where
  more : ∃ ν, μ'.c = μ.c ++ ν ∧ ∀ a ∈ ν, μ.Out a ∧ H a = none
  hid : μ'.h = μ.h
  keep : ∀ b o, μ.Out b → H b = some o → H' b = some o
  same : ∀ b ∈ μ.h, H' b = H b
  frz : ∀ b o u, H b = some (.frz o u) → H' b = some (.frz o u)
theorem Nxt.refl : Nxt μ H μ H := ⟨⟨[], by simp, by simp⟩, rfl, fun _ _ _ h => h, fun _ _ => rfl, fun _ _ _ h => h⟩
theorem Nxt.out (n : Nxt μ H μ' H') {b : Addr} {o : HO} (h : μ.Out b) (e : H b = some o) : μ'.Out b := by
  obtain ⟨⟨ν, e1, h1⟩, e2, _, _, _⟩ := n
  unfold Ad.Out
  rw [e1, e2]
  refine ⟨fun hb => ?_, h.2⟩
  rcases List.mem_append.mp hb with z | z
  · exact h.1 z
  · rw [(h1 b z).2] at e; cases e
theorem Nxt.trans (n : Nxt μ H μ' H') (m : Nxt μ' H' μ'' H'') : Nxt μ H μ'' H'' := by
  refine ⟨?_, m.hid.trans n.hid, fun b o h e => m.keep b o (n.out h e) (n.keep b o h e), fun b hb => (m.same b (by rw [n.hid]; exact hb)).trans (n.same b hb), fun b o u e => m.frz b o u (n.frz b o u e)⟩
  obtain ⟨⟨ν, e1, h1⟩, k0, k1, _, _⟩ := n
  obtain ⟨⟨ν', e2, h2⟩, _, k2, _, _⟩ := m
  refine ⟨ν ++ ν', by rw [e2, e1, List.append_assoc], fun a ha => ?_⟩
  rcases List.mem_append.mp ha with z | z
  · exact h1 a z
  · obtain ⟨q1, q2⟩ := h2 a z
    have q3 : μ.Out a := ⟨fun y => q1.1 (by rw [e1]; exact List.mem_append_left _ y), by rw [← k0]; exact q1.2⟩
    refine ⟨q3, ?_⟩
    cases hq : H a with
    | none => rfl
    | some o => rw [k1 a o q3 hq] at q2; cases q2
theorem Nxt.ext (h : ∀ b o, H b = some o → H' b = some o) (hs : ∀ b ∈ μ.h, H' b = H b) : Nxt μ H μ H' := ⟨⟨[], by simp, by simp⟩, rfl, fun b o _ e => h b o e, hs, fun b o u e => h b _ e⟩
theorem Nxt.new {p : Addr} {o : HO} (h : H p = none) (hp : μ.Out p) : Nxt μ H μ (upd H p o) :=
  Nxt.ext (fun b u e => by rw [upd_ne (ne_of_none e h)]; exact e) fun b hb => by rw [upd_ne (fun z => hp.2 (by rw [← z]; exact hb))]
theorem Nxt.newC {p : Addr} {o : HO} (h : H p = none) (hp : μ.Out p) : Nxt μ H (μ.add p) (upd H p o) :=
  ⟨⟨[p], rfl, fun a ha => by rw [List.mem_singleton] at ha; subst ha; exact ⟨hp, h⟩⟩, rfl, fun b u _ e => by rw [upd_ne (ne_of_none e h)]; exact e, fun b hb => by rw [upd_ne (fun z => hp.2 (by rw [← z]; exact hb))], fun b o u e => by rw [upd_ne (ne_of_none e h)]; exact e⟩
theorem Nxt.cell {p : Addr} {o : HO} (h : p ∈ μ.c) (hh : p ∉ μ.h) (hf : ∀ o u, H p ≠ some (.frz o u)) : Nxt μ H μ (upd H p o) :=
  ⟨⟨[], by simp, by simp⟩, rfl, fun b u hb e => by rw [upd_ne (fun z => hb.1 (by rw [z]; exact h))]; exact e, fun b hb => by rw [upd_ne (fun z => hh (by rw [← z]; exact hb))], fun b o u e => by rw [upd_ne (fun z => hf o u (by rw [← z]; exact e))]; exact e⟩
theorem Nxt.get (n : Nxt μ H μ' H') {i : Nat} {a : Addr} (h : μ.c[i]? = some a) : μ'.c[i]? = some a := by
  obtain ⟨⟨ν, e, _⟩, _⟩ := n
  rw [e, List.getElem?_append_left (List.getElem?_eq_some_iff.mp h).1]; exact h
theorem Nxt.kp (n : Nxt μ H μ' H') : Kp μ H μ' H' := by
  refine ⟨fun a u h r => ?_, fun a u h r => n.keep _ _ h r, fun i a h => n.get h⟩
  rcases r with r | ⟨o, r⟩
  · exact ⟨n.out h r, .inl (n.keep _ _ h r)⟩
  · exact ⟨n.out h r, .inr ⟨o, n.keep _ _ h r⟩⟩
theorem Is.mono (n : Nxt μ H μ' H') (h : Is K μ H v d) : Is K μ' H' v d := h.kp n.kp
theorem IsAll.mono (n : Nxt μ H μ' H') (h : IsAll K μ H vs ds) : IsAll K μ' H' vs ds := h.kp n.kp
theorem IsAll.len : ∀ {ds : List D} {vs : List V}, IsAll K μ H vs ds → vs.length = ds.length
  | _, _, .nil => rfl
  | _, _, .cons _ b => by rw [List.length_cons, List.length_cons, b.len]
theorem IsAll.app : ∀ {ds es : List D} {vs us : List V}, IsAll K μ H vs ds → IsAll K μ H us es → IsAll K μ H (vs ++ us) (ds ++ es)
  | _, _, _, _, .nil, h => h
  | _, _, _, _, .cons a b, h => .cons a (b.app h)
theorem IsAll.get : ∀ {ds : List D} {vs : List V} {i : Nat} {d : D}, IsAll K μ H vs ds → ds[i]? = some d → ∃ v, vs[i]? = some v ∧ Is K μ H v d
  | _, _, _, _, .nil, e => by simp at e
  | _, _, 0, _, .cons a _, e => by simp at e; subst e; exact ⟨_, rfl, a⟩
  | _, _, i + 1, _, .cons _ b, e => by
    obtain ⟨v, h1, h2⟩ := IsAll.get (i := i) b (by simpa using e)
    exact ⟨v, by simpa using h1, h2⟩
theorem IsAll.set : ∀ {ds : List D} {vs : List V} (i : Nat), IsAll K μ H vs ds → Is K μ H v d → IsAll K μ H (vs.set i v) (ds.set i d)
  | _, _, _, .nil, _ => .nil
  | _, _, 0, .cons _ b, h => .cons h b
  | _, _, i + 1, .cons a b, h => .cons a (b.set i h)
theorem IsAll.drop : ∀ {ds : List D} {vs : List V} (n : Nat), IsAll K μ H vs ds → IsAll K μ H (vs.drop n) (ds.drop n)
  | _, _, 0, h => h
  | _, _, _ + 1, .nil => .nil
  | _, _, n + 1, .cons _ b => b.drop n
theorem IsAll.take : ∀ {ds : List D} {vs : List V} (n : Nat), IsAll K μ H vs ds → IsAll K μ H (vs.take n) (ds.take n)
  | _, _, 0, _ => .nil
  | _, _, _ + 1, .nil => .nil
  | _, _, n + 1, .cons a b => .cons a (b.take n)
theorem IsAll.erase : ∀ {ds : List D} {vs : List V} (n : Nat), IsAll K μ H vs ds → IsAll K μ H (vs.eraseIdx n) (ds.eraseIdx n)
  | _, _, _, .nil => .nil
  | _, _, 0, .cons _ b => b
  | _, _, n + 1, .cons a b => .cons a (b.erase n)
theorem IsAll.cut (h : IsAll K μ H vs ds) (lo hi : Option Int) : IsAll K μ H (cutV vs lo hi) (cutL ds lo hi) := by
  unfold cutV cutL
  rw [h.len]
  exact (h.drop _).take _
theorem IsAll.atI (h : IsAll K μ H vs ds) {i : Int} (e : idxL ds i = some d) : ∃ v, L2.atI vs i = some v ∧ Is K μ H v d := by
  unfold idxL at e
  unfold L2.atI
  rw [h.len]
  cases hk : ixN ds.length i with
  | none => rw [hk] at e; cases e
  | some j =>
    rw [hk] at e
    exact h.get e
theorem IsAll.ints : ∀ {ds : List D} {vs : List V} {ns : List Int}, IsAll K μ H vs ds → intsOf ds = some ns → vs = ns.map V.int
  | _, _, _, .nil, e => by cases e; rfl
  | _, _, _, .cons (d := d) (ds := ds) a b, e => by
    cases a with
    | int i =>
      simp only [intsOf, Option.map_eq_some_iff] at e
      obtain ⟨r, h1, rfl⟩ := e
      rw [b.ints h1]; rfl
    | _ => simp [intsOf] at e
theorem IsAll.bls : ∀ {ds : List D} {vs : List V} {ns : List Bool}, IsAll K μ H vs ds → blsOf ds = some ns → vs = ns.map V.bl
  | _, _, _, .nil, e => by cases e; rfl
  | _, _, _, .cons (d := d) (ds := ds) a b, e => by
    cases a with
    | bl i =>
      simp only [blsOf, Option.map_eq_some_iff] at e
      obtain ⟨r, h1, rfl⟩ := e
      rw [b.bls h1]; rfl
    | _ => simp [blsOf] at e
theorem isAll_ints : ∀ (ns : List Int), IsAll K μ H (ns.map V.int) (ns.map D.int)
  | [] => .nil
  | n :: r => .cons (.int n) (isAll_ints r)
theorem IsAll.rep (h : IsAll K μ H vs ds) : ∀ k : Nat, IsAll K μ H (List.replicate k vs).flatten (List.replicate k ds).flatten
  | 0 => .nil
  | k + 1 => by rw [List.replicate_succ, List.replicate_succ, List.flatten_cons, List.flatten_cons]; exact h.app (h.rep k)
/-! ## cells, slots -/
inductive DctR (K : PySem.W.Frag) (m : Ad) (H : Hp) : List (List Key × V) → List (List Int × D) → Prop
  | nil : DctR K m H [] []
  | cons {k : List Int} {v : V} {d : D} {kv : List (List Key × V)} {kd : List (List Int × D)} : Is K m H v d → DctR K m H kv kd → DctR K m H ((k.map Sum.inl, v) :: kv) ((k, d) :: kd)
theorem DctR.kp (n : Kp μ H μ' H') : ∀ {kv : List (List Key × V)} {kd : List (List Int × D)}, DctR K μ H kv kd → DctR K μ' H' kv kd
  | _, _, .nil => .nil
  | _, _, .cons a b => .cons (a.kp n) (b.kp n)
def CellR (K : PySem.W.Frag) (m : Ad) (H : Hp) (a : Addr) : C → Prop
  | .lst ds => ∃ vs, H a = some (.lst vs) ∧ IsAll K m H vs ds
  | .dct kd => ∃ kv, H a = some (.dT kv) ∧ DctR K m H kv kd
  | .lck kd => ∃ o kv, H a = some (.frz o (.dT kv)) ∧ DctR K m H kv kd
structure StR (K : PySem.W.Frag) (m : Ad) (S : Store) (H : Hp) : Prop where
  len : m.c.length = S.length
  nd : m.c.Nodup
  at_ : ∀ (n : Nat) (a : Addr) (c : C), m.c[n]? = some a → S[n]? = some c → CellR K m H a c
  hid : ∀ a ∈ m.h, a ∉ m.c ∧ ∃ o, H a = some o ∧ ∀ xs, o ≠ .tup xs
structure EnvR (K : PySem.W.Frag) (m : Ad) (H : Hp) (σ : L2.St) (ρ : Env) : Prop where
  len : σ.length = ρ.length
  at_ : ∀ (i : Nat) (d : D), ρ[i]? = some (some d) → ∃ v, σ[i]? = some (some v) ∧ Is K m H v d
variable {S S' : Store} {ρ : Env} {σ : L2.St}
theorem EnvR.kp (e : EnvR K μ H σ ρ) (n : Kp μ H μ' H') : EnvR K μ' H' σ ρ := ⟨e.len, fun i d h => let ⟨v, h1, h2⟩ := e.at_ i d h; ⟨v, h1, h2.kp n⟩⟩
theorem EnvR.mono (e : EnvR K μ H σ ρ) (n : Nxt μ H μ' H') : EnvR K μ' H' σ ρ := e.kp n.kp
theorem StR.ex (s : StR K μ S H) {n : Nat} {c : C} (h : S[n]? = some c) : ∃ a, μ.c[n]? = some a ∧ CellR K μ H a c := by
  have hl : n < μ.c.length := by rw [s.len]; exact (List.getElem?_eq_some_iff.mp h).1
  exact ⟨_, List.getElem?_eq_getElem hl, s.at_ n _ c (List.getElem?_eq_getElem hl) h⟩
theorem StR.exA (s : StR K μ S H) {n : Nat} {a : Addr} (h : μ.c[n]? = some a) : ∃ c, S[n]? = some c ∧ CellR K μ H a c := by
  have hl : n < S.length := by rw [← s.len]; exact (List.getElem?_eq_some_iff.mp h).1
  exact ⟨_, List.getElem?_eq_getElem hl, s.at_ n a _ h (List.getElem?_eq_getElem hl)⟩
theorem CellR.has {a : Addr} {c : C} (hc : CellR K μ H a c) : ∃ o, H a = some o := by
  cases c with
  | lst ds => obtain ⟨_, e, _⟩ := hc; exact ⟨_, e⟩
  | dct ds => obtain ⟨_, e, _⟩ := hc; exact ⟨_, e⟩
  | lck ds => obtain ⟨_, _, e, _⟩ := hc; exact ⟨_, e⟩
theorem StR.has (s : StR K μ S H) {a : Addr} (h : a ∈ μ.c) : ∃ o, H a = some o := by
  obtain ⟨n, hn⟩ := List.getElem?_of_mem h
  obtain ⟨c, _, hc⟩ := s.exA hn
  exact hc.has
theorem StR.notIn (s : StR K μ S H) {p : Addr} (h : H p = none) : μ.Out p := by
  refine ⟨fun z => ?_, fun z => ?_⟩
  · obtain ⟨o, e⟩ := s.has z
    rw [h] at e; cases e
  · obtain ⟨_, o, e, _⟩ := s.hid p z
    rw [h] at e; cases e
theorem StR.noH (s : StR K μ S H) {p : Addr} (h : p ∈ μ.c) : p ∉ μ.h := fun z => (s.hid p z).1 h
theorem Nxt.newS {p : Addr} {o : HO} (s : StR K μ S H) (h : H p = none) : Nxt μ H μ (upd H p o) := Nxt.new h (s.notIn h)
theorem CellR.kp {a : Addr} {c : C} (h : CellR K μ H a c) (n : Kp μ H μ' H') (e : H' a = H a) : CellR K μ' H' a c := by
  cases c with
  | lst ds => obtain ⟨vs, q, r⟩ := h; exact ⟨vs, by rw [e]; exact q, r.kp n⟩
  | dct kd => obtain ⟨vs, q, r⟩ := h; exact ⟨vs, by rw [e]; exact q, r.kp n⟩
  | lck kd => obtain ⟨o, vs, q, r⟩ := h; exact ⟨o, vs, by rw [e]; exact q, r.kp n⟩
/-- a new object that no cell is -/
theorem StR.ext (s : StR K μ S H) (h : ∀ b o, H b = some o → H' b = some o) : StR K μ S H' := by
  have n : Kp μ H μ H' := ⟨fun a u q r => ⟨q, r.elim (fun r => .inl (h _ _ r)) fun ⟨o, r⟩ => .inr ⟨o, h _ _ r⟩⟩, fun a u _ r => h _ _ r, fun _ _ q => q⟩
  exact ⟨s.len, s.nd, fun n' a c h1 h2 => (s.at_ n' a c h1 h2).kp n (by
    obtain ⟨o, e⟩ := s.has (List.mem_of_getElem? h1)
    rw [h _ _ e, e]), fun a ha => ⟨(s.hid a ha).1, let ⟨o, e, z⟩ := (s.hid a ha).2; ⟨o, h _ _ e, z⟩⟩⟩
theorem StR.new (s : StR K μ S H) {p : Addr} {o : HO} (h : H p = none) : StR K μ S (upd H p o) := s.ext fun b u e => by rw [upd_ne (ne_of_none e h)]; exact e
/-- a new cell -/
theorem StR.newC (s : StR K μ S H) {p : Addr} {o : HO} {c : C} (h : H p = none) (hc : CellR K (μ.add p) (upd H p o) p c) : StR K (μ.add p) (S ++ [c]) (upd H p o) := by
  have hp := s.notIn h
  have nx : Nxt μ H (μ.add p) (upd H p o) := Nxt.newC h hp
  refine ⟨by simp [Ad.add, s.len], ?_, fun n a c' h1 h2 => ?_, fun a ha => ?_⟩
  · show (μ.c ++ [p]).Nodup
    rw [List.nodup_append]
    refine ⟨s.nd, by simp, fun a ha b hb => ?_⟩
    rw [List.mem_singleton] at hb
    subst hb
    intro z; subst z; exact hp.1 ha
  · have h1 : (μ.c ++ [p])[n]? = some a := h1
    by_cases hn : n < μ.c.length
    · rw [List.getElem?_append_left hn] at h1
      rw [List.getElem?_append_left (by rw [← s.len]; exact hn)] at h2
      refine (s.at_ n a c' h1 h2).kp nx.kp ?_
      obtain ⟨o', e⟩ := s.has (List.mem_of_getElem? h1)
      rw [upd_ne (ne_of_none e h)]
    · have e1 : n = μ.c.length := by
        have := (List.getElem?_eq_some_iff.mp h1).1
        simp at this; omega
      subst e1
      rw [List.getElem?_append_right (Nat.le_refl _)] at h1
      rw [s.len, List.getElem?_append_right (Nat.le_refl _)] at h2
      simp at h1 h2
      subst h1 h2
      exact hc
  · obtain ⟨q1, o', q2, q3⟩ := s.hid a ha
    refine ⟨fun z => ?_, o', by rw [upd_ne (ne_of_none q2 h)]; exact q2, q3⟩
    rcases List.mem_append.mp (show a ∈ μ.c ++ [p] from z) with z | z
    · exact q1 z
    · rw [List.mem_singleton] at z
      subst z
      rw [h] at q2; cases q2
theorem nodup_at {α : Type} : ∀ {l : List α} {i j : Nat} {x : α}, l.Nodup → l[i]? = Option.some x → l[j]? = Option.some x → i = j
  | [], _, _, _, _, e, _ => by simp at e
  | _ :: _, 0, 0, _, _, _, _ => rfl
  | y :: r, 0, j + 1, x, n, e, e2 => by
    simp at e e2
    subst e
    exact absurd (List.mem_of_getElem? e2) (List.nodup_cons.mp n).1
  | y :: r, i + 1, 0, x, n, e, e2 => by
    simp at e e2
    subst e2
    exact absurd (List.mem_of_getElem? e) (List.nodup_cons.mp n).1
  | y :: r, i + 1, j + 1, x, n, e, e2 => by
    simp at e e2
    rw [nodup_at (List.nodup_cons.mp n).2 e e2]
/-- a cell is changed -/
theorem StR.put (s : StR K μ S H) {n : Nat} {p : Addr} {o : HO} {c : C} (h : μ.c[n]? = Option.some p) (hc : CellR K μ (upd H p o) p c) : StR K μ (S.set n c) (upd H p o) := by
  have hm := List.mem_of_getElem? h
  have kx : Kp μ H μ (upd H p o) := by
    have key : ∀ a u, μ.Out a → H a = some u → upd H p o a = some u := fun a u q e => by rw [upd_ne (fun z => q.1 (by rw [z]; exact hm))]; exact e
    exact ⟨fun a u q r => ⟨q, r.elim (fun r => .inl (key _ _ q r)) fun ⟨w, r⟩ => .inr ⟨w, key _ _ q r⟩⟩, key, fun _ _ q => q⟩
  refine ⟨by simp [s.len], s.nd, fun m a c' h1 h2 => ?_, fun a ha => ?_⟩
  · by_cases hmn : m = n
    · subst hmn
      rw [h] at h1; cases h1
      have hl : m < S.length := by rw [← s.len]; exact (List.getElem?_eq_some_iff.mp h).1
      rw [List.getElem?_set_self hl] at h2
      cases h2; exact hc
    · rw [List.getElem?_set_ne (fun z => hmn z.symm)] at h2
      refine (s.at_ m a c' h1 h2).kp kx ?_
      have : a ≠ p := fun z => by
        subst z
        exact hmn (nodup_at s.nd h1 h)
      rw [upd_ne this]
  · obtain ⟨q1, o', q2, q3⟩ := s.hid a ha
    exact ⟨q1, o', by rw [upd_ne (fun z => q1 (by rw [z]; exact hm))]; exact q2, q3⟩
/-! ## an object that is hidden for a while -/
theorem kp_hide {p : Addr} {o : HO} (h : H p = none) : Kp μ H (μ.hide p) (upd H p o) := by
  have key : ∀ a u, μ.Out a → H a = some u → (μ.hide p).Out a ∧ upd H p o a = some u := fun a u q e => by
    have ne : a ≠ p := ne_of_none e h
    exact ⟨⟨q.1, fun z => (List.mem_cons.mp z).elim ne q.2⟩, by rw [upd_ne ne]; exact e⟩
  refine ⟨fun a u q r => ?_, fun a u q e => (key a u q e).2, fun _ _ q => q⟩
  rcases r with r | ⟨w, r⟩
  · exact ⟨(key a _ q r).1, .inl (key a _ q r).2⟩
  · exact ⟨(key a _ q r).1, .inr ⟨w, (key a _ q r).2⟩⟩
theorem StR.hide (s : StR K μ S H) {p : Addr} {o : HO} (h : H p = none) (ho : ∀ xs, o ≠ .tup xs := by intro xs z; cases z) : StR K (μ.hide p) S (upd H p o) := by
  have hp := s.notIn h
  refine ⟨s.len, s.nd, fun n a c h1 h2 => (s.at_ n a c h1 h2).kp (kp_hide h) ?_, fun a ha => ?_⟩
  · obtain ⟨o', e⟩ := s.has (List.mem_of_getElem? h1)
    rw [upd_ne (ne_of_none e h)]
  · rcases List.mem_cons.mp (show a ∈ p :: μ.h from ha) with z | z
    · rw [z]; exact ⟨hp.1, o, upd_same, ho⟩
    · obtain ⟨q1, o', q2, q3⟩ := s.hid a z
      exact ⟨q1, o', by rw [upd_ne (ne_of_none q2 h)]; exact q2, q3⟩
/-- the hidden one is changed -/
theorem kp_hid {p : Addr} {o : HO} (hp : p ∈ μ.h) : Kp μ H μ (upd H p o) := by
  have key : ∀ a u, μ.Out a → H a = some u → upd H p o a = some u := fun a u q e => by rw [upd_ne (fun z => q.2 (by rw [z]; exact hp))]; exact e
  exact ⟨fun a u q r => ⟨q, r.elim (fun r => .inl (key _ _ q r)) fun ⟨w, r⟩ => .inr ⟨w, key _ _ q r⟩⟩, key, fun _ _ q => q⟩
theorem StR.setH (s : StR K μ S H) {p : Addr} {o : HO} (hp : p ∈ μ.h) (ho : ∀ xs, o ≠ .tup xs := by intro xs z; cases z) : StR K μ S (upd H p o) := by
  refine ⟨s.len, s.nd, fun n a c h1 h2 => (s.at_ n a c h1 h2).kp (kp_hid hp) ?_, fun a ha => ⟨(s.hid a ha).1, ?_⟩⟩
  · rw [upd_ne (fun z => (s.hid p hp).1 (by rw [← z]; exact List.mem_of_getElem? h1))]
  · obtain ⟨o', q2, q3⟩ := (s.hid a ha).2
    by_cases z : a = p
    · rw [z]; exact ⟨o, upd_same, ho⟩
    · exact ⟨o', by rw [upd_ne z]; exact q2, q3⟩
/-- the hidden one comes forth -/
theorem kp_show {p : Addr} : Kp (μ.hide p) H μ H :=
  ⟨fun a u q r => ⟨⟨q.1, fun z => q.2 (List.mem_cons_of_mem _ z)⟩, r⟩, fun _ _ _ e => e, fun _ _ q => q⟩
theorem StR.shown {p : Addr} (s : StR K (μ.hide p) S H) : StR K μ S H :=
  ⟨s.len, s.nd, fun n a c h1 h2 => (s.at_ n a c h1 h2).kp kp_show rfl, fun a ha => s.hid a (List.mem_cons_of_mem _ ha)⟩
/-- the hidden one becomes a cell -/
theorem kp_made {p : Addr} : Kp (μ.hide p) H (μ.add p) H := by
  have key : ∀ a, (μ.hide p).Out a → (μ.add p).Out a := fun a q => ⟨fun z => by
    rcases List.mem_append.mp (show a ∈ μ.c ++ [p] from z) with z | z
    · exact q.1 z
    · exact q.2 (by rw [List.mem_singleton.mp z]; exact List.mem_cons_self ..), fun z => q.2 (List.mem_cons_of_mem _ z)⟩
  refine ⟨fun a u q r => ⟨key a q, r⟩, fun _ _ _ e => e, fun i a h => ?_⟩
  have h : μ.c[i]? = some a := h
  show (μ.c ++ [p])[i]? = some a
  rw [List.getElem?_append_left (List.getElem?_eq_some_iff.mp h).1]; exact h
theorem StR.made {p : Addr} {c : C} (s : StR K (μ.hide p) S H) (hp : p ∉ μ.h) (hc : CellR K (μ.hide p) H p c) : StR K (μ.add p) (S ++ [c]) H := by
  have h0 := s.hid p (List.mem_cons_self ..)
  refine ⟨by simpa [Ad.add, Ad.hide] using s.len, ?_, fun n a c' h1 h2 => ?_, fun a ha => ?_⟩
  · show (μ.c ++ [p]).Nodup
    rw [List.nodup_append]
    refine ⟨s.nd, by simp, fun a ha b hb => ?_⟩
    rw [List.mem_singleton] at hb
    subst hb
    intro z; subst z; exact h0.1 ha
  · have h1 : (μ.c ++ [p])[n]? = some a := h1
    have hl : μ.c.length = S.length := s.len
    by_cases hn : n < μ.c.length
    · rw [List.getElem?_append_left hn] at h1
      rw [List.getElem?_append_left (by rw [← hl]; exact hn)] at h2
      exact (s.at_ n a c' h1 h2).kp kp_made rfl
    · have e1 : n = μ.c.length := by
        have := (List.getElem?_eq_some_iff.mp h1).1
        simp at this; omega
      subst e1
      rw [List.getElem?_append_right (Nat.le_refl _)] at h1
      rw [hl, List.getElem?_append_right (Nat.le_refl _)] at h2
      simp at h1 h2
      subst h1 h2
      exact hc.kp kp_made rfl
  · obtain ⟨q1, q2⟩ := s.hid a (List.mem_cons_of_mem _ ha)
    refine ⟨fun z => ?_, q2⟩
    rcases List.mem_append.mp (show a ∈ μ.c ++ [p] from z) with z | z
    · exact q1 z
    · rw [List.mem_singleton] at z
      subst z
      exact hp ha
/-- lists and tuples to be read -/
theorem Is.seq (s : StR K μ S H) (h : Is K μ H v d) (e : seqOf S d = some ds) : ∃ a xs, v = .ref a ∧ IsAll K μ H xs ds ∧ (SqT K H a xs ∨ SqL K H a xs) := by
  cases h with
  | tup h a =>
    cases e
    exact ⟨_, _, rfl, a, .inl (h.elim (fun h => .inl (.inl h.2)) (fun h => h H))⟩
  | lst h q a => cases e; exact ⟨_, _, rfl, a, .inr (SqL.of q)⟩
  | fz h a => cases e; exact ⟨_, _, rfl, a, .inr (h.elim (fun h => .inl h.2) (fun h => h H))⟩
  | cell h =>
    simp only [seqOf] at e
    split at e
    · rename_i ds' hq
      cases e
      obtain ⟨a, h1, vs, h2, h3⟩ := s.ex hq
      rw [h] at h1; cases h1
      exact ⟨_, _, rfl, h3, .inr (SqL.of h2)⟩
    · cases e
  | _ => cases e
end
end Ev

set_option Elab.async false
set_option linter.all false
set_option maxRecDepth 100000
set_option maxHeartbeats 4000000
set_option autoImplicit false
/-! further operators by values -/
namespace Ev
open PySem PySem.Spec PyProof.Rows L2
section
variable {X : Cx}
theorem mulOk_iff {i j : Int} (h : mulOk i j = true) : IntMulOk i j := by
  unfold mulOk at h
  unfold IntMulOk
  intro z
  rw [z] at h
  cases h
theorem op_mulX : OpR X (binaryOp .Mult) (rI (fun i j => mulOk i j = true) fun i j => .int (i * j)) := opI fun _ _ _ _ _ _ _ hc q => mul_int q (mulOk_iff hc)
theorem op_fdivX : OpR X (binaryOp .FloorDiv) (rI (fun i j => divOk i j = true) fun i j => .int (i / j)) := opI fun i j t u s Q E hc q => by
  unfold divOk at hc
  rw [Bool.and_eq_true] at hc
  have h1 : (0 : Int) < j := of_decide_eq_true hc.1
  have h2 : Builtin.divisionGoesByPylong i j = false := by
    have := hc.2
    simpa using this
  refine floordiv_int (by omega) ?_ (.inl h2)
  rw [Int.fdiv_eq_ediv_of_nonneg i (by omega)]
  exact q
/-- () + u is u -/
def rCat0 (K : PySem.W.Frag) : R2 := fun x y H Q => ∃ a b ys, x = V.ref a ∧ y = V.ref b ∧ SqT K H a [] ∧ SqT K H b ys ∧ Q (V.ref b) H
theorem op_cat0 : OpR X (binaryOp .Add) (rCat0 X.K) := by
  intro pins s σ H x y v u Q I rx ry h
  obtain ⟨a, b, ys, rfl, rfl, ha, hb, q⟩ := h
  cases rx
  cases ry
  obtain ⟨its, r1, p1, _⟩ := I.tuple ha
  obtain ⟨its2, r2, p2, _⟩ := I.tuple hb
  cases r1
  obtain ⟨⟨c1, d1, z1, w1⟩, g1, k1, n1, f1⟩ := id p1
  obtain ⟨⟨c2, d2, z2, w2⟩, g2, k2, n2, f2⟩ := id p2
  simp only at k1 f1 k2 f2
  subst k1 f1 k2 f2
  exact concat_meets ⟨_, g1, rfl⟩ ⟨_, g2, rfl⟩ noFill_tuple_add seq_tuple_add PySem.F.slot_tuple_add PySem.F.entry_tuple_add (PySem.F.args_tuple_add_2 _ _)
    (tuple_addW0 a b _ its2.toArray n1 n2 d1 d2 w1 w2 rfl) ⟨g1, g2, V.ref b, H, I, rfl, q⟩
/-- x in t, data of any depth -/
def rInT (K : PySem.W.Frag) (neg : Bool) : R2 := fun x y H Q => ∃ d ds, Dp K H x d ∧ Dp K H y (.tuple ds) ∧ SeqAt.shaped d = true ∧ SeqAt.shaped (.tuple ds) = true ∧ Q (.bl (if neg then !(ds.any fun z => PyData.eqv z d) else ds.any fun z => PyData.eqv z d)) H
theorem op_inT (hu : X.A.units + 65 < cLine) : OpR X (compareOp .In) (rInT X.K false) := by
  intro pins s σ H x y v u Q I rx ry h
  obtain ⟨d, ds, hd, he, sd, se, q⟩ := h
  obtain ⟨as, r1⟩ := Dp.reads I d x v hd rx
  obtain ⟨bs, r2⟩ := Dp.reads I (.tuple ds) y u he ry
  exact SeqAt.in_tuple_reads r2 r1 (SeqAt.canLay_of_shaped se) (SeqAt.canLay_of_shaped sd) (room_in_shaped sd hu) ⟨.bl _, H, I, rfl, q⟩
theorem op_ntInT (hu : X.A.units + 65 < cLine) : OpR X (compareOp .NotIn) (rInT X.K true) := by
  intro pins s σ H x y v u Q I rx ry h
  obtain ⟨d, ds, hd, he, sd, se, q⟩ := h
  obtain ⟨as, r1⟩ := Dp.reads I d x v hd rx
  obtain ⟨bs, r2⟩ := Dp.reads I (.tuple ds) y u he ry
  exact SeqAt.notIn_tuple_reads r2 r1 (SeqAt.canLay_of_shaped se) (SeqAt.canLay_of_shaped sd) (room_in_shaped sd hu) ⟨.bl _, H, I, rfl, q⟩
/-- t * 1 is t -/
theorem tuple_mul1 (l : Addr) (items : Array Value) (n : Nat) (dd : Option Addr) (sl : Array (Option Value)) (u : Tok) :
    Meets (Builtin.«tuple.__mul__» ⟨[.ref l, .int 1 u], []⟩) (fun _ R s => s.heap.get? l = some { cls := .type "tuple", dict := dd, data := .seq items n, slots := sl } ∧ R (.ok (.ret (Value.ref l))) s) :=
  .of_wp fun prog w A R s h => by
    obtain ⟨hp, g, d, tk, os⟩ := s
    obtain ⟨hl, h⟩ := h
    have f1 := AutoSeq1.idx_int
    wp_walk using AutoSeq1.wpAny_loadPart' hl
    exact ⟨_, rfl, h⟩
def rRep1 (K : PySem.W.Frag) : R2 := fun x y H Q => ∃ l xs, x = V.ref l ∧ y = V.int 1 ∧ SqT K H l xs ∧ Q (V.ref l) H
theorem op_rep1 : OpR X (binaryOp .Mult) (rRep1 X.K) := by
  intro pins s σ H x y v u Q I rx ry h
  obtain ⟨l, xs, rfl, rfl, hT, q⟩ := h
  cases rx
  obtain ⟨t, rfl⟩ := ry
  obtain ⟨its, r, ⟨⟨c1, dd, z1, sl⟩, ho, hc, n, hd⟩, hs⟩ := I.tuple hT
  simp only at hc hd
  subst hc hd
  exact wpAny_binaryOp_repeat_ref (T := "tuple") (U := "int") (by decide) ⟨_, ho, rfl⟩ (fun s' => typeIs_int s' 1 t) noFill_tuple_mul F.fills_int_mul F.slot_int_rmul repeat_tuple F.slot_int_index.lookup
    (call_meets F.slot_int_rmul (typeIs_int s 1 t) F.entry_int_rmul (F.args_int_rmul_2 _ _) (int_rmul_tuple 1 t l its.toArray n dd sl)
      ⟨ho, rfl, ⟨_, ho, rfl⟩, call_meets F.slot_tuple_mul ⟨_, ho, rfl⟩ F.entry_tuple_mul (F.args_tuple_mul_2 _ _) (tuple_mul1 l its.toArray n dd sl t) ⟨ho, V.ref l, H, I, rfl, q⟩⟩)
end
/-! ### sorted(t), t a tuple of ints -/
section
open SrtO Srt
variable {prog : Program} {w : World} {A : Around} {E : Value → Shared → Prop} {s : Shared}
theorem collect_tup {l : Addr} {vs : List Value} {Q : List Value → Shared → Prop} (hl : s.heap.IsTuple l vs.toArray)
    (h : Q vs { s with heap := (s.heap.push (seqObj "list" #[] 0)).update s.heap.objs.size (Obj.mapSeq (· ++ vs.toArray)) }) (hsz : vs.length ≤ sizeLine) :
    wpAny (model prog w) A (collect (.ref l)) Q E s := by
  obtain ⟨o, ho, hc, n, hd⟩ := id hl
  unfold collect
  refine wpAny_bind (wpAny_runValue (codeAny_builtin entry_proto_collect' ?_))
  show wpAny _ _ (do again (.builtin "list.__iadd__" ⟨[← newList [], .ref l], []⟩)) _ _ s
  refine wpAny_bind (wpAny_newList (wpAny_pure ⟨Code.quiet_builtin _ (by decide +kernel), codeAny_builtin entry_list_iadd' ?_⟩))
  show wpAny _ _ (Builtin.List.listExtendWith (.ref s.heap.objs.size) (.ref l) (.ref s.heap.objs.size)) _ _ { s with heap := s.heap.push (seqObj "list" #[] 0) }
  unfold Builtin.List.listExtendWith
  have ho' : (s.heap.push (seqObj "list" #[] 0)).get? l = some o := Heap.get?_push_of_some _ ho
  refine wpAny_bind (wpAny_typeOf (T := "tuple") ⟨o, ho', hc⟩ ?_)
  have ht : (Value.type "tuple" == Value.type "tuple") = true := by rfl
  rw [if_pos (by rw [ht]; simp)]
  refine wpAny_bind (listItems_at ho' hd ?_)
  refine wpAny_bind (listItems_at (xs := #[]) (n := 0) (Heap.get?_push_size _ rfl) rfl ?_)
  rw [if_neg (by simp)]
  refine wpAny_bind (listUpdate_at (xs := #[]) (n := 0) (Heap.get?_push_size _ rfl) rfl ?_ (Nat.zero_le _) (by show (#[] ++ vs.toArray).size ≤ sizeLine + 1; simp only [Array.size_append, List.size_toArray, List.length_nil]; omega))
  refine wpAny_pure ?_
  show wpAny (model prog w) A (do
      let o ← load s.heap.objs.size
      match o.data with
      | .seq xs _ => pure xs.toList
      | _ => unsupported "internal:collect") Q E { s with heap := (s.heap.push (seqObj "list" #[] 0)).update s.heap.objs.size (Obj.mapSeq (· ++ vs.toArray)) }
  refine wpAny_bind (wpAny_load (get?_update_seq (Heap.get?_push_size _ rfl) _) ?_)
  show wpAny _ _ (pure ((#[] : Array Value) ++ vs.toArray).toList) Q E _
  rw [show ((#[] : Array Value) ++ vs.toArray).toList = vs by simp]
  exact wpAny_pure h
theorem sorted_ordT {l : Addr} {vs : List Value} {ltv : Value → Value → Bool} {Q : Value → Shared → Prop} (O : Swo ltv) (hl : s.heap.IsTuple l vs.toArray) (hz : vs.length ≤ sizeLine)
    (hS : 2 ≤ vs.length → ∀ (h₁ : Heap) (a : Addr), SortableO prog w A.in1.in1 { s with heap := h₁ } a vs ltv)
    (h : ∀ out : List Value, Srtd ltv out → Stb ltv out vs → Q (.ref (s.heap.objs.size + 1)) { s with heap := sortedAll s.heap vs out.toArray }) :
    wpAny (model prog w) A (call (.builtin "sorted") [.ref l]) Q E s := by
  refine Calls.call_function_entry kind_sorted plain_sorted entry_sorted (args_sorted1 _) ?_
  unfold Builtin.«sorted»
  refine wpAny_bind (m := checkCount "sorted" 1 1 _) (wpAny_pure ?_)
  refine wpAny_bind (collect_tup hl ?_ hz)
  refine wpAny_bind (wpAny_newList ?_ hz)
  have q1 : ((s.heap.push (seqObj "list" #[] 0)).update s.heap.objs.size (Obj.mapSeq (· ++ vs.toArray))).objs.size = s.heap.objs.size + 1 := by
    rw [Heap.size_update, size_push']
  have q2 : (((s.heap.push (seqObj "list" #[] 0)).update s.heap.objs.size (Obj.mapSeq (· ++ vs.toArray))).push (seqObj "list" vs.toArray 0)).get? (s.heap.objs.size + 1) = some (seqObj "list" vs.toArray 0) := by
    rw [← q1]; exact Heap.get?_push_size _ rfl
  show wpAny _ _ _ _ _ { s with heap := ((s.heap.push (seqObj "list" #[] 0)).update s.heap.objs.size (Obj.mapSeq (· ++ vs.toArray))).push (seqObj "list" vs.toArray 0) }
  rw [q1]
  refine wpAny_bind (wpAny_holding (wpAny_call_entry slot_list_sort ⟨_, q2, rfl⟩ entry_list_sort (list_sort_ord O q2 hz (fun h2 => hS h2 _ _) fun out hs hb => ⟨_, rfl, ?_⟩) (args_list_sort _)))
  exact wpAny_pure ⟨_, rfl, h out hs hb⟩
end
section
variable {X : Cx}
def rSortedIT (K : PySem.W.Frag) : List V → Hp → VK → Prop := fun vs H Q => ∃ (a : Addr) (ns : List Int), vs = [V.ref a] ∧ SqT K H a (ns.map V.int) ∧
  ∀ (ns' : List Int) (p : Addr), ns'.Perm ns → ns'.Pairwise (· ≤ ·) → H p = none → Q (.ref p) (upd H p (.lst (ns'.map V.int)))
theorem cr_sortedIT : CallR X (.builtin "sorted") (rSortedIT X.K) := by
  intro pins s σ H vs us Q I r h
  obtain ⟨a, ns, rfl, hs, q⟩ := h
  obtain ⟨its, rv, hl, hz⟩ := I.tuple hs
  rw [Vals.ref1 r]
  have hi := rv.ints
  refine sorted_ordT SrtO.swo_int hl (by rw [← rv.length]; exact hz) (fun h2 h₁ a' => SrtO.ints_sortable hi h2) fun out h1 h2 => ?_
  obtain ⟨k1, k2, k3⟩ := SrtO.ints_out hi h1 h2
  obtain ⟨ep, he'⟩ := PyProof.Rows.sortedAll_at s.heap its out.toArray
  have hlen : ((out.map SrtO.iv).map V.int).length ≤ sizeLine := by
    rw [List.length_map, k2.length_eq]
    rw [List.length_map] at hz
    exact hz
  exact ⟨.ref _, upd H (s.heap.objs.size + 1) (.lst ((out.map SrtO.iv).map V.int)), I.laid (t' := s.toks) (fun _ _ => PyProof.Rows.sortedAll_old) (Nat.le_succ _) ⟨hlen, out, ep, vals_of_ints k1, he'⟩, rfl, q _ _ k2 k3 (I.hok.fresh (Nat.le_succ _))⟩
end
end Ev

set_option Elab.async false
set_option linter.all false
set_option maxRecDepth 100000
set_option maxHeartbeats 4000000
set_option autoImplicit false
/-! enumerate and zip over lists and tuples alike -/
namespace Ev
open PySem PySem.Spec PyProof.Rows L2
/-- a list (false) or a tuple (true) -/
def SqB (b : Bool) (K : PySem.W.Frag) (H : Hp) (a : Addr) (xs : List V) : Prop := if b = true then SqT K H a xs else SqL K H a xs
def DatB (b : Bool) (h : Heap) (a : Addr) (its : Array Value) : Prop := if b = true then h.IsTuple a its else h.IsList a its
def ItB (b : Bool) (h : Heap) (it a : Addr) (i : Nat) : Prop := if b = true then h.IsTupleIter it a i else h.IsListIter it a i
section
variable {X : Cx} {pins : List (Addr × Obj)} {σ : L2.St} {H : Hp} {s : Shared} {a : Addr} {xs ys : List V} {b : Bool}
theorem SqB.inj (I : Inv X pins σ H s) (h : SqB b X.K H a xs) (h' : SqB b X.K H a ys) : xs = ys := by
  cases b with
  | true => exact I.tuple_inj h h'
  | false => exact I.list_inj h h'
theorem SqB.its (I : Inv X pins σ H s) (h : SqB b X.K H a xs) : ∃ its : List Value, Vals xs its ∧ DatB b s.heap a its.toArray := by
  cases b with
  | true => obtain ⟨its, r, p, _⟩ := I.tuple h; exact ⟨its, r, p⟩
  | false => obtain ⟨its, r, p, _⟩ := I.list h; exact ⟨its, r, p.isList⟩
theorem draws_b {prog : Program} {w : World} {A : Around} (b : Bool) (hh : A.handled = none) (it l : Addr) (hne : l ≠ it) (items : Array Value) :
    Draws prog w A it [it, l] items.size (fun i v => items[i]? = some v) (fun i h => ItB b h it l i ∧ DatB b h l items) := by
  cases b with
  | true => exact Draws.tuple hh it l hne items
  | false => exact Draws.list hh it l hne items
theorem itB_at {h h' : Heap} {it : Addr} {i : Nat} (st : ItB b h it a i) (k : ∀ o, h.get? it = some o → h'.get? it = some o) : ItB b h' it a i := by
  cases b with
  | true => exact Heap.IsTupleIter.at st k
  | false => exact Heap.IsListIter.at st k
theorem itB_obj {h : Heap} {it : Addr} {i : Nat} (st : ItB b h it a i) : ∃ o, h.get? it = some o ∧ ∀ v, o.data ≠ .cell v := by
  cases b with
  | true => obtain ⟨o, e, c, d⟩ := st; exact ⟨o, e, fun v z => by rw [d] at z; cases z⟩
  | false => obtain ⟨o, e, c, d⟩ := st; exact ⟨o, e, fun v z => by rw [d] at z; cases z⟩
theorem datB_lt {h : Heap} {its : Array Value} (d : DatB b h a its) : a < h.objs.size := by
  cases b with
  | true => obtain ⟨o, e, _⟩ := d; exact Heap.lt_size e
  | false => obtain ⟨o, e, _⟩ := d; exact Heap.lt_size e
/-- iter of it begins so -/
def begO (b : Bool) (a : Addr) : Obj := if b = true then { cls := .type "tuple_iterator", data := .fields #[.ref a, .int 0 0] } else { cls := .type "list_iterator", data := .fields #[.ref a, .int 0 0] }
theorem begins_b (b : Bool) (a : Addr) (its : Array Value) : Begins (.ref a) (begO b a) fun h => DatB b h a its := by
  cases b with
  | true => exact begins_tuple a its
  | false => exact begins_list a its
theorem begO_it {h : Heap} {it : Addr} (e : h.get? it = some (begO b a)) : ItB b h it a 0 := by
  cases b with
  | true => exact ⟨_, e, rfl, rfl⟩
  | false => exact ⟨_, e, rfl, rfl⟩
end

/-! ### enumerate -/
def IteB (b : Bool) (K : PySem.W.Frag) (a : Addr) : It :=
  ⟨fun i H => ∃ (xs : List V) (x : V), SqB b K H a xs ∧ xs[i]? = some x,
   fun i H v H' => ∃ T x, v = V.ref T ∧ H T = none ∧ H' = upd H T (.tup [.int (i : Nat), x]) ∧ ∀ xs, SqB b K H a xs → xs[i]? = some x,
   fun i H => ∃ xs : List V, SqB b K H a xs ∧ xs.length = i⟩
theorem turn_enumB {P : Program} {w : World} {K : PySem.W.Frag} {elts : List Expr} {kk : Nat} {tpos : Pos} (b : Bool) (a e it : Addr) :
    Turn P w K (.Tuple elts kk tpos) (IteB b K a) [e, it] e (fun i h => (∃ old, IsEnum h e it (i : Nat) old) ∧ ItB b h it a i ∧ e ≠ it ∧ a ≠ e ∧ a ≠ it) where
  mem := by simp
  obj := fun i h st c hc => by
    obtain ⟨⟨old, he⟩, hi, _⟩ := st
    rcases (by simpa using hc : c = e ∨ c = it) with rfl | rfl
    · exact ⟨_, he, fun v z => nomatch z⟩
    · exact itB_obj hi
  keep := fun i h h' st k => by
    obtain ⟨⟨old, he⟩, hi, ne⟩ := st
    exact ⟨⟨old, k e (by simp) _ he⟩, itB_at hi fun o z => k it (by simp) o z, ne⟩
  item := by
    intro X hP hw hK hc i pins s σ H E I hf st hg
    subst hP hw hK
    obtain ⟨he, hit, hne, hae, hai⟩ := st
    obtain ⟨xs, x, hq, hx⟩ := hg
    obtain ⟨its, rv, p⟩ := SqB.its I hq
    obtain ⟨u, hu, ru⟩ := rv.get hx
    have W := GoesN.ofWalksT (elts := elts) (k := kk) (pos := tpos) (WalksT.enumerateD (prog := X.prog) (w := X.w) (A := X.A) (draws_b (prog := X.prog) (w := X.w) (A := X.A.in1) b (show X.A.in1.handled = none from I.ok.hd hc) it a hai its.toArray) e hne (fun z => by
      rcases List.mem_cons.mp z with z | z
      · exact hne z
      · exact hae (List.mem_singleton.mp z).symm) (List.mem_cons_self ..))
    have hlt : i < its.toArray.size := by
      have := (List.getElem?_eq_some_iff.mp hu).1
      simpa using this
    refine thn (W.goes i s (fun u s2 => ∃ x H', Inv X pins σ H' s2 ∧ RelV x u ∧ (IteB b X.K a).yld i H x H' ∧ ((∃ old, IsEnum s2.heap e it ((i + 1 : Nat) : Nat) old) ∧ ItB b s2.heap it a (i + 1) ∧ e ≠ it ∧ a ≠ e ∧ a ≠ it) ∧ ∀ c ∈ [e, it], H' c = none) E hlt ⟨he, hit, p⟩ ?_) fun r s1 ⟨v, h1, h2⟩ => ⟨v, h1, h2⟩
    intro v h' tk hY st' hk htk
    obtain ⟨T, vals, rfl, hT, ⟨t, y, hy, rfl⟩, ht⟩ := hY
    have ey : y = u := by
      have z : its.toArray[i]? = some u := by simpa using hu
      rw [z] at hy; exact (Option.some.inj hy).symm
    subst ey
    have nT : H T = none := I.hok.fresh hT
    have lt_of : ∀ c ∈ [e, it], c < s.heap.objs.size := fun c hcm => by
      rcases (by simpa using hcm : c = e ∨ c = it) with rfl | rfl
      · obtain ⟨_, z⟩ := he; exact Heap.lt_size z
      · obtain ⟨_, z, _⟩ := itB_obj hit; exact Heap.lt_size z
    have new : ObjOk X.prog X.w (upd H T (.tup [.int (i : Nat), x])) h' T (.tup [.int (i : Nat), x]) :=
      ⟨by show 2 ≤ sizeLine; decide, [.int (i : Nat) t, y], .cons ⟨t, rfl⟩ (.cons ru .nil), ht⟩
    have I1 : Inv X pins σ (upd H T (.tup [.int (i : Nat), x])) { s with heap := h', toks := tk } := I.turnedNew hk hf hT new
    refine ⟨.ref T, _, I1, rfl, ⟨T, x, rfl, nT, rfl, fun zs hz => by rw [SqB.inj I hz hq]; exact hx⟩, ⟨st'.1, st'.2.1, hne, hae, hai⟩, fun c hcm => ?_⟩
    rw [upd_ne (Nat.ne_of_lt (Nat.lt_of_lt_of_le (lt_of c hcm) hT))]
    exact (hf c hcm).1
  done := by
    intro X hP hw hK hc i pins s σ H E I hf st hg
    subst hP hw hK
    obtain ⟨he, hit, hne, hae, hai⟩ := st
    obtain ⟨xs, hq, hx⟩ := hg
    obtain ⟨its, rv, p⟩ := SqB.its I hq
    obtain ⟨f0, f1, f2, f3, f4, f5⟩ := hf it (by simp)
    obtain ⟨old, he⟩ := he
    have hl : i = its.toArray.size := by rw [List.size_toArray, ← rv.length, hx]
    subst hl
    exact wpAny_pyNext_enum_endD (draws_b (prog := X.prog) (w := X.w) (A := X.A.in1) b (show X.A.in1.handled = none from I.ok.hd hc) it a hai its.toArray) he ⟨hit, p⟩ fun h' eb => ⟨rfl, I.turned (t' := s.toks) (fun c o hcm z => eb c o hcm z) f0 f1 f3 f4 f5⟩
  self := fun A i s Q E st h => let ⟨⟨_, he⟩, _⟩ := st; wpAny_pyIter_enum he h
/-- enumerate(v) begins -/
theorem meets_enum1 {v : Value} {o : Obj} {H : Heap → Prop} (B : Begins v o H) :
    Meets (Builtin.«enumerate.__new__» ⟨[.type "enumerate", v], []⟩) (fun _ R s => H s.heap ∧
      R (.ok (.ret (.ref (s.heap.push o).objs.size))) { s with heap := (s.heap.push o).push { cls := .type "enumerate", data := .fields #[.none, .bool false, .ref s.heap.objs.size, rawInt 0, .none, .none] } }) :=
  .of_wp fun prog w A R s h => by
    obtain ⟨hp, gs, dr, tk, os⟩ := s; obtain ⟨h1, h⟩ := h
    have hsub := sub_enumerate
    have q1 : ∀ {A' : Around} {E : Value → Shared → Prop} {Q : Value → Shared → Prop}, Q (.ref hp.objs.size) ⟨hp.push o, gs, dr, tk, os⟩ → wpAny (model prog w) A' (pyIter v) Q E ⟨hp, gs, dr, tk, os⟩ :=
      fun q => B.iter prog w _ _ ⟨hp, gs, dr, tk, os⟩ _ h1 q
    wp_walk using q1
    refine wpAny_stack_any fun st => wpAny_pure ?_
    split
    · rename_i c _ _ _ _ _
      cases (c == Value.type "enumerate") <;> (wp_walk using q1; exact ⟨_, rfl, h⟩)
    · wp_walk using q1
      exact ⟨_, rfl, h⟩
theorem enum_begins1 {prog : Program} {w : World} {A : Around} {E : Value → Shared → Prop} {s : Shared} {v : Value} {o : Obj} {H : Heap → Prop} {Q : Value → Shared → Prop} (B : Begins v o H) (h1 : H s.heap)
    (h : ∀ h', IsEnum h' (s.heap.objs.size + 1) s.heap.objs.size 0 .none → h'.get? s.heap.objs.size = some o → (∀ b o, s.heap.get? b = some o → h'.get? b = some o) → Q (.ref (s.heap.objs.size + 1)) { s with heap := h' }) :
    wpAny (model prog w) A (call (.type "enumerate") [v]) Q E s := by
  refine callType_new F.called_enumerate (by decide) (F.typeCall_enumerate_1 _) (F.newCall_enumerate_1 _) (fun obj => F.args_object_init_2 obj _) F.entry_enumerate_new (meets_enum1 B) ⟨h1, ?_⟩
  have hz : (s.heap.push o).objs.size = s.heap.objs.size + 1 := Heap.size_push ..
  have q := Heap.get?_push_size (s.heap.push o) (o := { cls := .type "enumerate", data := .fields #[.none, .bool false, .ref s.heap.objs.size, rawInt 0, .none, .none] }) rfl
  show _ ∧ _
  rw [hz] at q ⊢
  exact ⟨⟨_, q, rfl⟩, h _ q (Heap.get?_push_of_some _ (Heap.get?_push_size _ B.free)) fun b u x => Heap.get?_push_of_some _ (Heap.get?_push_of_some _ x)⟩
def iEnumB (K : PySem.W.Frag) (ta : TA) : TI := fun σ H R => ta σ H fun vs H1 => ∃ a b xs, vs = [V.ref a] ∧ SqB b K H1 a xs ∧ R (IteB b K a) H1
theorem pi_enumB {X : Cx} {e : Expr} {ta : TA} {p pos tpos : Pos} {elts : List Expr} {kk : Nat} (hg : Gl X "enumerate") (hm : X.mg "enumerate" = none) (ha : PA X [e] ta) (hs : starEach [e] X.env = [(false, eval e X.env)]) :
    PI X (.Tuple elts kk tpos) (.Call (.Name "enumerate" p) [e] [] pos) (iEnumB X.K ta) := by
  refine ⟨fun pins s σ H R I h => ?_⟩
  refine Call_ (ld_blt I hg hm boot_enumerate (PyProof.Rows.callWith_type1 (thn (ha.run pos pins s σ H _ I h) fun us s1 ⟨vs, H1, I1, r1, q1⟩ => ?_) hs rfl))
  obtain ⟨a, b, xs, rfl, hq, q⟩ := q1
  cases r1 with
  | cons r rr =>
    cases rr
    cases r
    obtain ⟨its, rv, p'⟩ := SqB.its I1 hq
    have hla := datB_lt p'
    refine enum_begins1 (begins_b b a its.toArray) p' fun h' he hit hk => wpAny_pyIter_enum he ?_
    have I2 : Inv X pins σ H1 { s1 with heap := h' } := I1.kept (t' := s1.toks) hk
    refine ⟨s1.heap.objs.size + 1, [s1.heap.objs.size + 1, s1.heap.objs.size], _, _, H1, rfl, I2, turn_enumB b a (s1.heap.objs.size + 1) s1.heap.objs.size, ⟨⟨.none, he⟩, begO_it hit, Nat.succ_ne_self _, ?_, ?_⟩, fun c hcm => ?_, q⟩
    · exact Nat.ne_of_lt (Nat.lt_succ_of_lt hla)
    · exact Nat.ne_of_lt hla
    · have hle : s1.heap.objs.size ≤ c := by
        rcases (by simpa using hcm : c = s1.heap.objs.size + 1 ∨ c = s1.heap.objs.size) with z | z
        · rw [z]; exact Nat.le_succ _
        · rw [z]; exact Nat.le_refl _
      exact I1.fpOk hle (I1.hok.fresh hle)

/-! ### zip -/
def ItzB (b c : Bool) (K : PySem.W.Frag) (a d : Addr) : It :=
  ⟨fun i H => ∃ (xs ys : List V) (x y : V), SqB b K H a xs ∧ SqB c K H d ys ∧ xs[i]? = some x ∧ ys[i]? = some y,
   fun i H v H' => ∃ T x y, v = V.ref T ∧ H T = none ∧ H' = upd H T (.tup [x, y]) ∧ (∀ xs, SqB b K H a xs → xs[i]? = some x) ∧ ∀ ys, SqB c K H d ys → ys[i]? = some y,
   fun i H => ∃ xs ys : List V, SqB b K H a xs ∧ SqB c K H d ys ∧ min xs.length ys.length = i⟩
/-- the objects of a zip -/
structure ZipAt (b c : Bool) (a d z TI TO i1 i2 : Addr) (i : Nat) (h : Heap) : Prop where
  zip : IsZip h z TI TO .none
  ti : IsTupOf2 h TI (.ref i1) (.ref i2)
  to : ∃ x y, IsTupOf2 h TO x y
  s1 : ItB b h i1 a i
  s2 : ItB c h i2 d i
theorem turn_zipB {P : Program} {w : World} {K : PySem.W.Frag} {elts : List Expr} {kk : Nat} {tpos : Pos} (b c : Bool) {a d z TI TO i1 i2 : Addr} (S : ZipSep2 z TI TO i1 i2 [i1, a] [i2, d]) (h1 : a ≠ i1) (h2 : d ≠ i2) :
    Turn P w K (.Tuple elts kk tpos) (ItzB b c K a d) [z, TI, TO, i1, i2] z (ZipAt b c a d z TI TO i1 i2) where
  mem := by simp
  obj := fun i h st x hx => by
    obtain ⟨z1, z2, ⟨_, _, z3⟩, z4, z5⟩ := st
    rcases (by simpa using hx : x = z ∨ x = TI ∨ x = TO ∨ x = i1 ∨ x = i2) with q | q | q | q | q <;> rw [q]
    · exact ⟨_, z1, fun v y => nomatch y⟩
    · exact ⟨_, z2, fun v y => nomatch y⟩
    · exact ⟨_, z3, fun v y => nomatch y⟩
    · exact itB_obj z4
    · exact itB_obj z5
  keep := fun i h h' st k => by
    obtain ⟨z1, z2, ⟨x, y, z3⟩, z4, z5⟩ := st
    exact ⟨k z (by simp) _ z1, k TI (by simp) _ z2, ⟨x, y, k TO (by simp) _ z3⟩, itB_at z4 fun o q => k i1 (by simp) o q, itB_at z5 fun o q => k i2 (by simp) o q⟩
  item := by
    intro X hP hw hK hc i pins s σ H E I hf st hg
    subst hP hw hK
    obtain ⟨z1, z2, z3, z4, z5⟩ := st
    obtain ⟨xs, ys, x, y, hqx, hqy, hx, hy⟩ := hg
    obtain ⟨its, rv, p⟩ := SqB.its I hqx
    obtain ⟨its2, rv2, p2⟩ := SqB.its I hqy
    obtain ⟨u, hu, ru⟩ := rv.get hx
    obtain ⟨u2, hu2, ru2⟩ := rv2.get hy
    have W := GoesN.zip2 (elts := elts) (x1 := kk) (pos := tpos) S (draws_b (prog := X.prog) (w := X.w) (A := X.A.in1) b (show X.A.in1.handled = none from I.ok.hd hc) i1 a h1 its.toArray) (draws_b (prog := X.prog) (w := X.w) (A := X.A.in1) c (show X.A.in1.handled = none from I.ok.hd hc) i2 d h2 its2.toArray)
    have hlt : i < min its.toArray.size its2.toArray.size := by
      have q1 := (List.getElem?_eq_some_iff.mp hu).1
      have q2 := (List.getElem?_eq_some_iff.mp hu2).1
      simp only [List.size_toArray]
      omega
    refine thn (W.goes i s (fun v s2 => ∃ x H', Inv X pins σ H' s2 ∧ RelV x v ∧ (ItzB b c X.K a d).yld i H x H' ∧ ZipAt b c a d z TI TO i1 i2 (i + 1) s2.heap ∧ ∀ e ∈ [z, TI, TO, i1, i2], H' e = none) E hlt ⟨z1, z2, z3, ⟨z4, p⟩, ⟨z5, p2⟩⟩ ?_) fun r s1 ⟨v, y1, y2⟩ => ⟨v, y1, y2⟩
    intro v h' tk hY st' hk htk
    obtain ⟨T, w1, w2, rfl, hT, hw1, hw2, ht⟩ := hY
    have e1 : w1 = u := by
      have q : its.toArray[i]? = some u := by simpa using hu
      rw [q] at hw1; exact (Option.some.inj hw1).symm
    have e2 : w2 = u2 := by
      have q : its2.toArray[i]? = some u2 := by simpa using hu2
      rw [q] at hw2; exact (Option.some.inj hw2).symm
    subst e1 e2
    have nT : H T = none := I.hok.fresh hT
    have lt_of : ∀ e ∈ [z, TI, TO, i1, i2], e < s.heap.objs.size := fun e he => by
      obtain ⟨_, _, z3⟩ := z3
      rcases (by simpa using he : e = z ∨ e = TI ∨ e = TO ∨ e = i1 ∨ e = i2) with q | q | q | q | q <;> rw [q]
      · exact Heap.lt_size z1
      · exact Heap.lt_size z2
      · exact Heap.lt_size z3
      · obtain ⟨_, q, _⟩ := itB_obj z4; exact Heap.lt_size q
      · obtain ⟨_, q, _⟩ := itB_obj z5; exact Heap.lt_size q
    have new : ObjOk X.prog X.w (upd H T (.tup [x, y])) h' T (.tup [x, y]) := ⟨by show 2 ≤ sizeLine; decide, [w1, w2], .cons ru (.cons ru2 .nil), ht⟩
    have hk' : ∀ e o, e ∉ [z, TI, TO, i1, i2] → s.heap.get? e = some o → h'.get? e = some o := fun e o he q => hk e o (fun q' => he (by
      rcases (by simpa using q' : e = z ∨ e = TO ∨ e = i1 ∨ e = i2) with r | r | r | r <;> simp [r])) q
    have I1 : Inv X pins σ (upd H T (.tup [x, y])) { s with heap := h', toks := tk } := I.turnedNew hk' hf hT new
    refine ⟨.ref T, _, I1, rfl, ⟨T, x, y, rfl, nT, rfl, fun zs hz => by rw [SqB.inj I hz hqx]; exact hx, fun zs hz => by rw [SqB.inj I hz hqy]; exact hy⟩, ⟨st'.1, st'.2.1, st'.2.2.1, st'.2.2.2.1.1, st'.2.2.2.2.1⟩, fun e he => ?_⟩
    rw [upd_ne (Nat.ne_of_lt (Nat.lt_of_lt_of_le (lt_of e he) hT))]
    exact (hf e he).1
  done := by
    intro X hP hw hK hc i pins s σ H E I hf st hg
    subst hP hw hK
    obtain ⟨z1, z2, z3, z4, z5⟩ := st
    obtain ⟨xs, ys, hqx, hqy, hi⟩ := hg
    obtain ⟨its, rv, p⟩ := SqB.its I hqx
    obtain ⟨its2, rv2, p2⟩ := SqB.its I hqy
    have W := GoesN.zip2 (elts := elts) (x1 := kk) (pos := tpos) S (draws_b (prog := X.prog) (w := X.w) (A := X.A.in1) b (show X.A.in1.handled = none from I.ok.hd hc) i1 a h1 its.toArray) (draws_b (prog := X.prog) (w := X.w) (A := X.A.in1) c (show X.A.in1.handled = none from I.ok.hd hc) i2 d h2 its2.toArray)
    have hl : i = min its.toArray.size its2.toArray.size := by
      simp only [List.size_toArray]
      rw [← rv.length, ← rv2.length]
      exact hi.symm
    subst hl
    have hk' : ∀ {h' : Heap}, (∀ e o, e ∉ [z, TO, i1, i2] → s.heap.get? e = some o → h'.get? e = some o) → ∀ e o, e ∉ [z, TI, TO, i1, i2] → s.heap.get? e = some o → h'.get? e = some o := fun hk e o he q => hk e o (fun q' => he (by
      rcases (by simpa using q' : e = z ∨ e = TO ∨ e = i1 ∨ e = i2) with r | r | r | r <;> simp [r])) q
    exact thn (W.stops s (fun s1 => Inv X pins σ H s1) E ⟨z1, z2, z3, ⟨z4, p⟩, ⟨z5, p2⟩⟩ fun h' tk hk htk => I.turnedL (hk' hk) hf) fun r s1 q => q
  self := fun A i s Q E st h => wpAny_pyIter_zip st.zip h
def iZipB (K : PySem.W.Frag) (ta : TA) : TI := fun σ H R => ta σ H fun vs H1 => ∃ a d b c xs ys, vs = [V.ref a, V.ref d] ∧ SqB b K H1 a xs ∧ SqB c K H1 d ys ∧ R (ItzB b c K a d) H1
theorem pi_zipB {X : Cx} {e e2 : Expr} {ta : TA} {p pos tpos : Pos} {elts : List Expr} {kk : Nat} (hg : L2.Gl X "zip") (hm : X.mg "zip" = none) (ha : PA X [e, e2] ta)
    (hs : starEach [e, e2] X.env = (false, eval e X.env) :: starEach [e2] X.env) (hpl : (backTo pos (starEach [e2] X.env)).any (·.1) = false) :
    PI X (.Tuple elts kk tpos) (.Call (.Name "zip" p) [e, e2] [] pos) (iZipB X.K ta) := by
  refine ⟨fun pins s σ H R I h => ?_⟩
  refine Call_ (ld_blt I hg hm PyProof.Rows.boot_zip (PyProof.Rows.callWith_type1 (thn (ha.run pos pins s σ H _ I h) fun us s1 ⟨vs, H1, I1, r1, q1⟩ => ?_) hs hpl))
  obtain ⟨a, d, b, c, xs, ys, rfl, hqx, hqy, q⟩ := q1
  cases r1 with
  | cons r rr =>
    cases rr with
    | cons r' rr =>
      cases rr
      cases r
      cases r'
      obtain ⟨its, rv, p1⟩ := SqB.its I1 hqx
      obtain ⟨its2, rv2, p2⟩ := SqB.its I1 hqy
      have la := datB_lt p1
      have ld := datB_lt p2
      refine zip_begins2 (begins_b b a its.toArray) (begins_b c d its2.toArray) p1 p2 fun h' hz hTI hTO g1 g2 hsz hk => wpAny_pyIter_zip hz ?_
      have I2 : Inv X pins σ H1 { s1 with heap := h' } := I1.kept (t' := s1.toks) hk
      have S := zip_sep2 (N := s1.heap.objs.size) (fp1 := [a]) (fp2 := [d]) (fun x hx => by rw [List.mem_singleton.mp hx]; exact la) (fun x hx => by rw [List.mem_singleton.mp hx]; exact ld)
      refine ⟨s1.heap.objs.size + 4, [s1.heap.objs.size + 4, s1.heap.objs.size + 2, s1.heap.objs.size + 3, s1.heap.objs.size, s1.heap.objs.size + 1], _, _, H1, rfl, I2, turn_zipB b c S (Nat.ne_of_lt la) (Nat.ne_of_lt (Nat.lt_succ_of_lt ld)), ⟨hz, hTI, ⟨_, _, hTO⟩, begO_it g1, begO_it g2⟩, fun e he => ?_, q⟩
      have hle : s1.heap.objs.size ≤ e := by
        rcases (by simpa using he : e = s1.heap.objs.size + 4 ∨ e = s1.heap.objs.size + 2 ∨ e = s1.heap.objs.size + 3 ∨ e = s1.heap.objs.size ∨ e = s1.heap.objs.size + 1) with r | r | r | r | r <;> rw [r]
        · exact Nat.le_add_right _ _
        · exact Nat.le_add_right _ _
        · exact Nat.le_add_right _ _
        · exact Nat.le_refl _
        · exact Nat.le_add_right _ _
      exact I1.fpOk hle (I1.hok.fresh hle)
end Ev

set_option Elab.async false
set_option linter.all false
set_option maxRecDepth 100000
set_option maxHeartbeats 4000000
set_option autoImplicit false
/-! the places, the strongest readings -/
namespace Ev
open PySem PySem.Spec PyProof.Rows L2

def blts : List Str := ["len", "tuple", "list", "range", "zip", "enumerate", "abs", "int", "all", "any", "max", "min", "sorted", "isinstance", "bool", "str"]
/-- where one stands: the program, what is known of its top, a def's names -/
structure Pl where
  P : Program
  w : World
  K : PySem.W.Frag
  mg : Str → Option Value
  base : Heap
  n : Nat
  N : List Str
  G : GC
  fns : List (Str × Nat)
  cns : List (Str × D)
/-- what a call promises -/
def spF (p : Pl) (i m : Nat) : Sp := fun vs H Q _ => ∃ μ S ds d S', vs.length = m ∧ StR p.K μ S H ∧ IsAll p.K μ H vs ds ∧ p.G.call i ds S = some (d, S') ∧
  ∀ v μ' H', Nxt μ H μ' H' → StR p.K μ' S' H' → Is p.K μ' H' v d → Q v H'
structure Pl.Ok (p : Pl) : Prop where
  ar : ∀ (i : Nat) x m ds S r, p.fns[i]? = some (x, m) → p.G.call i ds S = some r → ds.length = m
  nd : p.N.Nodup
  blt : ∀ x ∈ blts, p.mg x = none
  cs : p.G.cs = p.cns.map (·.2)
  con : ∀ x d, (x, d) ∈ p.cns → ∃ v u, p.mg x = some u ∧ RelV v u ∧ ∀ μ H, Is p.K μ H v d
  fn : ∀ (i : Nat) x m, p.fns[i]? = some (x, m) → ∃ fa fd ps, FnOk p.P p.w p.K p.mg p.base CX0 p.n fa fd ps (spF p i m) ∧ p.mg x = some (.ref fa) ∧ PySem.W.keepIn p.K (.ref fa) = true ∧ Binds p.K fd ps []
structure Fam (p : Pl) (sc : Scope) (X : Cx) : Prop where
  prog : X.prog = p.P
  w : X.w = p.w
  K : X.K = p.K
  mg : X.mg = p.mg
  base : X.base = p.base
  N : X.N = p.N
  sc : X.env.scope = sc
  calm : X.calm = true
  room : Room p.n X.A
  xe : ∀ e s, ¬ X.xe e s
section
variable {p : Pl} {sc : Scope} {X : Cx}
theorem Fam.blk (h : Fam p sc X) (s : Shared) (H : Hp) (scope : Scope) (C : Addr) (cl : List (Str × Addr)) (fp : List Addr) : Fam p (relS scope sc) (X.blk s H scope (compEnvC scope cl C X.env) fp) :=
  ⟨h.prog, h.w, h.K, h.mg, h.base, h.N, by rw [← h.sc]; rfl, h.calm, h.room, fun _ _ z => z⟩
theorem Fam.gl (h : Fam p sc X) {x : Str} (q : sc.names.lookup x = some .globalImplicit) : L2.Gl X x := by
  show X.env.scope.names.lookup x = _
  rw [h.sc]; exact q
theorem Fam.vis (h : Fam p sc X) {x : Str} (q : Vis sc x) : Vis X.env.scope x := by rw [h.sc]; exact q
theorem Fam.hu (h : Fam p sc X) : X.A.units + 65 < cLine := by have := h.room.un; omega
end
section
variable (p : Pl) (sc : Scope)
def wE (e : Expr) : TE := fun σ H Q => ∃ t : TE, (∀ X, Fam p sc X → PE X e t) ∧ t σ H Q
def wT (e : Expr) : TT := fun σ H Q => ∃ t : TT, (∀ X, Fam p sc X → PT X e t) ∧ t σ H Q
def wA (es : List Expr) : TA := fun σ H Q => ∃ t : TA, (∀ X, Fam p sc X → PA X es t) ∧ t σ H Q
def wI (tg e : Expr) : TI := fun σ H R => ∃ t : TI, (∀ X, Fam p sc X → PI X tg e t) ∧ t σ H R
def wTs (es : List Expr) : TT := fun σ H Q => ∃ t : TT, (∀ X, Fam p sc X → PTs X es t) ∧ t σ H Q
def wO (e : Option Expr) : TO := fun σ H Q => ∃ t : TO, (∀ X, Fam p sc X → PO X e t) ∧ t σ H Q
/-- a def's own place -/
structure FamD (p : Pl) (sc : Scope) (X : Cx) : Prop where
  fam : Fam p sc X
  fn : ∀ x, X.fn x = true
  kind : sc.kind = .function
def wS (e : Stmt) : TS := fun D σ H => ∃ t : TS, (∀ X, FamD p sc X → PS X e t) ∧ t D σ H
def wSs (e : List Stmt) : TS := fun D σ H => ∃ t : TS, (∀ X, FamD p sc X → PSs X e t) ∧ t D σ H
def bOp (f : Value → Value → Sem Value) : R2 := fun x y H Q => ∃ r : R2, (∀ X, Fam p sc X → OpR X f r) ∧ r x y H Q
def bUn (f : Value → Sem Value) : V → Hp → VK → Prop := fun x H Q => ∃ r, (∀ X, Fam p sc X → UnR X f r) ∧ r x H Q
def bCl (f : Value) : List V → Hp → VK → Prop := fun xs H Q => ∃ r, (∀ X, Fam p sc X → CallR X f r) ∧ r xs H Q
def bIx : R2 := fun x y H Q => ∃ r : R2, (∀ X, Fam p sc X → IxR X r) ∧ r x y H Q
def bSl : V → Option Int → Option Int → Hp → VK → Prop := fun x l h H Q => ∃ r, (∀ X, Fam p sc X → L2.SlR X r) ∧ r x l h H Q
def bSet : TSet := fun o i v H Q => ∃ r : TSet, (∀ X, Fam p sc X → PSet X r) ∧ r o i v H Q
variable {p sc}
variable {X : Cx} (h : Fam p sc X)
include h
theorem wE_ok (e : Expr) : PE X e (wE p sc e) := ⟨fun pins s σ H Q I ⟨t, a, b⟩ => (a X h).run pins s σ H Q I b⟩
theorem wT_ok (e : Expr) : PT X e (wT p sc e) := ⟨fun pins s σ H Q I ⟨t, a, b⟩ => (a X h).run pins s σ H Q I b⟩
theorem wA_ok (e : List Expr) : PA X e (wA p sc e) := ⟨fun pos pins s σ H Q I ⟨t, a, b⟩ => (a X h).run pos pins s σ H Q I b⟩
theorem wI_ok (tg e : Expr) : PI X tg e (wI p sc tg e) := ⟨fun pins s σ H Q I ⟨t, a, b⟩ => (a X h).run pins s σ H Q I b⟩
theorem wTs_ok (e : List Expr) : PTs X e (wTs p sc e) := ⟨fun pins s σ H Q I ⟨t, a, b⟩ => (a X h).run pins s σ H Q I b⟩
theorem wO_ok (e : Option Expr) : PO X e (wO p sc e) := ⟨fun pins s σ H Q I ⟨t, a, b⟩ => (a X h).run pins s σ H Q I b⟩
theorem bOp_ok (f : Value → Value → Sem Value) : OpR X f (bOp p sc f) := fun pins s σ H x y v u Q I rx ry ⟨r, a, b⟩ => a X h pins s σ H x y v u Q I rx ry b
theorem bUn_ok (f : Value → Sem Value) : UnR X f (bUn p sc f) := fun pins s σ H x v Q I rx ⟨r, a, b⟩ => a X h pins s σ H x v Q I rx b
theorem bCl_ok (f : Value) : CallR X f (bCl p sc f) := fun pins s σ H x v Q I rx ⟨r, a, b⟩ => a X h pins s σ H x v Q I rx b
theorem bIx_ok : IxR X (bIx p sc) := fun value slice pins s σ H x y v u Q I rx ry ⟨r, a, b⟩ => a X h value slice pins s σ H x y v u Q I rx ry b
theorem bSl_ok : L2.SlR X (bSl p sc) := fun pins s σ H x v vl vu lo hi sl Q I rx a1 a2 a3 ⟨r, a, b⟩ => a X h pins s σ H x v vl vu lo hi sl Q I rx a1 a2 a3 b
theorem bSet_ok : PSet X (bSet p sc) := fun pins s σ H o i v ov iv u Q I r1 r2 r3 ⟨r, a, b⟩ => a X h pins s σ H o i v ov iv u Q I r1 r2 r3 b
end
section
variable {p : Pl} {sc : Scope} {X : Cx} (h : FamD p sc X)
include h
theorem wS_ok (e : Stmt) : PS X e (wS p sc e) := ⟨fun pins s σ H D I ⟨t, a, b⟩ => (a X h).run pins s σ H D I b⟩
theorem wSs_ok (e : List Stmt) : PSs X e (wSs p sc e) := ⟨fun pins s σ H D I ⟨t, a, b⟩ => (a X h).run pins s σ H D I b⟩
end
/-! ### targets, over a family of places -/
def wG (F : Cx → Prop) (e : Expr) : TG := fun v σ H Q => ∃ t : TG, (∀ X, F X → PG X e t) ∧ t v σ H Q
def wGs (F : Cx → Prop) (es : List Expr) : TGs := fun vs σ H Q => ∃ t : TGs, (∀ X, F X → PGs X es t) ∧ t vs σ H Q
theorem wG_ok {F : Cx → Prop} {X : Cx} (h : F X) (e : Expr) : PG X e (wG F e) := ⟨fun pins s σ H v u Q I r ⟨t, a, b⟩ => (a X h).run pins s σ H v u Q I r b⟩
theorem wGs_ok {F : Cx → Prop} {X : Cx} (h : F X) (e : List Expr) : PGs X e (wGs F e) := ⟨fun pins s σ H v u Q I r ⟨t, a, b⟩ => (a X h).run pins s σ H v u Q I r b⟩
/-- the places of a comprehension's block -/
def FamB (p : Pl) (scope sc : Scope) (X' : Cx) : Prop := ∃ (X : Cx) (s : Shared) (H : Hp) (C : Addr) (cl : List (Str × Addr)) (fp : List Addr), Fam p sc X ∧ X' = X.blk s H scope (compEnvC scope cl C X.env) fp
structure FOk (p : Pl) (F : Cx → Prop) : Prop where
  at_ : ∀ X, F X → X.calm = true ∧ X.K = p.K ∧ X.N = p.N
theorem fok_d {p : Pl} {sc : Scope} : FOk p (FamD p sc) := ⟨fun X h => ⟨h.fam.calm, h.fam.K, h.fam.N⟩⟩
theorem fok_b {p : Pl} {scope sc : Scope} : FOk p (FamB p scope sc) := ⟨fun X ⟨X0, s, H, C, cl, fp, h, e⟩ => by subst e; exact ⟨h.calm, h.K, h.N⟩⟩
end Ev

set_option Elab.async false
set_option linter.all false
set_option maxRecDepth 100000
set_option maxHeartbeats 4000000
set_option autoImplicit false
/-! operators: what the evaluator says is what comes -/
namespace Ev
open PySem PySem.Spec PyProof.Rows L2
theorem most_le {n : Nat} (h : n ≤ most) : n ≤ sizeLine := Nat.le_of_lt (small1000 h)
theorem most_lt {n : Nat} (h : n ≤ most) : n < sizeLine := small1000 h
theorem sg_eq {l : List D} {d : D} (h : sg l = some d) : l = [d] := by
  cases l with
  | nil => cases h
  | cons a r => cases r with
    | nil => cases h; rfl
    | cons _ _ => cases h
def opP : Op → Operator
  | .add => .Add | .sub => .Sub | .mul => .Mult | .fdiv => .FloorDiv | .mod => .Mod | .pow => .Pow
def cmP : Cm → CmpOp
  | .eq => .Eq | .ne => .NotEq | .lt => .Lt | .le => .LtE | .gt => .Gt | .ge => .GtE | .isN => .Is | .ntN => .IsNot | .isIn => .In | .ntIn => .NotIn
section
variable {K : PySem.W.Frag} {μ : Ad} {H : Hp} {v : V} {d : D} {a : Addr} {ds : List D} {S : Store}
theorem Is.sqT (h : Is K μ H v (.tup ds)) : ∃ a xs, v = .ref a ∧ SqT K H a xs ∧ IsAll K μ H xs ds := by
  cases h with
  | tup h a => exact ⟨_, _, rfl, h.elim (fun h => .inl (.inl h.2)) (fun h => h H), a⟩
theorem Is.newT {p : Addr} {xs : List V} (s : StR K μ S H) (n : H p = none) (h : IsAll K μ H xs ds) : Is K μ (upd H p (.tup xs)) (.ref p) (.tup ds) :=
  .tup (.inl ⟨s.notIn n, upd_same⟩) (h.mono (Nxt.newS s n))
theorem Is.newL {p : Addr} {xs : List V} (s : StR K μ S H) (n : H p = none) (h : IsAll K μ H xs ds) : Is K μ (upd H p (.lst xs)) (.ref p) (.lst ds) :=
  .lst (s.notIn n) upd_same (h.mono (Nxt.newS s n))
/-- data without cells -/
theorem Is.flat (s : StR K μ S H) (h : Is K μ H v d) {x : PyData} (e : toPy (flat S d) = some x) : Dp K H v x := by
  have key : ∀ (d : D) (v : V), Is K μ H v d → ∀ x, toPy d = some x → Dp K H v x := by
    intro d
    refine D.rec (motive_1 := fun d => ∀ v, Is K μ H v d → ∀ x, toPy d = some x → Dp K H v x) (motive_2 := fun ds => ∀ vs, IsAll K μ H vs ds → ∀ xs, toPys ds = some xs → DpAll K H vs xs) ?_ ?_ ?_ ?_ ?_ ?_ ?_ ?_ ?_ ?_ d
    · intro v h x e; cases h; cases e; exact .non
    · intro b v h x e; cases h; cases e; exact .bl b
    · intro i v h x e; cases h; cases e; exact .int i
    · intro z v h x e; cases h; cases e; exact .str z
    · intro ds ih v h x e
      simp only [toPy, Option.map_eq_some_iff] at e
      obtain ⟨xs, e1, rfl⟩ := e
      obtain ⟨a, us, rfl, q, r⟩ := h.sqT
      exact .tup q (ih _ r _ e1)
    · intro ds ih v h x e
      simp only [toPy, Option.map_eq_some_iff] at e
      obtain ⟨xs, e1, rfl⟩ := e
      cases h with
      | lst h1 h2 h3 => exact .lst (SqL.of h2) (ih _ h3 _ e1)
    · intro ds ih v h x e
      simp only [toPy, Option.map_eq_some_iff] at e
      obtain ⟨xs, e1, rfl⟩ := e
      cases h with
      | fz h1 h3 => exact .lst (h1.elim (fun h => .inl h.2) (fun h => h H)) (ih _ h3 _ e1)
    · intro n v h x e; cases e
    · intro vs h xs e; cases h; cases e; exact .nil
    · intro d ds ih1 ih2 vs h xs e
      simp only [toPys, Option.bind_eq_some_iff, Option.map_eq_some_iff] at e
      obtain ⟨x, e1, ys, e2, rfl⟩ := e
      cases h with
      | cons h1 h2 => exact .cons (ih1 _ h1 _ e1) (ih2 _ h2 _ e2)
  cases d with
  | cell n =>
    simp only [Ev.flat] at e
    split at e
    · rename_i ds hq
      cases h with
      | cell h1 =>
        obtain ⟨a, q1, vs, q2, q3⟩ := s.ex hq
        rw [h1] at q1; cases q1
        simp only [toPy, Option.map_eq_some_iff] at e
        obtain ⟨xs, e1, rfl⟩ := e
        refine .lst (SqL.of q2) ?_
        have : ∀ (ds : List D) (vs : List V) (xs : List PyData), IsAll K μ H vs ds → toPys ds = some xs → DpAll K H vs xs := by
          intro ds
          induction ds with
          | nil => intro vs xs h e; cases h; cases e; exact .nil
          | cons d ds ih =>
            intro vs xs h e
            simp only [toPys, Option.bind_eq_some_iff, Option.map_eq_some_iff] at e
            obtain ⟨x, e1, ys, e2, rfl⟩ := e
            cases h with
            | cons h1 h2 => exact .cons (key _ _ h1 _ e1) (ih _ _ h2 e2)
        exact this _ _ _ q3 e1
    · cases e
  | _ => exact key _ _ h _ e
end
section
variable {p : Pl} {sc : Scope} {μ : Ad} {H : Hp} {S : Store} {Q : VK} {v u : V} {x y z : D}
/-- a new object that stands for z -/
def Nw (p : Pl) (μ : Ad) (S : Store) (H : Hp) (z : D) (Q : VK) : Prop := ∀ v H', Nxt μ H μ H' → StR p.K μ S H' → Is p.K μ H' v z → Q v H'
theorem Nw.now (q : Nw p μ S H z Q) (s : StR p.K μ S H) (h : Is p.K μ H v z) : Q v H := q v H Nxt.refl s h
theorem Nw.tup {ds : List D} {xs : List V} (q : Nw p μ S H (.tup ds) Q) (s : StR p.K μ S H) (h : IsAll p.K μ H xs ds) {a : Addr} (n : H a = none) : Q (.ref a) (upd H a (.tup xs)) := q _ _ (Nxt.newS s n) (s.new n) (Is.newT s n h)
theorem Nw.lst {ds : List D} {xs : List V} (q : Nw p μ S H (.lst ds) Q) (s : StR p.K μ S H) (h : IsAll p.K μ H xs ds) {a : Addr} (n : H a = none) : Q (.ref a) (upd H a (.lst xs)) := q _ _ (Nxt.newS s n) (s.new n) (Is.newL s n h)
theorem bop_bin {o : Op} (e : binD S o x y = some z) (s : StR p.K μ S H) (hx : Is p.K μ H v x) (hy : Is p.K μ H u y) (q : Nw p μ S H z Q) : bOp p sc (binaryOp (opP o)) v u H Q := by
  unfold binD at e
  split at e
  · cases e; cases hx; cases hy
    exact ⟨_, fun X h => op_add, _, _, rfl, rfl, q.now s (.int _)⟩
  · cases e; cases hx; cases hy
    exact ⟨_, fun X h => op_sub, _, _, rfl, rfl, q.now s (.int _)⟩
  · split at e
    · rename_i c
      cases e; cases hx; cases hy
      exact ⟨_, fun X h => op_mulX, _, _, rfl, rfl, c, q.now s (.int _)⟩
    · cases e
  · split at e
    · rename_i c
      cases e; cases hx; cases hy
      exact ⟨_, fun X h => op_fdivX, _, _, rfl, rfl, c, q.now s (.int _)⟩
    · cases e
  · split at e
    · cases e
    · rename_i c
      cases e; cases hx; cases hy
      exact ⟨_, fun X h => op_modN, _, _, rfl, rfl, c, q.now s (.int _)⟩
  · split at e
    · rename_i c
      obtain ⟨rfl, rfl⟩ := c
      cases e; cases hx; cases hy
      exact ⟨_, fun X h => op_pow, _, _, rfl, rfl, ⟨by decide, by decide, by decide⟩, q.now s (.int _)⟩
    · cases e
  · split at e
    · rename_i xs ys c
      cases e
      obtain ⟨a, us, rfl, t1, r1⟩ := hx.sqT
      obtain ⟨b, ws, rfl, t2, r2⟩ := hy.sqT
      cases r1 with
      | nil => exact ⟨_, fun X h => h.K ▸ op_cat0, a, b, ws, rfl, rfl, t1, t2, q.now s (by simpa using hy)⟩
      | cons i1 i2 =>
        have hl := i2.len
        have hl2 := r2.len
        refine ⟨_, fun X h => h.K ▸ op_catT, a, b, _, ws, rfl, rfl, t1, t2, List.cons_ne_nil _ _, ?_, fun e => ?_, fun _ c n => q.tup s ((IsAll.cons i1 i2).app r2) n⟩
        · simp only [List.length_cons] at c ⊢
          refine most_le ?_
          omega
        · subst e
          cases r2
          exact q.now s (by simpa using hx)
    · cases e
  · split at e
    · rename_i xs ys c
      cases e
      cases hx with
      | lst h1 h2 h3 =>
        cases hy with
        | lst k1 k2 k3 =>
          exact ⟨_, fun X h => op_cat, _, _, _, _, rfl, rfl, h2, k2, most_le (by rw [h3.len, k3.len]; exact c), fun a n => q.lst s (h3.app k3) n⟩
    · cases e
  · split at e
    · rename_i xs k c
      cases e
      cases hx with
      | lst h1 h2 h3 =>
        cases hy
        exact ⟨_, fun X h => op_rep, _, _, _, rfl, rfl, h2, by omega, by omega, most_le (by rw [h3.len]; exact c.1), fun a n => q.lst s (h3.rep _) n⟩
    · cases e
  · split at e
    · rename_i xs k c
      cases e
      obtain ⟨a, us, rfl, t1, r1⟩ := hx.sqT
      have hl := r1.len
      cases hy
      by_cases k1 : k = 1
      · subst k1
        exact ⟨_, fun X h => h.K ▸ op_rep1, a, us, rfl, rfl, t1, q.now s (by simpa using hx)⟩
      · refine ⟨_, fun X h => h.K ▸ op_repT, a, k, us, rfl, rfl, t1, ?_, by omega, c.2.2.1, ?_, fun b n => q.tup s (r1.rep _) n⟩
        · intro z
          rw [z] at hl
          exact c.1 (List.eq_nil_of_length_eq_zero hl.symm)
        · have h1 := c.2.2.2
          have h2 : 1 ≤ k.toNat := by omega
          have h3 : xs.length * 1 ≤ xs.length * k.toNat := Nat.mul_le_mul_left _ h2
          unfold most at h1
          omega
    · cases e
  · cases e
theorem shaped_tup {ys : List PyData} (h : SeqAt.shaped (.list ys) = true) : SeqAt.shaped (.tuple ys) = true := by
  unfold SeqAt.shaped at h ⊢
  simpa [PyData.canLay0, PyData.depth] using h
theorem bop_cmp {o : Cm} {z : Bool} (e : cmpD S o x y = some z) (s : StR p.K μ S H) (hx : Is p.K μ H v x) (hy : Is p.K μ H u y) (q : Q (.bl z) H) : bOp p sc (compareOp (cmP o)) v u H Q := by
  unfold cmpD at e
  split at e
  · unfold eqD at e
    simp only [Option.bind_eq_some_iff] at e
    obtain ⟨a, h1, b, h2, e⟩ := e
    split at e
    · rename_i c
      cases e
      rw [Bool.and_eq_true] at c
      exact ⟨_, fun X h => h.K ▸ op_eqD (Nat.lt_of_succ_lt h.hu), a, b, hx.flat s h1, hy.flat s h2, c.1, c.2, q⟩
    · cases e
  · unfold eqD at e
    simp only [Option.bind_eq_some_iff, Option.map_eq_some_iff] at e
    obtain ⟨w, ⟨a, h1, b, h2, e⟩, rfl⟩ := e
    split at e
    · rename_i c
      cases e
      rw [Bool.and_eq_true] at c
      exact ⟨_, fun X h => h.K ▸ op_neD (Nat.lt_of_succ_lt h.hu), a, b, hx.flat s h1, hy.flat s h2, c.1, c.2, q⟩
    · cases e
  · unfold inD at e
    simp only [Option.bind_eq_some_iff] at e
    obtain ⟨a, h1, b, h2, e⟩ := e
    split at e
    · rename_i c
      cases e
      rw [Bool.and_eq_true] at c
      split at h2
      · rename_i ds hq
        have r := hy.flat s (x := .tuple b) (by rw [hq]; simp [toPy, h2])
        exact ⟨_, fun X h => h.K ▸ op_inT h.hu, a, b, hx.flat s h1, r, c.1, shaped_tup c.2, q⟩
      · rename_i ds hq
        have r := hy.flat s (x := .list b) (by rw [hq]; simp [toPy, h2])
        exact ⟨_, fun X h => h.K ▸ op_inD h.hu, a, b, hx.flat s h1, r, c.1, c.2, q⟩
      · cases h2
    · cases e
  · unfold inD at e
    simp only [Option.bind_eq_some_iff, Option.map_eq_some_iff] at e
    obtain ⟨w, ⟨a, h1, b, h2, e⟩, rfl⟩ := e
    split at e
    · rename_i c
      cases e
      rw [Bool.and_eq_true] at c
      split at h2
      · rename_i ds hq
        have r := hy.flat s (x := .tuple b) (by rw [hq]; simp [toPy, h2])
        exact ⟨_, fun X h => h.K ▸ op_ntInT h.hu, a, b, hx.flat s h1, r, c.1, shaped_tup c.2, q⟩
      · rename_i ds hq
        have r := hy.flat s (x := .list b) (by rw [hq]; simp [toPy, h2])
        exact ⟨_, fun X h => h.K ▸ op_notInD h.hu, a, b, hx.flat s h1, r, c.1, c.2, q⟩
      · cases h2
    · cases e
  · cases e; cases hx; cases hy
    exact ⟨_, fun X h => op_lt, _, _, rfl, rfl, q⟩
  · cases e; cases hx; cases hy
    exact ⟨_, fun X h => op_le, _, _, rfl, rfl, q⟩
  · cases e; cases hx; cases hy
    exact ⟨_, fun X h => op_gt, _, _, rfl, rfl, q⟩
  · cases e; cases hx; cases hy
    exact ⟨_, fun X h => op_ge, _, _, rfl, rfl, q⟩
  · cases hy
    refine ⟨_, fun X h => op_isN, rfl, ?_⟩
    cases hx <;> (cases e; exact q)
  · cases hy
    refine ⟨_, fun X h => op_notN, rfl, ?_⟩
    cases hx <;> (cases e; exact q)
  · cases e
end
end Ev

set_option Elab.async false
set_option linter.all false
set_option maxRecDepth 100000
set_option maxHeartbeats 4000000
set_option autoImplicit false
/-! expressions: one theorem a construct -/
namespace Ev
open PySem PySem.Spec PyProof.Rows L2
def notStar : Expr → Bool
  | .Starred _ _ => false
  | _ => true
theorem starEach_no {e : Expr} (h : notStar e = true) (es : List Expr) (env : PySem.Env) : starEach (e :: es) env = (false, eval e env) :: starEach es env := by
  cases e <;> first | rfl | cases h
theorem back_no {pos : Pos} {env : PySem.Env} : ∀ {es : List Expr}, es.all notStar = true → (backTo pos (starEach es env)).any (·.1) = false
  | [], _ => rfl
  | e :: es, h => by
    rw [List.all_cons, Bool.and_eq_true] at h
    rw [starEach_no h.1]
    have := back_no (pos := pos) (env := env) h.2
    unfold backTo at this ⊢
    rw [List.map_cons, List.any_cons, this]
    rfl
def plainIx : Expr → Bool
  | .Slice .. => false
  | _ => true
theorem plainIx_ok {e : Expr} (h : plainIx e = true) : PlainIx e := by
  intro o i
  cases e <;> first | rfl | cases h
/-- a test that is a value's truth -/
def plainT : Expr → Bool
  | .UnaryOp .. => false
  | .IfExp .. => false
  | .BoolOp .. => false
  | .Compare .. => false
  | .NamedExpr .. => false
  | _ => true
section
variable (p : Pl) (sc : Scope)
def SE (e : Expr) (x : Ex) : Prop := ∀ (ρ : Env) (S : Store) (d : D) (S' : Store) (μ : Ad) (σ : L2.St) (H : Hp), ev p.G x ρ S = some ([d], S') → StR p.K μ S H → EnvR p.K μ H σ ρ →
  ∀ Q : VK, (∀ v μ' H', Nxt μ H μ' H' → StR p.K μ' S' H' → Is p.K μ' H' v d → Q v H') → wE p sc e σ H Q
def SA (es : List Expr) (x : Ex) : Prop := ∀ (ρ : Env) (S : Store) (ds : List D) (S' : Store) (μ : Ad) (σ : L2.St) (H : Hp), ev p.G x ρ S = some (ds, S') → StR p.K μ S H → EnvR p.K μ H σ ρ →
  ∀ Q : List V → Hp → Prop, (∀ vs μ' H', Nxt μ H μ' H' → StR p.K μ' S' H' → IsAll p.K μ' H' vs ds → Q vs H') → wA p sc es σ H Q
def ST (e : Expr) (x : Ex) : Prop := ∀ (ρ : Env) (S : Store) (b : Bool) (S' : Store) (μ : Ad) (σ : L2.St) (H : Hp), ev p.G x ρ S = some ([.bl b], S') → StR p.K μ S H → EnvR p.K μ H σ ρ →
  ∀ Q : Bool → Hp → Prop, (∀ μ' H', Nxt μ H μ' H' → StR p.K μ' S' H' → Q b H') → wT p sc e σ H Q
variable {p sc} (ok : p.Ok)
section
include ok
theorem se_var {i : Nat} {x : Str} {pos : Pos} (hN : p.N[i]? = some x) (hv : Vis sc x) (h1 : (x == ("__debug__" : Str)) = false) (h2 : (x == ("__classdict__" : Str)) = false) : SE p sc (.Name x pos) (.var i) := by
  intro ρ S d S' μ σ H h hS hE Q q
  simp only [ev] at h
  split at h
  · rename_i d' e
    cases h
    obtain ⟨v, e1, e2⟩ := hE.at_ i _ e
    exact ⟨_, fun X hX => pe_var (by rw [hX.N]; exact hN) (hX.vis hv) h1 h2, v, e1, q v μ H Nxt.refl hS e2⟩
  · cases h
theorem se_glob {g : Nat} {x : Str} {pos : Pos} (hc : p.cns[g]?.map (·.1) = some x) (hg : sc.names.lookup x = some .globalImplicit) (h1 : (x == ("__debug__" : Str)) = false) : SE p sc (.Name x pos) (.glob g) := by
  intro ρ S d S' μ σ H h hS hE Q q
  simp only [ev, Option.bind_eq_some_iff] at h
  obtain ⟨d', e, h⟩ := h
  cases h
  rw [ok.cs, List.getElem?_map, Option.map_eq_some_iff] at e
  obtain ⟨⟨x', d''⟩, e, rfl⟩ := e
  rw [e] at hc
  cases hc
  obtain ⟨v, u, m, r, i⟩ := ok.con x' d'' (List.mem_of_getElem? e)
  exact ⟨_, fun X hX => pe_glob (hX.gl hg) (by rw [hX.mg]; exact m) r h1, q v μ H Nxt.refl hS (i μ H)⟩
end
theorem se_int {i : Int} {j : Nat} {pos : Pos} : SE p sc (.Constant (.int i) j pos) (.int i) := by
  intro ρ S d S' μ σ H h hS hE Q q
  simp only [ev] at h
  cases h
  exact ⟨_, fun X hX => pe_int, q _ μ H Nxt.refl hS (.int i)⟩
theorem se_bl {i : Bool} {j : Nat} {pos : Pos} : SE p sc (.Constant (.bool i) j pos) (.bl i) := by
  intro ρ S d S' μ σ H h hS hE Q q
  simp only [ev] at h
  cases h
  exact ⟨_, fun X hX => pe_bl, q _ μ H Nxt.refl hS (.bl i)⟩
theorem se_non {j : Nat} {pos : Pos} : SE p sc (.Constant .none j pos) .non := by
  intro ρ S d S' μ σ H h hS hE Q q
  simp only [ev] at h
  cases h
  exact ⟨_, fun X hX => pe_non, q _ μ H Nxt.refl hS .non⟩
theorem se_str {z : Str} {j : Nat} {pos : Pos} : SE p sc (.Constant (.str z) j pos) (.str z) := by
  intro ρ S d S' μ σ H h hS hE Q q
  simp only [ev] at h
  cases h
  exact ⟨_, fun X hX => pe_str, q _ μ H Nxt.refl hS (.str z)⟩
/-- the two parts of an operation, then what comes of them -/
theorem se_two {e a b : Expr} {x y z : Ex} {r : R2} (ha : SE p sc a x) (hb : SE p sc b y) (hr : ∀ X, Fam p sc X → PE X e (tOp r (wE p sc a) (wE p sc b)))
    (step : ∀ (ρ : Env) (S : Store) (d : D) (S' : Store), ev p.G z ρ S = some ([d], S') → ∃ dx S1 dy S2, ev p.G x ρ S = some ([dx], S1) ∧ ev p.G y ρ S1 = some ([dy], S2) ∧
      ∀ (μ : Ad) (H : Hp) (v u : V) (Q : VK), StR p.K μ S2 H → Is p.K μ H v dx → Is p.K μ H u dy → (∀ w μ' H', Nxt μ H μ' H' → StR p.K μ' S' H' → Is p.K μ' H' w d → Q w H') → r v u H Q) : SE p sc e z := by
  intro ρ S d S' μ σ H h hS hE Q q
  obtain ⟨dx, S1, dy, S2, h1, h2, h3⟩ := step ρ S d S' h
  refine ⟨_, hr, ?_⟩
  refine ha ρ S dx S1 μ σ H h1 hS hE _ fun v μ1 H1 n1 s1 i1 => ?_
  refine hb ρ S1 dy S2 μ1 σ H1 h2 s1 (hE.mono n1) _ fun u μ2 H2 n2 s2 i2 => ?_
  exact h3 μ2 H2 v u Q s2 (i1.mono n2) i2 fun w μ' H' n s i => q w μ' H' (n1.trans (n2.trans n)) s i
/-- one part, then what comes of it -/
theorem se_one {e a : Expr} {x z : Ex} {r : V → Hp → VK → Prop} (ha : SE p sc a x) (hr : ∀ X, Fam p sc X → PE X e (fun σ H Q => wE p sc a σ H fun v H1 => r v H1 Q))
    (step : ∀ (ρ : Env) (S : Store) (d : D) (S' : Store), ev p.G z ρ S = some ([d], S') → ∃ dx S1, ev p.G x ρ S = some ([dx], S1) ∧
      ∀ (μ : Ad) (H : Hp) (v : V) (Q : VK), StR p.K μ S1 H → Is p.K μ H v dx → (∀ w μ' H', Nxt μ H μ' H' → StR p.K μ' S' H' → Is p.K μ' H' w d → Q w H') → r v H Q) : SE p sc e z := by
  intro ρ S d S' μ σ H h hS hE Q q
  obtain ⟨dx, S1, h1, h3⟩ := step ρ S d S' h
  refine ⟨_, hr, ?_⟩
  refine ha ρ S dx S1 μ σ H h1 hS hE _ fun v μ1 H1 n1 s1 i1 => ?_
  exact h3 μ1 H1 v Q s1 i1 fun w μ' H' n s i => q w μ' H' (n1.trans n) s i
theorem se_bin {o : Op} {a b : Expr} {x y : Ex} {pos : Pos} (ha : SE p sc a x) (hb : SE p sc b y) : SE p sc (.BinOp a (opP o) b pos) (.bin o x y) := by
  refine se_two ha hb (fun X hX => pe_op (bOp_ok hX _) (wE_ok hX a) (wE_ok hX b)) fun ρ S d S' h => ?_
  simp only [ev, Option.bind_eq_some_iff] at h
  obtain ⟨⟨l1, S1⟩, h1, dx, e1, ⟨l2, S2⟩, h2, dy, e2, z, hz, h⟩ := h
  cases h
  cases sg_eq e1
  cases sg_eq e2
  exact ⟨dx, S1, dy, S2, h1, h2, fun μ H v u Q s iv iu q => bop_bin hz s iv iu fun w H' n s i => q w μ H' n s i⟩
theorem se_cmp {o : Cm} {a b : Expr} {x y : Ex} {pos : Pos} (ha : SE p sc a x) (hb : SE p sc b y) (hm : behindInMarks (cmP o) b = false) : SE p sc (.Compare a [cmP o] [b] pos) (.cmp o x y) := by
  refine se_two ha hb (fun X hX => pe_cmpR (bOp_ok hX _) (wE_ok hX a) (wE_ok hX b) hm) fun ρ S d S' h => ?_
  simp only [ev, Option.bind_eq_some_iff] at h
  obtain ⟨⟨l1, S1⟩, h1, dx, e1, ⟨l2, S2⟩, h2, dy, e2, z, hz, h⟩ := h
  cases h
  cases sg_eq e1
  cases sg_eq e2
  exact ⟨dx, S1, dy, S2, h1, h2, fun μ H v u Q s iv iu q => bop_cmp hz s iv iu (q _ μ H Nxt.refl s (.bl z))⟩
theorem st_cmp {o : Cm} {a b : Expr} {x y : Ex} {pos : Pos} (ha : SE p sc a x) (hb : SE p sc b y) (hm : behindInMarks (cmP o) b = false) : ST p sc (.Compare a [cmP o] [b] pos) (.cmp o x y) := by
  intro ρ S b' S' μ σ H h hS hE Q q
  simp only [ev, Option.bind_eq_some_iff] at h
  obtain ⟨⟨l1, S1⟩, h1, dx, e1, ⟨l2, S2⟩, h2, dy, e2, z, hz, h⟩ := h
  cases h
  cases sg_eq e1
  cases sg_eq e2
  refine ⟨_, fun X hX => pt_cmpR (bOp_ok hX _) (wE_ok hX a) (wE_ok hX b) hm, ?_⟩
  refine ha ρ S dx S1 μ σ H h1 hS hE _ fun v μ1 H1 n1 s1 i1 => ?_
  refine hb ρ S1 dy S2 μ1 σ H1 h2 s1 (hE.mono n1) _ fun u μ2 H2 n2 s2 i2 => ?_
  exact bop_cmp hz s2 (i1.mono n2) i2 ⟨_, rfl, q μ2 H2 (n1.trans n2) s2⟩
theorem se_neg {a : Expr} {x : Ex} {pos : Pos} (ha : SE p sc a x) : SE p sc (.UnaryOp .USub a pos) (.neg x) := by
  refine se_one ha (fun X hX => pe_un un_neg (wE_ok hX a)) fun ρ S d S' h => ?_
  simp only [ev, Option.bind_eq_some_iff] at h
  obtain ⟨⟨l1, S1⟩, h1, h⟩ := h
  split at h
  · rename_i i e
    cases h
    simp only at e
    subst e
    refine ⟨_, _, h1, fun μ H v Q s iv q => ?_⟩
    cases iv
    exact ⟨_, rfl, q _ μ H Nxt.refl s (.int _)⟩
  · cases h
theorem se_nt {a : Expr} {x : Ex} {pos : Pos} (ha : SE p sc a x) : SE p sc (.UnaryOp .Not a pos) (.nt x) := by
  refine se_one ha (fun X hX => pe_not (wE_ok hX a)) fun ρ S d S' h => ?_
  simp only [ev, Option.bind_eq_some_iff] at h
  obtain ⟨⟨l1, S1⟩, h1, h⟩ := h
  split at h
  · rename_i i e
    cases h
    simp only at e
    subst e
    refine ⟨_, _, h1, fun μ H v Q s iv q => ?_⟩
    cases iv
    exact ⟨_, rfl, q _ μ H Nxt.refl s (.bl _)⟩
  · cases h
theorem st_val {a : Expr} {x : Ex} (ha : SE p sc a x) (h : plainT a = true) : ST p sc a x := by
  intro ρ S b' S' μ σ H h' hS hE Q q
  refine ⟨_, fun X hX => pt_val (wE_ok hX a) (by intro w; cases a <;> first | rfl | cases h), ?_⟩
  refine ha ρ S _ S' μ σ H h' hS hE _ fun v μ1 H1 n1 s1 i1 => ?_
  cases i1
  exact ⟨_, rfl, q μ1 H1 n1 s1⟩
theorem st_nt {a : Expr} {x : Ex} {pos : Pos} (ha : ST p sc a x) : ST p sc (.UnaryOp .Not a pos) (.nt x) := by
  intro ρ S b' S' μ σ H h hS hE Q q
  simp only [ev, Option.bind_eq_some_iff] at h
  obtain ⟨⟨l1, S1⟩, h1, h⟩ := h
  split at h
  · rename_i i e
    cases h
    simp only at e
    subst e
    exact ⟨_, fun X hX => pt_not (wT_ok hX a), ha ρ S _ S1 μ σ H h1 hS hE _ fun μ1 H1 n1 s1 => q μ1 H1 n1 s1⟩
  · cases h
theorem se_and {a b : Expr} {es : List Expr} {x y : Ex} {pos : Pos} (ha : SE p sc a x) (hb : SE p sc (.BoolOp .And (b :: es) pos) y) : SE p sc (.BoolOp .And (a :: b :: es) pos) (.and x y) := by
  intro ρ S d S' μ σ H h hS hE Q q
  simp only [ev, Option.bind_eq_some_iff] at h
  obtain ⟨⟨l1, S1⟩, h1, h⟩ := h
  refine ⟨_, fun X hX => pe_and (wE_ok hX a) (wE_ok hX _), ?_⟩
  split at h <;> rename_i e <;> simp only at e <;> (try subst e)
  · refine ha ρ S _ S1 μ σ H h1 hS hE _ fun v μ1 H1 n1 s1 i1 => ?_
    cases i1
    refine ⟨true, rfl, ?_⟩
    rw [if_pos rfl]
    exact hb ρ S1 d S' μ1 σ H1 h s1 (hE.mono n1) _ fun w μ2 H2 n2 s2 i2 => q w μ2 H2 (n1.trans n2) s2 i2
  · cases h
    refine ha ρ S _ S1 μ σ H h1 hS hE _ fun v μ1 H1 n1 s1 i1 => ?_
    cases i1
    exact ⟨false, rfl, by rw [if_neg (by decide)]; exact q _ μ1 H1 n1 s1 (.bl false)⟩
  · cases h
theorem se_or {a b : Expr} {es : List Expr} {x y : Ex} {pos : Pos} (ha : SE p sc a x) (hb : SE p sc (.BoolOp .Or (b :: es) pos) y) : SE p sc (.BoolOp .Or (a :: b :: es) pos) (.or x y) := by
  intro ρ S d S' μ σ H h hS hE Q q
  simp only [ev, Option.bind_eq_some_iff] at h
  obtain ⟨⟨l1, S1⟩, h1, h⟩ := h
  refine ⟨_, fun X hX => pe_or (wE_ok hX a) (wE_ok hX _), ?_⟩
  split at h <;> rename_i e <;> simp only at e <;> (try subst e)
  · cases h
    refine ha ρ S _ S1 μ σ H h1 hS hE _ fun v μ1 H1 n1 s1 i1 => ?_
    cases i1
    exact ⟨true, rfl, by rw [if_pos rfl]; exact q _ μ1 H1 n1 s1 (.bl true)⟩
  · refine ha ρ S _ S1 μ σ H h1 hS hE _ fun v μ1 H1 n1 s1 i1 => ?_
    cases i1
    refine ⟨false, rfl, ?_⟩
    rw [if_neg (by decide)]
    exact hb ρ S1 d S' μ1 σ H1 h s1 (hE.mono n1) _ fun w μ2 H2 n2 s2 i2 => q w μ2 H2 (n1.trans n2) s2 i2
  · cases h
theorem se_bone {op : BoolOp} {a : Expr} {x : Ex} {pos : Pos} (ha : SE p sc a x) : SE p sc (.BoolOp op [a] pos) x := by
  intro ρ S d S' μ σ H h hS hE Q q
  exact ⟨_, fun X hX => pe_one (wE_ok hX a), ha ρ S d S' μ σ H h hS hE Q q⟩
/-- tests of and, or: part by part -/
def wW (p : Pl) (sc : Scope) (e : Expr) : TT := fun σ H Q => ∃ t : TT, (∀ X, Fam p sc X → PW X e t) ∧ t σ H Q
theorem wW_ok {X : Cx} (h : Fam p sc X) (e : Expr) : PW X e (wW p sc e) := ⟨fun W pins s σ H Q I ⟨t, a, b⟩ => (a X h).run W pins s σ H Q I b⟩
def SW (p : Pl) (sc : Scope) (e : Expr) (x : Ex) : Prop := ∀ (ρ : Env) (S : Store) (b : Bool) (S' : Store) (μ : Ad) (σ : L2.St) (H : Hp), ev p.G x ρ S = some ([.bl b], S') → StR p.K μ S H → EnvR p.K μ H σ ρ →
  ∀ Q : Bool → Hp → Prop, (∀ μ' H', Nxt μ H μ' H' → StR p.K μ' S' H' → Q b H') → wW p sc e σ H Q
theorem sw_one {op : BoolOp} {a : Expr} {x : Ex} {pos : Pos} (ha : ST p sc a x) : SW p sc (.BoolOp op [a] pos) x := by
  intro ρ S b' S' μ σ H h hS hE Q q
  refine ⟨_, fun X hX => (match op with
    | .And => pw_and1 (wT_ok hX a)
    | .Or => pw_or1 (wT_ok hX a)), ha ρ S b' S' μ σ H h hS hE Q q⟩
theorem sw_and {a b : Expr} {es : List Expr} {x y : Ex} {pos : Pos} (ha : ST p sc a x) (hb : SW p sc (.BoolOp .And (b :: es) pos) y) : SW p sc (.BoolOp .And (a :: b :: es) pos) (.and x y) := by
  intro ρ S d S' μ σ H h hS hE Q q
  simp only [ev, Option.bind_eq_some_iff] at h
  obtain ⟨⟨l1, S1⟩, h1, h⟩ := h
  refine ⟨_, fun X hX => pw_and (wT_ok hX a) (wW_ok hX _), ?_⟩
  split at h <;> rename_i e <;> simp only at e <;> (try subst e)
  · refine ha ρ S _ S1 μ σ H h1 hS hE _ fun μ1 H1 n1 s1 => ?_
    rw [if_pos rfl]
    exact hb ρ S1 d S' μ1 σ H1 h s1 (hE.mono n1) _ fun μ2 H2 n2 s2 => q μ2 H2 (n1.trans n2) s2
  · cases h
    exact ha ρ S _ S1 μ σ H h1 hS hE _ fun μ1 H1 n1 s1 => by rw [if_neg (by decide)]; exact q μ1 H1 n1 s1
  · cases h
theorem sw_or {a b : Expr} {es : List Expr} {x y : Ex} {pos : Pos} (ha : ST p sc a x) (hb : SW p sc (.BoolOp .Or (b :: es) pos) y) : SW p sc (.BoolOp .Or (a :: b :: es) pos) (.or x y) := by
  intro ρ S d S' μ σ H h hS hE Q q
  simp only [ev, Option.bind_eq_some_iff] at h
  obtain ⟨⟨l1, S1⟩, h1, h⟩ := h
  refine ⟨_, fun X hX => pw_or (wT_ok hX a) (wW_ok hX _), ?_⟩
  split at h <;> rename_i e <;> simp only at e <;> (try subst e)
  · cases h
    exact ha ρ S _ S1 μ σ H h1 hS hE _ fun μ1 H1 n1 s1 => by rw [if_pos rfl]; exact q μ1 H1 n1 s1
  · refine ha ρ S _ S1 μ σ H h1 hS hE _ fun μ1 H1 n1 s1 => ?_
    rw [if_neg (by decide)]
    exact hb ρ S1 d S' μ1 σ H1 h s1 (hE.mono n1) _ fun μ2 H2 n2 s2 => q μ2 H2 (n1.trans n2) s2
  · cases h
theorem st_sw {e : Expr} {x : Ex} (h : SW p sc e x) : ST p sc e x := fun ρ S b S' μ σ H h1 hS hE Q q => ⟨_, fun X hX => (wW_ok hX e).pt, h ρ S b S' μ σ H h1 hS hE Q q⟩
theorem se_ite {c a b : Expr} {z x y : Ex} {pos : Pos} (hc : ST p sc c z) (ha : SE p sc a x) (hb : SE p sc b y) : SE p sc (.IfExp c a b pos) (.ite z x y) := by
  intro ρ S d S' μ σ H h hS hE Q q
  simp only [ev, Option.bind_eq_some_iff] at h
  obtain ⟨⟨l1, S1⟩, h1, h⟩ := h
  refine ⟨_, fun X hX => pe_ifExp (wT_ok hX c) (wE_ok hX a) (wE_ok hX b), ?_⟩
  split at h <;> rename_i e <;> simp only at e <;> (try subst e)
  · refine hc ρ S _ S1 μ σ H h1 hS hE _ fun μ1 H1 n1 s1 => ?_
    rw [if_pos rfl]
    exact ha ρ S1 d S' μ1 σ H1 h s1 (hE.mono n1) _ fun w μ2 H2 n2 s2 i2 => q w μ2 H2 (n1.trans n2) s2 i2
  · refine hc ρ S _ S1 μ σ H h1 hS hE _ fun μ1 H1 n1 s1 => ?_
    rw [if_neg (by decide)]
    exact hb ρ S1 d S' μ1 σ H1 h s1 (hE.mono n1) _ fun w μ2 H2 n2 s2 i2 => q w μ2 H2 (n1.trans n2) s2 i2
  · cases h
/-! ### argument lists, displays -/
theorem sa_nil : SA p sc [] .nil := by
  intro ρ S ds S' μ σ H h hS hE Q q
  simp only [ev] at h
  cases h
  exact ⟨_, fun X hX => pa_nil, q [] μ H Nxt.refl hS .nil⟩
theorem sa_cons {e : Expr} {es : List Expr} {x y : Ex} (ha : SE p sc e x) (hb : SA p sc es y) (hs : notStar e = true) (one : ∀ ρ S l S', ev p.G x ρ S = some (l, S') → ∃ d, l = [d]) : SA p sc (e :: es) (.cons x y) := by
  intro ρ S ds S' μ σ H h hS hE Q q
  simp only [ev, Option.bind_eq_some_iff] at h
  obtain ⟨⟨l1, S1⟩, h1, ⟨l2, S2⟩, h2, h⟩ := h
  cases h
  obtain ⟨d, rfl⟩ := one _ _ _ _ h1
  refine ⟨_, fun X hX => pa_cons (wE_ok hX e) (wA_ok hX es) (starEach_no hs es _), ?_⟩
  refine ha ρ S d S1 μ σ H h1 hS hE _ fun v μ1 H1 n1 s1 i1 => ?_
  refine hb ρ S1 l2 S2 μ1 σ H1 h2 s1 (hE.mono n1) _ fun vs μ2 H2 n2 s2 i2 => ?_
  exact q (v :: vs) μ2 H2 (n1.trans n2) s2 (.cons (i1.mono n2) i2)
theorem sa_star {e : Expr} {es : List Expr} {x y : Ex} {pos : Pos} (ha : SE p sc e x) (hb : SA p sc es y) : SA p sc (.Starred e pos :: es) (.cons (.star x) y) := by
  intro ρ S ds S' μ σ H h hS hE Q q
  simp only [ev, Option.bind_eq_some_iff] at h
  obtain ⟨⟨l1, S1⟩, ⟨⟨l0, S0⟩, h0, d, e0, ds1, e1, e2⟩, ⟨l2, S2⟩, h2, h⟩ := h
  cases h
  cases e2
  cases sg_eq e0
  refine ⟨_, fun X hX => hX.K ▸ StX.pa_star (wE_ok hX e) (wA_ok hX es), ?_⟩
  refine ha ρ S d _ μ σ H h0 hS hE _ fun v μ1 H1 n1 s1 i1 => ?_
  obtain ⟨a, xs, rfl, r, q1⟩ := i1.seq s1 e1
  refine ⟨a, xs, rfl, q1, ?_⟩
  refine hb ρ _ l2 S2 μ1 σ H1 h2 s1 (hE.mono n1) _ fun vs μ2 H2 n2 s2 i2 => ?_
  exact q (xs ++ vs) μ2 H2 (n1.trans n2) s2 ((r.mono n2).app i2)
theorem se_tup {es : List Expr} {x : Ex} {k : Nat} {pos : Pos} (ha : SA p sc es x) : SE p sc (.Tuple es k pos) (.tupE x) := by
  intro ρ S d S' μ σ H h hS hE Q q
  simp only [ev, Option.bind_eq_some_iff] at h
  obtain ⟨⟨l1, S1⟩, h1, h⟩ := h
  split at h
  · rename_i c
    cases h
    refine ⟨_, fun X hX => pe_tup (wA_ok hX es), ?_⟩
    refine ha ρ S l1 _ μ σ H h1 hS hE _ fun vs μ1 H1 n1 s1 i1 => ⟨most_le (by rw [i1.len]; exact c), fun a n => ?_⟩
    exact q _ μ1 _ (n1.trans (Nxt.newS s1 n)) (s1.new n) (Is.newT s1 n i1)
  · cases h
theorem se_lst {es : List Expr} {x : Ex} {pos : Pos} (ha : SA p sc es x) : SE p sc (.List es pos) (.lstE x) := by
  intro ρ S d S' μ σ H h hS hE Q q
  simp only [ev, Option.bind_eq_some_iff] at h
  obtain ⟨⟨l1, S1⟩, h1, h⟩ := h
  split at h
  · rename_i c
    cases h
    refine ⟨_, fun X hX => pe_lst (wA_ok hX es), ?_⟩
    refine ha ρ S l1 _ μ σ H h1 hS hE _ fun vs μ1 H1 n1 s1 i1 => ⟨most_le (by rw [i1.len]; exact c), fun a n => ?_⟩
    exact q _ μ1 _ (n1.trans (Nxt.newS s1 n)) (s1.new n) (Is.newL s1 n i1)
  · cases h
end
end Ev

set_option Elab.async false
set_option linter.all false
set_option maxRecDepth 100000
set_option maxHeartbeats 4000000
set_option autoImplicit false
/-! built-in calls, subscripts, slices, calls of defs -/
namespace Ev
open PySem PySem.Spec PyProof.Rows L2
section
variable {p : Pl} {sc : Scope} (ok : p.Ok)
/-- the name is the built-in's -/
def gI (sc : Scope) (x : Str) : Prop := sc.names.lookup x = some .globalImplicit
include ok
theorem peB1 {X : Cx} (hX : Fam p sc X) {name : Str} {id : String} {a : Expr} {p1 pos : Pos} (hn : name ∈ blts) (hg : gI sc name) (hv : bootBuiltins name = some (.builtin id)) (hs : notStar a = true) (h1 : name ≠ "__name__") (h2 : (name == ("__debug__" : Str)) = false) :
    PE X (.Call (.Name name p1) [a] [] pos) (fun σ H Q => wE p sc a σ H fun v H1 => bCl p sc (.builtin id) [v] H1 Q) :=
  pe_callB (bCl_ok hX _) (hX.gl hg) (by rw [hX.mg]; exact ok.blt name hn) hv (pa_cons (wE_ok hX a) pa_nil (starEach_no hs _ _)) h1 h2 (starEach_no hs _ _) rfl
theorem peT1 {X : Cx} (hX : Fam p sc X) {name : Str} {T : String} {a : Expr} {p1 pos : Pos} (hn : name ∈ blts) (hg : gI sc name) (hv : bootBuiltins name = some (.type T)) (hs : notStar a = true) (h1 : name ≠ "__name__") (h2 : (name == ("__debug__" : Str)) = false) :
    PE X (.Call (.Name name p1) [a] [] pos) (fun σ H Q => wE p sc a σ H fun v H1 => bCl p sc (.type T) [v] H1 Q) :=
  pe_callTy (bCl_ok hX _) (hX.gl hg) (by rw [hX.mg]; exact ok.blt name hn) hv (pa_cons (wE_ok hX a) pa_nil (starEach_no hs _ _)) h1 h2 (starEach_no hs _ _) rfl
theorem peB2 {X : Cx} (hX : Fam p sc X) {name : Str} {id : String} {a b : Expr} {p1 pos : Pos} (hn : name ∈ blts) (hg : gI sc name) (hv : bootBuiltins name = some (.builtin id)) (hs : notStar a = true) (hs2 : notStar b = true) (h1 : name ≠ "__name__") (h2 : (name == ("__debug__" : Str)) = false) :
    PE X (.Call (.Name name p1) [a, b] [] pos) (tOp (fun x y H Q => bCl p sc (.builtin id) [x, y] H Q) (wE p sc a) (wE p sc b)) :=
  pe_callB (bCl_ok hX _) (hX.gl hg) (by rw [hX.mg]; exact ok.blt name hn) hv (pa_cons (wE_ok hX a) (pa_cons (wE_ok hX b) pa_nil (starEach_no hs2 _ _)) (starEach_no hs _ _)) h1 h2 (starEach_no hs _ _) (back_no (by simp [hs2]))
theorem se_len {a : Expr} {x : Ex} {p1 pos : Pos} (ha : SE p sc a x) (hg : gI sc "len") (hs : notStar a = true) : SE p sc (.Call (.Name "len" p1) [a] [] pos) (.len x) := by
  refine se_one ha (fun X hX => peB1 ok hX (by decide) hg PySem.boot_len hs (by decide) (by decide)) fun ρ S d S' h => ?_
  simp only [ev, Option.bind_eq_some_iff] at h
  obtain ⟨⟨l1, S1⟩, h1, dx, e1, ds, e2, h⟩ := h
  cases h
  cases sg_eq e1
  refine ⟨dx, S1, h1, fun μ H v Q s iv q => ?_⟩
  obtain ⟨a, xs, rfl, r, q1⟩ := iv.seq s e2
  refine ⟨_, fun X hX => hX.K ▸ call_len_seq, a, xs, rfl, q1.symm, ?_⟩
  rw [r.len]
  exact q _ μ H Nxt.refl s (.int _)
theorem se_tuple {a : Expr} {x : Ex} {p1 pos : Pos} (ha : SE p sc a x) (hg : gI sc "tuple") (hs : notStar a = true) : SE p sc (.Call (.Name "tuple" p1) [a] [] pos) (.tuple x) := by
  refine se_one ha (fun X hX => peT1 ok hX (by decide) hg (T := "tuple") (by decide +kernel) hs (by decide) (by decide)) fun ρ S d S' h => ?_
  simp only [ev, Option.bind_eq_some_iff] at h
  obtain ⟨⟨l1, S1⟩, h1, dx, e1, ds, e2, h⟩ := h
  cases h
  cases sg_eq e1
  refine ⟨dx, S1, h1, fun μ H v Q s iv q => ?_⟩
  have new : ∀ {a : Addr} {xs : List V}, SqL p.K H a xs → IsAll p.K μ H xs ds → bCl p sc (.type "tuple") [V.ref a] H Q := fun {a xs} q1 r =>
    ⟨_, fun X hX => hX.K ▸ call_tuple_of, a, xs, rfl, .inl ⟨q1, fun b n => q _ μ _ (Nxt.newS s n) (s.new n) (Is.newT s n r)⟩⟩
  cases iv with
  | tup t r =>
    cases e2
    exact ⟨_, fun X hX => hX.K ▸ call_tuple_of, _, _, rfl, .inr ⟨t.elim (fun t => .inl (.inl t.2)) (fun t => t H), q _ μ H Nxt.refl s (.tup t r)⟩⟩
  | lst t1 t2 r => cases e2; exact new (SqL.of t2) r
  | fz t r => cases e2; exact new (t.elim (fun h => .inl h.2) (fun h => h H)) r
  | cell t =>
    simp only [seqOf] at e2
    split at e2
    · rename_i ds' hq
      cases e2
      obtain ⟨a, k1, vs, k2, k3⟩ := s.ex hq
      rw [t] at k1; cases k1
      exact new (SqL.of k2) k3
    · cases e2
  | _ => cases e2
theorem se_list {a : Expr} {x : Ex} {p1 pos : Pos} (ha : SE p sc a x) (hg : gI sc "list") (hs : notStar a = true) : SE p sc (.Call (.Name "list" p1) [a] [] pos) (.list x) := by
  refine se_one ha (fun X hX => peT1 ok hX (by decide) hg (T := "list") (by decide +kernel) hs (by decide) (by decide)) fun ρ S d S' h => ?_
  simp only [ev, Option.bind_eq_some_iff] at h
  obtain ⟨⟨l1, S1⟩, h1, dx, e1, ds, e2, h⟩ := h
  cases h
  cases sg_eq e1
  refine ⟨dx, S1, h1, fun μ H v Q s iv q => ?_⟩
  obtain ⟨a, xs, rfl, r, q1⟩ := iv.seq s e2
  exact ⟨_, fun X hX => hX.K ▸ call_list_of, a, xs, rfl, q1.symm, fun b n => q _ μ _ (Nxt.newS s n) (s.new n) (Is.newL s n r)⟩
theorem se_abs {a : Expr} {x : Ex} {p1 pos : Pos} (ha : SE p sc a x) (hg : gI sc "abs") (hs : notStar a = true) : SE p sc (.Call (.Name "abs" p1) [a] [] pos) (.absE x) := by
  refine se_one ha (fun X hX => peB1 ok hX (by decide) hg (id := "abs") (by decide +kernel) hs (by decide) (by decide)) fun ρ S d S' h => ?_
  simp only [ev, Option.bind_eq_some_iff] at h
  obtain ⟨⟨l1, S1⟩, h1, h⟩ := h
  split at h
  · rename_i i e
    cases h
    simp only at e
    subst e
    refine ⟨_, _, h1, fun μ H v Q s iv q => ?_⟩
    cases iv
    exact ⟨_, fun X hX => call_abs, _, rfl, q _ μ H Nxt.refl s (.int _)⟩
  · cases h
theorem se_intE {a : Expr} {x : Ex} {p1 pos : Pos} (ha : SE p sc a x) (hg : gI sc "int") (hs : notStar a = true) : SE p sc (.Call (.Name "int" p1) [a] [] pos) (.intE x) := by
  refine se_one ha (fun X hX => peT1 ok hX (by decide) hg (T := "int") (by decide +kernel) hs (by decide) (by decide)) fun ρ S d S' h => ?_
  simp only [ev, Option.bind_eq_some_iff] at h
  obtain ⟨⟨l1, S1⟩, h1, h⟩ := h
  split at h
  · rename_i i e
    cases h
    simp only at e
    subst e
    refine ⟨_, _, h1, fun μ H v Q s iv q => ?_⟩
    cases iv
    exact ⟨_, fun X hX => call_int1, .inl ⟨_, rfl, q _ μ H Nxt.refl s (.int _)⟩⟩
  · rename_i i e
    cases h
    simp only at e
    subst e
    refine ⟨_, _, h1, fun μ H v Q s iv q => ?_⟩
    cases iv
    exact ⟨_, fun X hX => call_int1, .inr ⟨_, rfl, q _ μ H Nxt.refl s (.int _)⟩⟩
  · cases h
theorem se_all {a : Expr} {x : Ex} {p1 pos : Pos} (ha : SE p sc a x) (hg : gI sc "all") (hs : notStar a = true) : SE p sc (.Call (.Name "all" p1) [a] [] pos) (.allE x) := by
  refine se_one ha (fun X hX => peB1 ok hX (by decide) hg (id := "all") (by decide +kernel) hs (by decide) (by decide)) fun ρ S d S' h => ?_
  simp only [ev, Option.bind_eq_some_iff] at h
  obtain ⟨⟨l1, S1⟩, h1, h⟩ := h
  split at h
  · rename_i ds e
    simp only at e
    subst e
    simp only [Option.bind_eq_some_iff] at h
    obtain ⟨bs, e2, h⟩ := h
    cases h
    refine ⟨_, _, h1, fun μ H v Q s iv q => ?_⟩
    cases iv with
    | lst t1 t2 r =>
      have := r.bls e2
      subst this
      exact ⟨_, fun X hX => hX.K ▸ cr_all hX.calm, _, bs, rfl, SqL.of t2, q _ μ H Nxt.refl s (.bl _)⟩
  · cases h
theorem se_any {a : Expr} {x : Ex} {p1 pos : Pos} (ha : SE p sc a x) (hg : gI sc "any") (hs : notStar a = true) : SE p sc (.Call (.Name "any" p1) [a] [] pos) (.anyE x) := by
  refine se_one ha (fun X hX => peB1 ok hX (by decide) hg (id := "any") (by decide +kernel) hs (by decide) (by decide)) fun ρ S d S' h => ?_
  simp only [ev, Option.bind_eq_some_iff] at h
  obtain ⟨⟨l1, S1⟩, h1, h⟩ := h
  split at h
  · rename_i ds e
    simp only at e
    subst e
    simp only [Option.bind_eq_some_iff] at h
    obtain ⟨bs, e2, h⟩ := h
    cases h
    refine ⟨_, _, h1, fun μ H v Q s iv q => ?_⟩
    cases iv with
    | lst t1 t2 r =>
      have := r.bls e2
      subst this
      exact ⟨_, fun X hX => hX.K ▸ cr_any hX.calm, _, bs, rfl, SqL.of t2, q _ μ H Nxt.refl s (.bl _)⟩
  · cases h
omit ok in
theorem maxI_spec : ∀ (r : List Int) (m : Int), maxI m r ∈ m :: r ∧ ∀ y ∈ m :: r, y ≤ maxI m r
  | [], m => ⟨by simp [maxI], by simp [maxI]⟩
  | j :: r, m => by
    have hm : ∃ k : Int, (if m < j then j else m) = k ∧ m ≤ k ∧ j ≤ k ∧ (k = m ∨ k = j) := ⟨_, rfl, by split <;> omega, by split <;> omega, by split <;> simp⟩
    obtain ⟨k, e, k1, k2, k3⟩ := hm
    unfold maxI
    rw [e]
    obtain ⟨h1, h2⟩ := maxI_spec r k
    have h0 := h2 k (List.mem_cons_self ..)
    refine ⟨?_, fun y hy => ?_⟩
    · rcases List.mem_cons.mp h1 with h | h
      · rw [h]
        rcases k3 with z | z <;> simp [z]
      · simp [h]
    · rcases List.mem_cons.mp hy with z | hy
      · omega
      · rcases List.mem_cons.mp hy with z | hy
        · omega
        · exact h2 y (List.mem_cons_of_mem _ hy)
theorem se_max {a : Expr} {x : Ex} {p1 pos : Pos} (ha : SE p sc a x) (hg : gI sc "max") (hs : notStar a = true) : SE p sc (.Call (.Name "max" p1) [a] [] pos) (.maxE x) := by
  refine se_one ha (fun X hX => peB1 ok hX (by decide) hg (id := "max") (by decide +kernel) hs (by decide) (by decide)) fun ρ S d S' h => ?_
  simp only [ev, Option.bind_eq_some_iff] at h
  obtain ⟨⟨l1, S1⟩, h1, h⟩ := h
  split at h
  · rename_i ds e
    simp only at e
    subst e
    simp only [Option.bind_eq_some_iff] at h
    obtain ⟨ns, e2, h⟩ := h
    split at h
    · cases h
    · rename_i m r
      cases h
      refine ⟨_, _, h1, fun μ H v Q s iv q => ?_⟩
      cases iv with
      | lst t1 t2 r' =>
        have := r'.ints e2
        subst this
        refine ⟨_, fun X hX => hX.K ▸ cr_max hX.calm, _, m :: r, rfl, SqL.of t2, by simp, fun k hk hb => ?_⟩
        obtain ⟨k1, k2⟩ := maxI_spec r m
        have e := Int.le_antisymm (hb _ k1) (k2 _ hk)
        rw [← e]
        exact q _ μ H Nxt.refl s (.int _)
  · cases h
theorem se_min2 {a b : Expr} {x y : Ex} {p1 pos : Pos} (ha : SE p sc a x) (hb : SE p sc b y) (hg : gI sc "min") (hs : notStar a = true) (hs2 : notStar b = true) : SE p sc (.Call (.Name "min" p1) [a, b] [] pos) (.min2 x y) := by
  refine se_two ha hb (fun X hX => peB2 ok hX (by decide) hg (id := "min") (by decide +kernel) hs hs2 (by decide) (by decide)) fun ρ S d S' h => ?_
  simp only [ev, Option.bind_eq_some_iff] at h
  obtain ⟨⟨l1, S1⟩, h1, ⟨l2, S2⟩, h2, h⟩ := h
  split at h
  · rename_i i j e1 e2
    cases h
    simp only at e1 e2
    subst e1 e2
    refine ⟨_, _, _, _, h1, h2, fun μ H v u Q s iv iu q => ?_⟩
    cases iv; cases iu
    exact ⟨_, fun X hX => call_min2 hX.calm, _, _, rfl, q _ μ H Nxt.refl s (.int _)⟩
  · cases h
omit ok in
theorem insI_perm (i : Int) : ∀ l : List Int, (insI i l).Perm (i :: l)
  | [] => .refl _
  | j :: r => by
    unfold insI
    split
    · exact .refl _
    · exact ((insI_perm i r).cons j).trans (.swap ..)
omit ok in
theorem sortI_perm : ∀ l : List Int, (sortI l).Perm l
  | [] => .refl _
  | i :: r => (insI_perm i _).trans ((sortI_perm r).cons i)
omit ok in
theorem insI_srt (i : Int) : ∀ l : List Int, l.Pairwise (· ≤ ·) → (insI i l).Pairwise (· ≤ ·)
  | [], _ => by simp [insI]
  | j :: r, h => by
    unfold insI
    rw [List.pairwise_cons] at h
    split
    · rename_i c
      rw [List.pairwise_cons, List.pairwise_cons]
      refine ⟨fun y hy => ?_, h⟩
      rcases List.mem_cons.mp hy with rfl | hy
      · exact c
      · exact Int.le_trans c (h.1 y hy)
    · rename_i c
      rw [List.pairwise_cons]
      refine ⟨fun y hy => ?_, insI_srt i r h.2⟩
      rcases List.mem_cons.mp ((insI_perm i r).mem_iff.mp hy) with rfl | hy
      · omega
      · exact h.1 y hy
omit ok in
theorem sortI_srt : ∀ l : List Int, (sortI l).Pairwise (· ≤ ·)
  | [] => .nil
  | i :: r => insI_srt i _ (sortI_srt r)
omit ok in
theorem sort_uniq : ∀ {a b : List Int}, a.Perm b → a.Pairwise (· ≤ ·) → b.Pairwise (· ≤ ·) → a = b := by
  intro a
  induction a with
  | nil => intro b h _ _; exact h.nil_eq
  | cons x a ih =>
    intro b h ha hb
    cases b with
    | nil => exact absurd h.symm.nil_eq (List.cons_ne_nil _ _).symm
    | cons y b =>
      rw [List.pairwise_cons] at ha hb
      have h1 : x ≤ y := by
        rcases List.mem_cons.mp (h.mem_iff.mpr (List.mem_cons_self ..) : y ∈ x :: a) with e | e
        · omega
        · exact ha.1 y e
      have h2 : y ≤ x := by
        rcases List.mem_cons.mp (h.mem_iff.mp (List.mem_cons_self ..) : x ∈ y :: b) with e | e
        · omega
        · exact hb.1 x e
      have e : x = y := Int.le_antisymm h1 h2
      subst e
      rw [ih (List.Perm.cons_inv h) ha.2 hb.2]
theorem se_sorted {a : Expr} {x : Ex} {p1 pos : Pos} (ha : SE p sc a x) (hg : gI sc "sorted") (hs : notStar a = true) : SE p sc (.Call (.Name "sorted" p1) [a] [] pos) (.sorted x) := by
  refine se_one ha (fun X hX => peB1 ok hX (by decide) hg (id := "sorted") (by decide +kernel) hs (by decide) (by decide)) fun ρ S d S' h => ?_
  simp only [ev, Option.bind_eq_some_iff] at h
  obtain ⟨⟨l1, S1⟩, h1, dx, e1, ds, e2, ns, e3, h⟩ := h
  split at h
  · cases h
    cases sg_eq e1
    refine ⟨dx, S1, h1, fun μ H v Q s iv q => ?_⟩
    obtain ⟨a, xs, rfl, r, q1⟩ := iv.seq s e2
    have := r.ints e3
    subst this
    have fin : ∀ (ns' : List Int) (b : Addr), ns'.Perm ns → ns'.Pairwise (· ≤ ·) → H b = none → Q (.ref b) (upd H b (.lst (ns'.map V.int))) := fun ns' b k1 k2 n => by
      rw [sort_uniq (k1.trans (sortI_perm ns).symm) k2 (sortI_srt ns)]
      exact q _ μ _ (Nxt.newS s n) (s.new n) (Is.newL s n (isAll_ints _))
    rcases q1 with q1 | q1
    · exact ⟨_, fun X hX => hX.K ▸ cr_sortedIT, a, ns, rfl, q1, fin⟩
    · exact ⟨_, fun X hX => hX.K ▸ cr_sortedI, a, ns, rfl, q1, fin⟩
  · cases h
end
end Ev

set_option Elab.async false
set_option linter.all false
set_option maxRecDepth 100000
set_option maxHeartbeats 4000000
set_option autoImplicit false
/-! iterables, fresh lists, comprehensions -/
namespace Ev
open PySem PySem.Spec PyProof.Rows L2
section
variable {K : PySem.W.Frag} {μ μ' μ'' : Ad} {H H' H'' : Hp} {v : V} {d : D} {vs : List V} {ds : List D} {S S' : Store} {ρ : Env} {σ : L2.St}
theorem Kp.trans (a : Kp μ H μ' H') (b : Kp μ' H' μ'' H'') : Kp μ H μ'' H'' :=
  ⟨fun x u o r => b.rd x u (a.rd x u o r).1 (a.rd x u o r).2, fun x u o r => b.at_ x u (a.rd x u o (.inl r)).1 (a.at_ x u o r), fun i x h => b.get i x (a.get i x h)⟩
/-- what an iterable's object holds, as long as its cell is kept -/
def Src (K : PySem.W.Frag) (μ : Ad) (S : Store) (H : Hp) (g : List Nat) (b : Bool) (a : Addr) (items : List D) : Prop :=
  ∀ μ1 S1 H1, Kp μ H μ1 H1 → StR K μ1 S1 H1 → kept g S S1 → ∃ vs, SqB b K H1 a vs ∧ IsAll K μ1 H1 vs items
theorem src_of (h : Is K μ H v d) (s : StR K μ S H) (e : seqOf S d = some ds) : ∃ a b, v = .ref a ∧ Src K μ S H (guardOf d) b a ds := by
  cases h with
  | tup t r =>
    cases e
    refine ⟨_, true, rfl, fun μ1 S1 H1 n s1 k => ⟨_, ?_, r.kp n⟩⟩
    show SqT K H1 _ _
    exact t.elim (fun t => .inl (.inl (n.at_ _ _ t.1 t.2))) (fun t => t H1)
  | lst t1 t2 r => cases e; exact ⟨_, false, rfl, fun μ1 S1 H1 n s1 k => ⟨_, SqL.of (n.at_ _ _ t1 t2), r.kp n⟩⟩
  | fz t r =>
    cases e
    refine ⟨_, false, rfl, fun μ1 S1 H1 n s1 k => ⟨_, ?_, r.kp n⟩⟩
    show SqL K H1 _ _
    exact t.elim (fun t => .inl (n.rd _ _ t.1 t.2).2) (fun t => t H1)
  | @cell n a t =>
    simp only [seqOf] at e
    split at e
    · rename_i ds' hq
      cases e
      refine ⟨_, false, rfl, fun μ1 S1 H1 n' s1 k => ?_⟩
      have k1 := k n (by simp [guardOf])
      rw [hq] at k1
      obtain ⟨a', q1, vs, q2, q3⟩ := s1.ex k1
      rw [n'.get _ _ t] at q1; cases q1
      exact ⟨vs, SqL.of q2, q3⟩
    · cases e
  | _ => cases e
/-- the iterator walks these items -/
def Wk (K : PySem.W.Frag) (μ : Ad) (S : Store) (H : Hp) (J : It) (g : List Nat) (items : List D) : Prop :=
  ∀ (i : Nat) μ1 S1 H1, Kp μ H μ1 H1 → StR K μ1 S1 H1 → kept g S S1 →
    (∀ d, items[i]? = some d → J.go i H1 ∧ ∀ x H2, J.yld i H1 x H2 → Nxt μ1 H1 μ1 H2 ∧ StR K μ1 S1 H2 ∧ Is K μ1 H2 x d) ∧ (i = items.length → J.stop i H1)
def ItsB (b : Bool) (K : PySem.W.Frag) (a : Addr) : It := if b = true then Itt K a else Itl K a
theorem SqB.inj' {X : Cx} {pins : List (Addr × Obj)} {σ : L2.St} {s : Shared} {b : Bool} {a : Addr} {xs ys : List V} (I : Inv X pins σ H s) (h : SqB b X.K H a xs) (h' : SqB b X.K H a ys) : xs = ys := SqB.inj I h h'
theorem wk_seq {b : Bool} {a : Addr} {g : List Nat} (h : Src K μ S H g b a ds) : Wk K μ S H (ItsB b K a) g ds := by
  intro i μ1 S1 H1 n s k
  obtain ⟨vs, q, r⟩ := h μ1 S1 H1 n s k
  refine ⟨fun d e => ?_, fun e => ?_⟩
  · obtain ⟨v, e1, iv⟩ := r.get e
    cases b with
    | true => exact ⟨⟨vs, v, q, e1⟩, fun x H2 ⟨y1, y2⟩ => by
        have z := (y2 vs q).symm.trans e1
        cases z
        rw [y1]; exact ⟨Nxt.refl, s, iv⟩⟩
    | false => exact ⟨⟨vs, v, q, e1⟩, fun x H2 ⟨y1, y2⟩ => by
        have z := (y2 vs q).symm.trans e1
        cases z
        rw [y1]; exact ⟨Nxt.refl, s, iv⟩⟩
  · have hl := r.len
    cases b with
    | true => exact ⟨vs, q, by omega⟩
    | false => exact ⟨vs, q, by omega⟩
theorem enumD_get : ∀ (ds : List D) (n i : Nat) (d : D), (enumD n ds)[i]? = some d → ∃ x, ds[i]? = some x ∧ d = .tup [.int ((n + i : Nat) : Int), x]
  | [], _, _, _, h => by simp [enumD] at h
  | x :: xs, n, 0, d, h => by
    simp [enumD] at h
    exact ⟨x, rfl, h.symm⟩
  | x :: xs, n, i + 1, d, h => by
    simp only [enumD, List.getElem?_cons_succ] at h
    obtain ⟨y, h1, h2⟩ := enumD_get xs (n + 1) i d h
    exact ⟨y, by simpa using h1, by rw [h2]; congr 3; omega⟩
theorem enumD_len : ∀ (ds : List D) (n : Nat), (enumD n ds).length = ds.length
  | [], _ => rfl
  | x :: xs, n => by simp [enumD, enumD_len xs]
theorem new2 {x y : V} {d e : D} {T : Addr} (s : StR K μ S H) (n : H T = none) (hx : Is K μ H x d) (hy : Is K μ H y e) : Nxt μ H μ (upd H T (.tup [x, y])) ∧ StR K μ S (upd H T (.tup [x, y])) ∧ Is K μ (upd H T (.tup [x, y])) (.ref T) (.tup [d, e]) :=
  ⟨Nxt.newS s n, s.new n, Is.newT s n (.cons hx (.cons hy .nil))⟩
theorem wk_enum {b : Bool} {a : Addr} {g : List Nat} (h : Src K μ S H g b a ds) : Wk K μ S H (IteB b K a) g (enumD 0 ds) := by
  intro i μ1 S1 H1 n s k
  obtain ⟨vs, q, r⟩ := h μ1 S1 H1 n s k
  refine ⟨fun d e => ?_, fun e => ?_⟩
  · obtain ⟨y, e1, rfl⟩ := enumD_get _ _ _ _ e
    obtain ⟨v, e2, iv⟩ := r.get e1
    refine ⟨⟨vs, v, q, e2⟩, fun x H2 hy => ?_⟩
    obtain ⟨T, w, rfl, nT, rfl, y2⟩ := hy
    have z := (y2 vs q).symm.trans e2
    cases z
    rw [Nat.zero_add]
    exact new2 s nT (.int _) iv
  · rw [enumD_len] at e
    exact ⟨vs, q, by rw [r.len]; exact e.symm⟩
theorem zipD_get : ∀ (ds es : List D) (i : Nat) (d : D), (zipD ds es)[i]? = some d → ∃ x y, ds[i]? = some x ∧ es[i]? = some y ∧ d = .tup [x, y]
  | [], _, _, _, h => by simp [zipD] at h
  | _ :: _, [], _, _, h => by simp [zipD] at h
  | x :: xs, y :: ys, 0, d, h => by
    simp [zipD] at h
    exact ⟨x, y, rfl, rfl, h.symm⟩
  | x :: xs, y :: ys, i + 1, d, h => by
    simp only [zipD, List.getElem?_cons_succ] at h
    obtain ⟨u, w, h1, h2, h3⟩ := zipD_get xs ys i d h
    exact ⟨u, w, by simpa using h1, by simpa using h2, h3⟩
theorem zipD_len : ∀ (ds es : List D), (zipD ds es).length = min ds.length es.length
  | [], es => by simp [zipD]
  | _ :: _, [] => by simp [zipD]
  | x :: xs, y :: ys => by
    simp only [zipD, List.length_cons, zipD_len xs ys]
    omega
theorem wk_zip {b c : Bool} {a a' : Addr} {g g' : List Nat} {es : List D} (h : Src K μ S H g b a ds) (h' : Src K μ S H g' c a' es) : Wk K μ S H (ItzB b c K a a') (g ++ g') (zipD ds es) := by
  intro i μ1 S1 H1 n s k
  obtain ⟨vs, q, r⟩ := h μ1 S1 H1 n s fun j hj => k j (List.mem_append_left _ hj)
  obtain ⟨ws, q', r'⟩ := h' μ1 S1 H1 n s fun j hj => k j (List.mem_append_right _ hj)
  refine ⟨fun d e => ?_, fun e => ?_⟩
  · obtain ⟨x, y, e1, e2, rfl⟩ := zipD_get _ _ _ _ e
    obtain ⟨v, f1, iv⟩ := r.get e1
    obtain ⟨w, f2, iw⟩ := r'.get e2
    refine ⟨⟨vs, ws, v, w, q, q', f1, f2⟩, fun x H2 hy => ?_⟩
    obtain ⟨T, u1, u2, rfl, nT, rfl, y1, y2⟩ := hy
    have z1 := (y1 vs q).symm.trans f1
    have z2 := (y2 ws q').symm.trans f2
    cases z1; cases z2
    exact new2 s nT iv iw
  · rw [zipD_len] at e
    exact ⟨vs, ws, q, q', by rw [r.len, r'.len]; exact e.symm⟩
theorem rngD_get {a b : Int} {i : Nat} {d : D} (h : (rngD a b)[i]? = some d) : d = .int (a + (i : Nat)) ∧ i < (b - a).toNat := by
  unfold rngD at h
  rw [List.getElem?_map, Option.map_eq_some_iff] at h
  obtain ⟨j, h1, rfl⟩ := h
  obtain ⟨q1, q2⟩ := List.getElem?_eq_some_iff.mp h1
  rw [List.getElem_range] at q2
  rw [List.length_range] at q1
  exact ⟨by rw [q2], q1⟩
theorem rngD_len (a b : Int) : (rngD a b).length = (b - a).toNat := by unfold rngD; simp
theorem wk_rng (a b : Int) : Wk K μ S H (Itr a (b - a).toNat) [] (rngD a b) := by
  intro i μ1 S1 H1 n s k
  refine ⟨fun d e => ?_, fun e => ?_⟩
  · obtain ⟨rfl, hi⟩ := rngD_get e
    exact ⟨hi, fun x H2 ⟨y1, y2⟩ => by rw [y1, y2]; exact ⟨Nxt.refl, s, .int _⟩⟩
  · rw [rngD_len] at e
    exact Nat.le_of_eq e.symm
end
theorem pi_seqB {X : Cx} {tg e : Expr} {te : TE} (he : PE X e te) : PI X tg e (fun σ H R => te σ H fun x H1 => ∃ a b xs, x = V.ref a ∧ SqB b X.K H1 a xs ∧ R (ItsB b X.K a) H1) := by
  refine ⟨fun pins s σ H R I h => ?_⟩
  refine thn (he.run pins s σ H _ I h) fun v s1 ⟨x, H1, I1, r1, q1⟩ => ?_
  obtain ⟨a, b, xs, rfl, hq, q⟩ := q1
  cases r1
  have one : ∀ c ∈ [s1.heap.objs.size], FpOk X pins H1 c := fun c hc => by
    rw [List.mem_singleton.mp hc]
    exact I1.fpOk (Nat.le_refl _) (I1.hok.fresh (Nat.le_refl _))
  cases b with
  | false =>
    obtain ⟨its, rv, pl, hz⟩ := I1.list hq
    exact wpAny_pyIter_list pl.isList ⟨s1.heap.objs.size, [s1.heap.objs.size], _, _, H1, rfl, I1.kept (t' := s1.toks) fun b o e => Heap.get?_push_of_some _ e, turn_list a _, ⟨_, Heap.get?_push_size _ rfl, rfl, rfl⟩, one, q⟩
  | true =>
    obtain ⟨its, rv, pl, hz⟩ := I1.tuple hq
    exact wpAny_pyIter_tuple (show s1.heap.IsTuple a its.toArray from pl) ⟨s1.heap.objs.size, [s1.heap.objs.size], _, _, H1, rfl, I1.kept (t' := s1.toks) fun b o e => Heap.get?_push_of_some _ e, turn_tuple a _, ⟨_, Heap.get?_push_size _ rfl, rfl, rfl⟩, one, q⟩
section
variable {p : Pl} {sc : Scope} (ok : p.Ok)
def SI (p : Pl) (sc : Scope) (tg e : Expr) (x : Ex) : Prop := ∀ (ρ : Env) (S : Store) (out : List D) (S' : Store) (g : List Nat) (items : List D) (μ : Ad) (σ : L2.St) (H : Hp), ev p.G x ρ S = some (out, S') → unG out = some (g, items) →
  StR p.K μ S H → EnvR p.K μ H σ ρ → ∀ R : It → Hp → Prop, (∀ J μ' H', Nxt μ H μ' H' → StR p.K μ' S' H' → Wk p.K μ' S' H' J g items → R J H') → wI p sc tg e σ H R
theorem gNat_cells : ∀ g : List Nat, gNat (g.map D.cell) = g
  | [] => rfl
  | n :: g => by simp [gNat, gNat_cells g]
theorem unG_pack {g g' : List Nat} {xs xs' : List D} (h : unG (packG g xs) = some (g', xs')) : g' = g ∧ xs' = xs := by
  simp only [packG, unG, gNat_cells] at h
  cases h
  exact ⟨rfl, rfl⟩
theorem Src.has {K : PySem.W.Frag} {μ : Ad} {S : Store} {H : Hp} {g : List Nat} {b : Bool} {a : Addr} {ds : List D} (h : Src K μ S H g b a ds) (s : StR K μ S H) : ∃ vs, SqB b K H a vs :=
  let ⟨vs, q, _⟩ := h μ S H Nxt.refl.kp s (fun _ _ => rfl); ⟨vs, q⟩
theorem Src.mono {K : PySem.W.Frag} {μ μ' : Ad} {S S' : Store} {H H' : Hp} {g : List Nat} {b : Bool} {a : Addr} {ds : List D} (h : Src K μ S H g b a ds) (n : Kp μ H μ' H') (k : kept g S S') : Src K μ' S' H' g b a ds :=
  fun μ1 S1 H1 n1 s1 k1 => h μ1 S1 H1 (n.trans n1) s1 fun j hj => (k1 j hj).trans (k j hj)
theorem si_it {tg e : Expr} {x : Ex} (ha : SE p sc e x) : SI p sc tg e (.it x) := by
  intro ρ S out S' g items μ σ H h hu hS hE R q
  simp only [ev, Option.bind_eq_some_iff] at h
  obtain ⟨⟨l1, S1⟩, h1, dx, e1, ds, e2, h⟩ := h
  cases h
  cases sg_eq e1
  obtain ⟨rfl, rfl⟩ := unG_pack hu
  refine ⟨_, fun X hX => hX.K ▸ pi_seqB (wE_ok hX e), ?_⟩
  refine ha ρ S dx S1 μ σ H h1 hS hE _ fun v μ1 H1 n1 s1 i1 => ?_
  obtain ⟨a, b, rfl, sr⟩ := src_of i1 s1 e2
  obtain ⟨vs, q1⟩ := sr.has s1
  exact ⟨a, b, vs, rfl, q1, q _ μ1 H1 n1 s1 (wk_seq sr)⟩
include ok
theorem si_enum {e : Expr} {x : Ex} {elts : List Expr} {kk : Nat} {tpos p1 pos : Pos} (ha : SE p sc e x) (hg : gI sc "enumerate") (hs : notStar e = true) : SI p sc (.Tuple elts kk tpos) (.Call (.Name "enumerate" p1) [e] [] pos) (.enm x) := by
  intro ρ S out S' g items μ σ H h hu hS hE R q
  simp only [ev, Option.bind_eq_some_iff] at h
  obtain ⟨⟨l1, S1⟩, h1, dx, e1, ds, e2, h⟩ := h
  cases h
  cases sg_eq e1
  obtain ⟨rfl, rfl⟩ := unG_pack hu
  refine ⟨_, fun X hX => hX.K ▸ pi_enumB (hX.gl hg) (by rw [hX.mg]; exact ok.blt _ (by decide)) (pa_cons (wE_ok hX e) pa_nil (starEach_no hs _ _)) (starEach_no hs _ _), ?_⟩
  refine ha ρ S dx S1 μ σ H h1 hS hE _ fun v μ1 H1 n1 s1 i1 => ?_
  obtain ⟨a, b, rfl, sr⟩ := src_of i1 s1 e2
  obtain ⟨vs, q1⟩ := sr.has s1
  exact ⟨a, b, vs, rfl, q1, q _ μ1 H1 n1 s1 (wk_enum sr)⟩
theorem si_zip {e f : Expr} {x y : Ex} {elts : List Expr} {kk : Nat} {tpos p1 pos : Pos} (ha : SE p sc e x) (hb : SE p sc f y) (hg : gI sc "zip") (hs : notStar e = true) (hs2 : notStar f = true) :
    SI p sc (.Tuple elts kk tpos) (.Call (.Name "zip" p1) [e, f] [] pos) (.zip x y) := by
  intro ρ S out S' g items μ σ H h hu hS hE R q
  simp only [ev, Option.bind_eq_some_iff] at h
  obtain ⟨⟨l1, S1⟩, h1, dx, e1, ⟨l2, S2⟩, h2, dy, e2, xs, e3, ys, e4, h⟩ := h
  cases h
  cases sg_eq e1
  cases sg_eq e2
  obtain ⟨rfl, rfl⟩ := unG_pack hu
  refine ⟨_, fun X hX => hX.K ▸ pi_zipB (hX.gl hg) (by rw [hX.mg]; exact ok.blt _ (by decide)) (pa_cons (wE_ok hX e) (pa_cons (wE_ok hX f) pa_nil (starEach_no hs2 _ _)) (starEach_no hs _ _)) (starEach_no hs _ _) (back_no (by simp [hs2])), ?_⟩
  refine ha ρ S dx S1 μ σ H h1 hS hE _ fun v μ1 H1 n1 s1 i1 => ?_
  refine hb ρ S1 dy S2 μ1 σ H1 h2 s1 (hE.mono n1) _ fun u μ2 H2 n2 s2 i2 => ?_
  obtain ⟨a, b, rfl, sr⟩ := src_of (i1.mono n2) s2 e3
  obtain ⟨a', c, rfl, sr'⟩ := src_of i2 s2 e4
  obtain ⟨vs, q1⟩ := sr.has s2
  obtain ⟨ws, q2⟩ := sr'.has s2
  exact ⟨a, a', b, c, vs, ws, rfl, q1, q2, q _ μ2 H2 (n1.trans n2) s2 (wk_zip sr sr')⟩
theorem si_rng1 {tg e : Expr} {x : Ex} {p1 pos : Pos} (ha : SE p sc e x) (hg : gI sc "range") (hs : notStar e = true) : SI p sc tg (.Call (.Name "range" p1) [e] [] pos) (.rng1 x) := by
  intro ρ S out S' g items μ σ H h hu hS hE R q
  simp only [ev, Option.bind_eq_some_iff] at h
  obtain ⟨⟨l1, S1⟩, h1, h⟩ := h
  split at h
  · rename_i j e1
    split at h
    · rename_i c
      cases h
      simp only at e1
      subst e1
      obtain ⟨rfl, rfl⟩ := unG_pack hu
      refine ⟨_, fun X hX => pi_range1 (hX.gl hg) (by rw [hX.mg]; exact ok.blt _ (by decide)) (pa_cons (wE_ok hX e) pa_nil (starEach_no hs _ _)) (starEach_no hs _ _), ?_⟩
      refine ha ρ S _ S1 μ σ H h1 hS hE _ fun v μ1 H1 n1 s1 i1 => ?_
      cases i1
      refine ⟨j, rfl, by omega, by omega, ?_⟩
      have w := q (Itr 0 (j - 0).toNat) μ1 H1 n1 s1 (wk_rng 0 j)
      rwa [Int.sub_zero] at w
    · cases h
  · cases h
theorem si_rng2 {tg e f : Expr} {x y : Ex} {p1 pos : Pos} (ha : SE p sc e x) (hb : SE p sc f y) (hg : gI sc "range") (hs : notStar e = true) (hs2 : notStar f = true) : SI p sc tg (.Call (.Name "range" p1) [e, f] [] pos) (.rng2 x y) := by
  intro ρ S out S' g items μ σ H h hu hS hE R q
  simp only [ev, Option.bind_eq_some_iff] at h
  obtain ⟨⟨l1, S1⟩, h1, ⟨l2, S2⟩, h2, h⟩ := h
  split at h
  · rename_i i j e1 e2
    split at h
    · rename_i c
      cases h
      simp only at e1 e2
      subst e1 e2
      obtain ⟨rfl, rfl⟩ := unG_pack hu
      have st2 : ∀ env : PySem.Env, starEach [e, f] env = [(false, eval e env), (false, eval f env)] := fun env => by rw [starEach_no hs, starEach_no hs2]; rfl
      refine ⟨_, fun X hX => pi_range2 (hX.gl hg) (by rw [hX.mg]; exact ok.blt _ (by decide)) (pa_cons (wE_ok hX e) (pa_cons (wE_ok hX f) pa_nil (starEach_no hs2 _ _)) (starEach_no hs _ _)) (st2 _) (starEach_no hs2 _ _), ?_⟩
      refine ha ρ S _ S1 μ σ H h1 hS hE _ fun v μ1 H1 n1 s1 i1 => ?_
      refine hb ρ S1 _ S2 μ1 σ H1 h2 s1 (hE.mono n1) _ fun u μ2 H2 n2 s2 i2 => ?_
      cases i1; cases i2
      exact ⟨i, j, rfl, ⟨by omega, by omega, by omega, by omega⟩, q _ μ2 H2 (n1.trans n2) s2 (wk_rng i j)⟩
    · cases h
  · cases h
end
end Ev

set_option Elab.async false
set_option linter.all false
set_option maxRecDepth 100000
set_option maxHeartbeats 4000000
set_option autoImplicit false
/-! fresh lists, comprehensions -/
namespace Ev
open PySem PySem.Spec PyProof.Rows L2
section
variable {K : PySem.W.Frag} {μ μ' μ'' : Ad} {H H' H'' : Hp} {v : V} {d : D} {vs : List V} {ds : List D} {S S' : Store} {ρ ρ' : Env} {σ σ' : L2.St}
theorem Nxt.back (n : Nxt μ H μ' H') (s : StR K μ' S' H') {a : Addr} (h : H' a = none) : H a = none := by
  cases e : H a with
  | none => rfl
  | some o =>
    by_cases h1 : a ∈ μ.h
    · rw [n.same a h1, e] at h; cases h
    · by_cases h2 : a ∈ μ.c
      · obtain ⟨ν, e1, _⟩ := n.more
        obtain ⟨o', e2⟩ := s.has (a := a) (by rw [e1]; exact List.mem_append_left _ h2)
        rw [h] at e2; cases e2
      · rw [n.keep a o ⟨h2, h1⟩ e] at h; cases h
theorem Nxt.under {D : Addr} (n : Nxt (μ.hide D) H μ' H') : Nxt μ H ⟨μ'.c, μ.h⟩ H' := by
  refine ⟨?_, rfl, fun b o q e => ?_, fun b hb => n.same b (List.mem_cons_of_mem _ hb), n.frz⟩
  · obtain ⟨ν, e1, h1⟩ := n.more
    exact ⟨ν, e1, fun a ha => ⟨⟨(h1 a ha).1.1, fun z => (h1 a ha).1.2 (List.mem_cons_of_mem _ z)⟩, (h1 a ha).2⟩⟩
  · by_cases z : b = D
    · rw [z, n.same D (List.mem_cons_self ..), ← z]; exact e
    · exact n.keep b o ⟨q.1, fun y => (List.mem_cons.mp y).elim z q.2⟩ e
theorem Nxt.updN {D : Addr} {o : HO} (n : Nxt μ H μ' H') (h : H D = none) (hh : D ∉ μ.h) : Nxt μ H μ' (upd H' D o) :=
  ⟨n.more, n.hid, fun b u q e => by rw [upd_ne (ne_of_none e h)]; exact n.keep b u q e, fun b hb => by rw [upd_ne (fun z => hh (by rw [← z]; exact hb))]; exact n.same b hb, fun b o u e => by rw [upd_ne (ne_of_none e h)]; exact n.frz b o u e⟩
/-! ### slots forgotten -/
theorem wipe_get (σ : L2.St) (i : Nat) : ∀ vs : List Nat, (wipe σ vs)[i]? = if i ∈ vs ∧ i < σ.length then some none else σ[i]?
  | [] => by simp [wipe]
  | v :: vs => by
    unfold wipe
    have ih := wipe_get σ i vs
    by_cases hv : v = i
    · subst hv
      by_cases hl : v < σ.length
      · rw [List.getElem?_set_self (by rw [wipe_length]; exact hl), if_pos ⟨List.mem_cons_self .., hl⟩]
      · rw [List.getElem?_eq_none (by rw [List.length_set, wipe_length]; omega), if_neg (fun z => hl z.2), List.getElem?_eq_none (by omega)]
    · rw [List.getElem?_set_ne hv, ih]
      have : i ∈ v :: vs ↔ i ∈ vs := ⟨fun z => (List.mem_cons.mp z).elim (fun e => absurd e.symm hv) id, List.mem_cons_of_mem _⟩
      simp only [this]
theorem wipeE_len (ρ : Env) : ∀ vs : List Nat, (wipeE ρ vs).length = ρ.length
  | [] => rfl
  | v :: vs => by unfold wipeE; rw [List.length_set, wipeE_len ρ vs]
theorem wipeE_get (ρ : Env) (i : Nat) : ∀ vs : List Nat, (wipeE ρ vs)[i]? = if i ∈ vs ∧ i < ρ.length then some none else ρ[i]?
  | [] => by simp [wipeE]
  | v :: vs => by
    unfold wipeE
    have ih := wipeE_get ρ i vs
    by_cases hv : v = i
    · subst hv
      by_cases hl : v < ρ.length
      · rw [List.getElem?_set_self (by rw [wipeE_len]; exact hl), if_pos ⟨List.mem_cons_self .., hl⟩]
      · rw [List.getElem?_eq_none (by rw [List.length_set, wipeE_len]; omega), if_neg (fun z => hl z.2), List.getElem?_eq_none (by omega)]
    · rw [List.getElem?_set_ne hv, ih]
      have : i ∈ v :: vs ↔ i ∈ vs := ⟨fun z => (List.mem_cons.mp z).elim (fun e => absurd e.symm hv) id, List.mem_cons_of_mem _⟩
      simp only [this]
theorem EnvR.wipe (e : EnvR K μ H σ ρ) (vs : List Nat) : EnvR K μ H (L2.wipe σ vs) (wipeE ρ vs) := by
  refine ⟨by rw [wipe_length, wipeE_len, e.len], fun i d h => ?_⟩
  rw [wipeE_get] at h
  rw [wipe_get]
  split at h
  · cases h
  · rename_i c
    rw [if_neg (by rw [e.len]; exact c)]
    exact e.at_ i d h
theorem EnvR.set (e : EnvR K μ H σ ρ) (h : Is K μ H v d) (i : Nat) : EnvR K μ H (σ.set i (some v)) (ρ.set i (some d)) := by
  refine ⟨by simp [e.len], fun j d' q => ?_⟩
  by_cases hj : i = j
  · subst hj
    by_cases hl : i < ρ.length
    · rw [List.getElem?_set_self hl] at q
      cases q
      exact ⟨v, List.getElem?_set_self (by rw [e.len]; exact hl), h⟩
    · rw [List.getElem?_eq_none (by rw [List.length_set]; omega)] at q; cases q
  · rw [List.getElem?_set_ne hj] at q ⊢
    exact e.at_ j d' q
end
def tgIx : Tg → List Nat
  | .nm i => [i]
  | .tnil => []
  | .tcons a b => tgIx a ++ tgIx b
  | .tup a => tgIx a
def tgLen : Tg → Nat
  | .nm i => 1
  | .tnil => 0
  | .tcons a b => tgLen b + 1
  | .tup a => 1
theorem setT_len : ∀ (t : Tg) (ds : List D) (ρ ρ' : Env), setT t ds ρ = some ρ' → ds.length = tgLen t
  | .nm i, ds, ρ, ρ', h => by
    simp only [setT] at h
    split at h
    · rfl
    · cases h
  | .tnil, ds, ρ, ρ', h => by
    simp only [setT] at h
    split at h
    · rfl
    · cases h
  | .tcons a b, ds, ρ, ρ', h => by
    simp only [setT] at h
    split at h
    · simp only [Option.bind_eq_some_iff] at h
      obtain ⟨ρ1, _, h⟩ := h
      rw [List.length_cons, setT_len b _ _ _ h, tgLen]
    · cases h
  | .tup a, ds, ρ, ρ', h => by
    simp only [setT] at h
    split at h
    · rfl
    · cases h
theorem setT_keep : ∀ (t : Tg) (ds : List D) (ρ ρ' : Env), setT t ds ρ = some ρ' → ρ'.length = ρ.length
  | .nm i, ds, ρ, ρ', h => by
    simp only [setT] at h
    split at h
    · split at h
      · cases h; simp
      · cases h
    · cases h
  | .tnil, ds, ρ, ρ', h => by
    simp only [setT] at h
    split at h
    · cases h; rfl
    · cases h
  | .tcons a b, ds, ρ, ρ', h => by
    simp only [setT] at h
    split at h
    · simp only [Option.bind_eq_some_iff] at h
      obtain ⟨ρ1, h1, h⟩ := h
      rw [setT_keep b _ _ _ h, setT_keep a _ _ _ h1]
    · cases h
  | .tup a, ds, ρ, ρ', h => by
    simp only [setT] at h
    split at h
    · exact setT_keep a _ _ _ h
    · cases h
section
variable (p : Pl) (sc : Scope) (F : Cx → Prop)
def SG (e : Expr) (t : Tg) : Prop := ∀ (ρ : Env) (d : D) (ρ' : Env), setT t [d] ρ = some ρ' → ∀ (μ : Ad) (σ : L2.St) (H : Hp) (v : V), EnvR p.K μ H σ ρ → Is p.K μ H v d →
  ∀ Q : L2.St → Hp → Prop, (∀ σ', EnvR p.K μ H σ' ρ' → (∀ j, j ∉ tgIx t → σ'[j]? = σ[j]?) → Q σ' H) → wG F e v σ H Q
def SGs (es : List Expr) (t : Tg) : Prop := es.length = tgLen t ∧ ∀ (ρ : Env) (ds : List D) (ρ' : Env), setT t ds ρ = some ρ' → ∀ (μ : Ad) (σ : L2.St) (H : Hp) (vs : List V), EnvR p.K μ H σ ρ → IsAll p.K μ H vs ds →
  ∀ Q : L2.St → Hp → Prop, (∀ σ', EnvR p.K μ H σ' ρ' → (∀ j, j ∉ tgIx t → σ'[j]? = σ[j]?) → Q σ' H) → wGs F es vs σ H Q
def STs (es : List Expr) (x : Ex) : Prop := ∀ (ρ : Env) (S : Store) (b : Bool) (S' : Store) (μ : Ad) (σ : L2.St) (H : Hp), ev p.G x ρ S = some ([.bl b], S') → StR p.K μ S H → EnvR p.K μ H σ ρ →
  ∀ Q : Bool → Hp → Prop, (∀ μ' H', Nxt μ H μ' H' → StR p.K μ' S' H' → Q b H') → wTs p sc es σ H Q
/-- a list that nothing else holds -/
def SF (e : Expr) (x : Ex) : Prop := ∀ (ρ : Env) (S : Store) (ds : List D) (S' : Store) (μ : Ad) (σ : L2.St) (H : Hp), ev p.G x ρ S = some ([.lst ds], S') → StR p.K μ S H → EnvR p.K μ H σ ρ →
  ∀ Q : VK, (∀ a xs μ' H', Nxt μ H μ' H' → H a = none → μ'.Out a → StR p.K (μ'.hide a) S' H' → H' a = some (.lst xs) → IsAll p.K (μ'.hide a) H' xs ds → Q (.ref a) H') → wE p sc e σ H Q
variable {p sc} {F} (fo : FOk p F) (ok : p.Ok)
def LocF (F : Cx → Prop) (x : Str) : Prop := ∀ X, F X → Loc X.env.scope x ∧ (X.fn x = true ∨ X.env.scope.names.lookup x = some .local)
theorem sg_nm {i : Nat} {x : Str} {pos : Pos} (fo : FOk p F) (nd : p.N.Nodup) (hN : p.N[i]? = some x) (hl : LocF F x) : SG p F (.Name x pos) (.nm i) := by
  intro ρ d ρ' h μ σ H v hE iv Q q
  simp only [setT] at h
  split at h
  · cases h
    refine ⟨_, fun X hX => pg_name (by rw [(fo.at_ X hX).2.2]; exact nd) (by rw [(fo.at_ X hX).2.2]; exact hN) (hl X hX).1 (hl X hX).2, ?_⟩
    exact q _ (hE.set iv i) fun j hj => by rw [List.getElem?_set_ne (fun z => hj (by simp [tgIx, z]))]
  · cases h
def plainTg : Expr → Bool
  | .Name .. => true
  | .Tuple .. => true
  | _ => false
theorem each_plain {e : Expr} (h : plainTg e = true) (es : List Expr) (env : PySem.Env) : assignEach (e :: es) env = (false, assign e env) :: assignEach es env := by
  cases e <;> first | rfl | cases h
theorem sgs_nil : SGs p F [] .tnil := by
  refine ⟨rfl, fun ρ ds ρ' h μ σ H vs hE iv Q q => ?_⟩
  simp only [setT] at h
  split at h
  · cases h
    cases iv
    exact ⟨_, fun X hX => pgs_nil, rfl, q σ hE fun _ _ => rfl⟩
  · cases h
theorem sgs_cons {e : Expr} {es : List Expr} {a b : Tg} (hp : plainTg e = true) (h1 : SG p F e a) (h2 : SGs p F es b) : SGs p F (e :: es) (.tcons a b) := by
  refine ⟨by rw [List.length_cons, h2.1, tgLen], fun ρ ds ρ' h μ σ H vs hE iv Q q => ?_⟩
  simp only [setT] at h
  split at h
  · rename_i d r
    simp only [Option.bind_eq_some_iff] at h
    obtain ⟨ρ1, e1, e2⟩ := h
    cases iv with
    | cons i1 i2 =>
      refine ⟨_, fun X hX => pgs_cons (wG_ok hX e) (wGs_ok hX es) (by rw [each_plain hp]; rfl), _, _, rfl, ?_⟩
      refine h1 ρ d ρ1 e1 μ σ H _ hE i1 _ fun σ1 hE1 k1 => ?_
      refine h2.2 ρ1 r ρ' e2 μ σ1 H _ hE1 i2 _ fun σ2 hE2 k2 => q σ2 hE2 fun j hj => ?_
      simp only [tgIx, List.mem_append, not_or] at hj
      rw [k2 j hj.2, k1 j hj.1]
  · cases h
theorem each_len : ∀ (es : List Expr) (env : PySem.Env), es.all plainTg = true → (assignEach es env).length = es.length ∧ (assignEach es env).findIdx? (·.1) = none
  | [], _, _ => ⟨rfl, rfl⟩
  | e :: es, env, h => by
    rw [List.all_cons, Bool.and_eq_true] at h
    rw [each_plain h.1]
    obtain ⟨h1, h2⟩ := each_len es env h.2
    refine ⟨by simp [h1], ?_⟩
    rw [List.findIdx?_cons]
    simp [h2]
theorem sg_tup {es : List Expr} {k : Nat} {pos : Pos} {t : Tg} (fo : FOk p F) (hp : es.all plainTg = true) (h : SGs p F es t) : SG p F (.Tuple es k pos) (.tup t) := by
  intro ρ d ρ' e μ σ H v hE iv Q q
  simp only [setT] at e
  split at e
  · rename_i l xs heq
    cases heq
    obtain ⟨a, us, rfl, t1, r1⟩ := iv.sqT
    refine ⟨_, fun X hX => (fo.at_ X hX).2.1 ▸ pg_tup (fo.at_ X hX).1 (wGs_ok hX es) (each_len es X.env hp).1 (each_len es X.env hp).2, a, us, rfl, t1, ?_, ?_⟩
    · rw [r1.len, setT_len _ _ _ _ e, h.1]
    · exact h.2 ρ xs ρ' e μ σ H us hE r1 Q q
  · cases e
/-! ### fresh lists -/
theorem SF.se {e : Expr} {x : Ex} (h : SF p sc e x) (only : ∀ ρ S l S', ev p.G x ρ S = some (l, S') → ∃ ds, l = [.lst ds]) : SE p sc e x := by
  intro ρ S d S' μ σ H h1 hS hE Q q
  obtain ⟨ds, e1⟩ := only _ _ _ _ h1
  cases e1
  exact h ρ S ds S' μ σ H h1 hS hE Q fun a xs μ' H' n1 n2 o s e i => q _ μ' H' n1 s.shown (.lst o e (i.kp kp_show))
theorem se_mk {e : Expr} {x : Ex} (h : SF p sc e x) : SE p sc e (.mk x) := by
  intro ρ S d S' μ σ H h1 hS hE Q q
  simp only [ev, Option.bind_eq_some_iff] at h1
  obtain ⟨⟨l1, S1⟩, h1, h2⟩ := h1
  split at h2
  · rename_i ds e1
    cases h2
    simp only at e1
    subst e1
    refine h ρ S ds S1 μ σ H h1 hS hE Q fun a xs μ' H' n1 n2 o s e i => ?_
    have hl : μ'.c.length = S1.length := s.len
    refine q _ (μ'.add a) H' ?_ (s.made o.2 ⟨xs, e, i⟩) (.cell (by show (μ'.c ++ [a])[_]? = _; rw [← hl]; simp))
    obtain ⟨ν, k1, k2⟩ := n1.more
    refine ⟨⟨ν ++ [a], by show μ'.c ++ [a] = _; rw [k1, List.append_assoc], fun b hb => ?_⟩, n1.hid, n1.keep, n1.same, n1.frz⟩
    rcases List.mem_append.mp hb with z | z
    · exact k2 b z
    · rw [List.mem_singleton.mp z]; exact ⟨hS.notIn n2, n2⟩
  · cases h2
/-- laid anew behind other steps -/
theorem sf_lay {μ μ1 : Ad} {H H1 : Hp} {S1 : Store} {a : Addr} {xs : List V} {ds : List D} {Q : VK} (n : Nxt μ H μ1 H1) (s : StR p.K μ1 S1 H1) (h : H1 a = none) (i : IsAll p.K μ1 H1 xs ds)
    (q : ∀ a xs μ' H', Nxt μ H μ' H' → H a = none → μ'.Out a → StR p.K (μ'.hide a) S1 H' → H' a = some (.lst xs) → IsAll p.K (μ'.hide a) H' xs ds → Q (.ref a) H') : Q (.ref a) (upd H1 a (.lst xs)) :=
  q a xs μ1 _ (n.trans (Nxt.newS s h)) (n.back s h) (s.notIn h) (s.hide h) upd_same (i.kp (kp_hide h))
theorem sf_lst {es : List Expr} {x : Ex} {pos : Pos} (ha : SA p sc es x) : SF p sc (.List es pos) (.lstE x) := by
  intro ρ S d S' μ σ H h hS hE Q q
  simp only [ev, Option.bind_eq_some_iff] at h
  obtain ⟨⟨l1, S1⟩, h1, h⟩ := h
  split at h
  · rename_i c
    cases h
    refine ⟨_, fun X hX => pe_lst (wA_ok hX es), ?_⟩
    exact ha ρ S l1 _ μ σ H h1 hS hE _ fun vs μ1 H1 n1 s1 i1 => ⟨most_le (by rw [i1.len]; exact c), fun a n => sf_lay n1 s1 n i1 q⟩
  · cases h
include ok
theorem sf_list {a : Expr} {x : Ex} {p1 pos : Pos} (ha : SE p sc a x) (hg : gI sc "list") (hs : notStar a = true) : SF p sc (.Call (.Name "list" p1) [a] [] pos) (.list x) := by
  intro ρ S d S' μ σ H h hS hE Q q
  simp only [ev, Option.bind_eq_some_iff] at h
  obtain ⟨⟨l1, S1⟩, h1, dx, e1, ds, e2, h⟩ := h
  cases h
  cases sg_eq e1
  refine ⟨_, fun X hX => peT1 ok hX (by decide) hg (T := "list") (by decide +kernel) hs (by decide) (by decide), ?_⟩
  refine ha ρ S dx S1 μ σ H h1 hS hE _ fun v μ1 H1 n1 s1 i1 => ?_
  obtain ⟨a, xs, rfl, r, q1⟩ := i1.seq s1 e2
  exact ⟨_, fun X hX => hX.K ▸ call_list_of, a, xs, rfl, q1.symm, fun b n => sf_lay n1 s1 n r q⟩
omit ok in
theorem sf_bin {o : Op} {a b : Expr} {x y : Ex} {pos : Pos} (ha : SE p sc a x) (hb : SE p sc b y) : SF p sc (.BinOp a (opP o) b pos) (.bin o x y) := by
  intro ρ S d S' μ σ H h hS hE Q q
  simp only [ev, Option.bind_eq_some_iff] at h
  obtain ⟨⟨l1, S1⟩, h1, dx, e1, ⟨l2, S2⟩, h2, dy, e2, z, hz, h⟩ := h
  cases h
  cases sg_eq e1
  cases sg_eq e2
  refine ⟨_, fun X hX => pe_op (bOp_ok hX _) (wE_ok hX a) (wE_ok hX b), ?_⟩
  refine ha ρ S dx S1 μ σ H h1 hS hE _ fun v μ1 H1 n1 s1 i1 => ?_
  refine hb ρ S1 dy S2 μ1 σ H1 h2 s1 (hE.mono n1) _ fun u μ2 H2 n2 s2 i2 => ?_
  have i1 := i1.mono n2
  unfold binD at hz
  split at hz
  · cases hz
  · cases hz
  · split at hz <;> cases hz
  · split at hz <;> cases hz
  · split at hz <;> cases hz
  · split at hz <;> cases hz
  · split at hz <;> cases hz
  · split at hz
    · rename_i xs ys c
      cases hz
      cases i1 with
      | lst k1 k2 k3 =>
        cases i2 with
        | lst j1 j2 j3 =>
          exact ⟨_, fun X h => op_cat, _, _, _, _, rfl, rfl, k2, j2, most_le (by rw [k3.len, j3.len]; exact c), fun a n => sf_lay (n1.trans n2) s2 n (k3.app j3) q⟩
    · cases hz
  · split at hz
    · rename_i xs k c
      cases hz
      cases i1 with
      | lst k1 k2 k3 =>
        cases i2
        exact ⟨_, fun X h => op_rep, _, _, _, rfl, rfl, k2, by omega, by omega, most_le (by rw [k3.len]; exact c.1), fun a n => sf_lay (n1.trans n2) s2 n (k3.rep _) q⟩
    · cases hz
  · split at hz <;> cases hz
  · cases hz
omit ok in
theorem rgV_is (K : PySem.W.Frag) (μ : Ad) (H : Hp) (a b : Int) : IsAll K μ H (rgV a b) (rngD a b) := by
  unfold rgV rngD
  generalize List.range _ = l
  induction l with
  | nil => exact .nil
  | cons i l ih => exact .cons (.int _) ih
theorem sf_listR1 {e : Expr} {x : Ex} {p1 p2 pos1 pos : Pos} (ha : SE p sc e x) (hg : gI sc "range") (hg2 : gI sc "list") (hs : notStar e = true) : SF p sc (.Call (.Name "list" p1) [.Call (.Name "range" p2) [e] [] pos1] [] pos) (.listR (.rng1 x)) := by
  intro ρ S d S' μ σ H h hS hE Q q
  simp only [ev, Option.bind_eq_some_iff] at h
  obtain ⟨⟨l1, S1⟩, ⟨⟨l2, S2⟩, h1, h⟩, u, hu, h2⟩ := h
  cases h2
  split at h
  · rename_i j e1
    split at h
    · rename_i c
      cases h
      simp only at e1
      subst e1
      obtain ⟨e3, e4⟩ := unG_pack hu
      refine ⟨_, fun X hX => pe_listRg hX.calm (hX.gl hg2) (by rw [hX.mg]; exact ok.blt _ (by decide)) (prg_1 (hX.gl hg) (by rw [hX.mg]; exact ok.blt _ (by decide)) (wE_ok hX e) (starEach_no hs _ _)), ?_⟩
      refine ha ρ S _ _ μ σ H h1 hS hE _ fun v μ1 H1 n1 s1 i1 => ?_
      cases i1
      refine ⟨j, rfl, ⟨by omega, by omega, by omega, by omega, by omega⟩, fun b n => ?_⟩
      rw [e4] at q
      exact sf_lay n1 s1 n (rgV_is _ _ _ _ _) q
    · cases h
  · cases h
end
end Ev

set_option Elab.async false
set_option linter.all false
set_option maxRecDepth 100000
set_option maxHeartbeats 4000000
set_option autoImplicit false
/-! comprehensions -/
namespace Ev
open PySem PySem.Spec PyProof.Rows L2
def notSet : Expr → Bool
  | .Set .. => false
  | _ => true
theorem notSet_ok {e : Expr} (h : notSet e = true) (env : PySem.Env) : ∀ x, foldedSetIterable e env x = pure x := by
  intro x
  cases e <;> first | rfl | cases h
section
variable {p : Pl} {sc : Scope} (ok : p.Ok)
theorem most_lt' {n : Nat} (h : n < most) : n < sizeLine := most_lt (Nat.le_of_lt h)
theorem sts_nil : STs p sc [] (.bl true) := by
  intro ρ S b S' μ σ H h hS hE Q q
  simp only [ev] at h
  cases h
  exact ⟨_, fun X hX => pts_nil, q μ H Nxt.refl hS⟩
theorem sts_one {c : Expr} {x : Ex} (h : ST p sc c x) : STs p sc [c] x := fun ρ S b S' μ σ H h1 hS hE Q q => ⟨_, fun X hX => pts_one (wT_ok hX c), h ρ S b S' μ σ H h1 hS hE Q q⟩
theorem wipe_idem (σ : L2.St) (vs : List Nat) : wipe (wipe σ vs) vs = wipe σ vs := by
  apply List.ext_getElem?
  intro i
  rw [wipe_get, wipe_length, wipe_get]
  split <;> rfl
theorem wipe_eq {σ σ' : L2.St} {vs : List Nat} (hl : σ'.length = σ.length) (h : ∀ j, j ∉ vs → σ'[j]? = σ[j]?) : wipe σ' vs = wipe σ vs := by
  apply List.ext_getElem?
  intro i
  rw [wipe_get, wipe_get, hl]
  split
  · rfl
  · rename_i c
    by_cases hi : i ∈ vs
    · have : ¬ i < σ.length := fun z => c ⟨hi, z⟩
      rw [List.getElem?_eq_none (by omega), List.getElem?_eq_none (by omega)]
    · exact h i hi
theorem kept_trans {g : List Nat} {S S1 S2 : Store} (a : kept g S S1) (b : kept g S1 S2) : kept g S S2 := fun n hn => (b n hn).trans (a n hn)
/-- the list of a comprehension is nobody else's -/
def LcR (p : Pl) (te : TE) (x : Ex) : Prop := ∀ (ρ : Env) (S : Store) (ds : List D) (S' : Store) (μ : Ad) (σ : L2.St) (H : Hp), ev p.G x ρ S = some ([.lst ds], S') → StR p.K μ S H → EnvR p.K μ H σ ρ →
  ∀ Q : VK, (∀ a xs μ' H', Nxt μ H μ' H' → H a = none → μ'.Out a → StR p.K (μ'.hide a) S' H' → H' a = some (.lst xs) → IsAll p.K (μ'.hide a) H' xs ds → Q (.ref a) H') → te σ H Q
theorem lc_loop {elt tg : Expr} {ifs : List Expr} {scope : Scope} {own : List (Str × Nat)} {xe xc : Ex} {t : Tg}
    (hg : SG p (FamB p scope sc) tg t) (ht : STs p (relS scope sc) ifs xc) (he : SE p (relS scope sc) elt xe) (hx : ∀ j ∈ tgIx t, j ∈ own.map (·.2))
    {ρ : Env} {S1 : Store} {g : List Nat} {items fin : List Ev.D} {Sf : Store} {μ1 : Ad} {σ : L2.St} {H1 : Hp} {J : It} (wk : Wk p.K μ1 S1 H1 J g items)
    (hL : lcL (fun ρ S => (ev p.G xe ρ S).bind fun p => (sg p.1).bind fun d => some (d, p.2)) (fun ρ S => (ev p.G xc ρ S).bind fun p => (sg p.1).bind fun d => some (d, p.2)) t (wipeE ρ (own.map (·.2))) g items S1 [] = some (fin, Sf))
    (s1 : StR p.K μ1 S1 H1) (hE1 : EnvR p.K μ1 H1 (wipe σ (own.map (·.2))) (wipeE ρ (own.map (·.2)))) (Q : VK)
    (q : ∀ a xs μ' H', Nxt μ1 H1 μ' H' → H1 a = none → μ'.Out a → StR p.K (μ'.hide a) Sf H' → H' a = some (.lst xs) → IsAll p.K (μ'.hide a) H' xs fin → Q (.ref a) H') (H : Hp) :
    tLc (fun _ _ R => R J H1) (wG (FamB p scope sc) tg) (wTs p (relS scope sc) ifs) (wE p (relS scope sc) elt) (own.map (·.2)) σ H Q := by
  intro D hD
  have hDh : D ∉ μ1.h := (s1.notIn hD).2
  obtain ⟨Iv, hIv⟩ : ∃ I : Nat → Hp → Prop, ∀ i Hh, I i Hh ↔ i ≤ items.length ∧ ∃ μ2 Si acc vs, Nxt μ1 H1 μ2 Hh ∧ Kp μ1 H1 (μ2.hide D) Hh ∧ StR p.K (μ2.hide D) Si Hh ∧ kept g S1 Si ∧ Hh D = some (.lst vs) ∧ IsAll p.K (μ2.hide D) Hh vs acc ∧
    lcL (fun ρ S => (ev p.G xe ρ S).bind fun p => (sg p.1).bind fun d => some (d, p.2)) (fun ρ S => (ev p.G xc ρ S).bind fun p => (sg p.1).bind fun d => some (d, p.2)) t (wipeE ρ (own.map (·.2))) g (items.drop i) Si acc = some (fin, Sf) := ⟨_, fun _ _ => Iff.rfl⟩
  refine ⟨fun i k Hh => k = items.length - i ∧ Iv i Hh, ⟨_, rfl, (hIv _ _).mpr ⟨Nat.zero_le _, μ1, S1, [], [], Nxt.newS s1 hD, kp_hide hD, s1.hide hD, fun _ _ => rfl, upd_same, .nil, hL⟩⟩, ?_⟩
  rintro i k Hh ⟨rfl, hI⟩
  obtain ⟨hil, μ2, Si, acc, vs, n2, k2, s2, kg, hDv, iv, hrest⟩ := (hIv _ _).mp hI
  obtain ⟨wk1, wk2⟩ := wk i (μ2.hide D) Si Hh k2 s2 kg
  by_cases hlt : i < items.length
  · right
    obtain ⟨d, hd⟩ : ∃ d, items[i]? = some d := ⟨_, List.getElem?_eq_getElem hlt⟩
    have hdrop : items.drop i = d :: items.drop (i + 1) := by
      rw [List.drop_eq_getElem_cons hlt]
      rw [List.getElem?_eq_getElem hlt] at hd
      cases hd; rfl
    rw [hdrop] at hrest
    simp only [lcL, Option.bind_eq_some_iff] at hrest
    obtain ⟨ρ1, hρ1, ⟨cb, Sc⟩, hc, hrest⟩ := hrest
    obtain ⟨⟨l2, Sc'⟩, hc1, dc, hc2, hc3⟩ := hc
    cases hc3
    cases sg_eq hc2
    obtain ⟨go, yl⟩ := wk1 d hd
    refine ⟨go, Iv (i + 1), fun H' z => ⟨_, by omega, rfl, z⟩, fun x H2 hy => ?_⟩
    obtain ⟨n3, s3, ix⟩ := yl x H2 hy
    refine hg _ d ρ1 hρ1 (μ2.hide D) _ H2 x (hE1.kp (k2.trans n3.kp)) ix _ fun σ2 hE2 k3 => ?_
    refine ⟨?_, ?_⟩
    · refine (wipe_eq ?_ fun j hj => k3 j fun z => hj (hx j z)).trans (wipe_idem _ _)
      have h1 := hE2.len
      have h2 := (hE1.kp (k2.trans n3.kp)).len
      have h3 := setT_keep t _ _ _ hρ1
      omega
    · cases cb with
      | bl b =>
        cases b with
        | true =>
          simp only [Option.bind_eq_some_iff] at hrest
          obtain ⟨⟨dy, Se⟩, ⟨⟨l3, Se'⟩, he1, dy', he2, he3⟩, hrest⟩ := hrest
          cases he3
          cases sg_eq he2
          split at hrest
          · rename_i c
            refine ht ρ1 Si true _ (μ2.hide D) σ2 H2 hc1 s3 hE2 _ fun μ3 H3 n4 s4 => ?_
            rw [if_pos rfl]
            refine he ρ1 _ dy _ μ3 σ2 H3 he1 s4 (hE2.mono n4) _ fun y μ4 H4 n5 s5 iy => ?_
            have hD4 : H4 D = some (.lst vs) := by
              rw [n5.same D (by rw [n4.hid]; exact List.mem_cons_self ..), n4.same D (List.mem_cons_self ..), n3.same D (List.mem_cons_self ..)]; exact hDv
            refine ⟨vs, hD4, most_lt' (by rw [iv.len]; exact c.1), ?_⟩
            have n6 := n3.trans (n4.trans n5)
            obtain ⟨c4, h4⟩ := μ4
            have e4 : h4 = D :: μ2.h := n6.hid
            subst e4
            refine (hIv _ _).mpr ⟨hlt, ⟨c4, μ2.h⟩, _, acc ++ [dy], vs ++ [y], (n2.trans n6.under).updN hD hDh, (k2.trans n6.kp).trans (kp_hid (List.mem_cons_self ..)), s5.setH (List.mem_cons_self ..), kept_trans kg c.2, upd_same, ?_, hrest⟩
            exact ((iv.mono n6).app (.cons iy .nil)).kp (kp_hid (List.mem_cons_self ..))
          · cases hrest
        | false =>
          simp only at hrest
          split at hrest
          · rename_i c
            refine ht ρ1 Si false _ (μ2.hide D) σ2 H2 hc1 s3 hE2 _ fun μ3 H3 n4 s4 => ?_
            rw [if_neg (by decide)]
            have n6 := n3.trans n4
            obtain ⟨c4, h4⟩ := μ3
            have e4 : h4 = D :: μ2.h := n6.hid
            subst e4
            refine (hIv _ _).mpr ⟨hlt, ⟨c4, μ2.h⟩, _, acc, vs, n2.trans n6.under, k2.trans n6.kp, s4, kept_trans kg c, ?_, iv.mono n6, hrest⟩
            rw [n4.same D (List.mem_cons_self ..), n3.same D (List.mem_cons_self ..)]; exact hDv
          · cases hrest
      | _ => cases hrest
  · left
    have e : i = items.length := by omega
    rw [List.drop_eq_nil_of_le (by omega)] at hrest
    simp only [lcL] at hrest
    cases hrest
    refine ⟨wk2 e, ?_⟩
    have hO := s2.hid D (List.mem_cons_self ..)
    exact q D vs μ2 Hh n2 hD ⟨hO.1, by rw [n2.hid]; exact hDh⟩ s2 hDv iv
theorem lc_run {elt tg iter : Expr} {ifs : List Expr} {scope : Scope} {own : List (Str × Nat)} {xe xi xc : Ex} {t : Tg} (hi : SI p sc tg iter xi)
    (hg : SG p (FamB p scope sc) tg t) (ht : STs p (relS scope sc) ifs xc) (he : SE p (relS scope sc) elt xe) (hx : ∀ j ∈ tgIx t, j ∈ own.map (·.2)) :
    LcR p (tLc (wI p sc tg iter) (wG (FamB p scope sc) tg) (wTs p (relS scope sc) ifs) (wE p (relS scope sc) elt) (own.map (·.2))) (.lc xe t xi xc (own.map (·.2))) := by
  intro ρ S final S' μ σ H h hS hE Q q
  simp only [ev, Option.bind_eq_some_iff] at h
  obtain ⟨⟨l1, S1⟩, h1, ⟨g, items⟩, hu, ⟨fin, Sf⟩, hL, h⟩ := h
  cases h
  refine hi ρ S l1 S1 g items μ σ H h1 hu hS hE _ fun J μ1 H1 n1 s1 wk => ?_
  exact lc_loop hg ht he hx wk hL s1 ((hE.mono n1).wipe _) Q (fun a xs μ' H' m1 m2 o s e i => q a xs μ' H' (n1.trans m1) (n1.back s1 m2) o s e i) H
theorem sf_lc {elt tg iter : Expr} {ifs : List Expr} {scope : Scope} {own : List (Str × Nat)} {pos : Pos} {xe xi xc : Ex} {t : Tg} (nd : p.N.Nodup) (hi : SI p sc tg iter xi) (bk : BlkOk p.N sc scope own)
    (hg : SG p (FamB p scope sc) tg t) (ht : STs p (relS scope sc) ifs xc) (he : SE p (relS scope sc) elt xe) (hx : ∀ j ∈ tgIx t, j ∈ own.map (·.2)) (hs : notSet iter = true) : SF p sc (.ListComp elt [⟨tg, iter, ifs, 0⟩] scope pos) (.lc xe t xi xc (own.map (·.2))) := by
  intro ρ S final S' μ σ H h hS hE Q q
  refine ⟨_, fun X hX => pe_lc hX.calm (by rw [hX.N]; exact nd) (wI_ok hX tg iter) (by rw [hX.N, hX.sc]; exact bk) (fun s H C cl fp => wG_ok (F := FamB p scope sc) ⟨X, s, H, C, cl, fp, hX, rfl⟩ tg) (fun s H C cl fp => wTs_ok (hX.blk s H scope C cl fp) ifs)
    (fun s H C cl fp => wE_ok (hX.blk s H scope C cl fp) elt) (notSet_ok hs _), lc_run hi hg ht he hx ρ S final S' μ σ H h hS hE Q q⟩
end
end Ev

set_option Elab.async false
set_option linter.all false
set_option maxRecDepth 100000
set_option maxHeartbeats 4000000
set_option autoImplicit false
/-! subscripts, slices, calls, isinstance, methods -/
namespace Ev
open PySem PySem.Spec PyProof.Rows L2
def tyN : Option Ty → String
  | none => "NoneType"
  | some .int => "int"
  | some .bool => "bool"
  | some .str => "str"
  | some .list => "list"
  | some .tuple => "tuple"
def tyS (t : Ty) : Str := match t with
  | .int => "int"
  | .bool => "bool"
  | .str => "str"
  | .list => "list"
  | .tuple => "tuple"
theorem kit_all (k : Option Ty) (t : Ty) : kitB (tyN k) (tyN (some t)) = some (isTy k t) := by
  cases k with
  | none => cases t <;> decide +kernel
  | some k => cases k <;> cases t <;> decide +kernel
section
variable {p : Pl} {sc : Scope} (ok : p.Ok)
theorem KT.at {K : PySem.W.Frag} {a : Addr} {xs : List V} (h : KT K a xs) : ∃ o, K.lookup a = some o ∧ o.cls = .type "tuple" := by
  rcases h (fun _ => none) with (h | ⟨o, h⟩) | ⟨o, its, n, h1, h2, _⟩
  · cases h
  · cases h
  · exact ⟨o, h1, h2⟩
theorem KL.at {K : PySem.W.Frag} {a : Addr} {xs : List V} (h : KL K a xs) : ∃ o, K.lookup a = some o ∧ o.cls = .type "list" := by
  rcases h (fun _ => none) with (h | ⟨o, h⟩) | ⟨o, its, n, h1, h2, _⟩
  · cases h
  · cases h
  · exact ⟨o, h1, h2⟩
theorem Is.ty {K : PySem.W.Frag} {μ : Ad} {H : Hp} {v : V} {d : D} {S : Store} {k : Option Ty} (s : StR K μ S H) (h : Is K μ H v d) (e : tyD S d = some k) : TyX K H v (.type (tyN k)) := by
  cases h with
  | non => cases e; exact .base .non
  | bl b => cases e; exact .base (.bl b)
  | int i => cases e; exact .base (.int i)
  | str z => cases e; exact .base (.str z)
  | tup t r =>
    cases e
    rcases t with t | t
    · exact .base (.tup t.2)
    · obtain ⟨o, h1, h2⟩ := t.at
      exact .kTuple h1 h2
  | lst t1 t2 r => cases e; exact .base (.lst t2)
  | fz t r =>
    cases e
    rcases t with ⟨_, t2 | ⟨o, t2⟩⟩ | t
    · exact .base (.lst t2)
    · exact .base (.frz t2)
    · obtain ⟨o, h1, h2⟩ := t.at
      exact .kList h1 h2
  | cell t =>
    simp only [tyD] at e
    split at e
    · rename_i ds' hq
      cases e
      obtain ⟨a, k1, vs, k2, k3⟩ := s.ex hq
      rw [t] at k1; cases k1
      exact .base (.lst k2)
    · cases e
theorem blt_ty (t : Ty) : bootBuiltins (tyS t) = some (.type (tyN (some t))) := by cases t <;> decide +kernel
theorem tyS_blt (t : Ty) : tyS t ∈ blts ∧ tyS t ≠ "__name__" ∧ ((tyS t) == ("__debug__" : Str)) = false := by cases t <;> decide +kernel
include ok
theorem pe_tyN {X : Cx} (hX : Fam p sc X) {t : Ty} {x : Str} {pos : Pos} (hx : x = tyS t) (hg : gI sc x) : PE X (.Name x pos) (tC (.ty (tyN (some t)))) := by
  subst hx
  exact pe_bltn (hX.gl hg) (by rw [hX.mg]; exact ok.blt _ (tyS_blt t).1) (blt_ty t) (show RelV (.ty _) _ from rfl) (tyS_blt t).2.1 (tyS_blt t).2.2
theorem se_isi1 {a : Expr} {x : Ex} {t : Ty} {nm : Str} {p1 p2 pos : Pos} (ha : SE p sc a x) (hg : gI sc "isinstance") (hs : notStar a = true) (hx : nm = tyS t) (hg2 : gI sc nm) :
    SE p sc (.Call (.Name "isinstance" p1) [a, .Name nm p2] [] pos) (.isi [t] x) := by
  refine se_one (r := fun v H Q => bCl p sc (.builtin "isinstance") [v, .ty (tyN (some t))] H Q) ha (fun X hX => ?_) fun ρ S d S' h => ?_
  · exact pe_callB (bCl_ok hX _) (hX.gl hg) (by rw [hX.mg]; exact ok.blt _ (by decide)) (id := "isinstance") (by decide +kernel) (pa_cons (wE_ok hX a) (pa_cons (pe_tyN ok hX hx hg2) pa_nil rfl) (starEach_no hs _ _)) (by decide) (by decide) (starEach_no hs _ _) rfl
  · simp only [ev, Option.bind_eq_some_iff] at h
    obtain ⟨⟨l1, S1⟩, h1, dx, e1, k, e2, h⟩ := h
    cases h
    cases sg_eq e1
    refine ⟨dx, S1, h1, fun μ H v Q s iv q => ?_⟩
    refine ⟨_, fun X hX => hX.K ▸ call_isi, v, _, _, _, isTy k t, rfl, .ty _, iv.ty s e2, kit_ty (kit_all k t), ?_⟩
    have w := q (.bl (([t]).any fun t => isTy k t)) μ H Nxt.refl s (.bl _)
    simpa using w
/-- names of types -/
inductive TyNs (sc : Scope) : List Expr → List Ty → Prop
  | nil : TyNs sc [] []
  | cons {nm : Str} {pos : Pos} {t : Ty} {es : List Expr} {ts : List Ty} : nm = tyS t → gI sc nm → TyNs sc es ts → TyNs sc (.Name nm pos :: es) (t :: ts)
def tTys : List Ty → TA
  | [] => tNil
  | t :: ts => tCons (tC (.ty (tyN (some t)))) (tTys ts)
theorem pa_tys {X : Cx} (hX : Fam p sc X) {es : List Expr} {ts : List Ty} (h : TyNs sc es ts) : PA X es (tTys ts) := by
  induction h with
  | nil => exact pa_nil
  | cons h1 h2 h3 ih => exact pa_cons (pe_tyN ok hX h1 h2) ih rfl
omit ok in
theorem tTys_run (σ : L2.St) (H : Hp) (Q : List V → Hp → Prop) : ∀ (ts : List Ty), Q (ts.map fun t => .ty (tyN (some t))) H → tTys ts σ H Q
  | [], q => q
  | t :: ts, q => tTys_run σ H (fun vs H1 => Q (.ty (tyN (some t)) :: vs) H1) ts q
omit ok in
theorem kitAny_all {K : PySem.W.Frag} (k : Option Ty) : ∀ ts : List Ty, PySem.W.kitAny K (.type (tyN k)) (ts.map fun t => .type (tyN (some t))) = some (ts.any fun t => isTy k t)
  | [] => rfl
  | t :: ts => kitAny_cons (kit_ty (kit_all k t)) (fun e => by rw [kitAny_all k ts, List.any_cons, e, Bool.false_or]) (fun e => by rw [List.any_cons, e, Bool.true_or])
omit ok in
theorem cls_all : ∀ ts : List Ty, Paired ClsV (ts.map fun t => V.ty (tyN (some t))) (ts.map fun t => Value.type (tyN (some t)))
  | [] => .nil
  | t :: ts => .cons (.ty _) (cls_all ts)
theorem se_isiN {a : Expr} {x : Ex} {ts : List Ty} {es : List Expr} {k2 : Nat} {p1 p2 pos : Pos} (ha : SE p sc a x) (hg : gI sc "isinstance") (hs : notStar a = true) (hx : TyNs sc es ts) (hl : ts.length ≤ 8) :
    SE p sc (.Call (.Name "isinstance" p1) [a, .Tuple es k2 p2] [] pos) (.isi ts x) := by
  intro ρ S d S' μ σ H h hS hE Q q
  simp only [ev, Option.bind_eq_some_iff] at h
  obtain ⟨⟨l1, S1⟩, h1, dx, e1, k, e2, h⟩ := h
  cases h
  cases sg_eq e1
  refine ⟨_, fun X hX => pe_callB (bCl_ok hX _) (hX.gl hg) (by rw [hX.mg]; exact ok.blt _ (by decide)) (id := "isinstance") (by decide +kernel) (pa_cons (wE_ok hX a) (pa_cons (pe_tup (pa_tys ok hX hx)) pa_nil rfl) (starEach_no hs _ _)) (by decide) (by decide) (starEach_no hs _ _) rfl, ?_⟩
  refine ha ρ S dx S1 μ σ H h1 hS hE _ fun v μ1 H1 n1 s iv => ?_
  refine tTys_run σ H1 _ ts ⟨by rw [List.length_map]; exact most_le (Nat.le_trans hl (by decide)), fun b n => ?_⟩
  have nx : Nxt μ1 H1 μ1 (upd H1 b (.tup (ts.map fun t => V.ty (tyN (some t))))) := Nxt.newS s n
  exact ⟨_, fun X hX => hX.K ▸ call_isiT, v, b, _, _, _, _, rfl, upd_same, cls_all ts, (iv.mono nx).ty (s.new n) e2, kitAny_all k ts, q _ μ1 _ (n1.trans nx) (s.new n) (.bl _)⟩
/-! ### subscripts, slices -/
omit ok in
theorem flat_cell (S : Store) (n : Nat) : (∃ ds, S[n]? = some (.lst ds) ∧ flat S (.cell n) = .lst ds) ∨ flat S (.cell n) = .cell n := by
  cases hq : S[n]? with
  | none => exact .inr (by simp only [Ev.flat, hq])
  | some c =>
    cases c with
    | lst ds => exact .inl ⟨ds, rfl, by simp only [Ev.flat, hq]⟩
    | dct _ => exact .inr (by simp only [Ev.flat, hq])
    | lck _ => exact .inr (by simp only [Ev.flat, hq])
omit ok in
theorem se_idx {a b : Expr} {x y : Ex} {pos : Pos} (ha : SE p sc a x) (hb : SE p sc b y) (hs : plainIx b = true) : SE p sc (.Subscript a b pos) (.idx x y) := by
  refine se_two ha hb (fun X hX => pe_ix (bIx_ok hX) (wE_ok hX a) (wE_ok hX b) (plainIx_ok hs)) fun ρ S d S' h => ?_
  simp only [ev, Option.bind_eq_some_iff] at h
  obtain ⟨⟨l1, S1⟩, h1, dx, e1, ⟨l2, S2⟩, h2, h⟩ := h
  split at h
  · rename_i i e2
    simp only [Option.bind_eq_some_iff] at h
    obtain ⟨xs, e3, z, e4, h⟩ := h
    cases h
    cases sg_eq e1
    simp only at e2
    subst e2
    refine ⟨dx, S1, _, _, h1, h2, fun μ H v u Q s iv iu q => ?_⟩
    cases iu
    obtain ⟨a, vs, rfl, r, q1⟩ := iv.seq s e3
    obtain ⟨w, e5, iw⟩ := r.atI e4
    rcases q1 with q1 | q1
    · exact ⟨_, fun X h => h.K ▸ ix_tup, a, vs, i, w, rfl, rfl, q1, e5, q w μ H Nxt.refl s iw⟩
    · exact ⟨_, fun X h => h.K ▸ ix_list, a, vs, i, w, rfl, rfl, q1, e5, q w μ H Nxt.refl s iw⟩
  · cases h
def SO (p : Pl) (sc : Scope) (e : Option Expr) (x : Ex) : Prop := ∀ (ρ : Env) (S : Store) (out : List D) (i : Option Int) (S' : Store) (μ : Ad) (σ : L2.St) (H : Hp), ev p.G x ρ S = some (out, S') → oInt out = some i → StR p.K μ S H → EnvR p.K μ H σ ρ →
  ∀ Q : Option Int → Hp → Prop, (∀ μ' H', Nxt μ H μ' H' → StR p.K μ' S' H' → Q i H') → wO p sc e σ H Q
omit ok in
theorem so_none : SO p sc none .nil := by
  intro ρ S out i S' μ σ H h hi hS hE Q q
  simp only [ev] at h
  cases h
  cases hi
  exact ⟨_, fun X hX => po_none, q μ H Nxt.refl hS⟩
omit ok in
theorem so_some {e : Expr} {x : Ex} (he : SE p sc e x) (one : ∀ ρ S l S', ev p.G x ρ S = some (l, S') → ∃ d, l = [d]) : SO p sc (some e) x := by
  intro ρ S out i S' μ σ H h hi hS hE Q q
  obtain ⟨d, rfl⟩ := one _ _ _ _ h
  have e1 : ∃ j, d = .int j ∧ i = some j := by
    unfold oInt at hi
    split at hi
    · rename_i z; cases z
    · rename_i z; cases z; cases hi; exact ⟨_, rfl, rfl⟩
    · cases hi
  obtain ⟨j, rfl, rfl⟩ := e1
  refine ⟨_, fun X hX => po_some (wE_ok hX e), ?_⟩
  refine he ρ S _ S' μ σ H h hS hE _ fun v μ1 H1 n1 s1 i1 => ?_
  cases i1
  exact ⟨j, rfl, q μ1 H1 n1 s1⟩
theorem cutL_len {α : Type} (xs : List α) (lo hi : Option Int) (h : HT.sIx xs.length 0 lo = 0 ∧ HT.sIx xs.length xs.length hi = xs.length) : cutL xs lo hi = xs := by
  unfold cutL
  rw [h.1, h.2]
  simp
theorem se_sl {e : Expr} {lo hi : Option Expr} {x y z : Ex} {p2 pos : Pos} (he : SE p sc e x) (hl : SO p sc lo y) (hh : SO p sc hi z) : SE p sc (.Subscript e (.Slice lo hi none p2) pos) (.sl x y z) := by
  intro ρ S d S' μ σ H h hS hE Q q
  simp only [ev, Option.bind_eq_some_iff] at h
  obtain ⟨⟨l1, S1⟩, h1, dx, e1, ⟨l2, S2⟩, h2, l, e2, ⟨l3, S3⟩, h3, u, e3, h⟩ := h
  cases sg_eq e1
  refine ⟨_, fun X hX => pe_slice (bSl_ok hX) (wE_ok hX e) (wO_ok hX lo) (wO_ok hX hi), ?_⟩
  refine he ρ S dx S1 μ σ H h1 hS hE _ fun v μ1 H1 n1 s1 i1 => ?_
  refine hl ρ S1 l2 l S2 μ1 σ H1 h2 e2 s1 (hE.mono n1) _ fun μ2 H2 n2 s2 => ?_
  refine hh ρ S2 l3 u S3 μ2 σ H2 h3 e3 s2 ((hE.mono n1).mono n2) _ fun μ3 H3 n3 s3 => ?_
  have iv := (i1.mono n2).mono n3
  have n0 := n1.trans (n2.trans n3)
  have lst : ∀ {a : Addr} {vs : List V} {ds : List D}, SqL p.K H3 a vs → IsAll p.K μ3 H3 vs ds → d = .lst (cutL ds l u) → S' = S3 → bSl p sc (.ref a) l u H3 Q := fun {a vs ds} q1 r ed es => by
    subst ed es
    exact ⟨_, fun X h => h.K ▸ sl_list, a, vs, rfl, q1, fun b n => q _ μ3 _ (n0.trans (Nxt.newS s3 n)) (s3.new n) (Is.newL s3 n (r.cut l u))⟩
  cases iv with
  | tup t r =>
    cases h
    have hl := r.len
    refine ⟨_, fun X h => h.K ▸ sl_tupA, _, _, rfl, t.elim (fun t => .inl (.inl t.2)) (fun t => t H3), fun c => ?_, fun c b n => q _ μ3 _ (n0.trans (Nxt.newS s3 n)) (s3.new n) (Is.newT s3 n (r.cut l u))⟩
    rw [hl] at c
    rw [cutL_len ok _ _ _ c] at q
    exact q _ μ3 H3 n0 s3 (.tup t r)
  | lst t1 t2 r => cases h; exact lst (SqL.of t2) r rfl rfl
  | fz t r => cases h; exact lst (t.elim (fun h => .inl h.2) (fun h => h H3)) r rfl rfl
  | cell t =>
    rcases flat_cell S3 _ with ⟨ds, hq, hf⟩ | hf
    · rw [hf] at h
      cases h
      obtain ⟨a, k1, vs, k2, k3⟩ := s3.ex hq
      rw [t] at k1; cases k1
      exact lst (SqL.of k2) k3 rfl rfl
    · rw [hf] at h; cases h
  | _ => cases h
/-! ### calls -/
theorem se_call {f m : Nat} {x : Str} {e : Expr} {es : List Expr} {xs : Ex} {p1 pos : Pos} (hf : p.fns[f]? = some (x, m)) (hg : gI sc x) (hd : (x == ("__debug__" : Str)) = false) (ha : SA p sc (e :: es) xs) (hs : (e :: es).all notStar = true) :
    SE p sc (.Call (.Name x p1) (e :: es) [] pos) (.call f xs) := by
  intro ρ S d S' μ σ H h hS hE Q q
  simp only [ev, Option.bind_eq_some_iff] at h
  obtain ⟨⟨l1, S1⟩, h1, ⟨d', S2⟩, h2, h⟩ := h
  cases h
  obtain ⟨fa, fd, ps, F, hm, hk, hb⟩ := ok.fn f x m hf
  have hst := hs
  rw [List.all_cons, Bool.and_eq_true] at hst
  refine ⟨_, fun X hX => pe_call (X := X) (CX := CX0) (E := fun _ _ _ => False) (by rw [hX.prog, hX.w, hX.K, hX.mg, hX.base]; exact F) hX.room (hX.gl hg) (by rw [hX.mg]; exact hm) (by rw [hX.K]; exact hk) (by rw [hX.K]; exact hb) .nil (fun _ _ _ _ _ _ _ h => h.elim) (wA_ok hX (e :: es)) hd (starEach_no hst.1 _ _) (back_no hst.2), ?_⟩
  refine ha ρ S l1 S1 μ σ H h1 hS hE _ fun vs μ1 H1 n1 s1 i1 => ?_
  rw [List.append_nil]
  exact ⟨μ1, S1, l1, d', S2, by rw [i1.len]; exact ok.ar f x m _ _ _ hf h2, s1, i1, h2, fun v μ' H' n s i => q v μ' H' (n1.trans n) s i⟩
end
end Ev

set_option Elab.async false
set_option linter.all false
set_option maxRecDepth 100000
set_option maxHeartbeats 4000000
set_option autoImplicit false
/-! or, ranges as tuples, pop -/
namespace Ev
open PySem PySem.Spec PyProof.Rows L2
def notCall : Expr → Bool
  | .Call .. => false
  | _ => true
theorem base_no {o : Expr} (h : notCall o = true) (m : Str) (env : PySem.Env) (w : Sem Value) : attributeBase o m env w = w := by
  cases o <;> first | rfl | cases h
section
variable {p : Pl} {sc : Scope} (ok : p.Ok)
theorem truthy_lst {K : PySem.W.Frag} : True := trivial
theorem Is.cellL {K : PySem.W.Frag} {μ : Ad} {H : Hp} {v : V} {n : Nat} {S : Store} {ds : List D} (s : StR K μ S H) (h : Is K μ H v (.cell n)) (e : S[n]? = some (.lst ds)) : ∃ a vs, v = .ref a ∧ μ.c[n]? = some a ∧ H a = some (.lst vs) ∧ IsAll K μ H vs ds := by
  cases h with
  | cell t =>
    obtain ⟨a, k1, vs, k2, k3⟩ := s.ex e
    rw [t] at k1; cases k1
    exact ⟨_, vs, rfl, t, k2, k3⟩
theorem few1 {e : Expr} (hs : notStar e = true) (pos : Pos) (env : PySem.Env) : ((backTo pos (starEach [e] env)).all (fun x => !x.1) && (backToKw pos (keywordEach [] env)).all (fun x => x.1.isSome)
      && decide (([e] : List Expr).length + ([] : List Keyword).length + (if ([] : List Keyword).isEmpty then 0 else 1) < 30)) = true := by
  rw [starEach_no hs]; rfl
theorem pe_meth1 {X : Cx} (hX : Fam p sc X) {o e : Expr} {nm : Str} {id : String} {r : V → List V → Hp → VK → Prop} {apos cpos : Pos} (slot : Slot "list" nm id) (hty : typeOf (.builtin id) = pure (.type "method_descriptor")) (hm : MtM X id r) (hs : notStar e = true) (hc : notCall o = true) (hl : (apos.endLine == cpos.line) = true) :
    PE X (.Call (.Attribute o nm apos) [e] [] cpos) (tBM X.K "list" r (wE p sc o) (tCons (wE p sc e) tNil)) :=
  pe_bm PySem.F.plainAttrs_list slot hty hm (wE_ok hX o) (pa_cons (wE_ok hX e) pa_nil (starEach_no hs _ _)) (base_no hc _ _ _) (few1 hs _ _) hl (starEach_no hs _ _) rfl
theorem se_popAt {o i : Expr} {x y : Ex} {apos cpos : Pos} (ho : SE p sc o x) (hi : SE p sc i y) (hs : notStar i = true) (hc : notCall o = true) (hl : (apos.endLine == cpos.line) = true) : SE p sc (.Call (.Attribute o "pop" apos) [i] [] cpos) (.popAt x y) := by
  intro ρ S d S' μ σ H h hS hE Q q
  simp only [ev, Option.bind_eq_some_iff] at h
  obtain ⟨⟨l1, S1⟩, h1, ⟨l2, S2⟩, h2, h⟩ := h
  split at h
  · rename_i n i' e1 e2
    simp only at e1 e2
    subst e1 e2
    split at h
    · rename_i ds0 ds c0 c1
      split at h
      · rename_i c
        simp only [Option.bind_eq_some_iff] at h
        obtain ⟨d', hd, h⟩ := h
        cases h
        refine ⟨_, fun X hX => hX.K ▸ pe_meth1 hX PySem.F.slot_list_pop PySem.F.type_list_pop mt_popAt hs hc hl, ?_⟩
        refine ho ρ S _ S1 μ σ H h1 hS hE _ fun v μ1 H1 n1 s1 i1 => ?_
        obtain ⟨a, vs, rfl, k1, k2, k3⟩ := i1.cellL s1 c0
        refine ⟨.inl ⟨rfl, vs, SqL.of k2⟩, ?_⟩
        refine hi ρ S1 _ S2 μ1 σ H1 h2 s1 (hE.mono n1) _ fun u μ2 H2 n2 s2 i2 => ?_
        cases i2
        obtain ⟨a', ws, e3, j1, j2, j3⟩ := (i1.mono n2).cellL s2 c1
        cases e3
        obtain ⟨w, e4, iw⟩ := j3.get hd
        have hlen := j3.len
        have hix : seqIndex? i' ws.length = some i'.toNat := by
          unfold seqIndex?
          simp only [show ¬ (i' < 0) by omega, if_false]
          rw [if_pos]
          simp only [Bool.and_eq_true, decide_eq_true_eq]
          omega
        have hm := List.mem_of_getElem? j1
        have nc : Nxt μ2 H2 μ2 (upd H2 a (.lst (ws.eraseIdx i'.toNat))) := Nxt.cell hm (s2.noH hm) (fun o u z => by rw [j2] at z; cases z)
        refine ⟨a, ws, i', i'.toNat, w, rfl, rfl, j2, by omega, by omega, hix, e4, ?_⟩
        exact q w μ2 _ (n1.trans (n2.trans nc)) (s2.put j1 ⟨_, upd_same, (j3.mono nc).erase _⟩) (iw.mono nc)
      · cases h
    · cases h
  · cases h
theorem pe_orLst {X : Cx} {a b : Expr} {ta tb : TE} {pos : Pos} (ha : PE X a ta) (hb : PE X b tb) : PE X (.BoolOp .Or [a, b] pos) (fun σ H Q => ta σ H fun x H1 => ∃ l xs, x = V.ref l ∧ SqL X.K H1 l xs ∧ (xs ≠ [] → Q x H1) ∧ (xs = [] → tb σ H1 Q)) := by
  refine ⟨fun pins s σ H Q I h => ?_⟩
  refine BoolOp_or (thn (ha.run pins s σ H _ I h) fun v s1 ⟨x, H1, I1, r1, q1⟩ => ?_)
  obtain ⟨l, xs, rfl, hq, q1, q2⟩ := q1
  obtain ⟨its, r, pl, hz⟩ := I1.list hq
  cases r1
  have hl := r.length
  have hn := line63
  refine wpAny_truthy_list pl.isList (by simp only [List.size_toArray]; omega) ?_
  have I2 := I1.tok (s1.toks + 1 + 1)
  cases xs with
  | nil =>
    cases r
    exact (pe_one hb).run pins _ σ H1 Q I2 (q2 rfl)
  | cons v vs =>
    cases r
    exact ⟨.ref l, H1, I2, rfl, q1 (List.cons_ne_nil _ _)⟩
theorem sf_orL {a b : Expr} {x y : Ex} {pos : Pos} (ha : SF p sc a x) (hb : SF p sc b y) : SF p sc (.BoolOp .Or [a, b] pos) (.orL x y) := by
  intro ρ S d S' μ σ H h hS hE Q q
  simp only [ev, Option.bind_eq_some_iff] at h
  obtain ⟨⟨l1, S1⟩, h1, h⟩ := h
  refine ⟨_, fun X hX => hX.K ▸ pe_orLst (wE_ok hX a) (wE_ok hX b), ?_⟩
  split at h <;> rename_i e <;> simp only at e <;> (try subst e)
  · refine ha ρ S _ S1 μ σ H h1 hS hE _ fun l xs μ1 H1 n1 n2 o s e i => ?_
    refine ⟨l, xs, rfl, SqL.of e, fun z => ?_, fun z => ?_⟩
    · cases i; exact absurd rfl z
    · exact hb ρ S1 d S' μ1 σ H1 h s.shown (hE.mono n1) _ fun l' xs' μ2 H2 m1 m2 o' s' e' i' => q l' xs' μ2 H2 (n1.trans m1) (n1.back s.shown m2) o' s' e' i'
  · cases h
    refine ha ρ S _ _ μ σ H h1 hS hE _ fun l xs μ1 H1 n1 n2 o s e i => ?_
    refine ⟨l, xs, rfl, SqL.of e, fun z => q l xs μ1 H1 n1 n2 o s e i, fun z => ?_⟩
    subst z; cases i
  · cases h
include ok
theorem se_tupR1 {e : Expr} {x : Ex} {p1 p2 pos1 pos : Pos} (ha : SE p sc e x) (hg : gI sc "range") (hg2 : gI sc "tuple") (hs : notStar e = true) : SE p sc (.Call (.Name "tuple" p1) [.Call (.Name "range" p2) [e] [] pos1] [] pos) (.tupleR (.rng1 x)) := by
  intro ρ S d S' μ σ H h hS hE Q q
  simp only [ev, Option.bind_eq_some_iff] at h
  obtain ⟨⟨l1, S1⟩, ⟨⟨l2, S2⟩, h1, h⟩, u, hu, h2⟩ := h
  cases h2
  split at h
  · rename_i j e1
    split at h
    · rename_i c
      cases h
      simp only at e1
      subst e1
      obtain ⟨e3, e4⟩ := unG_pack hu
      refine ⟨_, fun X hX => pe_tupRg hX.calm (hX.gl hg2) (by rw [hX.mg]; exact ok.blt _ (by decide)) (prg_1 (hX.gl hg) (by rw [hX.mg]; exact ok.blt _ (by decide)) (wE_ok hX e) (starEach_no hs _ _)), ?_⟩
      refine ha ρ S _ _ μ σ H h1 hS hE _ fun v μ1 H1 n1 s1 i1 => ?_
      cases i1
      refine ⟨j, rfl, ⟨by omega, by omega, by omega, by omega, by omega⟩, fun b n => ?_⟩
      rw [e4] at q
      exact q _ μ1 _ (n1.trans (Nxt.newS s1 n)) (s1.new n) (Is.newT s1 n (rgV_is _ _ _ _ _))
    · cases h
  · cases h
end
end Ev

set_option Elab.async false
set_option linter.all false
set_option maxRecDepth 100000
set_option maxHeartbeats 4000000
set_option autoImplicit false
/-! statements -/
namespace Ev
open PySem PySem.Spec PyProof.Rows L2
inductive Lv where | nm (i : Nat) | sub (o i : Ex) | tnil | tcons (a b : Lv) | tup (a : Lv)
inductive Sm where
  | done | seq (a b : Sm) | ret (e : Ex) | asg (l : Lv) (e : Ex) | asgP (l : Lv) (es : Ex) | app (o e : Ex) | ext (o e : Ex)
  | ite (c : Ex) (a b : Sm) | forL (t : Tg) (it : Ex) (b : Sm) | whl (c : Ex) (b : Sm) | cnt | brk | never
  | dput (i : Nat) (ke o e : Ex) | forD (t : Tg) (i : Nat) (b : Sm)
inductive Fl where | nx (ρ : Env) (S : Store) | ct (ρ : Env) (S : Store) | bk (ρ : Env) (S : Store) | rt (d : D) (S : Store)
noncomputable def setL (G : GC) : Lv → List D → Env → Store → Option (Env × Store)
  | .nm i, ds, ρ, S => match ds with
    | [d] => if i < ρ.length then some (ρ.set i (some d), S) else none
    | _ => none
  | .sub o i, ds, ρ, S => match ds with
    | [d] => (ev G o ρ S).bind fun p => (ev G i ρ p.2).bind fun q => match p.1, q.1 with
      | [.cell n], [.int k] => match q.2[n]? with
        | some (.lst xs) => (ixN xs.length k).bind fun j => some (ρ, q.2.set n (.lst (xs.set j d)))
        | _ => none
      | _, _ => none
    | _ => none
  | .tnil, ds, ρ, S => match ds with
    | [] => some (ρ, S)
    | _ => none
  | .tcons a b, ds, ρ, S => match ds with
    | d :: r => (setL G a [d] ρ S).bind fun p => setL G b r p.1 p.2
    | _ => none
  | .tup a, ds, ρ, S => match ds with
    | [.tup xs] => setL G a xs ρ S
    | _ => none
open Classical in
noncomputable def forLp (body : Env → Store → Option Fl) (t : Tg) (g : List Nat) : List D → Env → Store → Option Fl
  | [], ρ, S => some (.nx ρ S)
  | d :: ds, ρ, S => (setT t [d] ρ).bind fun ρ1 => (body ρ1 S).bind fun f => match f with
    | .nx ρ2 S2 => if kept g S S2 then forLp body t g ds ρ2 S2 else none
    | .ct ρ2 S2 => if kept g S S2 then forLp body t g ds ρ2 S2 else none
    | .bk ρ2 S2 => some (.nx ρ2 S2)
    | .rt d S2 => some (.rt d S2)
def whLp (c : Env → Store → Option (D × Store)) (b : Env → Store → Option Fl) : Nat → Env → Store → Option Fl
  | 0, _, _ => none
  | n + 1, ρ, S => (c ρ S).bind fun p => match p.1 with
    | .bl true => (b ρ p.2).bind fun f => match f with
      | .nx ρ2 S2 => whLp c b n ρ2 S2
      | .ct ρ2 S2 => whLp c b n ρ2 S2
      | .bk ρ2 S2 => some (.nx ρ2 S2)
      | .rt d S2 => some (.rt d S2)
    | .bl false => some (.nx ρ p.2)
    | _ => none
open Classical in
noncomputable def whC (c : Env → Store → Option (D × Store)) (b : Env → Store → Option Fl) (ρ : Env) (S : Store) : Option Fl :=
  if h : ∃ n f, whLp c b n ρ S = some f then some (choose (choose_spec h)) else none
theorem whLp_more {c : Env → Store → Option (D × Store)} {b : Env → Store → Option Fl} : ∀ {n m : Nat} {ρ : Env} {S : Store} {f : Fl}, whLp c b n ρ S = some f → n ≤ m → whLp c b m ρ S = some f
  | 0, _, _, _, _, h, _ => by cases h
  | n + 1, 0, _, _, _, _, h => by omega
  | n + 1, m + 1, ρ, S, f, h, hl => by
    simp only [whLp, Option.bind_eq_some_iff] at h ⊢
    obtain ⟨⟨d, S1⟩, h1, h⟩ := h
    refine ⟨⟨d, S1⟩, h1, ?_⟩
    split at h <;> rename_i e <;> simp only at e <;> (try subst e)
    · simp only [Option.bind_eq_some_iff] at h ⊢
      obtain ⟨f1, h2, h⟩ := h
      refine ⟨f1, h2, ?_⟩
      cases f1 with
      | nx ρ2 S2 => exact whLp_more h (by omega)
      | ct ρ2 S2 => exact whLp_more h (by omega)
      | bk ρ2 S2 => exact h
      | rt d S2 => exact h
    · exact h
    · cases h
theorem whC_of {c : Env → Store → Option (D × Store)} {b : Env → Store → Option Fl} {n : Nat} {ρ : Env} {S : Store} {f : Fl} (h : whLp c b n ρ S = some f) : whC c b ρ S = some f := by
  have hx : ∃ n f, whLp c b n ρ S = some f := ⟨n, f, h⟩
  unfold whC
  rw [dif_pos hx]
  have h2 := Classical.choose_spec (Classical.choose_spec hx)
  rcases Nat.le_total n (Classical.choose hx) with hl | hl
  · exact ((whLp_more h hl).symm.trans h2).symm
  · exact ((h.symm.trans (whLp_more h2 hl))).symm
theorem whC_ex {c : Env → Store → Option (D × Store)} {b : Env → Store → Option Fl} {ρ : Env} {S : Store} {f : Fl} (h : whC c b ρ S = some f) : ∃ n, whLp c b n ρ S = some f := by
  unfold whC at h
  split at h
  · rename_i hx
    cases h
    exact ⟨_, Classical.choose_spec (Classical.choose_spec hx)⟩
  · cases h
noncomputable def exec (G : GC) : Sm → Env → Store → Option Fl
  | .done, ρ, S => some (.nx ρ S)
  | .seq a b, ρ, S => (exec G a ρ S).bind fun f => match f with
    | .nx ρ1 S1 => exec G b ρ1 S1
    | f => some f
  | .ret e, ρ, S => (ev G e ρ S).bind fun p => (sg p.1).bind fun d => some (.rt d p.2)
  | .asg l e, ρ, S => (ev G e ρ S).bind fun p => (sg p.1).bind fun d => (setL G l [d] ρ p.2).bind fun q => some (.nx q.1 q.2)
  | .asgP l e, ρ, S => (ev G e ρ S).bind fun p => (setL G l p.1 ρ p.2).bind fun q => some (.nx q.1 q.2)
  | .app o e, ρ, S => (ev G o ρ S).bind fun p => (ev G e ρ p.2).bind fun q => (sg q.1).bind fun d => match p.1 with
    | [.cell n] => match p.2[n]?, q.2[n]? with
      | some (.lst _), some (.lst ds) => if ds.length < most then some (.nx ρ (q.2.set n (.lst (ds ++ [d])))) else none
      | _, _ => none
    | _ => none
  | .ext o e, ρ, S => (ev G o ρ S).bind fun p => (ev G e ρ p.2).bind fun q => match p.1, q.1 with
    | [.cell n], [.lst zs] => match p.2[n]?, q.2[n]? with
      | some (.lst _), some (.lst ds) => if ds.length + zs.length ≤ most then some (.nx ρ (q.2.set n (.lst (ds ++ zs)))) else none
      | _, _ => none
    | _, _ => none
  | .ite c a b, ρ, S => (ev G c ρ S).bind fun p => match p.1 with
    | [.bl true] => exec G a ρ p.2
    | [.bl false] => exec G b ρ p.2
    | _ => none
  | .forL t it b, ρ, S => (ev G it ρ S).bind fun p => (unG p.1).bind fun u => forLp (exec G b) t u.1 u.2 ρ p.2
  | .whl c b, ρ, S => whC (fun ρ S => (ev G c ρ S).bind fun p => (sg p.1).bind fun d => some (d, p.2)) (exec G b) ρ S
  | .cnt, ρ, S => some (.ct ρ S)
  | .brk, ρ, S => some (.bk ρ S)
  | .never, _, _ => none
  | .dput i ke o e, ρ, S => (ev G ke ρ S).bind fun p => match p.1 with
    | [.lst ds] => (intsOf ds).bind fun k => if i < ρ.length then
      (ev G e (ρ.set i (some (.tup ds))) p.2).bind fun q => (sg q.1).bind fun d => (ev G o (ρ.set i (some (.tup ds))) q.2).bind fun r => match r.1 with
        | [.cell n] => match r.2[n]? with
          | some (.dct kvs) => if kvs.length < most then some (.nx (ρ.set i (some (.tup ds))) (r.2.set n (.dct (putK kvs k d)))) else none
          | _ => none
        | _ => none
      else none
    | _ => none
  | .forD t i b, ρ, S => match ρ[i]? with
    | some (some (.cell n)) => match S[n]? with
      | some (.dct kvs) => (forLp (exec G b) t [n] (kvs.map fun kv => .tup (kv.1.map .int)) ρ (S.set n (.lck kvs))).bind fun f => match f with
        | .nx ρ2 S2 => some (.nx ρ2 (S2.set n (.dct kvs)))
        | _ => none
      | _ => none
    | _ => none
section
variable (p : Pl) (sc : Scope)
def Fin (μ : Ad) (H : Hp) (f : Fl) (D : Ends) : Prop := match f with
  | .nx ρ' S' => ∀ μ' σ' H', Nxt μ H μ' H' → StR p.K μ' S' H' → EnvR p.K μ' H' σ' ρ' → D.nx σ' H'
  | .ct ρ' S' => ∀ μ' σ' H', Nxt μ H μ' H' → StR p.K μ' S' H' → EnvR p.K μ' H' σ' ρ' → D.ct σ' H'
  | .bk ρ' S' => ∀ μ' σ' H', Nxt μ H μ' H' → StR p.K μ' S' H' → EnvR p.K μ' H' σ' ρ' → D.bk σ' H'
  | .rt d S' => ∀ v μ' H', Nxt μ H μ' H' → StR p.K μ' S' H' → Is p.K μ' H' v d → D.rt v H'
variable {p}
theorem Fin.pre {μ μ1 : Ad} {H H1 : Hp} {f : Fl} {D : Ends} (n : Nxt μ H μ1 H1) (q : Fin p μ H f D) : Fin p μ1 H1 f D := by
  cases f with
  | nx ρ' S' => exact fun μ' σ' H' n' s e => q μ' σ' H' (n.trans n') s e
  | ct ρ' S' => exact fun μ' σ' H' n' s e => q μ' σ' H' (n.trans n') s e
  | bk ρ' S' => exact fun μ' σ' H' n' s e => q μ' σ' H' (n.trans n') s e
  | rt d S' => exact fun v μ' H' n' s e => q v μ' H' (n.trans n') s e
variable (p)
def SS (e : Stmt) (x : Sm) : Prop := ∀ (ρ : Env) (S : Store) (f : Fl) (μ : Ad) (σ : L2.St) (H : Hp), exec p.G x ρ S = some f → StR p.K μ S H → EnvR p.K μ H σ ρ → ∀ D : Ends, Fin p μ H f D → wS p sc e D σ H
def SSs (es : List Stmt) (x : Sm) : Prop := ∀ (ρ : Env) (S : Store) (f : Fl) (μ : Ad) (σ : L2.St) (H : Hp), exec p.G x ρ S = some f → StR p.K μ S H → EnvR p.K μ H σ ρ → ∀ D : Ends, Fin p μ H f D → wSs p sc es D σ H
variable {p sc} (ok : p.Ok)
theorem ss_nil : SSs p sc [] .done := by
  intro ρ S f μ σ H h hS hE D q
  simp only [exec] at h
  cases h
  exact ⟨_, fun X hX => pss_nil, q μ σ H Nxt.refl hS hE⟩
theorem ss_cons {s : Stmt} {ss : List Stmt} {x y : Sm} (h1 : SS p sc s x) (h2 : SSs p sc ss y) : SSs p sc (s :: ss) (.seq x y) := by
  intro ρ S f μ σ H h hS hE D q
  simp only [exec, Option.bind_eq_some_iff] at h
  obtain ⟨f1, e1, h⟩ := h
  refine ⟨_, fun X hX => pss_cons (wS_ok hX s) (wSs_ok hX ss), ?_⟩
  refine h1 ρ S f1 μ σ H e1 hS hE _ ?_
  cases f1 with
  | nx ρ1 S1 => exact fun μ' σ' H' n s e => h2 ρ1 S1 f μ' σ' H' h s e D (q.pre n)
  | ct ρ1 S1 => cases h; exact q
  | bk ρ1 S1 => cases h; exact q
  | rt d S1 => cases h; exact q
theorem ss_one {s : Stmt} {x : Sm} (h1 : SS p sc s x) : SSs p sc [s] x := fun ρ S f μ σ H h hS hE D q => ⟨_, fun X hX => pss_one (wS_ok hX s), h1 ρ S f μ σ H h hS hE D q⟩
theorem ss_never {ss : List Stmt} : SSs p sc ss .never := fun ρ S f μ σ H h => by simp [exec] at h
theorem ss_ret {e : Expr} {x : Ex} {pos : Pos} (he : SE p sc e x) : SS p sc (.Return (some e) pos) (.ret x) := by
  intro ρ S f μ σ H h hS hE D q
  simp only [exec, Option.bind_eq_some_iff] at h
  obtain ⟨⟨l, S1⟩, h1, d, e1, h⟩ := h
  cases h
  cases sg_eq e1
  exact ⟨_, fun X hX => ps_ret (wE_ok hX.fam e), he ρ S d S1 μ σ H h1 hS hE _ fun v μ' H' n s i => q v μ' H' n s i⟩
theorem ss_cnt {pos : Pos} : SS p sc (.Continue pos) .cnt := by
  intro ρ S f μ σ H h hS hE D q
  simp only [exec] at h
  cases h
  exact ⟨_, fun X hX => ps_continue, q μ σ H Nxt.refl hS hE⟩
theorem ss_ite {c : Expr} {a b : List Stmt} {x : Ex} {y z : Sm} {pos : Pos} (hc : ST p sc c x) (ha : SSs p sc a y) (hb : SSs p sc b z) : SS p sc (.If c a b pos) (.ite x y z) := by
  intro ρ S f μ σ H h hS hE D q
  simp only [exec, Option.bind_eq_some_iff] at h
  obtain ⟨⟨l1, S1⟩, h1, h⟩ := h
  refine ⟨_, fun X hX => ps_if (wT_ok hX.fam c) (wSs_ok hX a) (wSs_ok hX b), ?_⟩
  split at h <;> rename_i e <;> simp only at e <;> (try subst e)
  · refine hc ρ S _ S1 μ σ H h1 hS hE _ fun μ1 H1 n1 s1 => ?_
    rw [if_pos rfl]
    exact ha ρ S1 f μ1 σ H1 h s1 (hE.mono n1) D (q.pre n1)
  · refine hc ρ S _ S1 μ σ H h1 hS hE _ fun μ1 H1 n1 s1 => ?_
    rw [if_neg (by decide)]
    exact hb ρ S1 f μ1 σ H1 h s1 (hE.mono n1) D (q.pre n1)
  · cases h
theorem passes {X : Cx} (hX : Fam p sc X) : PassesOwn (model X.prog X.w) X.A X.env X.xe := fun e s' h => absurd h (hX.xe e s')
theorem ss_whl {c : Expr} {a : List Stmt} {x : Ex} {y : Sm} {pos : Pos} (hc : ST p sc c x) (ha : SSs p sc a y) : SS p sc (.While c a [] pos) (.whl x y) := by
  intro ρ S f μ σ H h hS hE D q
  simp only [exec] at h
  obtain ⟨n, h⟩ := whC_ex h
  refine ⟨_, fun X hX => ps_while (passes hX.fam) (wT_ok hX.fam c) (wSs_ok hX a), ?_⟩
  refine ⟨fun m σ' H' => ∃ μ' ρ' S', Nxt μ H μ' H' ∧ StR p.K μ' S' H' ∧ EnvR p.K μ' H' σ' ρ' ∧ whLp (fun ρ S => (ev p.G x ρ S).bind fun p => (sg p.1).bind fun d => some (d, p.2)) (exec p.G y) m ρ' S' = some f, ⟨n, μ, ρ, S, Nxt.refl, hS, hE, h⟩, ?_⟩
  rintro m σ' H' ⟨μ', ρ', S', n', s', e', h'⟩
  cases m with
  | zero => cases h'
  | succ m =>
    simp only [whLp, Option.bind_eq_some_iff] at h'
    obtain ⟨⟨d, S1⟩, ⟨⟨l, S2⟩, h1, d', e1, h2⟩, h'⟩ := h'
    cases h2
    cases sg_eq e1
    split at h' <;> rename_i e <;> simp only at e <;> (try subst e)
    · simp only [Option.bind_eq_some_iff] at h'
      obtain ⟨f1, h2, h'⟩ := h'
      refine hc ρ' S' _ _ μ' σ' H' h1 s' e' _ fun μ1 H1 n1 s1 => ?_
      rw [if_pos rfl]
      refine ⟨_, fun σ2 H2 z => ⟨m, Nat.lt_succ_self _, z⟩, ?_⟩
      refine ha ρ' _ f1 μ1 σ' H1 h2 s1 (e'.mono n1) _ ?_
      have n2 := n'.trans n1
      cases f1 with
      | nx ρ2 S2 => exact fun μ2 σ2 H2 n s e => ⟨μ2, ρ2, S2, n2.trans n, s, e, h'⟩
      | ct ρ2 S2 => exact fun μ2 σ2 H2 n s e => ⟨μ2, ρ2, S2, n2.trans n, s, e, h'⟩
      | bk ρ2 S2 => cases h'; exact q.pre n2
      | rt d S2 => cases h'; exact q.pre n2
    · cases h'
      refine hc ρ' S' _ _ μ' σ' H' h1 s' e' _ fun μ1 H1 n1 s1 => ?_
      rw [if_neg (by decide)]
      exact q μ1 σ' H1 (n'.trans n1) s1 (e'.mono n1)
    · cases h'
theorem ss_for {tg iter : Expr} {a : List Stmt} {x : Ex} {t : Tg} {y : Sm} {pos : Pos} (hi : SI p sc tg iter x) (hg : SG p (FamD p sc) tg t) (ha : SSs p sc a y) (hs : notSet iter = true) : SS p sc (.For tg iter a [] pos) (.forL t x y) := by
  intro ρ S f μ σ H h hS hE D q
  simp only [exec, Option.bind_eq_some_iff] at h
  obtain ⟨⟨l1, S1⟩, h1, ⟨g, items⟩, hu, h⟩ := h
  refine ⟨_, fun X hX => ps_for (passes hX.fam) hX.fam.calm (wI_ok hX.fam tg iter) (wG_ok hX tg) (wSs_ok hX a) (notSet_ok hs _), ?_⟩
  refine hi ρ S l1 S1 g items μ σ H h1 hu hS hE _ fun J μ1 H1 n1 s1 wk => ?_
  obtain ⟨Iv, hIv⟩ : ∃ I : Nat → L2.St → Hp → Prop, ∀ i σ' Hh, I i σ' Hh ↔ i ≤ items.length ∧ ∃ μ2 Si ρi, Nxt μ1 H1 μ2 Hh ∧ StR p.K μ2 Si Hh ∧ kept g S1 Si ∧ EnvR p.K μ2 Hh σ' ρi ∧
    forLp (exec p.G y) t g (items.drop i) ρi Si = some f := ⟨_, fun _ _ _ => Iff.rfl⟩
  refine ⟨fun i k σ' Hh => k = items.length - i ∧ Iv i σ' Hh, ⟨_, rfl, (hIv _ _ _).mpr ⟨Nat.zero_le _, μ1, S1, ρ, Nxt.refl, s1, fun _ _ => rfl, hE.mono n1, h⟩⟩, ?_⟩
  rintro i k σ' Hh ⟨rfl, hI⟩
  obtain ⟨hil, μ2, Si, ρi, n2, s2, kg, e2, hrest⟩ := (hIv _ _ _).mp hI
  obtain ⟨wk1, wk2⟩ := wk i μ2 Si Hh n2.kp s2 kg
  by_cases hlt : i < items.length
  · right
    obtain ⟨d, hd⟩ : ∃ d, items[i]? = some d := ⟨_, List.getElem?_eq_getElem hlt⟩
    have hdrop : items.drop i = d :: items.drop (i + 1) := by
      rw [List.drop_eq_getElem_cons hlt]
      rw [List.getElem?_eq_getElem hlt] at hd
      cases hd; rfl
    rw [hdrop] at hrest
    simp only [forLp, Option.bind_eq_some_iff] at hrest
    obtain ⟨ρ1, hρ1, f1, hb, hrest⟩ := hrest
    obtain ⟨go, yl⟩ := wk1 d hd
    refine ⟨go, Iv (i + 1), fun σ' H' z => ⟨_, by omega, rfl, z⟩, fun x' H2 hy => ?_⟩
    obtain ⟨n3, s3, ix⟩ := yl x' H2 hy
    refine hg _ d ρ1 hρ1 μ2 _ H2 x' (e2.mono n3) ix _ fun σ2 hE2 k3 => ?_
    refine ha ρ1 Si f1 μ2 σ2 H2 hb s3 hE2 _ ?_
    have n4 := n1.trans (n2.trans n3)
    cases f1 with
    | nx ρ2 S2 =>
      simp only at hrest
      split at hrest
      · rename_i c
        exact fun μ3 σ3 H3 n s e => (hIv _ _ _).mpr ⟨hlt, μ3, S2, ρ2, n2.trans (n3.trans n), s, kept_trans kg c, e, hrest⟩
      · cases hrest
    | ct ρ2 S2 =>
      simp only at hrest
      split at hrest
      · rename_i c
        exact fun μ3 σ3 H3 n s e => (hIv _ _ _).mpr ⟨hlt, μ3, S2, ρ2, n2.trans (n3.trans n), s, kept_trans kg c, e, hrest⟩
      · cases hrest
    | bk ρ2 S2 => cases hrest; exact q.pre n4
    | rt d S2 => cases hrest; exact q.pre n4
  · left
    have e : i = items.length := by omega
    rw [List.drop_eq_nil_of_le (by omega)] at hrest
    simp only [forLp] at hrest
    cases hrest
    exact ⟨wk2 e, q μ2 σ' Hh (n1.trans n2) s2 e2⟩
/-! ### calls whose value is dropped -/
def isComp : Expr → Bool
  | .ListComp .. => true
  | .SetComp .. => true
  | .DictComp .. => true
  | _ => false
theorem swaps_no {e : Expr} (h : isComp e = false) (t : Option Expr) (n : Nat) (env : PySem.Env) : swapsWith e t n env = pure false := by
  cases e <;> first | rfl | cases h
theorem ss_app {o e : Expr} {x y : Ex} {apos cpos pos : Pos} (ho : SE p sc o x) (hi : SE p sc e y) (hs : notStar e = true) (hc : notCall o = true) (hl : (apos.endLine == cpos.line) = true) : SS p sc (.Expr (.Call (.Attribute o "append" apos) [e] [] cpos) pos) (.app x y) := by
  intro ρ S f μ σ H h hS hE D q
  simp only [exec, Option.bind_eq_some_iff] at h
  obtain ⟨⟨l1, S1⟩, h1, ⟨l2, S2⟩, h2, d, e2, h⟩ := h
  cases sg_eq e2
  split at h
  · rename_i n e1
    simp only at e1
    subst e1
    split at h
    · rename_i ds0 ds c0 c1
      split at h
      · rename_i c
        cases h
        refine ⟨_, fun X hX => ps_expr (hX.fam.K ▸ pe_meth1 hX.fam PySem.F.slot_list_append PySem.F.type_list_append mt_append hs hc hl) (swaps_no rfl _ _ _), ?_⟩
        refine ho ρ S _ S1 μ σ H h1 hS hE _ fun v μ1 H1 n1 s1 i1 => ?_
        obtain ⟨a, vs, rfl, k1, k2, k3⟩ := i1.cellL s1 c0
        refine ⟨.inl ⟨rfl, vs, SqL.of k2⟩, ?_⟩
        refine hi ρ S1 _ S2 μ1 σ H1 h2 s1 (hE.mono n1) _ fun u μ2 H2 n2 s2 i2 => ?_
        obtain ⟨a', ws, e3, j1, j2, j3⟩ := (i1.mono n2).cellL s2 c1
        cases e3
        have hm := List.mem_of_getElem? j1
        have nc : Nxt μ2 H2 μ2 (upd H2 a (.lst (ws ++ [u]))) := Nxt.cell hm (s2.noH hm) (fun o u z => by rw [j2] at z; cases z)
        refine ⟨a, ws, u, rfl, rfl, j2, most_lt' (by rw [j3.len]; exact c), ?_⟩
        exact q μ2 σ _ (n1.trans (n2.trans nc)) (s2.put j1 ⟨_, upd_same, (j3.mono nc).app (.cons (i2.mono nc) .nil)⟩) (((hE.mono n1).mono n2).mono nc)
      · cases h
    · cases h
  · cases h
theorem ss_ext {o e : Expr} {x y : Ex} {apos cpos pos : Pos} (ho : SE p sc o x) (hi : SE p sc e y) (hs : notStar e = true) (hc : notCall o = true) (hl : (apos.endLine == cpos.line) = true) : SS p sc (.Expr (.Call (.Attribute o "extend" apos) [e] [] cpos) pos) (.ext x y) := by
  intro ρ S f μ σ H h hS hE D q
  simp only [exec, Option.bind_eq_some_iff] at h
  obtain ⟨⟨l1, S1⟩, h1, ⟨l2, S2⟩, h2, h⟩ := h
  split at h
  · rename_i n zs e1 e2
    simp only at e1 e2
    subst e1 e2
    split at h
    · rename_i ds0 ds c0 c1
      split at h
      · rename_i c
        cases h
        refine ⟨_, fun X hX => ps_expr (hX.fam.K ▸ pe_meth1 hX.fam PySem.F.slot_list_extend PySem.F.type_list_extend mt_extend hs hc hl) (swaps_no rfl _ _ _), ?_⟩
        refine ho ρ S _ S1 μ σ H h1 hS hE _ fun v μ1 H1 n1 s1 i1 => ?_
        obtain ⟨a, vs, rfl, k1, k2, k3⟩ := i1.cellL s1 c0
        refine ⟨.inl ⟨rfl, vs, SqL.of k2⟩, ?_⟩
        refine hi ρ S1 _ S2 μ1 σ H1 h2 s1 (hE.mono n1) _ fun u μ2 H2 n2 s2 i2 => ?_
        obtain ⟨a', ws, e3, j1, j2, j3⟩ := (i1.mono n2).cellL s2 c1
        cases e3
        cases i2 with
        | lst t1 t2 r =>
          rename_i b us
          have hm := List.mem_of_getElem? j1
          have nc : Nxt μ2 H2 μ2 (upd H2 a (.lst (ws ++ us))) := Nxt.cell hm (s2.noH hm) (fun o u z => by rw [j2] at z; cases z)
          refine ⟨a, b, ws, us, rfl, rfl, j2, t2, most_le (by rw [j3.len, r.len]; exact c), ?_⟩
          exact q μ2 σ _ (n1.trans (n2.trans nc)) (s2.put j1 ⟨_, upd_same, (j3.mono nc).app (r.mono nc)⟩) (((hE.mono n1).mono n2).mono nc)
      · cases h
    · cases h
  · cases h
end
end Ev

set_option Elab.async false
set_option linter.all false
set_option maxRecDepth 100000
set_option maxHeartbeats 4000000
set_option autoImplicit false
/-! assignments -/
namespace Ev
open PySem PySem.Spec PyProof.Rows L2
def lvLen : Lv → Nat
  | .nm i => 1
  | .sub o i => 1
  | .tnil => 0
  | .tcons a b => lvLen b + 1
  | .tup a => 1
section
variable {p : Pl} {sc : Scope} (ok : p.Ok)
theorem setL_len (G : GC) : ∀ (t : Lv) (ds : List D) (ρ : Env) (S : Store) (r : Env × Store), setL G t ds ρ S = some r → ds.length = lvLen t
  | .nm i, ds, ρ, S, r, h => by
    simp only [setL] at h
    split at h
    · rfl
    · cases h
  | .sub o i, ds, ρ, S, r, h => by
    simp only [setL] at h
    split at h
    · rfl
    · cases h
  | .tnil, ds, ρ, S, r, h => by
    simp only [setL] at h
    split at h
    · rfl
    · cases h
  | .tcons a b, ds, ρ, S, r, h => by
    simp only [setL] at h
    split at h
    · simp only [Option.bind_eq_some_iff] at h
      obtain ⟨⟨ρ1, S1⟩, _, h⟩ := h
      rw [List.length_cons, setL_len G b _ _ _ _ h, lvLen]
    · cases h
  | .tup a, ds, ρ, S, r, h => by
    simp only [setL] at h
    split at h
    · rfl
    · cases h
def SL (p : Pl) (sc : Scope) (e : Expr) (l : Lv) : Prop := ∀ (ρ : Env) (S : Store) (d : D) (ρ' : Env) (S' : Store), setL p.G l [d] ρ S = some (ρ', S') → ∀ (μ : Ad) (σ : L2.St) (H : Hp) (v : V), StR p.K μ S H → EnvR p.K μ H σ ρ → Is p.K μ H v d →
  ∀ Q : L2.St → Hp → Prop, (∀ σ' μ' H', Nxt μ H μ' H' → StR p.K μ' S' H' → EnvR p.K μ' H' σ' ρ' → Q σ' H') → wG (FamD p sc) e v σ H Q
def SLs (p : Pl) (sc : Scope) (es : List Expr) (l : Lv) : Prop := es.length = lvLen l ∧ ∀ (ρ : Env) (S : Store) (ds : List D) (ρ' : Env) (S' : Store), setL p.G l ds ρ S = some (ρ', S') → ∀ (μ : Ad) (σ : L2.St) (H : Hp) (vs : List V), StR p.K μ S H → EnvR p.K μ H σ ρ → IsAll p.K μ H vs ds →
  ∀ Q : L2.St → Hp → Prop, (∀ σ' μ' H', Nxt μ H μ' H' → StR p.K μ' S' H' → EnvR p.K μ' H' σ' ρ' → Q σ' H') → wGs (FamD p sc) es vs σ H Q
theorem sl_nm {i : Nat} {x : Str} {pos : Pos} (nd : p.N.Nodup) (hN : p.N[i]? = some x) (hl : LocF (FamD p sc) x) : SL p sc (.Name x pos) (.nm i) := by
  intro ρ S d ρ' S' h μ σ H v hS hE iv Q q
  simp only [setL] at h
  · split at h
    · cases h
      refine ⟨_, fun X hX => pg_name (by rw [hX.fam.N]; exact nd) (by rw [hX.fam.N]; exact hN) (hl X hX).1 (hl X hX).2, ?_⟩
      exact q _ μ H Nxt.refl hS (hE.set iv i)
    · cases h
theorem sl_sub {o i : Expr} {x y : Ex} {pos : Pos} (ho : SE p sc o x) (hi : SE p sc i y) (hs : plainIx i = true) : SL p sc (.Subscript o i pos) (.sub x y) := by
  intro ρ S d ρ' S' h μ σ H v hS hE iv Q q
  simp only [setL] at h
  · simp only [Option.bind_eq_some_iff] at h
    obtain ⟨⟨l1, S1⟩, h1, ⟨l2, S2⟩, h2, h⟩ := h
    split at h
    · rename_i n k e1 e2
      simp only at e1 e2
      subst e1 e2
      split at h
      · rename_i xs c1
        simp only [Option.bind_eq_some_iff] at h
        obtain ⟨j, hj, h⟩ := h
        cases h
        refine ⟨_, fun X hX => pg_sub (wE_ok hX.fam o) (wE_ok hX.fam i) (bSet_ok hX.fam) (fun v => by cases i <;> first | rfl | cases hs), ?_⟩
        refine ho ρ S _ S1 μ σ H h1 hS hE _ fun w μ1 H1 n1 s1 i1 => ?_
        refine hi ρ S1 _ S2 μ1 σ H1 h2 s1 (hE.mono n1) _ fun u μ2 H2 n2 s2 i2 => ?_
        cases i2
        obtain ⟨a, ws, rfl, j1, j2, j3⟩ := (i1.mono n2).cellL s2 c1
        have hm := List.mem_of_getElem? j1
        have nc : Nxt μ2 H2 μ2 (upd H2 a (.lst (ws.set j v))) := Nxt.cell hm (s2.noH hm) (fun o u z => by rw [j2] at z; cases z)
        refine ⟨_, fun X hX => set_list, a, ws, k, j, rfl, rfl, j2, by rw [j3.len]; exact hj, ?_⟩
        have n0 := n1.trans (n2.trans nc)
        exact q σ μ2 _ n0 (s2.put j1 ⟨_, upd_same, (j3.mono nc).set j (iv.mono n0)⟩) (hE.mono n0)
      · cases h
    · cases h
theorem sls_nil : SLs p sc [] .tnil := by
  refine ⟨rfl, fun ρ S ds ρ' S' h μ σ H vs hS hE iv Q q => ?_⟩
  simp only [setL] at h
  split at h
  · cases h
    cases iv
    exact ⟨_, fun X hX => pgs_nil, rfl, q σ μ H Nxt.refl hS hE⟩
  · cases h
def tgOk : Expr → Bool
  | .Name .. => true
  | .Tuple .. => true
  | .Subscript .. => true
  | _ => false
theorem each_ok {e : Expr} (h : tgOk e = true) (es : List Expr) (env : PySem.Env) : assignEach (e :: es) env = (false, assign e env) :: assignEach es env := by
  cases e <;> first | rfl | cases h
theorem each_okL : ∀ (es : List Expr) (env : PySem.Env), es.all tgOk = true → (assignEach es env).length = es.length ∧ (assignEach es env).findIdx? (·.1) = none
  | [], _, _ => ⟨rfl, rfl⟩
  | e :: es, env, h => by
    rw [List.all_cons, Bool.and_eq_true] at h
    rw [each_ok h.1]
    obtain ⟨h1, h2⟩ := each_okL es env h.2
    refine ⟨by simp [h1], ?_⟩
    rw [List.findIdx?_cons]
    simp [h2]
theorem sls_cons {e : Expr} {es : List Expr} {a b : Lv} (hp : tgOk e = true) (h1 : SL p sc e a) (h2 : SLs p sc es b) : SLs p sc (e :: es) (.tcons a b) := by
  refine ⟨by rw [List.length_cons, h2.1, lvLen], fun ρ S ds ρ' S' h μ σ H vs hS hE iv Q q => ?_⟩
  simp only [setL] at h
  split at h
  · rename_i d r
    simp only [Option.bind_eq_some_iff] at h
    obtain ⟨⟨ρ1, S1⟩, e1, e2⟩ := h
    cases iv with
    | cons i1 i2 =>
      refine ⟨_, fun X hX => pgs_cons (wG_ok hX e) (wGs_ok hX es) (by rw [each_ok hp]; rfl), _, _, rfl, ?_⟩
      refine h1 ρ S d ρ1 S1 e1 μ σ H _ hS hE i1 _ fun σ1 μ1 H1 n1 s1 hE1 => ?_
      exact h2.2 ρ1 S1 r ρ' S' e2 μ1 σ1 H1 _ s1 hE1 (i2.mono n1) _ fun σ2 μ2 H2 n2 s2 hE2 => q σ2 μ2 H2 (n1.trans n2) s2 hE2
  · cases h
theorem sl_tup {es : List Expr} {k : Nat} {pos : Pos} {t : Lv} (hp : es.all tgOk = true) (h : SLs p sc es t) : SL p sc (.Tuple es k pos) (.tup t) := by
  intro ρ S d ρ' S' e μ σ H v hS hE iv Q q
  simp only [setL] at e
  split at e
  · rename_i l xs heq
    cases heq
    obtain ⟨a, us, rfl, t1, r1⟩ := iv.sqT
    refine ⟨_, fun X hX => hX.fam.K ▸ pg_tup hX.fam.calm (wGs_ok hX es) (each_okL es X.env hp).1 (each_okL es X.env hp).2, a, us, rfl, t1, ?_, ?_⟩
    · rw [r1.len, setL_len _ _ _ _ _ _ e, h.1]
    · exact h.2 ρ S xs ρ' S' e μ σ H us hS hE r1 Q q
  · cases e
/-! ### which stores are exchanged -/
def isStar : Expr → Bool
  | .Starred .. => true
  | _ => false
def swapNames (sc : Scope) (line : Nat) : List Expr → List Str
  | [] => []
  | .Name id pos :: r => if sc.names.lookup id == some .local && pos.line == line then id :: swapNames sc line r else swapNames sc line r
  | _ :: r => swapNames sc line r
def swapO (sc : Scope) (ts vs : List Expr) : Option (Option (List Str)) :=
  if !(ts.length == 2 || ts.length == 3) || vs.length != ts.length || sc.kind != .function then some none
  else if vs.any isStar then some none
  else if (swapNames sc ((ts.head?.map (·.pos.line)).getD 0) ts).length != ts.length || (swapNames sc ((ts.head?.map (·.pos.line)).getD 0) ts).eraseDups.length != (swapNames sc ((ts.head?.map (·.pos.line)).getD 0) ts).length then some none
  else if vs.all (foldedForSure 8) then some none
  else if vs.all (constantsAlone 8) then none
  else some (some (swapNames sc ((ts.head?.map (·.pos.line)).getD 0) ts))
theorem swapNames_eq {env : PySem.Env} (line : Nat) : ∀ ts : List Expr, (ts.filterMap fun
    | .Name id pos => if env.kindOf id == some .local && pos.line == line then some id else none
    | _ => none) = swapNames env.scope line ts
  | [] => rfl
  | e :: r => by
    rw [List.filterMap_cons]
    have ih := swapNames_eq (env := env) line r
    cases e with
    | Name id pos =>
      simp only [swapNames, Env.kindOf] at ih ⊢
      by_cases c : (List.lookup id env.scope.names == some NameKind.local && pos.line == line) = true
      · simp only [c, if_true, ih]
      · rw [Bool.not_eq_true] at c
        simp only [c, Bool.false_eq_true, if_false, ih]
    | _ => simp only [swapNames]; exact ih
theorem isStar_eq : ∀ vs : List Expr, (vs.any fun | .Starred .. => true | _ => false) = vs.any isStar
  | [] => rfl
  | e :: r => by rw [List.any_cons, List.any_cons, isStar_eq r]; cases e <;> rfl
theorem swapO_ok {sc : Scope} {env : PySem.Env} (he : env.scope = sc) (hk : sc.kind = .function) {ts vs : List Expr} {r : Option (List Str)} (h : swapO sc ts vs = some r) (k k' : Nat) (q q' : Pos) : swappedStores [.Tuple ts k q] (.Tuple vs k' q') env = pure r := by
  subst he
  have hb : env.blockKind = .function := by unfold Env.blockKind; rw [hk]; rfl
  have hn := swapNames_eq (env := env) ((ts.head?.map (·.pos.line)).getD 0) ts
  have hs := isStar_eq vs
  unfold swapO at h
  unfold swappedStores
  simp only [hb, hk] at h ⊢
  split at h
  · rename_i c
    cases h
    exact if_pos c
  rename_i c
  refine (if_neg c).trans ?_
  split at h
  · rename_i c
    cases h
    exact if_pos (hs.trans c)
  rename_i c
  refine (if_neg (fun z => c (hs.symm.trans z))).trans ?_
  rw [← hn] at h
  split at h
  · rename_i c
    cases h
    exact if_pos c
  rename_i c
  refine (if_neg c).trans ?_
  split at h
  · rename_i c
    cases h
    exact if_pos c
  rename_i c
  refine (if_neg c).trans ?_
  split at h
  · cases h
  rename_i c
  cases h
  exact (if_neg c)
def isTup : Expr → Bool
  | .Tuple .. => true
  | _ => false
theorem swap_none1 {tg e : Expr} {env : PySem.Env} (h : isTup e = false) : swappedStores [tg] e env = pure none := by
  cases e <;> first | cases h; done | (cases tg <;> rfl)
def tgNo : Expr → Bool
  | .Name .. => true
  | .Subscript .. => true
  | _ => false
theorem swap_none2 {tg e : Expr} {env : PySem.Env} (h : tgNo tg = true) : swappedStores [tg] e env = pure none := by
  cases tg <;> first | rfl | cases h
/-! ### the statements -/
theorem ss_asg {tg e : Expr} {l : Lv} {x : Ex} {pos : Pos} (he : SE p sc e x) (hg : SL p sc tg l) (h1 : ∀ X, FamD p sc X → swapsWithSole [tg] e pos.line X.env = pure false) (h2 : ∀ X, FamD p sc X → swappedStores [tg] e X.env = pure none) (h3 : tgOk tg = true) :
    SS p sc (.Assign [tg] e pos) (.asg l x) := by
  intro ρ S f μ σ H h hS hE D q
  simp only [exec, Option.bind_eq_some_iff] at h
  obtain ⟨⟨l1, S1⟩, e1, d, e2, ⟨ρ', S'⟩, e3, h⟩ := h
  cases h
  cases sg_eq e2
  refine ⟨_, fun X hX => ps_asg (wE_ok hX.fam e) (wG_ok hX tg) (h1 X hX) (h2 X hX) (by rw [each_ok h3]; rfl), ?_⟩
  refine he ρ S d S1 μ σ H e1 hS hE _ fun v μ1 H1 n1 s1 i1 => ?_
  exact hg ρ S1 d ρ' S' e3 μ1 σ H1 v s1 (hE.mono n1) i1 _ fun σ' μ' H' n s e => q μ' σ' H' (n1.trans n) s e
theorem sole_no {tg e : Expr} (h : isComp e = false) (n : Nat) (env : PySem.Env) : swapsWithSole [tg] e n env = pure false := swaps_no h _ _ _
theorem sole_sub {o i e : Expr} {q : Pos} (n : Nat) (env : PySem.Env) : swapsWithSole [.Subscript o i q] e n env = pure false := by
  cases e <;> rfl
theorem sole_cell {x : Str} {e : Expr} {q : Pos} {env : PySem.Env} (h : env.scope.names.lookup x = some .cell) (n : Nat) : swapsWithSole [.Name x q] e n env = pure false := by
  have hk : env.kindOf x = some .cell := h
  cases e <;> first
    | rfl
    | (unfold swapsWithSole swapsWith
       simp only [hk]
       cases (env.blockKind == ScopeKind.function) <;> rfl)
/-- x = [..] on one line -/
theorem ss_setLc {i : Nat} {y : Str} {py : Pos} {elt tg iter : Expr} {ifs : List Expr} {scope : Scope} {own : List (Str × Nat)} {pos spos : Pos} {xe xi xc : Ex} {t : Tg} (m : Bool) (nd : p.N.Nodup) (hN : p.N[i]? = some y) (hy : sc.names.lookup y = some .local) (hl : (py.line == pos.line) = true)
    (hcap : (scope.names.any fun (n, k) => n == y && (k == .local || k == .cell)) = false) (hi : SI p sc tg iter xi) (bk : BlkOk p.N sc scope own)
    (hg : SG p (FamB p scope sc) tg t) (ht : STs p (relS scope sc) ifs xc) (he : SE p (relS scope sc) elt xe) (hx : ∀ j ∈ tgIx t, j ∈ own.map (·.2)) (hs : notSet iter = true) :
    SS p sc (.Assign [.Name y py] (.ListComp elt [⟨tg, iter, ifs, 0⟩] scope pos) spos) (.asg (.nm i) (if m then .mk (.lc xe t xi xc (own.map (·.2))) else .lc xe t xi xc (own.map (·.2)))) := by
  intro ρ S f μ σ H h hS hE D q
  have rule : ∀ X, FamD p sc X → PS X (.Assign [.Name y py] (.ListComp elt [⟨tg, iter, ifs, 0⟩] scope pos) spos) (tAsg (tLc (wI p sc tg iter) (wG (FamB p scope sc) tg) (wTs p (relS scope sc) ifs) (wE p (relS scope sc) elt) (own.map (·.2))) (gName i)) := fun X hX =>
    ps_setLc hX.fam.calm (by rw [hX.fam.N]; exact nd) (by rw [hX.fam.N]; exact hN) (by rw [hX.fam.sc]; exact hy) (sw_true (by rw [hX.fam.sc]; exact hX.kind) (by rw [hX.fam.sc]; exact hy) hl hcap) (wI_ok hX.fam tg iter) (by rw [hX.fam.N, hX.fam.sc]; exact bk)
      (fun s H C cl fp => wG_ok (F := FamB p scope sc) ⟨X, s, H, C, cl, fp, hX.fam, rfl⟩ tg) (fun s H C cl fp => wTs_ok (hX.fam.blk s H scope C cl fp) ifs) (fun s H C cl fp => wE_ok (hX.fam.blk s H scope C cl fp) elt) (notSet_ok hs _)
  have run := lc_run (p := p) hi hg ht he hx
  refine ⟨_, rule, ?_⟩
  simp only [exec, Option.bind_eq_some_iff] at h
  obtain ⟨⟨l1, S1⟩, e1, d, e2, ⟨ρ', S'⟩, e3, h⟩ := h
  cases h
  cases sg_eq e2
  simp only [setL] at e3
  split at e3
  · cases e3
    cases m with
    | false =>
      obtain ⟨ds, e4⟩ : ∃ ds, d = .lst ds := by
        simp only [Bool.false_eq_true, if_false, ev, Option.bind_eq_some_iff] at e1
        obtain ⟨_, _, _, _, _, _, e1⟩ := e1
        cases e1; exact ⟨_, rfl⟩
      subst e4
      refine run ρ S ds _ μ σ H e1 hS hE _ fun a xs μ' H' n1 n2 o s e iv => ?_
      exact q μ' _ H' n1 s.shown ((hE.mono n1).set (.lst o e (iv.kp kp_show)) i)
    | true =>
      simp only [if_true] at e1
      rw [ev] at e1
      simp only [Option.bind_eq_some_iff] at e1
      obtain ⟨⟨l2, S2⟩, e4, e5⟩ := e1
      split at e5
      · rename_i ds e6
        cases e5
        simp only at e6
        subst e6
        refine run ρ S ds S2 μ σ H e4 hS hE _ fun a xs μ' H' n1 n2 o s e iv => ?_
        have hl : μ'.c.length = S2.length := s.len
        have n3 : Nxt μ H (μ'.add a) H' := by
          obtain ⟨ν, k1, k2⟩ := n1.more
          refine ⟨⟨ν ++ [a], by show μ'.c ++ [a] = _; rw [k1, List.append_assoc], fun b hb => ?_⟩, n1.hid, n1.keep, n1.same, n1.frz⟩
          rcases List.mem_append.mp hb with z | z
          · exact k2 b z
          · rw [List.mem_singleton.mp z]; exact ⟨hS.notIn n2, n2⟩
        exact q (μ'.add a) _ H' n3 (s.made o.2 ⟨xs, e, iv⟩) ((hE.mono n3).set (.cell (by show (μ'.c ++ [a])[_]? = _; rw [← hl]; simp)) i)
      · cases e5
  · cases e3
/-- a, b = x, y with plain local names -/
theorem ss_par2 {i j : Nat} {x y : Str} {a b : Expr} {z : Ex} {px py pt pos : Pos} {kt k2 : Nat} {pt2 : Pos} (nd : p.N.Nodup) (hi : p.N[i]? = some x) (hj : p.N[j]? = some y) (hij : i ≠ j) (hx : sc.names.lookup x = some .local) (hy : sc.names.lookup y = some .local) (ha : SA p sc [a, b] z)
    (hk : sc.kind = .function) (hw : swapO sc [.Name x px, .Name y py] [a, b] = some (some [x, y])) : SS p sc (.Assign [.Tuple [.Name x px, .Name y py] kt pt] (.Tuple [a, b] k2 pt2) pos) (.asgP (.tcons (.nm i) (.tcons (.nm j) .tnil)) z) := by
  intro ρ S f μ σ H h hS hE D q
  simp only [exec, Option.bind_eq_some_iff] at h
  obtain ⟨⟨l1, S1⟩, e1, ⟨ρ', S'⟩, e3, h⟩ := h
  cases h
  refine ⟨_, fun X hX => ps_par hX.fam.calm (by rw [hX.fam.N]; exact nd) (by rw [hX.fam.N]; exact hi) (by rw [hX.fam.N]; exact hj) hij (by rw [hX.fam.sc]; exact hx) (by rw [hX.fam.sc]; exact hy) (wA_ok hX.fam _) (swapO_ok hX.fam.sc hk hw _ _ _ _), ?_⟩
  refine ha ρ S l1 S1 μ σ H e1 hS hE _ fun vs μ1 H1 n1 s1 i1 => ?_
  simp only [setL] at e3
  split at e3
  · rename_i d r
    cases i1 with
    | cons i1 i2 =>
      rename_i v vs
      split at e3
      · simp only [Option.bind_some] at e3
        split at e3
        · rename_i d2 r2
          cases i2 with
          | cons i2 i3 =>
            rename_i w ws
            split at e3
            · simp only [Option.bind_some] at e3
              split at e3
              · cases e3
                cases i3
                exact ⟨v, w, rfl, q μ1 _ H1 n1 s1 (((hE.mono n1).set i1 i).set i2 j)⟩
              · cases e3
            · cases e3
        · cases e3
      · cases e3
  · cases e3
theorem ss_par3 {i j l : Nat} {x y u : Str} {a b c : Expr} {z : Ex} {px py pu pt pos : Pos} {kt k2 : Nat} {pt2 : Pos} (nd : p.N.Nodup) (hi : p.N[i]? = some x) (hj : p.N[j]? = some y) (hl : p.N[l]? = some u) (hij : i ≠ j) (hil : i ≠ l) (hjl : j ≠ l) (hx : sc.names.lookup x = some .local) (hy : sc.names.lookup y = some .local) (hu : sc.names.lookup u = some .local) (ha : SA p sc [a, b, c] z)
    (hk : sc.kind = .function) (hw : swapO sc [.Name x px, .Name y py, .Name u pu] [a, b, c] = some (some [x, y, u])) : SS p sc (.Assign [.Tuple [.Name x px, .Name y py, .Name u pu] kt pt] (.Tuple [a, b, c] k2 pt2) pos) (.asgP (.tcons (.nm i) (.tcons (.nm j) (.tcons (.nm l) .tnil))) z) := by
  intro ρ S f μ σ H h hS hE D q
  simp only [exec, Option.bind_eq_some_iff] at h
  obtain ⟨⟨l1, S1⟩, e1, ⟨ρ', S'⟩, e3, h⟩ := h
  cases h
  refine ⟨_, fun X hX => ps_par3 hX.fam.calm (by rw [hX.fam.N]; exact nd) (by rw [hX.fam.N]; exact hi) (by rw [hX.fam.N]; exact hj) (by rw [hX.fam.N]; exact hl) hij hil hjl (by rw [hX.fam.sc]; exact hx) (by rw [hX.fam.sc]; exact hy) (by rw [hX.fam.sc]; exact hu) (wA_ok hX.fam _) (swapO_ok hX.fam.sc hk hw _ _ _ _), ?_⟩
  refine ha ρ S l1 S1 μ σ H e1 hS hE _ fun vs μ1 H1 n1 s1 i1 => ?_
  simp only [setL] at e3
  split at e3
  · rename_i d r
    cases i1 with
    | cons i1 i2 =>
      rename_i v vs
      split at e3
      · simp only [Option.bind_some] at e3
        split at e3
        · rename_i d2 r2
          cases i2 with
          | cons i2 i3 =>
            rename_i w ws
            split at e3
            · simp only [Option.bind_some] at e3
              split at e3
              · rename_i d3 r3
                cases i3 with
                | cons i3 i4 =>
                  rename_i t ts
                  split at e3
                  · simp only [Option.bind_some] at e3
                    split at e3
                    · cases e3
                      cases i4
                      exact ⟨v, w, t, rfl, q μ1 _ H1 n1 s1 ((((hE.mono n1).set i1 i).set i2 j).set i3 l)⟩
                    · cases e3
                  · cases e3
              · cases e3
            · cases e3
        · cases e3
      · cases e3
  · cases e3
end
end Ev

set_option Elab.async false
set_option linter.all false
set_option maxRecDepth 100000
set_option maxHeartbeats 4000000
set_option autoImplicit false
/-! a zip that stands under a name for one comprehension -/
namespace Ev
open PySem PySem.Spec PyProof.Rows L2
/-- objects tracked as they stand -/
def trkL (H : Hp) (h : Heap) (as : List Addr) : Hp := fun b => if b ∈ as then some (.ext fun h' => h'.get? b = h.get? b) else H b
def dropL (H : Hp) (as : List Addr) : Hp := fun b => if b ∈ as then none else H b
theorem drop_trk {H : Hp} {h : Heap} {as : List Addr} (hn : ∀ a ∈ as, H a = none) : dropL (trkL H h as) as = H := by
  funext b
  unfold dropL trkL
  by_cases c : b ∈ as
  · rw [if_pos c, hn b c]
  · rw [if_neg c, if_neg c]
section
variable {X : Cx} {pins : List (Addr × Obj)} {σ : L2.St} {H : Hp} {s : Shared} {as : List Addr}
theorem inv_trk {h' : Heap} {t' : Nat} (I : Inv X pins σ H s) (k : ∀ b u, s.heap.get? b = some u → h'.get? b = some u) (hp : ∀ a ∈ as, s.heap.objs.size ≤ a) (hx : ∀ a ∈ as, ∃ o, h'.get? a = some o) :
    Inv X pins σ (trkL H h' as) { s with heap := h', toks := t' } := by
  have hn : ∀ a ∈ as, H a = none := fun a ha => I.hok.fresh (hp a ha)
  have old : ∀ b u, H b = some u → trkL H h' as b = some u := fun b u e => by
    unfold trkL
    rw [if_neg (fun z => by rw [hn b z] at e; cases e)]
    exact e
  refine I.un ⟨fun b o e _ _ _ => k b o e, fun b o e _ _ _ => ⟨o.slots, k b o e⟩, fun b o e n _ => ?_, fun b o e _ => ⟨o, k b o e⟩, fun b xs e => old _ _ e, fun b o u e => old _ _ e, fun b ps e => ⟨#[], by rw [old _ _ e]; simp⟩⟩ fun b u e => ?_
  · unfold trkL
    rw [if_neg (fun z => absurd (Nat.lt_of_lt_of_le (Heap.lt_size e) (hp b z)) (Nat.lt_irrefl _))]
    exact n
  · by_cases c : b ∈ as
    · unfold trkL at e
      rw [if_pos c] at e
      cases e
      obtain ⟨o, ho⟩ := hx b c
      exact ⟨rfl, ⟨o, ho⟩, fun h1 h2 e1 k1 => by
        rw [ho] at e1 ⊢
        exact k1 o e1⟩
    · have e' : H b = some u := by
        unfold trkL at e
        rwa [if_neg c] at e
      exact (I.hok b u e').stay (fun c v _ q => k c v q) (fun c q => old _ _ q) fun c xs q => old _ _ q
theorem inv_dropL (I : Inv X pins σ H s) (h : ∀ a ∈ as, ∃ φ, H a = some (.ext φ)) : Inv X pins σ (dropL H as) s := by
  have other : ∀ b u, H b = some u → (∀ ψ, u ≠ .ext ψ) → dropL H as b = some u := fun b u e n => by
    unfold dropL
    rw [if_neg (fun z => by
      obtain ⟨φ, q⟩ := h b z
      rw [q] at e
      exact n φ (Option.some.inj e).symm)]
    exact e
  have non : ∀ b, H b = none → dropL H as b = none := fun b e => by
    unfold dropL
    split
    · rfl
    · exact e
  have hok : HOk X.prog X.w (dropL H as) s.heap := fun b u e => by
    by_cases c : b ∈ as
    · unfold dropL at e
      rw [if_pos c] at e
      cases e
    · unfold dropL at e
      rw [if_neg c] at e
      exact (I.hok b u e).stay (fun _ _ _ z => z) (fun c z => other c _ z fun _ w => (nomatch w)) fun c xs z => other c _ z fun _ w => (nomatch w)
  have u : Un X.fs [] H (dropL H as) s.heap s.heap := ⟨fun _ _ e _ _ _ => e, fun _ o e _ _ _ => ⟨o.slots, e⟩, fun b _ _ z _ => non b z, fun _ o e _ => ⟨o, e⟩, fun b xs z => other b _ z fun _ w => (nomatch w),
    fun b o x z => other b _ z fun _ w => (nomatch w), fun b ps z => ⟨#[], by rw [other b _ z fun _ w => (nomatch w)]; simp⟩⟩
  exact I.un (t' := s.toks) u hok
theorem inv_fpL (I : Inv X pins σ H s) {a : Addr} {u : HO} (ha : a ∈ as) (h : H a = some u) (hn : X.s_0.heap.objs.size ≤ a) : FpOk X pins (dropL H as) a := by
  refine ⟨by unfold dropL; rw [if_pos ha], fun z => ?_, fun z => ?_, .inr hn, fun x c e z => ?_, fun p hp z => ?_⟩
  · rw [z, I.free] at h
    cases h
  · obtain ⟨_, o, ho, _⟩ := I.ok.funs.mem z
    exact absurd (Nat.lt_of_lt_of_le (Heap.lt_size ho) hn) (Nat.lt_irrefl _)
  · have q := I.freeC x c e
    rw [z, h] at q
    cases q
  · have q := (I.pin p hp).2.1
    rw [z, h] at q
    cases q
end
/-- the name k holds a zip's object -/
def iZipV (K : PySem.W.Frag) (n k : Nat) : TI := fun σ H R => ∃ (z TI TO i1 i2 a d : Addr) (b c : Bool), σ[k]? = some (some (.ref z)) ∧ (∀ e ∈ [z, TI, TO, i1, i2], ∃ φ, H e = some (.ext φ)) ∧ (∀ e ∈ [z, TI, TO, i1, i2], n ≤ e) ∧
  (∀ h : Heap, (∀ e ∈ [z, TI, TO, i1, i2], ∀ φ, H e = some (.ext φ) → φ h) → ZipAt b c a d z TI TO i1 i2 0 h) ∧ ZipSep2 z TI TO i1 i2 [i1, a] [i2, d] ∧ a ≠ i1 ∧ d ≠ i2 ∧ R (ItzB b c K a d) (dropL H [z, TI, TO, i1, i2])
theorem pi_zipV {X : Cx} {k : Nat} {x : Str} {p tpos : Pos} {elts : List Expr} {kk : Nat} (hN : X.N[k]? = some x) (hv : Vis X.env.scope x) (hd : (x == ("__debug__" : Str)) = false) (hcd : (x == ("__classdict__" : Str)) = false) :
    PI X (.Tuple elts kk tpos) (.Name x p) (iZipV X.K X.s_0.heap.objs.size k) := by
  refine ⟨fun pins s σ H R I h => ?_⟩
  obtain ⟨z, TI, TO, i1, i2, a, d, b, c, hs, he, hn, hz, S, h1, h2, q⟩ := h
  refine thn ((pe_var (pos := p) (i := k) hN hv hd hcd).run pins s σ H (fun v H1 => v = .ref z ∧ H1 = H) I ⟨.ref z, hs, rfl, rfl⟩) fun u s1 ⟨v, H1, I1, r1, ev, eH⟩ => ?_
  subst ev
  rw [eH] at I1
  cases r1
  have st := hz s1.heap fun e hm φ q => (show ObjOk X.prog X.w H s1.heap e (.ext φ) from I1.hok e _ q).1
  refine wpAny_pyIter_zip st.zip ?_
  refine ⟨z, [z, TI, TO, i1, i2], _, _, dropL H [z, TI, TO, i1, i2], rfl, inv_dropL I1 he, turn_zipB b c S h1 h2, st, fun e hm => ?_, q⟩
  obtain ⟨φ, hφ⟩ := he e hm
  exact inv_fpL I1 hm hφ (hn e hm)
section
variable {p : Pl} {sc : Scope} (ok : p.Ok)
include ok
theorem ss_zip2 {k : Nat} {y : Str} {py py2 p1 p2 q1 q2 spos rpos lpos tpos : Pos} {e f elt : Expr} {elts ifs : List Expr} {kk : Nat} {scope : Scope} {own : List (Str × Nat)} {xe x1 x2 xc : Ex} {t : Tg} (hk : sc.kind = .function) (hN : p.N[k]? = some y) (hy : sc.names.lookup y = some .local)
    (hd : (y == ("__debug__" : Str)) = false) (hcd : (y == ("__classdict__" : Str)) = false) (he : SE p sc e x1) (hf : SE p sc f x2) (hs : notStar e = true) (hs2 : notStar f = true) (hgz : gI sc "zip") (hgt : gI sc "tuple") (bk : BlkOk p.N sc scope own)
    (hg : SG p (FamB p scope sc) (.Tuple elts kk tpos) t) (ht : STs p (relS scope sc) ifs xc) (hel : SE p (relS scope sc) elt xe) (hx : ∀ j ∈ tgIx t, j ∈ own.map (·.2)) (hko : k ∈ own.map (·.2)) :
    SSs p sc [.Assign [.Name y py] (.Call (.Name "zip" p1) [e, f] [] q1) spos, .Return (some (.Call (.Name "tuple" p2) [.ListComp elt [⟨.Tuple elts kk tpos, .Name y py2, ifs, 0⟩] scope lpos] [] q2)) rpos]
      (.seq (.ret (.tuple (.lc xe t (.zip x1 x2) xc (own.map (·.2))))) .done) := by
  intro ρ S fl μ σ H h hS hE D q
  simp only [exec, Option.bind_eq_some_iff] at h
  obtain ⟨f0, ⟨⟨l0, S0⟩, h0, d0, e0, h00⟩, h⟩ := h
  cases h00
  cases h
  cases sg_eq e0
  rw [ev] at h0
  simp only [Option.bind_eq_some_iff] at h0
  obtain ⟨⟨l1, S1⟩, h1, dl, e1, ds, e2, h0⟩ := h0
  cases h0
  cases sg_eq e1
  rw [ev] at h1
  simp only [Option.bind_eq_some_iff] at h1
  obtain ⟨⟨lz, Sz⟩, hz, ⟨g, items⟩, hu, ⟨fin, Sf⟩, hL, h1⟩ := h1
  cases h1
  rw [ev] at hz
  simp only [Option.bind_eq_some_iff] at hz
  obtain ⟨⟨la, Sa⟩, ha, dx, ex, ⟨lb, Sb⟩, hb, dy, ey, xs, e3, ys, e4, hz⟩ := hz
  cases hz
  cases sg_eq ex
  cases sg_eq ey
  obtain ⟨rfl, rfl⟩ := unG_pack hu
  cases e2
  let lcT : It → Hp → TE := fun J H2 => tLc (fun _ _ R => R J H2) (wG (FamB p scope sc) (.Tuple elts kk tpos)) (wTs p (relS scope sc) ifs) (wE p (relS scope sc) elt) (own.map (·.2))
  refine ⟨fun D σ H => tCons (wE p sc e) (tCons (wE p sc f) tNil) σ H fun vs H2 => ∃ a d b c xs ys, vs = [V.ref a, V.ref d] ∧ SqB b p.K H2 a xs ∧ SqB c p.K H2 d ys ∧ ∀ z, lcT (ItzB b c p.K a d) H2 (σ.set k (some (.ref z))) H2 fun v H3 => bCl p sc (.type "tuple") [v] H3 D.rt, fun X hX => ?_, ?_⟩
  · -- the two statements, in one place
    have hXN : X.N[k]? = some y := by rw [hX.fam.N]; exact hN
    have hXy : X.env.scope.names.lookup y = some .local := by rw [hX.fam.sc]; exact hy
    have pi2 : PI X (.Tuple elts kk tpos) (.Name y py2) (iZipV X.K X.s_0.heap.objs.size k) := pi_zipV hXN (.inl hXy) hd hcd
    have plc := pe_lc (pos := lpos) (elt := elt) (ifs := ifs) (scope := scope) (own := own) hX.fam.calm (by rw [hX.fam.N]; exact ok.nd) pi2 (by rw [hX.fam.N, hX.fam.sc]; exact bk) (fun s H C cl fp => wG_ok (F := FamB p scope sc) ⟨X, s, H, C, cl, fp, hX.fam, rfl⟩ _) (fun s H C cl fp => wTs_ok (hX.fam.blk s H scope C cl fp) ifs)
      (fun s H C cl fp => wE_ok (hX.fam.blk s H scope C cl fp) elt) (notSet_ok rfl _)
    have ret := pss_one (ps_ret (pos := rpos) (pe_callTy (pos := q2) (p := p2) (x := "tuple") (T := "tuple") (bCl_ok hX.fam _) (hX.fam.gl hgt) (by rw [hX.fam.mg]; exact ok.blt _ (by decide)) (by decide +kernel) (pa_cons plc pa_nil (starEach_no rfl _ _)) (by decide) (by decide) (starEach_no rfl _ _) rfl))
    refine ⟨fun pins s σ H D I hw => ?_⟩
    refine wpAny_execs_cons ?_
    refine wpAny_Assign_Name ?_ (swaps_no rfl _ _ _)
    refine Call_ (ld_blt I (hX.fam.gl hgz) (by rw [hX.fam.mg]; exact ok.blt _ (by decide)) PyProof.Rows.boot_zip (PyProof.Rows.callWith_type1 (thn ((pa_cons (wE_ok hX.fam e) (pa_cons (wE_ok hX.fam f) pa_nil (starEach_no hs2 _ _)) (starEach_no hs _ _)).run q1 pins s σ H _ I hw) fun us s1 ⟨vs, H1, I1, r1, w1⟩ => ?_) (starEach_no hs _ _) (back_no (by simp [hs2]))))
    obtain ⟨a, d, b, c, xs, ys, rfl, hqx, hqy, w1⟩ := w1
    rw [← hX.fam.K] at hqx hqy
    cases r1 with
    | cons r rr =>
      cases rr with
      | cons r' rr =>
        cases rr
        cases r
        cases r'
        obtain ⟨its, rv, pa⟩ := SqB.its I1 hqx
        obtain ⟨its2, rv2, pb⟩ := SqB.its I1 hqy
        have lta := datB_lt pa
        have ltd := datB_lt pb
        refine zip_begins2 (begins_b b a its.toArray) (begins_b c d its2.toArray) pa pb fun h' hz hTI hTO g1 g2 hsz hkp => ?_
        generalize hNs : s1.heap.objs.size = Ns at hz hTI hTO g1 g2 hsz lta ltd
        have sep := zip_sep2 (N := Ns) (fp1 := [a]) (fp2 := [d]) (fun x hx => by rw [List.mem_singleton.mp hx]; exact lta) (fun x hx => by rw [List.mem_singleton.mp hx]; exact ltd)
        have hmem : ∀ e ∈ [Ns + 4, Ns + 2, Ns + 3, Ns, Ns + 1], Ns ≤ e := fun e he => by
          rcases (by simpa using he : e = Ns + 4 ∨ e = Ns + 2 ∨ e = Ns + 3 ∨ e = Ns ∨ e = Ns + 1) with r | r | r | r | r <;> omega
        have hget : ∀ e ∈ [Ns + 4, Ns + 2, Ns + 3, Ns, Ns + 1], ∃ o, h'.get? e = some o := fun e he => by
          rcases (by simpa using he : e = Ns + 4 ∨ e = Ns + 2 ∨ e = Ns + 3 ∨ e = Ns ∨ e = Ns + 1) with r | r | r | r | r <;> rw [r]
          · exact ⟨_, hz⟩
          · exact ⟨_, hTI⟩
          · exact ⟨_, hTO⟩
          · exact ⟨_, g1⟩
          · exact ⟨_, g2⟩
        have I2 : Inv X pins σ (trkL H1 h' [Ns + 4, Ns + 2, Ns + 3, Ns, Ns + 1]) { s1 with heap := h' } := inv_trk (t' := s1.toks) I1 hkp (fun e he => by rw [hNs]; exact hmem e he) hget
        refine store_ok (v := V.ref (Ns + 4)) I2 (by rw [hX.fam.N]; exact ok.nd) hXN (.inl hXy) rfl (fun s2 I3 => ?_) (.inr hXy)
        have hfr : ∀ e ∈ [Ns + 4, Ns + 2, Ns + 3, Ns, Ns + 1], H1 e = none := fun e he => I1.hok.fresh (by rw [hNs]; exact hmem e he)
        have hlen : k < σ.length := by rw [I1.len]; exact (List.getElem?_eq_some_iff.mp hXN).1
        have hs0 : X.s_0.heap.objs.size ≤ Ns := by rw [← hNs]; exact I1.sz
        refine ret.run pins s2 _ _ D I3 ?_
        refine ⟨Ns + 4, Ns + 2, Ns + 3, Ns, Ns + 1, a, d, b, c, ?_, fun e he => ⟨_, by unfold trkL; rw [if_pos he]⟩, fun e he => ?_, fun h hφ => ?_, sep, Nat.ne_of_lt lta, Nat.ne_of_lt (Nat.lt_succ_of_lt ltd), ?_⟩
        · rw [List.getElem?_set_self hlen]
        · exact Nat.le_trans hs0 (hmem e he)
        · have hg : ∀ e ∈ [Ns + 4, Ns + 2, Ns + 3, Ns, Ns + 1], h.get? e = h'.get? e := fun e he => hφ e he _ (by unfold trkL; rw [if_pos he])
          have m0 := hg (Ns + 4) (by simp)
          have m1 := hg (Ns + 2) (by simp)
          have m2 := hg (Ns + 3) (by simp)
          have m3 := hg Ns (by simp)
          have m4 := hg (Ns + 1) (by simp)
          exact ⟨m0.trans hz, m1.trans hTI, ⟨_, _, m2.trans hTO⟩, begO_it (m3.trans g1), begO_it (m4.trans g2)⟩
        · rw [drop_trk hfr, hX.fam.K]
          exact w1 (Ns + 4)
  · refine he ρ S dx Sa μ σ H ha hS hE _ fun v μ1 H1 n1 s1 i1 => ?_
    refine hf ρ Sa dy _ μ1 σ H1 hb s1 (hE.mono n1) _ fun u μ2 H2 n2 s2 i2 => ?_
    obtain ⟨a, b, rfl, sr⟩ := src_of (i1.mono n2) s2 e3
    obtain ⟨d, c, rfl, sr'⟩ := src_of i2 s2 e4
    obtain ⟨vs, w1⟩ := sr.has s2
    obtain ⟨ws, w2⟩ := sr'.has s2
    have hE2 := (hE.mono n1).mono n2
    refine ⟨a, d, b, c, vs, ws, rfl, w1, w2, fun z => ?_⟩
    refine lc_loop hg ht hel hx (wk_zip sr sr') hL s2 ?_ _ (fun l xs' μ' H' m1 m2 o s e i => ?_) H2
    · have e5 : L2.wipe (σ.set k (some (.ref z))) (own.map (·.2)) = L2.wipe σ (own.map (·.2)) := wipe_eq (by simp) fun j hj => by
        rw [List.getElem?_set_ne (fun w => hj (by rw [← w]; exact hko))]
      rw [e5]
      exact hE2.wipe _
    · have n3 := n1.trans (n2.trans m1)
      have i' := i.kp kp_show
      have s' := s.shown
      exact ⟨_, fun X hX => hX.K ▸ call_tuple_of, l, xs', rfl, .inl ⟨SqL.of e, fun b n => q _ μ' _ (n3.trans (Nxt.newS s' n)) (s'.new n) (Is.newT s' n i')⟩⟩
end
end Ev

set_option Elab.async false
set_option linter.all false
set_option maxRecDepth 100000
set_option maxHeartbeats 4000000
set_option autoImplicit false
/-! dicts with tuples of ints as keys -/
namespace Ev
open PySem PySem.Spec PyProof.Rows L2
abbrev ik (k : List Int) : List Key := k.map Sum.inl
theorem ik_inj {k k' : List Int} (h : ik k = ik k') : k = k' := List.map_inj_right (fun a b h => Sum.inl.inj h) |>.mp h
theorem ik_kV (k : List Int) : (ik k).map kV = k.map V.int := by
  unfold ik
  rw [List.map_map]
  rfl
section
variable {K : PySem.W.Frag} {μ μ' : Ad} {H H' : Hp} {v : V} {d : D} {S : Store}
theorem DctR.len {kv : List (List Key × V)} {kd : List (List Int × D)} (h : DctR K μ H kv kd) : kv.length = kd.length := by
  induction h with
  | nil => rfl
  | cons a b ih => simp [ih]
theorem DctR.look {kv : List (List Key × V)} {kd : List (List Int × D)} (h : DctR K μ H kv kd) (k : List Int) : (∃ v d, lookK kd k = some d ∧ valV kv (ik k) = some v ∧ Is K μ H v d) ∨ (lookK kd k = none ∧ valV kv (ik k) = none) := by
  induction h with
  | nil => exact .inr ⟨rfl, rfl⟩
  | @cons k' v d kv kd a b ih =>
    by_cases c : k' = k
    · subst c
      exact .inl ⟨v, d, by simp [lookK], valV_pos rfl, a⟩
    · have e1 : lookK ((k', d) :: kd) k = lookK kd k := by simp [lookK, c]
      have e2 : valV ((k'.map Sum.inl, v) :: kv) (ik k) = valV kv (ik k) := valV_neg (fun z => c (ik_inj z))
      rw [e1, e2]; exact ih
theorem DctR.any {kv : List (List Key × V)} {kd : List (List Int × D)} (h : DctR K μ H kv kd) (k : List Int) : (kv.any fun q => decide (q.1 = ik k)) = (kd.any fun q => decide (q.1 = k)) := by
  induction h with
  | nil => rfl
  | @cons k' v d kv kd a b ih =>
    rw [List.any_cons, List.any_cons, ih]
    congr 1
    by_cases c : k' = k
    · subst c; simp
    · rw [decide_eq_false (show ¬ (k', d).1 = k from c), decide_eq_false (show ¬ (k'.map Sum.inl, v).1 = ik k from fun z => c (ik_inj z))]
theorem DctR.put {kv : List (List Key × V)} {kd : List (List Int × D)} (h : DctR K μ H kv kd) (k : List Int) (i : Is K μ H v d) : DctR K μ H (L2.putK kv (ik k) v) (Ev.putK kd k d) := by
  unfold L2.putK Ev.putK
  rw [h.any k]
  split
  · rename_i c0
    clear c0
    induction h with
    | nil => exact .nil
    | @cons k' v' d' kv kd a b ih =>
      rw [List.map_cons, List.map_cons]
      by_cases c : k' = k
      · subst c
        rw [if_pos rfl, if_pos rfl]
        exact .cons i ih
      · rw [if_neg (show ¬ (k', d').1 = k from c), if_neg (show ¬ (k'.map Sum.inl, v').1 = ik k from fun z => c (ik_inj z))]
        exact .cons a ih
  · rename_i c0
    clear c0
    induction h with
    | nil => exact .cons i .nil
    | cons a b ih => exact .cons a ih
theorem Is.keyS (h : Is K μ H v d) {k : List Int} (e : keyOf d = some k) : ∃ b, v = .ref b ∧ SqT K H b ((ik k).map kV) := by
  rw [ik_kV]
  cases d with
  | tup ds =>
    obtain ⟨a, xs, rfl, q, r⟩ := h.sqT
    have := r.ints e
    subst this
    exact ⟨a, rfl, q⟩
  | _ => cases e
end
section
variable {X : Cx} {pins : List (Addr × Obj)} {σ : L2.St} {H : Hp} {s : Shared} {a b : Addr} {kvs : List (List Key × V)} {ks : List Key}
theorem key_ofS (I : Inv X pins σ H s) (e : SqT X.K H b (ks.map kV)) : (tupleKind (mixKind X.prog X.w)).is s.heap ks b := by
  obtain ⟨its, r, p, _⟩ := I.tuple e
  obtain ⟨o, g, k, n, f⟩ := id p
  exact ⟨o, its.toArray, n, g, k, f, by simpa using items_are r⟩
def tDGetS (K : PySem.W.Frag) (td ty : TE) : TE := fun σ H Q => td σ H fun x H1 => ty σ H1 fun y H2 => ∃ a b kvs ks v, x = .ref a ∧ y = .ref b ∧ Rd H2 a (.dT kvs) ∧ SqT K H2 b (ks.map kV) ∧ valV kvs ks = some v ∧ Q v H2
theorem pe_dgetS {o i : Expr} {pos : Pos} {td ty : TE} (hu : X.A.units + 1 < cLine) (ho : PE X o td) (hi : PE X i ty) (hs : NoSl i) : PE X (.Subscript o i pos) (tDGetS X.K td ty) := by
  refine ⟨fun pins s σ H Q I h => ?_⟩
  refine subD_of PySem.F.slot_dict_getitem.lookup hs (thn (ho.run pins s σ H _ I h) fun u s1 ⟨x, H1, I1, rx, q1⟩ => thn (hi.run pins s1 σ H1 _ I1 q1) fun iv s2 ⟨y, H2, I2, ry, a, b, kvs, ks, v, ex, ey, e, eb, l, q2⟩ => ?_)
  subst ex ey
  obtain rfl : u = Value.ref a := rx
  obtain rfl : iv = Value.ref b := ry
  refine ⟨(isD_at I2 (.inr ⟨kvs, e⟩)).1, ?_⟩
  obtain ⟨z, hd, xs, rel, dd⟩ := dt_rd I2.hok e
  obtain ⟨w', hw, rw'⟩ := RelO.some_of (v := v) (o := (atKey xs ks).map (·.2)) (by rw [← l]; exact rel.val ks)
  obtain ⟨p, hp, hp2⟩ := Option.map_eq_some_iff.mp hw
  refine wpAny_getItem_heap (tupleKind_room_in1 hu) (key_ofS I2 eb) dd hp ?_
  rw [hp2]
  exact ⟨v, H2, I2.tok _, rw', q2⟩
def tDGet2S (K : PySem.W.Frag) (td ty tx : TE) : TE := fun σ H Q => td σ H fun x H1 => ∃ a, x = .ref a ∧ IsD H1 a ∧ ty σ H1 fun y H2 => tx σ H2 fun z H3 => ∃ b kvs ks, y = .ref b ∧ Rd H3 a (.dT kvs) ∧ SqT K H3 b (ks.map kV) ∧ Q ((valV kvs ks).getD z) H3
theorem pe_dget2S {o e f : Expr} {apos cpos : Pos} {td ty tx : TE} (hu : X.A.units + 1 < cLine) (ho : PE X o td) (he : PE X e ty) (hf : PE X f tx) (m : M2 X o "get" apos e f cpos) : PE X (.Call (.Attribute o "get" apos) [e, f] [] cpos) (tDGet2S X.K td ty tx) := by
  refine ⟨fun pins s σ H Q I h => ?_⟩
  refine wpAny_Call_method m.base m.few m.line PySem.F.plainAttrs_dict PySem.F.slot_dict_get PySem.F.type_dict_get (thn (ho.run pins s σ H _ I h) fun u s1 ⟨x, H1, I1, rx, a, ex, d, q1⟩ => ?_)
  subst ex
  obtain rfl : u = Value.ref a := rx
  obtain ⟨t1, t2, _⟩ := isD_at I1 d
  refine ⟨t1, t2, ?_⟩
  rw [m.trees]
  refine Calls.callWith_builtin rfl (Calls.evalArgs_plain (Calls.spliced_cons (thn (he.run pins s1 σ H1 _ I1 q1) fun iv s2 ⟨y, H2, I2, ry, q2⟩ =>
    Calls.spliced_cons (thn (hf.run pins s2 σ H2 _ I2 q2) fun fv s3 ⟨z, H3, I3, rz, b, kvs, ks, ey, e, eb, q3⟩ => Calls.spliced_nil ?_))))
  subst ey
  obtain rfl : iv = Value.ref b := ry
  obtain ⟨z, hd, xs, rel, dd⟩ := dt_rd I3.hok e
  refine call_meetsIn PySem.F.slot_dict_get dd.typeIs PySem.F.entry_dict_get (PySem.F.args_dict_get_3 _ _ _) (meetsH_dict_get_default (tupleKind (mixKind X.prog X.w)) a b hd fv) ⟨tupleKind_room_in1 hu, ks, xs, key_ofS I3 eb, dd, ?_⟩
  exact ⟨_, H3, I3.tok _, (rel.val ks).getD rz, q3⟩
/-- {k: v}, k a tuple -/
def tDisp1 (tk tv : TE) : TE := fun σ H Q => ∀ p, H p = none → tk σ (upd H p (.dT [])) fun x H1 => tv σ H1 fun y H2 => H2 p = some (.dT []) ∧ ∃ b ks, x = .ref b ∧ H2 b = some (.tup (ks.map kV)) ∧ Q (.ref p) (upd H2 p (.dT [(ks, y)]))
theorem pe_disp1 {k v : Expr} {pos : Pos} {tk tv : TE} (hu : X.A.units + 1 < cLine) (hk : PE X k tk) (hv : PE X v tv) : PE X (.Dict [some k] [v] pos) (tDisp1 tk tv) := by
  refine ⟨fun pins s σ H Q I q => ?_⟩
  have hn := I.hok.fresh (Nat.le_refl s.heap.objs.size)
  have I1 := I.laid (a := s.heap.objs.size) (o := .dT []) (h' := s.heap.push { cls := .type "dict", data := .dict #[] }) (t' := s.toks) (fun _ _ q => Heap.get?_push_of_some _ q) (Nat.le_refl _) (dt_empty s.heap I.big)
  have sh := zip_pairTrees [some k] [v] X.env pos rfl rfl
  rw [arm_eval_Dict, sh, dictDisplay_pairs (pairTrees [some k] [v] X.env pos) (fun z => by cases z) (show 1 < 17 by decide)]
  refine wpAny_bind (wpAny_standAt (wpAny_bind ?_))
  unfold subDict
  refine wpAny_bind (wpAny_alloc ?_)
  refine wpAny_bind (wpAny_holding ?_)
  rw [if_pos (show (pairTrees [some k] [v] X.env pos).length ≤ 15 from (show 1 ≤ 15 by decide))]
  refine wpAny_bind (wpAny_mono ((pps_cons hk hv pps_nil).run pins _ σ _ (fun ps H2 => match ps with
    | [(x, y)] => H2 s.heap.objs.size = some (.dT []) ∧ ∃ b ks, x = V.ref b ∧ H2 b = some (.tup (ks.map kV)) ∧ Q (.ref s.heap.objs.size) (upd H2 s.heap.objs.size (.dT [(ks, y)]))
    | _ => False) I1 (q _ hn)) (fun vs s₁ h₁ => ?_) fun _ _ e => e)
  obtain ⟨ps, H2, I2, rel, q2⟩ := h₁
  cases rel with
  | nil => exact q2.elim
  | @cons p1 w1 ps1 ws1 r1 r2 =>
    cases r2 with
    | cons _ _ => exact q2.elim
    | nil =>
      obtain ⟨x, y⟩ := p1
      obtain ⟨u, w2⟩ := w1
      obtain ⟨e, b, ks, ex, eb, q3⟩ := q2
      subst ex
      obtain rfl : u = Value.ref b := r1.1
      obtain ⟨z, hd, xs, rel, dd⟩ := dt_of I2.hok e
      cases rel
      refine wpAny_holding ?_
      rw [List.forIn_cons]
      refine wpAny_bind (wpAny_bind (wpAny_bind ?_))
      refine wpAny_dictSet_heap (hsz := by decide) (show (tupleKind _).room X.A from Nat.lt_of_succ_lt hu) (key_of I2.hok eb) dd fun h' dd' hs => ?_
      refine wpAny_pure ?_
      show wpAny _ _ (forIn [] PUnit.unit _) _ _ _
      rw [List.forIn_nil]
      refine wpAny_pure (wpAny_pure (wpAny_pure (wpAny_pure ?_)))
      obtain ⟨q, es, ep, hq, h2, h3, h4, _, h5⟩ := dd'
      refine ⟨.ref s.heap.objs.size, _, d_write I2 (by rw [e]; exact True.intro) hs ⟨q, hq⟩ (?_ : ObjOk X.prog X.w (upd H2 s.heap.objs.size (.dT [(ks, y)])) h' s.heap.objs.size (.dT [(ks, y)])), rfl, q3⟩
      exact ⟨by show 1 ≤ sizeLine; decide, hd, _, (L2.KT.put (kvs := []) (xs := []) .nil ks eb r1.2).keeps fun c ys ec => by rw [upd_ne (ne_of ec e (fun z => nomatch z))]; exact ec, q, es, ep, hq, h2, h3, h4, h5⟩
end
section
variable {p : Pl} {sc : Scope}
theorem kp_cell {μ : Ad} {H : Hp} {a : Addr} {o : HO} (hm : a ∈ μ.c) : Kp μ H μ (upd H a o) := by
  have key : ∀ b u, μ.Out b → H b = some u → upd H a o b = some u := fun b u q e => by rw [upd_ne (fun z => q.1 (by rw [z]; exact hm))]; exact e
  exact ⟨fun b u q r => ⟨q, r.elim (fun r => .inl (key _ _ q r)) fun ⟨w, r⟩ => .inr ⟨w, key _ _ q r⟩⟩, key, fun _ _ q => q⟩
theorem Is.cellA {K : PySem.W.Frag} {μ : Ad} {H : Hp} {v : V} {n : Nat} {S : Store} {c : C} (s : StR K μ S H) (h : Is K μ H v (.cell n)) (e : S[n]? = some c) : ∃ a, v = .ref a ∧ μ.c[n]? = some a ∧ CellR K μ H a c := by
  cases h with
  | cell t =>
    obtain ⟨a, k1, k2⟩ := s.ex e
    rw [t] at k1; cases k1
    exact ⟨_, rfl, t, k2⟩
theorem CellR.rd {K : PySem.W.Frag} {μ : Ad} {H : Hp} {a : Addr} {c : C} {kd : List (List Int × D)} (h : CellR K μ H a c) (e : c = .dct kd ∨ c = .lck kd) : ∃ kv, Rd H a (.dT kv) ∧ DctR K μ H kv kd := by
  rcases e with e | e <;> subst e
  · obtain ⟨kv, h1, h2⟩ := h
    exact ⟨kv, .inl h1, h2⟩
  · obtain ⟨o, kv, h1, h2⟩ := h
    exact ⟨kv, .inr ⟨o, h1⟩, h2⟩
theorem se_dget {o i : Expr} {x y : Ex} {pos : Pos} (ho : SE p sc o x) (hi : SE p sc i y) (hs : plainIx i = true) : SE p sc (.Subscript o i pos) (.dget x y) := by
  intro ρ S d S' μ σ H h hS hE Q q
  simp only [ev, Option.bind_eq_some_iff] at h
  obtain ⟨⟨l1, S1⟩, h1, ⟨l2, S2⟩, h2, h⟩ := h
  split at h
  · rename_i n kd e1 e2
    simp only at e1 e2
    subst e1 e2
    simp only [Option.bind_eq_some_iff] at h
    obtain ⟨k, hk, h⟩ := h
    have main : ∀ c kvs, S2[n]? = some c → (c = .dct kvs ∨ c = .lck kvs) → ((lookK kvs k).bind fun v => some ([v], S2)) = some ([d], S') → wE p sc (.Subscript o i pos) σ H Q := fun c kvs hc hcc h => by
      simp only [Option.bind_eq_some_iff] at h
      obtain ⟨z, hz, h⟩ := h
      cases h
      refine ⟨_, fun X hX => hX.K ▸ pe_dgetS (Nat.lt_of_le_of_lt (by omega) hX.hu) (wE_ok hX o) (wE_ok hX i) (by intro ov iv; cases i <;> first | rfl | cases hs), ?_⟩
      refine ho ρ S _ S1 μ σ H h1 hS hE _ fun v μ1 H1 n1 s1 i1 => ?_
      refine hi ρ S1 _ _ μ1 σ H1 h2 s1 (hE.mono n1) _ fun u μ2 H2 n2 s2 i2 => ?_
      obtain ⟨a, rfl, k1, k2⟩ := (i1.mono n2).cellA s2 hc
      obtain ⟨kv, r1, r2⟩ := k2.rd hcc
      obtain ⟨b, rfl, kb⟩ := i2.keyS hk
      rcases r2.look k with ⟨w, d', e3, e4, iw⟩ | ⟨e3, _⟩
      · rw [e3] at hz; cases hz
        exact ⟨a, b, kv, ik k, w, rfl, rfl, r1, kb, e4, q w μ2 H2 (n1.trans n2) s2 iw⟩
      · rw [e3] at hz; cases hz
    split at h
    · rename_i kvs hc
      exact main _ kvs hc (.inl rfl) h
    · rename_i kvs hc
      exact main _ kvs hc (.inr rfl) h
    · cases h
  · cases h
theorem se_dgetD {o e f : Expr} {x y z : Ex} {apos cpos : Pos} (ho : SE p sc o x) (hi : SE p sc e y) (hf : SE p sc f z) (hs : notStar e = true) (hs2 : notStar f = true) (hc : notCall o = true) (hl : (apos.endLine == cpos.line) = true) : SE p sc (.Call (.Attribute o "get" apos) [e, f] [] cpos) (.dgetD x y z) := by
  intro ρ S d S' μ σ H h hS hE Q q
  simp only [ev, Option.bind_eq_some_iff] at h
  obtain ⟨⟨l1, S1⟩, h1, ⟨l2, S2⟩, h2, ⟨l3, S3⟩, h3, h⟩ := h
  split at h
  · rename_i n kd zd e1 e2 e3
    simp only at e1 e2 e3
    subst e1 e2 e3
    simp only [Option.bind_eq_some_iff] at h
    obtain ⟨k, hk, h⟩ := h
    split at h
    · rename_i kvs0 kvs c0 c1
      cases h
      refine ⟨_, fun X hX => hX.K ▸ pe_dget2S (Nat.lt_of_le_of_lt (by omega) hX.hu) (wE_ok hX o) (wE_ok hX e) (wE_ok hX f) ⟨base_no hc _ _ _, by rw [starEach_no hs, starEach_no hs2]; rfl, hl, by rw [starEach_no hs, starEach_no hs2]; rfl⟩, ?_⟩
      refine ho ρ S _ S1 μ σ H h1 hS hE _ fun v μ1 H1 n1 s1 i1 => ?_
      obtain ⟨a, rfl, k1, kv0, k2, _⟩ := i1.cellA s1 c0
      refine ⟨a, rfl, .inr ⟨kv0, .inl k2⟩, ?_⟩
      refine hi ρ S1 _ S2 μ1 σ H1 h2 s1 (hE.mono n1) _ fun u μ2 H2 n2 s2 i2 => ?_
      refine hf ρ S2 _ _ μ2 σ H2 h3 s2 ((hE.mono n1).mono n2) _ fun w μ3 H3 n3 s3 i3 => ?_
      obtain ⟨a', e4, j1, kv, j2, j3⟩ := (i1.mono (n2.trans n3)).cellA s3 c1
      cases e4
      obtain ⟨b, rfl, kb⟩ := (i2.mono n3).keyS hk
      refine ⟨b, kv, ik k, rfl, .inl j2, kb, ?_⟩
      have n0 := n1.trans (n2.trans n3)
      rcases j3.look k with ⟨w', d', e5, e6, iw⟩ | ⟨e5, e6⟩
      · rw [e6]
        rw [e5] at q
        exact q w' μ3 H3 n0 s3 iw
      · rw [e6]
        rw [e5] at q
        exact q w μ3 H3 n0 s3 i3
    · cases h
  · cases h
theorem se_dnew {pos : Pos} : SE p sc (.Dict [] [] pos) .dnew := by
  intro ρ S d S' μ σ H h hS hE Q q
  simp only [ev] at h
  cases h
  refine ⟨_, fun X hX => pe_dnewT, fun a n => ?_⟩
  refine q _ (μ.add a) _ (Nxt.newC n (hS.notIn n)) (hS.newC n ⟨[], upd_same, .nil⟩) (.cell ?_)
  show (μ.c ++ [a])[_]? = _
  rw [← hS.len]; simp
theorem nxt_add {μ μ' : Ad} {H H' : Hp} {a : Addr} (n : Nxt μ H μ' H') (o : μ.Out a) (h : H a = none) : Nxt μ H (μ'.add a) H' := by
  obtain ⟨ν, k1, k2⟩ := n.more
  refine ⟨⟨ν ++ [a], by show μ'.c ++ [a] = _; rw [k1, List.append_assoc], fun b hb => ?_⟩, n.hid, n.keep, n.same, n.frz⟩
  rcases List.mem_append.mp hb with z | z
  · exact k2 b z
  · rw [List.mem_singleton.mp z]; exact ⟨o, h⟩
theorem se_ddisp {es : List Expr} {kk : Nat} {tpos pos : Pos} {v : Expr} {x y : Ex} (hk : SA p sc es x) (hv : SE p sc v y) : SE p sc (.Dict [some (.Tuple es kk tpos)] [v] pos) (.ddisp (.tupE x) y) := by
  intro ρ S d S' μ σ H h hS hE Q q
  simp only [ev, Option.bind_eq_some_iff] at h
  obtain ⟨⟨l1, S1⟩, ⟨⟨l0, S0⟩, h0, h1⟩, ⟨l2, S2⟩, h2, h⟩ := h
  split at h1
  · rename_i hl
    simp only [Option.some.injEq, Prod.mk.injEq] at h1
    obtain ⟨rfl, rfl⟩ := h1
    obtain ⟨zd, k, rfl, hk', h⟩ : ∃ zd k, l2 = [zd] ∧ keyOf (.tup l0) = some k ∧ some ([D.cell S2.length], S2 ++ [C.dct [(k, zd)]]) = some ([d], S') := by
      rcases l2 with _ | ⟨zd, _ | ⟨_, _⟩⟩
      · simp at h
      · simp only [Option.bind_eq_some_iff] at h
        obtain ⟨k, hk', h⟩ := h
        exact ⟨zd, k, rfl, hk', h⟩
      · simp at h
    cases h
    refine ⟨_, fun X hX => pe_disp1 (Nat.lt_of_le_of_lt (by omega) hX.hu) (pe_tup (wA_ok hX es)) (wE_ok hX v), fun a n => ?_⟩
    have hO := hS.notIn n
    have n0 : Nxt μ H μ (upd H a (.dT [])) := Nxt.newS hS n
    refine hk ρ S l0 _ (μ.hide a) σ _ h0 (hS.hide n) (hE.kp (kp_hide n)) _ fun vs μ1 H1 n1 s1 i1 => ⟨most_le (by rw [i1.len]; exact hl), fun b nb => ?_⟩
    have nx := Nxt.newS (o := .tup vs) s1 nb
    have hE1 := ((hE.kp (kp_hide (o := .dT []) n)).mono n1).mono nx
    refine hv ρ _ zd S2 μ1 σ _ h2 (s1.new nb) hE1 _ fun w μ2 H2 n2 s2 i2 => ?_
    have n3 := n1.trans (nx.trans n2)
    have ha2 : H2 a = some (.dT []) := (n3.same a (List.mem_cons_self ..)).trans upd_same
    have hb2 : H2 b = some (.tup vs) := n2.keep b _ (s1.notIn nb) upd_same
    have := i1.ints hk'
    subst this
    refine ⟨ha2, b, ik k, rfl, by rw [ik_kV]; exact hb2, ?_⟩
    obtain ⟨c2, h2'⟩ := μ2
    have e4 : h2' = a :: μ.h := n3.hid
    subst e4
    have n4 : Nxt μ H ⟨c2, μ.h⟩ (upd H2 a (.dT [(ik k, w)])) := (n0.trans n3.under).updN n hO.2
    have s3 : StR p.K (Ad.hide ⟨c2, μ.h⟩ a) S2 (upd H2 a (.dT [(ik k, w)])) := s2.setH (List.mem_cons_self ..)
    have iw : Is p.K (Ad.hide ⟨c2, μ.h⟩ a) (upd H2 a (.dT [(ik k, w)])) w zd := i2.kp (kp_hid (List.mem_cons_self ..))
    refine q _ (Ad.add ⟨c2, μ.h⟩ a) _ (nxt_add n4 hO n) (s3.made hO.2 ⟨_, upd_same, .cons iw .nil⟩) (.cell ?_)
    show (c2 ++ [a])[_]? = _
    have hl2 : c2.length = S2.length := s2.len
    rw [← hl2]; simp
  · cases h1
theorem ss_dput (ok : p.Ok) {i : Nat} {nm : Str} {a o value : Expr} {ss : List Stmt} {x xo xe : Ex} {y : Sm} {p1 p2 q0 q1 q2 q3 q4 : Pos} (hN : p.N[i]? = some nm) (hl : LocF (FamD p sc) nm) (hvis : Vis sc nm) (hd1 : (nm == ("__debug__" : Str)) = false) (hd2 : (nm == ("__classdict__" : Str)) = false)
    (ha : SE p sc a x) (hg : gI sc "tuple") (hs : notStar a = true) (ho : SE p sc o xo) (hv : SE p sc value xe) (hcv : isComp value = false) (hss : SSs p sc ss y) :
    SSs p sc (.Assign [.Name nm q0] (.Call (.Name "tuple" p1) [a] [] p2) q1 :: .Assign [.Subscript o (.Name nm q2) q3] value q4 :: ss) (.seq (.dput i x xo xe) y) := by
  intro ρ S f μ σ H h hS hE D q
  simp only [exec, Option.bind_eq_some_iff] at h
  obtain ⟨f1, ⟨⟨l1, S1⟩, h1, h2⟩, h⟩ := h
  split at h2
  · rename_i ds e1
    simp only at e1
    subst e1
    simp only [Option.bind_eq_some_iff] at h2
    obtain ⟨k, hk, h2⟩ := h2
    split at h2
    · rename_i hi
      simp only [Option.bind_eq_some_iff] at h2
      obtain ⟨⟨l2, S2⟩, h3, d, e2, ⟨l3, S3⟩, h4, h2⟩ := h2
      cases sg_eq e2
      split at h2
      · rename_i n e3
        simp only at e3
        subst e3
        split at h2
        · rename_i kvs c1
          split at h2
          · rename_i hlen
            cases h2
            refine ⟨_, fun X hX => pss_cons (ps_asg (peT1 ok hX.fam (T := "tuple") (by decide) hg (by decide +kernel) hs (by decide) (by decide)) (pg_name (by rw [hX.fam.N]; exact ok.nd) (by rw [hX.fam.N]; exact hN) (hl X hX).1 (hl X hX).2) (sole_no rfl _ _) (swap_none2 rfl) rfl)
              (pss_cons (ps_dput (Nat.lt_of_le_of_lt (by omega) hX.fam.hu) (wE_ok hX.fam o) (pe_var (i := i) (by rw [hX.fam.N]; exact hN) (hX.fam.vis hvis) hd1 hd2) (wE_ok hX.fam value) (swaps_no hcv _ _ _)) (wSs_ok hX ss)), ?_⟩
            refine ha ρ S _ S1 μ σ H h1 hS hE _ fun v μ1 H1 n1 s1 i1 => ?_
            cases i1 with
            | @lst la xs _ t1 t2 r =>
              refine ⟨_, fun X hX => hX.K ▸ call_tuple_of, la, xs, rfl, .inl ⟨SqL.of t2, fun b nb => ?_⟩⟩
              have nx := Nxt.newS (o := .tup xs) s1 nb
              have hE1 : EnvR p.K μ1 (upd H1 b (.tup xs)) (σ.set i (some (.ref b))) (ρ.set i (some (.tup ds))) := ((hE.mono n1).mono nx).set (Is.newT s1 nb r) i
              refine hv _ S1 d S2 μ1 _ _ h3 (s1.new nb) hE1 _ fun w μ2 H2 n2 s2 i2 => ?_
              refine ho _ S2 _ S3 μ2 _ H2 h4 s2 (hE1.mono n2) _ fun u μ3 H3 n3 s3 i3 => ?_
              obtain ⟨a', rfl, k1, kv, k2, k3⟩ := i3.cellA s3 c1
              have hO : μ1.Out b := s1.notIn nb
              have hb3 : H3 b = some (.tup xs) := (n2.trans n3).keep b _ hO upd_same
              have := r.ints hk
              subst this
              refine ⟨.ref b, List.getElem?_set_self (by rw [hE.len]; exact hi), a', _, rfl, DPut.t k2 (by rw [ik_kV]; exact hb3) (most_lt' (by rw [k3.len]; exact hlen)), ?_⟩
              have hm := List.mem_of_getElem? k1
              have nc : Nxt μ3 H3 μ3 (upd H3 a' (.dT (L2.putK kv (ik k) w))) := Nxt.cell hm (s3.noH hm) (fun o u z => by rw [k2] at z; cases z)
              have iw := (i2.mono n3).mono nc
              refine hss _ _ f μ3 _ _ h (s3.put k1 ⟨_, upd_same, (k3.kp (kp_cell hm)).put k iw⟩) (((hE1.mono n2).mono n3).mono nc) D (q.pre (n1.trans (nx.trans (n2.trans (n3.trans nc)))))
          · cases h2
        · cases h2
      · cases h2
    · cases h2
  · cases h2
end
end Ev

set_option Elab.async false
set_option linter.all false
set_option maxRecDepth 100000
set_option maxHeartbeats 4000000
set_option autoImplicit false
/-! for k in d, d a dict with tuple keys -/
namespace Ev
open PySem PySem.Spec PyProof.Rows L2
theorem DctR.at {K : PySem.W.Frag} {μ : Ad} {H : Hp} {kv : List (List Key × V)} {kd : List (List Int × D)} (h : DctR K μ H kv kd) : ∀ {i : Nat} {e : List Int × D}, kd[i]? = some e → ∃ v, kv[i]? = some (ik e.1, v) := by
  induction h with
  | nil => intro i e h; simp at h
  | @cons k v d kv kd a b ih =>
    intro i e h
    cases i with
    | zero => simp at h; subst h; exact ⟨v, rfl⟩
    | succ i =>
      obtain ⟨w, h1⟩ := ih (i := i) (by simpa using h)
      exact ⟨w, by simpa using h1⟩
section
variable {p : Pl} {sc : Scope} (ok : p.Ok)
theorem StR.outT {K : PySem.W.Frag} {μ : Ad} {H : Hp} {S : Store} {q : Addr} {xs : List V} (s : StR K μ S H) (h : H q = some (.tup xs)) : μ.Out q := by
  refine ⟨fun z => ?_, fun z => ?_⟩
  · obtain ⟨n, hn⟩ := List.getElem?_of_mem z
    obtain ⟨c, _, hc⟩ := s.exA hn
    cases c with
    | lst ds => obtain ⟨_, e, _⟩ := hc; rw [h] at e; cases e
    | dct ds => obtain ⟨_, e, _⟩ := hc; rw [h] at e; cases e
    | lck ds => obtain ⟨_, _, e, _⟩ := hc; rw [h] at e; cases e
  · obtain ⟨_, o, e, no⟩ := s.hid q z
    rw [h] at e; cases e
    exact no _ rfl
theorem ss_forD {tg : Expr} {i : Nat} {nm : Str} {ipos pos : Pos} {a : List Stmt} {t : Tg} {y : Sm} (hN : p.N[i]? = some nm) (hvis : Vis sc nm) (hd1 : (nm == ("__debug__" : Str)) = false) (hd2 : (nm == ("__classdict__" : Str)) = false)
    (hg : SG p (FamD p sc) tg t) (ha : SSs p sc a y) : SS p sc (.For tg (.Name nm ipos) a [] pos) (.forD t i y) := by
  intro ρ S f μ σ H h hS hE D q
  simp only [exec] at h
  split at h
  · rename_i n hρ
    split at h
    · rename_i kvs hc
      simp only [Option.bind_eq_some_iff] at h
      obtain ⟨f1, hloop, h⟩ := h
      split at h
      · rename_i ρe Se
        cases h
        obtain ⟨v, hσ, hv⟩ := hE.at_ i _ hρ
        obtain ⟨d, rfl, k1, kv, k2, k3⟩ := hv.cellA hS hc
        have hm := List.mem_of_getElem? k1
        have hnh := hS.noH hm
        refine ⟨_, fun X hX => ps_lock (ps_for (passes hX.fam) hX.fam.calm (pi_keys (pe_var (i := i) (by rw [hX.fam.N]; exact hN) (hX.fam.vis hvis) hd1 hd2)) (wG_ok hX tg) (wSs_ok hX a) (notSet_ok rfl _)), ?_⟩
        refine ⟨d, .dT kv, k2, trivial, fun od => ?_⟩
        generalize hH0 : upd H d (.frz od (.dT kv)) = H0
        have e0 : H0 d = some (.frz od (.dT kv)) := by rw [← hH0]; exact upd_same
        have kp0 : Kp μ H μ H0 := by rw [← hH0]; exact kp_cell hm
        have s0 : StR p.K μ (S.set n (.lck kvs)) H0 := by
          rw [← hH0]
          exact hS.put k1 ⟨od, kv, upd_same, k3.kp (kp_cell hm)⟩
        have hE0 := hE.kp kp0
        refine ⟨.ref d, hσ, d, od, rfl, .inr ⟨kv, e0, ?_⟩⟩
        have klen : (kvs.map fun kv => (Ev.D.tup (kv.1.map .int))).length = kv.length := by rw [List.length_map]; exact k3.len.symm
        obtain ⟨items, hitems⟩ : ∃ items, items = kvs.map fun kv => (Ev.D.tup (kv.1.map .int)) := ⟨_, rfl⟩
        rw [← hitems] at hloop klen
        obtain ⟨Iv, hIv⟩ : ∃ I : Nat → L2.St → Hp → Prop, ∀ j σ' Hh, I j σ' Hh ↔ j ≤ items.length ∧ ∃ μ2 Si ρi, Nxt μ H0 μ2 Hh ∧ StR p.K μ2 Si Hh ∧ kept [n] (S.set n (.lck kvs)) Si ∧ EnvR p.K μ2 Hh σ' ρi ∧
          forLp (exec p.G y) t [n] (items.drop j) ρi Si = some (.nx ρe Se) := ⟨_, fun _ _ _ => Iff.rfl⟩
        refine ⟨fun j k σ' Hh => k = items.length - j ∧ Iv j σ' Hh, ⟨_, rfl, (hIv _ _ _).mpr ⟨Nat.zero_le _, μ, _, ρ, Nxt.refl, s0, fun _ _ => rfl, hE0, hloop⟩⟩, ?_⟩
        have done : ∀ μ2 Hh σ' ρi Si, Nxt μ H0 μ2 Hh → StR p.K μ2 Si Hh → EnvR p.K μ2 Hh σ' ρi → Fl.nx ρi Si = Fl.nx ρe Se → Hh d = some (.frz od (.dT kv)) ∧ D.nx σ' (upd Hh d (.dT kv)) := by
          intro μ2 Hh σ' ρi Si n2 s2 e2 ef
          cases ef
          have ed := n2.frz _ _ _ e0
          have k1' := n2.get k1
          have hm2 := List.mem_of_getElem? k1'
          refine ⟨ed, q μ2 σ' _ ⟨?_, n2.hid, fun b o ob e => ?_, fun b hb => ?_, fun b o u e => ?_⟩ (s2.put k1' ⟨kv, upd_same, ((k3.kp kp0).kp n2.kp).kp (kp_cell hm2)⟩) (e2.kp (kp_cell hm2))⟩
          · obtain ⟨ν, e1, e3⟩ := n2.more
            refine ⟨ν, e1, fun b hb => ⟨(e3 b hb).1, ?_⟩⟩
            have := (e3 b hb).2
            rw [← hH0] at this
            by_cases z : b = d
            · rw [z, upd_same] at this; cases this
            · rwa [upd_ne z] at this
          · have z : b ≠ d := fun z => ob.1 (by rw [z]; exact hm)
            rw [upd_ne z]
            exact n2.keep b o ob (by rw [← hH0, upd_ne z]; exact e)
          · have z : b ≠ d := fun z => hnh (by rw [← z]; exact hb)
            rw [upd_ne z, n2.same b hb, ← hH0, upd_ne z]
          · have z : b ≠ d := fun z => by rw [z, k2] at e; cases e
            rw [upd_ne z]
            exact n2.frz b o u (by rw [← hH0, upd_ne z]; exact e)
        rintro j k σ' Hh ⟨rfl, hI⟩
        obtain ⟨hil, μ2, Si, ρi, n2, s2, kg, e2, hrest⟩ := (hIv _ _ _).mp hI
        have ed := n2.frz _ _ _ e0
        by_cases hlt : j < items.length
        · right
          obtain ⟨ke, hke⟩ : ∃ ke, kvs[j]? = some ke := ⟨_, List.getElem?_eq_getElem (by rw [hitems, List.length_map] at hlt; exact hlt)⟩
          obtain ⟨kv', hkv⟩ := k3.at hke
          have hdj : items[j]? = some (Ev.D.tup (ke.1.map .int)) := by rw [hitems, List.getElem?_map, hke]; rfl
          have hdrop : items.drop j = (Ev.D.tup (ke.1.map .int)) :: items.drop (j + 1) := by
            rw [List.drop_eq_getElem_cons hlt]
            rw [List.getElem?_eq_getElem hlt] at hdj
            rw [Option.some.inj hdj]
          rw [hdrop] at hrest
          simp only [forLp, Option.bind_eq_some_iff] at hrest
          obtain ⟨ρ1, hρ1, f1, hb, hrest⟩ := hrest
          refine ⟨⟨ed, by omega⟩, Iv (j + 1), fun σ' H' z => ⟨_, by omega, rfl, z⟩, fun x' H2 hy => ?_⟩
          obtain ⟨rfl, k', v', qa, e5, rfl, e6⟩ := hy
          rw [hkv] at e5
          cases e5
          have ix : Is p.K μ2 H2 (.ref qa) (.tup (ke.1.map .int)) := by
            rw [ik_kV] at e6
            exact .tup (.inl ⟨s2.outT e6, e6⟩) (isAll_ints _)
          refine hg _ _ ρ1 hρ1 μ2 _ H2 _ e2 ix _ fun σ2 hE2 k5 => ?_
          refine ha ρ1 Si f1 μ2 σ2 H2 hb s2 hE2 _ ?_
          cases f1 with
          | nx ρ2 S2 =>
            simp only at hrest
            split at hrest
            · rename_i c
              exact fun μ3 σ3 H3 n s e => (hIv _ _ _).mpr ⟨hlt, μ3, S2, ρ2, n2.trans n, s, kept_trans kg c, e, hrest⟩
            · cases hrest
          | ct ρ2 S2 =>
            simp only at hrest
            split at hrest
            · rename_i c
              exact fun μ3 σ3 H3 n s e => (hIv _ _ _).mpr ⟨hlt, μ3, S2, ρ2, n2.trans n, s, kept_trans kg c, e, hrest⟩
            · cases hrest
          | bk ρ2 S2 =>
            cases hrest
            exact fun μ3 σ3 H3 n s e => done μ3 H3 σ3 _ _ (n2.trans n) s e rfl
          | rt d S2 => cases hrest
        · left
          have e : j = items.length := by omega
          rw [List.drop_eq_nil_of_le (by omega)] at hrest
          simp only [forLp] at hrest
          cases hrest
          exact ⟨⟨ed, by omega⟩, done μ2 Hh σ' _ _ n2 s2 e2 rfl⟩
      · cases h
    · cases h
  · cases h
end
end Ev

set_option Elab.async false
set_option linter.all false
set_option maxRecDepth 100000
set_option maxHeartbeats 4000000
set_option autoImplicit false
/-! calls of defs -/
namespace Ev
open PySem PySem.Spec PyProof.Rows L2
structure Df where
  name : Str
  ar : Nat
  n : Nat
  body : Sm
  live : Bool
mutual
/-- no cell at or above n -/
def okD (n : Nat) : D → Bool
  | .cell k => decide (k < n)
  | .tup ds => okDs n ds
  | .lst ds => okDs n ds
  | .fz ds => okDs n ds
  | _ => true
def okDs (n : Nat) : List D → Bool
  | [] => true
  | d :: ds => okD n d && okDs n ds
end
def okKv (n : Nat) : List (List Int × D) → Bool
  | [] => true
  | kv :: r => okD n kv.2 && okKv n r
def okC (n : Nat) : C → Bool
  | .lst ds => okDs n ds
  | .dct kvs => okKv n kvs
  | .lck kvs => okKv n kvs
mutual
/-- cells at or above n as what they hold -/
def resD (S : Store) (n : Nat) : D → Option D
  | .cell k => if k < n then some (.cell k) else match S[k]? with
    | some (.lst ds) => if okDs n ds then some (.lst ds) else none
    | _ => none
  | .tup ds => (resDs S n ds).map .tup
  | .lst ds => if okDs n ds then some (.lst ds) else none
  | .fz ds => if okDs n ds then some (.fz ds) else none
  | .non => some .non
  | .bl b => some (.bl b)
  | .int i => some (.int i)
  | .str s => some (.str s)
def resDs (S : Store) (n : Nat) : List D → Option (List D)
  | [] => some []
  | d :: ds => (resD S n d).bind fun d' => (resDs S n ds).map (d' :: ·)
end
open Classical in
noncomputable def cutS (S : Store) (d : D) (S' : Store) : Option (D × Store) :=
  if ∀ n, n < S.length → S'[n]? = S[n]? ∨ (∃ c, S'[n]? = some c ∧ okC S.length c = true) then (resD S' S.length d).map fun d' => (d', S'.take S.length) else none
noncomputable def callF (T : List Df) (cs : List D) : Nat → Nat → List D → Store → Option (D × Store)
  | 0, _, _, _ => none
  | k + 1, i, ds, S => (T[i]?).bind fun f => if ds.length = f.ar then
      (exec ⟨callF T cs k, cs, 0⟩ f.body (ds.map some ++ List.replicate (f.n - f.ar) none) S).bind fun fl => match fl with
        | .rt d S' => if f.live then some (d, S') else cutS S d S'
        | .nx _ S' => if f.live then some (.non, S') else cutS S .non S'
        | _ => none
    else none
section
variable {K : PySem.W.Frag} {μ μ' : Ad} {H H' : Hp} {S S' : Store}
def Ad.cut (μ' : Ad) (n : Nat) : Ad := ⟨μ'.c.take n, μ'.h⟩
theorem cut_out {n : Nat} {a : Addr} (h : μ'.Out a) : (μ'.cut n).Out a := ⟨fun z => h.1 (List.mem_of_mem_take z), h.2⟩
mutual
theorem is_cut {n : Nat} : ∀ {d : D} {v : V}, Is K μ' H v d → okD n d = true → Is K (μ'.cut n) H v d
  | _, _, .non, _ => .non
  | _, _, .bl b, _ => .bl b
  | _, _, .int i, _ => .int i
  | _, _, .str s, _ => .str s
  | _, _, .tup h a, e => .tup (h.elim (fun h => .inl ⟨cut_out h.1, h.2⟩) .inr) (isAll_cut a (by simpa [okD] using e))
  | _, _, .lst h q a, e => .lst (cut_out h) q (isAll_cut a (by simpa [okD] using e))
  | _, _, .fz h a, e => .fz (h.elim (fun h => .inl ⟨cut_out h.1, h.2⟩) .inr) (isAll_cut a (by simpa [okD] using e))
  | _, _, .cell (n := k) h, e => .cell (by
      have e : k < n := by simpa [okD] using e
      show (μ'.c.take n)[k]? = _
      rw [List.getElem?_take_of_lt e]; exact h)
theorem isAll_cut {n : Nat} : ∀ {ds : List D} {vs : List V}, IsAll K μ' H vs ds → okDs n ds = true → IsAll K (μ'.cut n) H vs ds
  | _, _, .nil, _ => .nil
  | _, _, .cons a b, e => by
    rw [okDs, Bool.and_eq_true] at e
    exact .cons (is_cut a e.1) (isAll_cut b e.2)
end
mutual
theorem is_okD : ∀ {d : D} {v : V}, Is K μ H v d → okD μ.c.length d = true
  | _, _, .non => rfl
  | _, _, .bl b => rfl
  | _, _, .int i => rfl
  | _, _, .str s => rfl
  | _, _, .tup h a => by simpa [okD] using isAll_okD a
  | _, _, .lst h q a => by simpa [okD] using isAll_okD a
  | _, _, .fz h a => by simpa [okD] using isAll_okD a
  | _, _, .cell h => by simpa [okD] using (List.getElem?_eq_some_iff.mp h).1
theorem isAll_okD : ∀ {ds : List D} {vs : List V}, IsAll K μ H vs ds → okDs μ.c.length ds = true
  | _, _, .nil => rfl
  | _, _, .cons a b => by rw [okDs, is_okD a, isAll_okD b]; rfl
end
theorem dct_cut {n : Nat} {kv : List (List Key × V)} {kd : List (List Int × D)} (h : DctR K μ' H kv kd) (e : okKv n kd = true) : DctR K (μ'.cut n) H kv kd := by
  induction h with
  | nil => exact .nil
  | cons a b ih =>
    rw [okKv, Bool.and_eq_true] at e
    exact .cons (is_cut a e.1) (ih e.2)
theorem dct_ok {kv : List (List Key × V)} {kd : List (List Int × D)} (h : DctR K μ H kv kd) : okKv μ.c.length kd = true := by
  induction h with
  | nil => rfl
  | cons a b ih => rw [okKv, is_okD a, ih]; rfl
theorem cell_cut {n : Nat} {a : Addr} {c : C} (h : CellR K μ' H a c) (e : okC n c = true) : CellR K (μ'.cut n) H a c := by
  cases c with
  | lst ds => obtain ⟨vs, q, r⟩ := h; exact ⟨vs, q, isAll_cut r e⟩
  | dct kd => obtain ⟨vs, q, r⟩ := h; exact ⟨vs, q, dct_cut r e⟩
  | lck kd => obtain ⟨o, vs, q, r⟩ := h; exact ⟨o, vs, q, dct_cut r e⟩
theorem cell_ok {a : Addr} {c : C} (h : CellR K μ H a c) : okC μ.c.length c = true := by
  cases c with
  | lst ds => obtain ⟨vs, q, r⟩ := h; exact isAll_okD r
  | dct kd => obtain ⟨vs, q, r⟩ := h; exact dct_ok r
  | lck kd => obtain ⟨o, vs, q, r⟩ := h; exact dct_ok r
/-- behind a call: the callee's cells are gone -/
theorem cut_all (s : StR K μ S H) (s' : StR K μ' S' H') (n : Nxt μ H μ' H') (h : ∀ n, n < S.length → S'[n]? = S[n]? ∨ (∃ c, S'[n]? = some c ∧ okC S.length c = true)) :
    Nxt μ H (μ'.cut S.length) H' ∧ StR K (μ'.cut S.length) (S'.take S.length) H' := by
  obtain ⟨ν, e1, e2⟩ := n.more
  have hc : (μ'.cut S.length).c = μ.c := by
    show μ'.c.take S.length = _
    rw [e1, ← s.len, List.take_left]
  refine ⟨⟨⟨[], by rw [hc, List.append_nil], by simp⟩, n.hid, n.keep, n.same, n.frz⟩, ⟨?_, ?_, fun m a c h1 h2 => ?_, fun a ha => ?_⟩⟩
  · rw [hc, List.length_take, s.len]
    have : S.length ≤ S'.length := by rw [← s'.len, ← s.len, e1, List.length_append]; omega
    omega
  · rw [hc]; exact s.nd
  · have hm : m < S.length := by
      have := (List.getElem?_eq_some_iff.mp h2).1
      rw [List.length_take] at this
      omega
    rw [List.getElem?_take_of_lt hm] at h2
    have h1' : μ'.c[m]? = some a := by
      have : (μ'.c.take S.length)[m]? = some a := h1
      rwa [List.getElem?_take_of_lt hm] at this
    refine cell_cut (s'.at_ m a c h1' h2) ?_
    rcases h m hm with e | ⟨c', e, q⟩
    · rw [h2] at e
      rw [hc] at h1
      have := cell_ok (s.at_ m a c h1 e.symm)
      rwa [s.len] at this
    · rw [h2] at e
      cases e; exact q
  · obtain ⟨q1, q2⟩ := s'.hid a ha
    exact ⟨fun z => q1 (List.mem_of_mem_take z), q2⟩
mutual
theorem is_res (s' : StR K μ' S' H') {n : Nat} : ∀ {d : D} {v : V} {d' : D}, Is K μ' H' v d → resD S' n d = some d' → Is K (μ'.cut n) H' v d'
  | _, _, _, .non, e => by simp only [resD] at e; cases e; exact .non
  | _, _, _, .bl b, e => by simp only [resD] at e; cases e; exact .bl b
  | _, _, _, .int i, e => by simp only [resD] at e; cases e; exact .int i
  | _, _, _, .str z, e => by simp only [resD] at e; cases e; exact .str z
  | _, _, _, .tup h a, e => by
    simp only [resD, Option.map_eq_some_iff] at e
    obtain ⟨ds, e, rfl⟩ := e
    exact .tup (h.elim (fun h => .inl ⟨cut_out h.1, h.2⟩) .inr) (isAll_res s' a e)
  | _, _, _, .lst h q a, e => by
    simp only [resD] at e
    split at e
    · rename_i c; cases e; exact .lst (cut_out h) q (isAll_cut a c)
    · cases e
  | _, _, _, .fz h a, e => by
    simp only [resD] at e
    split at e
    · rename_i c; cases e; exact .fz (h.elim (fun h => .inl ⟨cut_out h.1, h.2⟩) .inr) (isAll_cut a c)
    · cases e
  | _, _, _, .cell (n := k) h, e => by
    simp only [resD] at e
    split at e
    · rename_i c
      cases e
      exact is_cut (.cell h) (by simpa [okD] using c)
    · rename_i c
      split at e
      · rename_i ds hq
        split at e
        · rename_i c2
          cases e
          obtain ⟨a, k1, vs, k2, k3⟩ := s'.ex hq
          rw [h] at k1; cases k1
          refine .lst ⟨fun z => ?_, s'.noH (List.mem_of_getElem? h)⟩ k2 (isAll_cut k3 c2)
          obtain ⟨j, hj⟩ := List.getElem?_of_mem (show _ ∈ μ'.c.take n from z)
          have hjn : j < n := by
            have := (List.getElem?_eq_some_iff.mp hj).1
            rw [List.length_take] at this
            omega
          rw [List.getElem?_take_of_lt hjn] at hj
          have := nodup_at s'.nd hj h
          omega
        · cases e
      · cases e
theorem isAll_res (s' : StR K μ' S' H') {n : Nat} : ∀ {ds : List D} {vs : List V} {ds' : List D}, IsAll K μ' H' vs ds → resDs S' n ds = some ds' → IsAll K (μ'.cut n) H' vs ds'
  | _, _, _, .nil, e => by simp only [resDs] at e; cases e; exact .nil
  | _, _, _, .cons a b, e => by
    simp only [resDs, Option.bind_eq_some_iff, Option.map_eq_some_iff] at e
    obtain ⟨d1, e1, ds1, e2, rfl⟩ := e
    exact .cons (is_res s' a e1) (isAll_res s' b e2)
end
theorem env_start {N : List Str} {vs : List V} {ds : List D} {ar : Nat} (i : IsAll K μ H vs ds) (hl : ds.length = ar) : EnvR K μ H (L2.start N vs) (ds.map some ++ List.replicate (N.length - ar) none) := by
  have hvl := i.len
  refine ⟨by unfold L2.start; simp [hvl, hl], fun j d h => ?_⟩
  unfold L2.start
  by_cases hj : j < ds.length
  · rw [List.getElem?_append_left (by simpa using hj), List.getElem?_map] at h
    rw [List.getElem?_append_left (by simpa using (by omega : j < vs.length)), List.getElem?_map]
    cases e : ds[j]? with
    | none => rw [e] at h; cases h
    | some d' =>
      rw [e] at h
      cases h
      obtain ⟨v, e2, iv⟩ := i.get e
      exact ⟨v, by rw [e2]; rfl, iv⟩
  · rw [List.getElem?_append_right (by simpa using hj)] at h
    rw [List.getElem?_replicate] at h
    split at h <;> cases h
end
/-! ### the defs keep what they promise -/
/-- where a def stands -/
structure Pos1 where
  P : Program
  w : World
  K : PySem.W.Frag
  mg : Str → Option Value
  base : Heap
noncomputable def plOf (q : Pos1) (T : List Df) (cns : List (Str × D)) (k : Nat) (N : List Str) : Pl := ⟨q.P, q.w, q.K, q.mg, q.base, k, N, ⟨callF T (cns.map (·.2)) k, cns.map (·.2), 0⟩, T.map fun f => (f.name, f.ar), cns⟩
/-- one def of the row and its shape -/
structure Lk (q : Pos1) (T : List Df) (cns : List (Str × D)) (f : Df) where
  N : List Str
  ps : List Str
  qual : Str
  params : Arguments
  body : List Stmt
  scope : Scope
  fa : Addr
  fd : FuncData
  F : FunD q.K f.name qual params body scope [] [] fa fd
  sc : FnScope N ps scope
  hn : f.n = N.length
  har : f.ar = ps.length
  bd : Binds q.K fd ps []
  bdA : ∀ (s : Shared) (us : List Value), us.length = ps.length → BindsTo s fd ⟨us, []⟩ (ps.zip us)
  mg : q.mg f.name = some (.ref fa)
  run : ∀ k, (plOf q T cns k N).Ok → SSs (plOf q T cns k N) scope body f.body
structure PrOk (q : Pos1) (T : List Df) (cns : List (Str × D)) where
  lk : ∀ (i : Nat) (f : Df), T[i]? = some f → Lk q T cns f
  blt : ∀ x ∈ blts, q.mg x = none
  con : ∀ x d, (x, d) ∈ cns → ∃ v u, q.mg x = some u ∧ RelV v u ∧ ∀ μ H, Is q.K μ H v d
theorem callF_len {T : List Df} {cs : List D} {k i : Nat} {ds : List D} {S : Store} {r : D × Store} {f : Df} (h : callF T cs k i ds S = some r) (hf : T[i]? = some f) : ds.length = f.ar := by
  cases k with
  | zero => cases h
  | succ k =>
    simp only [callF, hf, Option.bind_some] at h
    split at h
    · assumption
    · cases h
theorem pl_ok {q : Pos1} {T : List Df} {cns : List (Str × D)} (o : PrOk q T cns) {k : Nat}
    (ih : ∀ (i : Nat) (f : Df) (hf : T[i]? = some f), FnOk q.P q.w q.K q.mg q.base CX0 k (o.lk i f hf).fa (o.lk i f hf).fd (o.lk i f hf).ps (spF (plOf q T cns k []) i f.ar)) {N : List Str} (hN : N.Nodup) : (plOf q T cns k N).Ok := by
  refine ⟨fun i x m ds S r h1 h2 => ?_, hN, o.blt, rfl, o.con, fun i x m h1 => ?_⟩
  · simp only [plOf, List.getElem?_map, Option.map_eq_some_iff] at h1
    obtain ⟨f, h1, e⟩ := h1
    cases e
    exact callF_len h2 h1
  · simp only [plOf, List.getElem?_map, Option.map_eq_some_iff] at h1
    obtain ⟨f, h1, e⟩ := h1
    cases e
    exact ⟨_, _, _, ih i f h1, (o.lk i f h1).mg, (o.lk i f h1).F.kp, (o.lk i f h1).bd⟩
theorem fns_ok {q : Pos1} {T : List Df} {cns : List (Str × D)} (o : PrOk q T cns) : ∀ (k : Nat) (i : Nat) (f : Df) (hf : T[i]? = some f),
    FnOk q.P q.w q.K q.mg q.base CX0 k (o.lk i f hf).fa (o.lk i f hf).fd (o.lk i f hf).ps (spF (plOf q T cns k []) i f.ar)
  | 0, i, f, hf => by
    have no : ∀ vs H Q E, ¬ spF (plOf q T cns 0 []) i f.ar vs H Q E := fun vs H Q E ⟨μ, S, ds, d, S', _, _, _, h, _⟩ => by
      simp [plOf, callF] at h
    exact ⟨fun vs H Q E h => absurd h (no vs H Q E), fun A outer s H args us vs Q E _ _ _ _ h => absurd h (no vs H Q E)⟩
  | k + 1, i, f, hf => by
    have ih := fns_ok o k
    have L := o.lk i f hf
    refine (o.lk i f hf).F.ok (o.lk i f hf).sc (fun vs H Q E h => ?_) fun cdv A outer s H vs Q E hr hsp => ?_
    · obtain ⟨μ, S, ds, d, S', hl, _⟩ := h
      rw [hl]; exact (o.lk i f hf).har
    · obtain ⟨μ, S, ds, d, S', hl, hS, iv, hc, hq⟩ := hsp
      generalize hL : o.lk i f hf = L at hr ⊢
      have ok := pl_ok o ih L.sc.nd
      have hc0 := hc
      simp only [plOf, callF, hf, Option.bind_some] at hc
      split at hc
      · rename_i har
        simp only [Option.bind_eq_some_iff] at hc
        obtain ⟨fl, hx, hc⟩ := hc
        rw [L.hn] at hx
        have fam : FamD (plOf q T cns k L.N) L.scope (cxOf CX0 q.P q.w q.K q.mg q.base L.N L.qual L.scope L.fa cdv A outer s H E).nox := ⟨⟨rfl, rfl, rfl, rfl, rfl, rfl, rfl, rfl, hr, fun _ _ z => z⟩, fun _ => rfl, L.sc.kind⟩
        refine ⟨_, PSs.nox (wSs_ok fam L.body), ?_⟩
        refine L.run k ok _ S fl μ _ H hx hS (env_start iv har) _ ?_
        cases fl with
        | nx ρ' S1 =>
          intro μ' σ' H' n s' e'
          simp only at hc
          split at hc
          · cases hc
            exact hq _ μ' H' n s' .non
          · unfold cutS at hc
            split at hc
            · rename_i c
              simp only [Option.map_eq_some_iff] at hc
              obtain ⟨d', h1, h2⟩ := hc
              cases h2
              obtain ⟨m1, m2⟩ := cut_all hS s' n c
              exact hq _ _ H' m1 m2 (is_res s' .non h1)
            · cases hc
        | rt d1 S1 =>
          intro v μ' H' n s' e'
          simp only at hc
          split at hc
          · cases hc
            exact hq v μ' H' n s' e'
          · unfold cutS at hc
            split at hc
            · rename_i c
              simp only [Option.map_eq_some_iff] at hc
              obtain ⟨d', h1, h2⟩ := hc
              cases h2
              obtain ⟨m1, m2⟩ := cut_all hS s' n c
              exact hq v _ H' m1 m2 (is_res s' e' h1)
            · cases hc
        | ct ρ' S1 => cases hc
        | bk ρ' S1 => cases hc
      · cases hc
end Ev

set_option Elab.async false
set_option linter.all false
set_option maxRecDepth 100000
set_option maxHeartbeats 4000000
set_option autoImplicit false
/-! the checker: does this tree stand for this text -/
namespace Ev
open PySem PySem.Spec PyProof.Rows L2
inductive Syn where
  | e (x : Expr) | t (x : Expr) | ts (xs : List Expr) | f (x : Expr) | o (x : Option Expr) | bo (op : BoolOp) (xs : List Expr) | bw (op : BoolOp) (xs : List Expr) | a (xs : List Expr) | s (x : Expr) | i (tg x : Expr)
def isE : Ex → Bool
  | .nil => false
  | .cons _ _ => false
  | .star _ => false
  | .it _ => false
  | .rng1 _ => false
  | .rng2 _ _ => false
  | .zip _ _ => false
  | .enm _ => false
  | .and _ b => isE b
  | .or _ b => isE b
  | .orL _ b => isE b
  | .ite _ a b => isE a && isE b
  | _ => true
def eqS (a b : Str) : Bool := decide (a = b)
def isSome' (n : Option NameKind) (k : NameKind) : Bool := decide (n = some k)
def glB (sc : Scope) (x : Str) : Bool := isSome' (sc.names.lookup x) .globalImplicit
def visB (sc : Scope) (x : Str) : Bool := isSome' (sc.names.lookup x) .local || isSome' (sc.names.lookup x) .cell || isSome' (sc.names.lookup x) .free
def eqO (a : Option Str) (x : Str) : Bool := decide (a = some x)
def opEq (o : Op) (p : Operator) : Bool := decide (opP o = p)
def cmEq (o : Cm) (p : CmpOp) : Bool := decide (cmP o = p)
def out (x : Ex) (ce ct cf : Expr → Bool) : Syn → Bool
  | .e e => ce e
  | .t e => ct e
  | .ts [e] => ct e
  | .f e => cf e
  | .o (some e) => isE x && ce e
  | .bo _ [e] => ce e
  | .bw _ [e] => ct e
  | _ => false
def noF : Expr → Bool := fun _ => false
def vt (ce : Expr → Bool) : Expr → Bool := fun e => plainT e && ce e
/-- f(a), a built-in -/
def call1 (sc : Scope) (nm : Str) (ca : Expr → Bool) : Expr → Bool
  | .Call (.Name x _) [a] [] _ => eqS x nm && glB sc nm && notStar a && ca a
  | _ => false
def call2 (sc : Scope) (nm : Str) (ca cb : Expr → Bool) : Expr → Bool
  | .Call (.Name x _) [a, b] [] _ => eqS x nm && glB sc nm && notStar a && notStar b && ca a && cb b
  | _ => false
def tysB (sc : Scope) : List Expr → List Ty → Bool
  | [], [] => true
  | .Name nm _ :: es, t :: ts => eqS nm (tyS t) && glB sc nm && tysB sc es ts
  | _, _ => false
def isSt : Expr → Bool
  | .Starred _ _ => true
  | _ => false
section
variable (N : List Str) (fns : List (Str × Nat)) (cns : List (Str × D))
/-- a target: loc tells which names may be stored -/
def chkT (loc : Str → Bool) : Tg → Sum Expr (List Expr) → Bool
  | .nm i, .inl (.Name x _) => eqO N[i]? x && loc x
  | .tup a, .inl (.Tuple es _ _) => es.all plainTg && chkT loc a (.inr es)
  | .tnil, .inr [] => true
  | .tcons a b, .inr (e :: es) => plainTg e && chkT loc a (.inl e) && chkT loc b (.inr es)
  | _, _ => false
def locB (scope sc : Scope) (x : Str) : Bool := isSome' ((relS scope sc).names.lookup x) .local || (isSome' ((relS scope sc).names.lookup x) .cell && isSome' (scope.names.lookup x) .cell)
def ownOf (ix : List Nat) : List (Str × Nat) := ix.filterMap fun i => N[i]?.map fun x => (x, i)
def blkB (sc scope : Scope) (ix : List Nat) : Bool :=
  decide (scope.kind = .function) && scope.names.all (fun y => isSome' (scope.names.lookup y.1) y.2) && (ownOf N ix).all (fun q => eqO N[q.2]? q.1) &&
    scope.names.all (fun y => !decide (y.2 = .free) || (isSome' (sc.names.lookup y.1) .cell || isSome' (sc.names.lookup y.1) .free)) &&
    scope.names.all (fun y => !(decide (y.2 = .local) || decide (y.2 = .cell)) || ((ownOf N ix).map (·.1)).contains y.1 || !N.contains y.1) && decide ((ownOf N ix).map (·.2) = ix)
/-- a comprehension's parts -/
def lcB (sc : Scope) (ce : Scope → Expr → Bool) (t : Tg) (ci : Expr → Expr → Bool) (cc : Scope → List Expr → Bool) (own : List Nat) : Expr → Bool
  | .ListComp elt [⟨tg, iter, ifs, 0⟩] scope _ => blkB N sc scope own && chkT N (locB scope sc) t (.inl tg) && (tgIx t).all (fun j => own.contains j) && notSet iter && ci tg iter && cc (relS scope sc) ifs && ce (relS scope sc) elt
  | _ => false
def meth1 (nm : Str) (co ca : Expr → Bool) : Expr → Bool
  | .Call (.Attribute o x apos) [a] [] cpos => eqS x nm && notStar a && notCall o && (apos.endLine == cpos.line) && co o && ca a
  | _ => false
def chk : Ex → Scope → Syn → Bool
  | .nil => fun sc s => match s with
    | .a [] => true
    | .o none => true
    | _ => false
  | .cons x y => fun sc s => match s with
    | .a (e :: es) => (if isSt e then chk x sc (.s e) else notStar e && isE x && chk x sc (.e e)) && chk y sc (.a es)
    | _ => false
  | .star x => fun sc s => match s with
    | .s (.Starred v _) => chk x sc (.e v)
    | _ => false
  | .var i => fun sc => let ce : Expr → Bool := fun e => match e with
      | .Name x _ => eqO N[i]? x && visB sc x && !(x == ("__debug__" : Str)) && !(x == ("__classdict__" : Str))
      | _ => false
    out (.var i) ce (vt ce) noF
  | .int i => fun sc => let ce : Expr → Bool := fun e => match e with
      | .Constant (.int j) _ _ => decide (j = i)
      | _ => false
    out (.int i) ce (vt ce) noF
  | .bl b => fun sc s => match s with
    | .ts [] => b
    | _ => let ce : Expr → Bool := fun e => match e with
        | .Constant (.bool j) _ _ => decide (j = b)
        | _ => false
      out (.bl b) ce (vt ce) noF s
  | .non => fun sc => let ce : Expr → Bool := fun e => match e with
      | .Constant .none _ _ => true
      | _ => false
    out .non ce (vt ce) noF
  | .str z => fun sc => let ce : Expr → Bool := fun e => match e with
      | .Constant (.str j) _ _ => eqS j z
      | _ => false
    out (.str z) ce (vt ce) noF
  | .glob g => fun sc => let ce : Expr → Bool := fun e => match e with
      | .Name x _ => eqO (cns[g]?.map (·.1)) x && glB sc x && !(x == ("__debug__" : Str))
      | _ => false
    out (.glob g) ce (vt ce) noF
  | .bin o x y => fun sc => let ce : Expr → Bool := fun e => match e with
      | .BinOp a p b _ => opEq o p && chk x sc (.e a) && chk y sc (.e b)
      | _ => false
    out (.bin o x y) ce (vt ce) ce
  | .neg x => fun sc => let ce : Expr → Bool := fun e => match e with
      | .UnaryOp .USub a _ => chk x sc (.e a)
      | _ => false
    out (.neg x) ce (vt ce) noF
  | .nt x => fun sc => out (.nt x) (fun e => match e with
      | .UnaryOp .Not a _ => chk x sc (.e a)
      | _ => false) (fun e => match e with
      | .UnaryOp .Not a _ => chk x sc (.t a)
      | _ => false) noF
  | .cmp c x y => fun sc => let ce : Expr → Bool := fun e => match e with
      | .Compare a [p] [b] _ => cmEq c p && chk x sc (.e a) && chk y sc (.e b) && !behindInMarks (cmP c) b
      | _ => false
    out (.cmp c x y) ce ce noF
  | .and x y => fun sc s => match s with
    | .e (.BoolOp .And (a :: b :: es) _) => chk x sc (.e a) && chk y sc (.bo .And (b :: es))
    | .o (some (.BoolOp .And (a :: b :: es) _)) => isE y && chk x sc (.e a) && chk y sc (.bo .And (b :: es))
    | .bo .And (a :: b :: es) => chk x sc (.e a) && chk y sc (.bo .And (b :: es))
    | .bo .Or [.BoolOp .And (a :: b :: es) _] => chk x sc (.e a) && chk y sc (.bo .And (b :: es))
    | .t (.BoolOp .And (a :: b :: es) _) => chk x sc (.t a) && chk y sc (.bw .And (b :: es))
    | .ts [.BoolOp .And (a :: b :: es) _] => chk x sc (.t a) && chk y sc (.bw .And (b :: es))
    | .bw .And (a :: b :: es) => chk x sc (.t a) && chk y sc (.bw .And (b :: es))
    | .bw .Or [.BoolOp .And (a :: b :: es) _] => chk x sc (.t a) && chk y sc (.bw .And (b :: es))
    | _ => false
  | .or x y => fun sc s => match s with
    | .e (.BoolOp .Or (a :: b :: es) _) => chk x sc (.e a) && chk y sc (.bo .Or (b :: es))
    | .o (some (.BoolOp .Or (a :: b :: es) _)) => isE y && chk x sc (.e a) && chk y sc (.bo .Or (b :: es))
    | .bo .Or (a :: b :: es) => chk x sc (.e a) && chk y sc (.bo .Or (b :: es))
    | .bo .And [.BoolOp .Or (a :: b :: es) _] => chk x sc (.e a) && chk y sc (.bo .Or (b :: es))
    | .t (.BoolOp .Or (a :: b :: es) _) => chk x sc (.t a) && chk y sc (.bw .Or (b :: es))
    | .ts [.BoolOp .Or (a :: b :: es) _] => chk x sc (.t a) && chk y sc (.bw .Or (b :: es))
    | .bw .Or (a :: b :: es) => chk x sc (.t a) && chk y sc (.bw .Or (b :: es))
    | .bw .And [.BoolOp .Or (a :: b :: es) _] => chk x sc (.t a) && chk y sc (.bw .Or (b :: es))
    | _ => false
  | .ite c x y => fun sc => let ce : Expr → Bool := fun e => match e with
      | .IfExp t a b _ => chk c sc (.t t) && chk x sc (.e a) && chk y sc (.e b)
      | _ => false
    out (.ite c x y) ce (vt ce) noF
  | .tupE x => fun sc => let ce : Expr → Bool := fun e => match e with
      | .Tuple es _ _ => chk x sc (.a es)
      | _ => false
    out (.tupE x) ce (vt ce) noF
  | .lstE x => fun sc => let ce : Expr → Bool := fun e => match e with
      | .List es _ => chk x sc (.a es)
      | _ => false
    out (.lstE x) ce (vt ce) ce
  | .mk x => fun sc => let ce : Expr → Bool := fun e => chk x sc (.f e)
    out (.mk x) ce (vt ce) noF
  | .orL x y => fun sc => let ce : Expr → Bool := fun e => match e with
      | .BoolOp .Or [a, b] _ => chk x sc (.f a) && chk y sc (.f b)
      | _ => false
    out (.orL x y) noF noF ce
  | .idx x y => fun sc => let ce : Expr → Bool := fun e => match e with
      | .Subscript a b _ => plainIx b && chk x sc (.e a) && chk y sc (.e b)
      | _ => false
    out (.idx x y) ce (vt ce) noF
  | .sl x l h => fun sc => let ce : Expr → Bool := fun e => match e with
      | .Subscript a (.Slice lo hi none _) _ => chk x sc (.e a) && chk l sc (.o lo) && chk h sc (.o hi)
      | _ => false
    out (.sl x l h) ce (vt ce) noF
  | .lc elt t it cnd own => fun sc => let ce := lcB N sc (fun s e => chk elt s (.e e)) t (fun tg e => chk it sc (.i tg e)) (fun s es => chk cnd s (.ts es)) own
    out (.lc elt t it cnd own) ce (vt ce) ce
  | .it x => fun sc s => match s with
    | .i _ e => chk x sc (.e e)
    | _ => false
  | .rng1 x => fun sc s => match s with
    | .i _ e => call1 sc "range" (fun a => chk x sc (.e a)) e
    | _ => false
  | .rng2 x y => fun sc s => match s with
    | .i _ e => call2 sc "range" (fun a => chk x sc (.e a)) (fun a => chk y sc (.e a)) e
    | _ => false
  | .zip x y => fun sc s => match s with
    | .i (.Tuple _ _ _) e => call2 sc "zip" (fun a => chk x sc (.e a)) (fun a => chk y sc (.e a)) e
    | _ => false
  | .enm x => fun sc s => match s with
    | .i (.Tuple _ _ _) e => call1 sc "enumerate" (fun a => chk x sc (.e a)) e
    | _ => false
  | .call g x => fun sc => let ce : Expr → Bool := fun e => match e with
      | .Call (.Name nm _) (a :: as) [] _ => eqO (fns[g]?.map (·.1)) nm && glB sc nm && !(nm == ("__debug__" : Str)) && (a :: as).all notStar && chk x sc (.a (a :: as))
      | _ => false
    out (.call g x) ce (vt ce) noF
  | .len x => fun sc => let ce := call1 sc "len" fun a => chk x sc (.e a)
    out (.len x) ce (vt ce) noF
  | .tuple x => fun sc => let ce := call1 sc "tuple" fun a => chk x sc (.e a)
    out (.tuple x) ce (vt ce) noF
  | .list x => fun sc => let ce := call1 sc "list" fun a => chk x sc (.e a)
    out (.list x) ce (vt ce) ce
  | .listR (.rng1 x) => fun sc => let ce := call1 sc "list" (call1 sc "range" fun a => chk x sc (.e a))
    out (.listR (.rng1 x)) ce (vt ce) ce
  | .tupleR (.rng1 x) => fun sc => let ce := call1 sc "tuple" (call1 sc "range" fun a => chk x sc (.e a))
    out (.tupleR (.rng1 x)) ce (vt ce) noF
  | .absE x => fun sc => let ce := call1 sc "abs" fun a => chk x sc (.e a)
    out (.absE x) ce (vt ce) noF
  | .intE x => fun sc => let ce := call1 sc "int" fun a => chk x sc (.e a)
    out (.intE x) ce (vt ce) noF
  | .allE x => fun sc => let ce := call1 sc "all" fun a => chk x sc (.e a)
    out (.allE x) ce (vt ce) noF
  | .anyE x => fun sc => let ce := call1 sc "any" fun a => chk x sc (.e a)
    out (.anyE x) ce (vt ce) noF
  | .maxE x => fun sc => let ce := call1 sc "max" fun a => chk x sc (.e a)
    out (.maxE x) ce (vt ce) noF
  | .min2 x y => fun sc => let ce := call2 sc "min" (fun a => chk x sc (.e a)) (fun a => chk y sc (.e a))
    out (.min2 x y) ce (vt ce) noF
  | .sorted x => fun sc => let ce := call1 sc "sorted" fun a => chk x sc (.e a)
    out (.sorted x) ce (vt ce) noF
  | .isi ts x => fun sc => let ce : Expr → Bool := fun e => match e with
      | .Call (.Name nm _) [a, .Name ty _] [] _ => eqS nm "isinstance" && glB sc "isinstance" && notStar a && chk x sc (.e a) && tysB sc [.Name ty ⟨0, 0, 0, 0⟩] ts
      | .Call (.Name nm _) [a, .Tuple es _ _] [] _ => eqS nm "isinstance" && glB sc "isinstance" && notStar a && chk x sc (.e a) && tysB sc es ts && decide (ts.length ≤ 8)
      | _ => false
    out (.isi ts x) ce (vt ce) noF
  | .popAt x y => fun sc => let ce := meth1 "pop" (fun a => chk x sc (.e a)) (fun a => chk y sc (.e a))
    out (.popAt x y) ce (vt ce) noF
  | .dget x y => fun sc => let ce : Expr → Bool := fun e => match e with
      | .Subscript a b _ => plainIx b && chk x sc (.e a) && chk y sc (.e b)
      | _ => false
    out (.dget x y) ce (vt ce) noF
  | .dgetD x y z => fun sc => let ce : Expr → Bool := fun e => match e with
      | .Call (.Attribute o nm apos) [a, b] [] cpos => eqS nm "get" && notStar a && notStar b && notCall o && (apos.endLine == cpos.line) && chk x sc (.e o) && chk y sc (.e a) && chk z sc (.e b)
      | _ => false
    out (.dgetD x y z) ce (vt ce) noF
  | .dnew => fun sc => let ce : Expr → Bool := fun e => match e with
      | .Dict [] [] _ => true
      | _ => false
    out .dnew ce (vt ce) noF
  | .ddisp (.tupE x) y => fun sc => let ce : Expr → Bool := fun e => match e with
      | .Dict [some (.Tuple es _ _)] [v] _ => chk x sc (.a es) && chk y sc (.e v)
      | _ => false
    out (.ddisp (.tupE x) y) ce (vt ce) noF
  | _ => fun _ _ => false
end
end Ev

set_option Elab.async false
set_option linter.all false
set_option maxRecDepth 100000
set_option maxHeartbeats 4000000
set_option autoImplicit false
/-! the checker is right -/
namespace Ev
open PySem PySem.Spec PyProof.Rows L2
def Snd (p : Pl) (sc : Scope) (x : Ex) : Syn → Prop
  | .e e => SE p sc e x
  | .t e => ST p sc e x
  | .ts es => STs p sc es x
  | .f e => SF p sc e x
  | .o e => SO p sc e x
  | .bo op es => ∀ pos, SE p sc (.BoolOp op es pos) x
  | .bw op es => ∀ pos, SW p sc (.BoolOp op es pos) x
  | .a es => SA p sc es x
  | .s e => ∃ v pos x', e = .Starred v pos ∧ x = .star x' ∧ SE p sc v x'
  | .i tg e => SI p sc tg e x
theorem eqS_ok {a b : Str} (h : eqS a b = true) : a = b := of_decide_eq_true h
theorem isSome_ok {n : Option NameKind} {k : NameKind} (h : isSome' n k = true) : n = some k := of_decide_eq_true h
theorem glB_ok {sc : Scope} {x : Str} (h : glB sc x = true) : gI sc x := isSome_ok h
theorem visB_ok {sc : Scope} {x : Str} (h : visB sc x = true) : Vis sc x := by
  unfold visB at h
  rw [Bool.or_eq_true, Bool.or_eq_true] at h
  rcases h with (h | h) | h
  · exact .inl (isSome_ok h)
  · exact .inr (.inl (isSome_ok h))
  · exact .inr (.inr (isSome_ok h))
theorem eqO_ok {a : Option Str} {x : Str} (h : eqO a x = true) : a = some x := of_decide_eq_true h
theorem ba {a b : Bool} (h : (a && b) = true) : a = true ∧ b = true := by rwa [Bool.and_eq_true] at h
theorem nb {a : Bool} (h : (!a) = true) : a = false := by cases a <;> simp_all
theorem ev_one (G : GC) : ∀ (x : Ex) (ρ : Env) (S : Store) (l : List D) (S' : Store), isE x = true → ev G x ρ S = some (l, S') → ∃ d, l = [d] := by
  intro x
  induction x with
  | and a b iha ihb =>
    intro ρ S l S' he h
    simp only [isE] at he
    simp only [ev, Option.bind_eq_some_iff] at h
    obtain ⟨⟨l1, S1⟩, h1, h⟩ := h
    split at h
    · exact ihb _ _ _ _ he h
    · cases h; exact ⟨_, rfl⟩
    · cases h
  | or a b iha ihb =>
    intro ρ S l S' he h
    simp only [isE] at he
    simp only [ev, Option.bind_eq_some_iff] at h
    obtain ⟨⟨l1, S1⟩, h1, h⟩ := h
    split at h
    · cases h; exact ⟨_, rfl⟩
    · exact ihb _ _ _ _ he h
    · cases h
  | orL a b iha ihb =>
    intro ρ S l S' he h
    simp only [isE] at he
    simp only [ev, Option.bind_eq_some_iff] at h
    obtain ⟨⟨l1, S1⟩, h1, h⟩ := h
    split at h
    · exact ihb _ _ _ _ he h
    · cases h; exact ⟨_, rfl⟩
    · cases h
  | ite c a b ihc iha ihb =>
    intro ρ S l S' he h
    simp only [isE] at he
    have he := ba he
    simp only [ev, Option.bind_eq_some_iff] at h
    obtain ⟨⟨l1, S1⟩, h1, h⟩ := h
    split at h
    · exact iha _ _ _ _ he.1 h
    · exact ihb _ _ _ _ he.2 h
    · cases h
  | _ =>
    intro ρ S l S' he h
    first
      | exact Bool.noConfusion (show false = true from he)
      | (simp only [ev, Option.bind_eq_some_iff] at h
         repeat (first
           | (cases h; exact ⟨_, rfl⟩)
           | (obtain ⟨_, _, h⟩ := h)
           | (split at h)
           | (simp only [Option.bind_eq_some_iff] at h)
           | cases h))
section
variable {p : Pl} {sc : Scope}
theorem vt_ok {x : Ex} {ce : Expr → Bool} (h : ∀ e, ce e = true → SE p sc e x) : ∀ e, vt ce e = true → ST p sc e x := fun e he => st_val (h e (ba he).2) (ba he).1
theorem noF_ok {x : Ex} : ∀ e, noF e = true → SF p sc e x := fun e h => by cases h
theorem out_ok {x : Ex} {ce ct cf : Expr → Bool} (h1 : ∀ e, ce e = true → SE p sc e x) (h2 : ∀ e, ct e = true → ST p sc e x) (h3 : ∀ e, cf e = true → SF p sc e x) (s : Syn) (h : out x ce ct cf s = true) : Snd p sc x s := by
  unfold out at h
  split at h
  · exact h1 _ h
  · exact h2 _ h
  · exact sts_one (h2 _ h)
  · exact h3 _ h
  · have h := ba h
    exact so_some (h1 _ h.2) fun ρ S l S' q => ev_one _ _ _ _ _ _ h.1 q
  · exact fun pos => se_bone (h1 _ h)
  · exact fun pos => sw_one (h2 _ h)
  · cases h
theorem call1_ok {nm : Str} {ca : Expr → Bool} {e : Expr} (h : call1 sc nm ca e = true) : ∃ p1 a pos, e = .Call (.Name nm p1) [a] [] pos ∧ gI sc nm ∧ notStar a = true ∧ ca a = true := by
  unfold call1 at h
  split at h
  · obtain ⟨h, h4⟩ := ba h
    obtain ⟨h, h3⟩ := ba h
    obtain ⟨h1, h2⟩ := ba h
    cases eqS_ok h1
    exact ⟨_, _, _, rfl, glB_ok h2, h3, h4⟩
  · cases h
theorem call2_ok {nm : Str} {ca cb : Expr → Bool} {e : Expr} (h : call2 sc nm ca cb e = true) : ∃ p1 a b pos, e = .Call (.Name nm p1) [a, b] [] pos ∧ gI sc nm ∧ notStar a = true ∧ notStar b = true ∧ ca a = true ∧ cb b = true := by
  unfold call2 at h
  split at h
  · obtain ⟨h, h6⟩ := ba h
    obtain ⟨h, h5⟩ := ba h
    obtain ⟨h, h4⟩ := ba h
    obtain ⟨h, h3⟩ := ba h
    obtain ⟨h1, h2⟩ := ba h
    cases eqS_ok h1
    exact ⟨_, _, _, _, rfl, glB_ok h2, h3, h4, h5, h6⟩
  · cases h
theorem meth1_ok {nm : Str} {co ca : Expr → Bool} {e : Expr} (h : meth1 nm co ca e = true) : ∃ o apos a cpos, e = .Call (.Attribute o nm apos) [a] [] cpos ∧ notStar a = true ∧ notCall o = true ∧ (apos.endLine == cpos.line) = true ∧ co o = true ∧ ca a = true := by
  unfold meth1 at h
  split at h
  · obtain ⟨h, h6⟩ := ba h
    obtain ⟨h, h5⟩ := ba h
    obtain ⟨h, h4⟩ := ba h
    obtain ⟨h, h3⟩ := ba h
    obtain ⟨h1, h2⟩ := ba h
    cases eqS_ok h1
    exact ⟨_, _, _, _, rfl, h2, h3, h4, h5, h6⟩
  · cases h
theorem tys_ok : ∀ {es : List Expr} {ts : List Ty}, tysB sc es ts = true → TyNs sc es ts
  | [], [], _ => .nil
  | [], _ :: _, h => by cases h
  | e :: es, [], h => by cases e <;> cases h
  | e :: es, t :: ts, h => by
    cases e with
    | Name nm pos =>
      simp only [tysB] at h
      obtain ⟨h, h3⟩ := ba h
      obtain ⟨h1, h2⟩ := ba h
      exact .cons (eqS_ok h1) (glB_ok h2) (tys_ok h3)
    | _ => cases h
theorem chkT_ok {F : Cx → Prop} (fo : FOk p F) (nd : p.N.Nodup) {loc : Str → Bool} (hl : ∀ x, loc x = true → LocF F x) : ∀ (t : Tg) (s : Sum Expr (List Expr)), chkT p.N loc t s = true → match s with
    | .inl e => SG p F e t
    | .inr es => SGs p F es t
  | .nm i, .inl (.Name x _), h => by
    simp only [chkT] at h
    obtain ⟨h1, h2⟩ := ba h
    exact sg_nm fo nd (eqO_ok h1) (hl _ h2)
  | .tup a, .inl (.Tuple es _ _), h => by
    simp only [chkT] at h
    obtain ⟨h1, h2⟩ := ba h
    exact sg_tup fo h1 (chkT_ok fo nd hl a (.inr es) h2)
  | .tnil, .inr [], h => sgs_nil
  | .tcons a b, .inr (e :: es), h => by
    simp only [chkT] at h
    obtain ⟨h, h3⟩ := ba h
    obtain ⟨h1, h2⟩ := ba h
    exact sgs_cons h1 (chkT_ok fo nd hl a (.inl e) h2) (chkT_ok fo nd hl b (.inr es) h3)
  | .nm i, .inr es, h => by cases es <;> simp [chkT] at h
  | .tup a, .inr es, h => by cases es <;> simp [chkT] at h
  | .tnil, .inl e, h => by cases e <;> simp [chkT] at h
  | .tnil, .inr (e :: es), h => by simp [chkT] at h
  | .tcons a b, .inl e, h => by cases e <;> simp [chkT] at h
  | .tcons a b, .inr [], h => by simp [chkT] at h
  | .nm i, .inl e, h => by
    cases e with
    | Name x _ =>
      simp only [chkT] at h
      obtain ⟨h1, h2⟩ := ba h
      exact sg_nm fo nd (eqO_ok h1) (hl _ h2)
    | _ => simp [chkT] at h
  | .tup a, .inl e, h => by
    cases e with
    | Tuple es _ _ =>
      simp only [chkT] at h
      obtain ⟨h1, h2⟩ := ba h
      exact sg_tup fo h1 (chkT_ok fo nd hl a (.inr es) h2)
    | _ => simp [chkT] at h
theorem locB_ok {scope : Scope} {x : Str} (h : locB scope sc x = true) : LocF (FamB p scope sc) x := by
  intro X ⟨X0, s, H, C, cl, fp, hX, e⟩
  subst e
  have hs : (X0.blk s H scope (compEnvC scope cl C X0.env) fp).env.scope = relS scope sc := (hX.blk s H scope C cl fp).sc
  unfold locB at h
  rw [Bool.or_eq_true] at h
  rcases h with h | h
  · have h := isSome_ok h
    exact ⟨.inl (by rw [hs]; exact h), .inr (by rw [hs]; exact h)⟩
  · obtain ⟨h1, h2⟩ := ba h
    refine ⟨.inr (by rw [hs]; exact isSome_ok h1), .inl ?_⟩
    show (scope.names.lookup x == some NameKind.cell) = true
    rw [isSome_ok h2]; rfl
theorem blkB_ok {N : List Str} {scope : Scope} {ix : List Nat} (h : blkB N sc scope ix = true) : BlkOk N sc scope (ownOf N ix) ∧ (ownOf N ix).map (·.2) = ix := by
  unfold blkB at h
  obtain ⟨h, h6⟩ := ba h
  obtain ⟨h, h5⟩ := ba h
  obtain ⟨h, h4⟩ := ba h
  obtain ⟨h, h3⟩ := ba h
  obtain ⟨h1, h2⟩ := ba h
  rw [List.all_eq_true] at h2 h3 h4 h5
  refine ⟨⟨of_decide_eq_true h1, fun y hy => isSome_ok (h2 y hy), fun q hq => eqO_ok (h3 q hq), fun y hy e => ?_, fun y hy e => ?_⟩, of_decide_eq_true h6⟩
  · have := h4 y hy
    rw [e] at this
    simp only [decide_true, Bool.not_true, Bool.false_or, Bool.or_eq_true] at this
    exact this.elim (fun z => .inl (isSome_ok z)) (fun z => .inr (isSome_ok z))
  · have := h5 y hy
    rw [Bool.or_eq_true, Bool.or_eq_true] at this
    rcases this with (z | z) | z
    · exfalso
      rcases e with e | e <;> (rw [e] at z; simp at z)
    · left
      simpa using z
    · right
      simpa using z
theorem lc_parts {t : Tg} {own : List Nat} {ce : Scope → Expr → Bool} {ci : Expr → Expr → Bool} {cc : Scope → List Expr → Bool} {e : Expr} {xe xi xc : Ex} (nd : p.N.Nodup) (h : lcB p.N sc ce t ci cc own e = true)
    (h1 : ∀ s e, ce s e = true → SE p s e xe) (h2 : ∀ tg e, ci tg e = true → SI p sc tg e xi) (h3 : ∀ s es, cc s es = true → STs p s es xc) :
    ∃ elt tg iter ifs scope pos own', e = .ListComp elt [⟨tg, iter, ifs, 0⟩] scope pos ∧ SI p sc tg iter xi ∧ BlkOk p.N sc scope own' ∧ SG p (FamB p scope sc) tg t ∧ STs p (relS scope sc) ifs xc ∧ SE p (relS scope sc) elt xe ∧ (∀ j ∈ tgIx t, j ∈ own'.map (·.2)) ∧ notSet iter = true ∧ own'.map (·.2) = own := by
  unfold lcB at h
  split at h
  · obtain ⟨h, c7⟩ := ba h
    obtain ⟨h, c6⟩ := ba h
    obtain ⟨h, c5⟩ := ba h
    obtain ⟨h, c4⟩ := ba h
    obtain ⟨h, c3⟩ := ba h
    obtain ⟨c1, c2⟩ := ba h
    obtain ⟨b1, b2⟩ := blkB_ok c1
    refine ⟨_, _, _, _, _, _, _, rfl, h2 _ _ c5, b1, chkT_ok fok_b nd (fun x => locB_ok) t (.inl _) c2, h3 _ _ c6, h1 _ _ c7, fun j hj => ?_, c4, b2⟩
    rw [b2]
    rw [List.all_eq_true] at c3
    simpa using c3 j hj
  · cases h
theorem st_bool {op : BoolOp} {es : List Expr} {x : Ex} {pos : Pos} (h : ∀ pos, SW p sc (.BoolOp op es pos) x) : ST p sc (.BoolOp op es pos) x := st_sw (h pos)
theorem lc_only {G : GC} {elt it cnd : Ex} {t : Tg} {own : List Nat} : ∀ ρ S l S', ev G (.lc elt t it cnd own) ρ S = some (l, S') → ∃ ds, l = [.lst ds] := fun ρ S l S' h => by
  simp only [ev, Option.bind_eq_some_iff] at h
  obtain ⟨_, _, _, _, _, _, h⟩ := h
  cases h; exact ⟨_, rfl⟩
theorem listR_only {G : GC} {a : Ex} : ∀ ρ S l S', ev G (.listR a) ρ S = some (l, S') → ∃ ds, l = [.lst ds] := fun ρ S l S' h => by
  simp only [ev, Option.bind_eq_some_iff] at h
  obtain ⟨_, _, _, _, h⟩ := h
  cases h; exact ⟨_, rfl⟩
end
end Ev

set_option Elab.async false
set_option linter.all false
set_option maxRecDepth 100000
set_option maxHeartbeats 4000000
set_option autoImplicit false
/-! the checker is right: expressions -/
namespace Ev
open PySem PySem.Spec PyProof.Rows L2
section
variable {p : Pl} (ok : p.Ok)
include ok
theorem chk_ok : ∀ (x : Ex) (sc : Scope) (s : Syn), chk p.N p.fns p.cns x sc s = true → Snd p sc x s
  | .nil, sc, s, h => by
    simp only [chk] at h
    split at h
    · exact sa_nil
    · exact so_none
    · cases h
  | .cons x y, sc, s, h => by
    simp only [chk] at h
    split at h
    · rename_i e es
      obtain ⟨h1, h2⟩ := ba h
      have hy : SA p sc es y := chk_ok y sc (.a es) h2
      split at h1
      · obtain ⟨v, pos, x', rfl, rfl, hv⟩ : ∃ v pos x', e = .Starred v pos ∧ x = .star x' ∧ SE p sc v x' := chk_ok x sc (.s e) h1
        exact sa_star hv hy
      · obtain ⟨h1, h3⟩ := ba h1
        obtain ⟨h1, h4⟩ := ba h1
        exact sa_cons (chk_ok x sc (.e e) h3) hy h1 fun ρ S l S' q => ev_one _ _ _ _ _ _ h4 q
    · cases h
  | .star x, sc, s, h => by
    simp only [chk] at h
    split at h
    · exact ⟨_, _, x, rfl, rfl, chk_ok x sc (.e _) h⟩
    · cases h
  | .var i, sc, s, h => by
    simp only [chk] at h
    have h1 : ∀ e, (match e with
      | .Name x _ => eqO p.N[i]? x && visB sc x && !(x == ("__debug__" : Str)) && !(x == ("__classdict__" : Str))
      | _ => false : Bool) = true → SE p sc e (.var i) := fun e he => by
      split at he
      · obtain ⟨he, h4⟩ := ba he
        obtain ⟨he, h3⟩ := ba he
        obtain ⟨h1, h2⟩ := ba he
        exact se_var ok (eqO_ok h1) (visB_ok h2) (nb h3) (nb h4)
      · cases he
    exact out_ok h1 (vt_ok h1) noF_ok s h
  | .int i, sc, s, h => by
    simp only [chk] at h
    have h1 : ∀ e, (match e with
      | .Constant (.int j) _ _ => decide (j = i)
      | _ => false : Bool) = true → SE p sc e (.int i) := fun e he => by
      split at he
      · cases of_decide_eq_true he; exact se_int
      · cases he
    exact out_ok h1 (vt_ok h1) noF_ok s h
  | .bl b, sc, s, h => by
    have h1 : ∀ e, (match e with
      | .Constant (.bool j) _ _ => decide (j = b)
      | _ => false : Bool) = true → SE p sc e (.bl b) := fun e he => by
      split at he
      · cases of_decide_eq_true he; exact se_bl
      · cases he
    simp only [chk] at h
    split at h
    · subst h; exact sts_nil
    · exact out_ok h1 (vt_ok h1) noF_ok s h
  | .non, sc, s, h => by
    simp only [chk] at h
    have h1 : ∀ e, (match e with
      | .Constant .none _ _ => true
      | _ => false : Bool) = true → SE p sc e .non := fun e he => by
      split at he
      · exact se_non
      · cases he
    exact out_ok h1 (vt_ok h1) noF_ok s h
  | .str z, sc, s, h => by
    simp only [chk] at h
    have h1 : ∀ e, (match e with
      | .Constant (.str j) _ _ => eqS j z
      | _ => false : Bool) = true → SE p sc e (.str z) := fun e he => by
      split at he
      · cases eqS_ok he; exact se_str
      · cases he
    exact out_ok h1 (vt_ok h1) noF_ok s h
  | .glob g, sc, s, h => by
    simp only [chk] at h
    have h1 : ∀ e, (match e with
      | .Name x _ => eqO (p.cns[g]?.map (·.1)) x && glB sc x && !(x == ("__debug__" : Str))
      | _ => false : Bool) = true → SE p sc e (.glob g) := fun e he => by
      split at he
      · obtain ⟨he, h3⟩ := ba he
        obtain ⟨h1, h2⟩ := ba he
        exact se_glob ok (eqO_ok h1) (glB_ok h2) (nb h3)
      · cases he
    exact out_ok h1 (vt_ok h1) noF_ok s h
  | .bin o x y, sc, s, h => by
    simp only [chk] at h
    have h1 : ∀ e, (match e with
      | .BinOp a q b _ => opEq o q && chk p.N p.fns p.cns x sc (.e a) && chk p.N p.fns p.cns y sc (.e b)
      | _ => false : Bool) = true → SE p sc e (.bin o x y) ∧ SF p sc e (.bin o x y) := fun e he => by
      split at he
      · obtain ⟨he, h3⟩ := ba he
        obtain ⟨h1, h2⟩ := ba he
        cases (of_decide_eq_true h1 : opP o = _)
        exact ⟨se_bin (chk_ok x sc (.e _) h2) (chk_ok y sc (.e _) h3), sf_bin (chk_ok x sc (.e _) h2) (chk_ok y sc (.e _) h3)⟩
      · cases he
    exact out_ok (fun e he => (h1 e he).1) (vt_ok fun e he => (h1 e he).1) (fun e he => (h1 e he).2) s h
  | .neg x, sc, s, h => by
    simp only [chk] at h
    have h1 : ∀ e, (match e with
      | .UnaryOp .USub a _ => chk p.N p.fns p.cns x sc (.e a)
      | _ => false : Bool) = true → SE p sc e (.neg x) := fun e he => by
      split at he
      · exact se_neg (chk_ok x sc (.e _) he)
      · cases he
    exact out_ok h1 (vt_ok h1) noF_ok s h
  | .nt x, sc, s, h => by
    simp only [chk] at h
    refine out_ok (fun e he => ?_) (fun e he => ?_) noF_ok s h
    · split at he
      · exact se_nt (chk_ok x sc (.e _) he)
      · cases he
    · split at he
      · exact st_nt (chk_ok x sc (.t _) he)
      · cases he
  | .cmp c x y, sc, s, h => by
    simp only [chk] at h
    have h1 : ∀ e, (match e with
      | .Compare a [q] [b] _ => cmEq c q && chk p.N p.fns p.cns x sc (.e a) && chk p.N p.fns p.cns y sc (.e b) && !behindInMarks (cmP c) b
      | _ => false : Bool) = true → SE p sc e (.cmp c x y) ∧ ST p sc e (.cmp c x y) := fun e he => by
      split at he
      · obtain ⟨he, h4⟩ := ba he
        obtain ⟨he, h3⟩ := ba he
        obtain ⟨h1, h2⟩ := ba he
        cases (of_decide_eq_true h1 : cmP c = _)
        exact ⟨se_cmp (chk_ok x sc (.e _) h2) (chk_ok y sc (.e _) h3) (nb h4), st_cmp (chk_ok x sc (.e _) h2) (chk_ok y sc (.e _) h3) (nb h4)⟩
      · cases he
    exact out_ok (fun e he => (h1 e he).1) (fun e he => (h1 e he).2) noF_ok s h
  | .and x y, sc, s, h => by
    have bo : ∀ {a b : Expr} {es : List Expr}, (chk p.N p.fns p.cns x sc (.e a) && chk p.N p.fns p.cns y sc (.bo .And (b :: es))) = true → ∀ pos, SE p sc (.BoolOp .And (a :: b :: es) pos) (.and x y) := fun {a b es} q pos =>
      se_and (chk_ok x sc (.e a) (ba q).1) (chk_ok y sc (.bo .And (b :: es)) (ba q).2 pos)
    have bw : ∀ {a b : Expr} {es : List Expr}, (chk p.N p.fns p.cns x sc (.t a) && chk p.N p.fns p.cns y sc (.bw .And (b :: es))) = true → ∀ pos, SW p sc (.BoolOp .And (a :: b :: es) pos) (.and x y) := fun {a b es} q pos =>
      sw_and (chk_ok x sc (.t a) (ba q).1) (chk_ok y sc (.bw .And (b :: es)) (ba q).2 pos)
    simp only [chk] at h
    split at h
    · exact bo h _
    · obtain ⟨h, h3⟩ := ba h
      obtain ⟨h1, h2⟩ := ba h
      exact so_some (bo (by rw [h2, h3]; rfl) _) fun ρ S l S' q => ev_one _ (.and x y) _ _ _ _ h1 q
    · exact bo h
    · exact fun pos => se_bone (bo h _)
    · exact st_sw (bw h _)
    · exact sts_one (st_sw (bw h _))
    · exact bw h
    · exact fun pos => sw_one (st_sw (bw h _))
    · cases h
  | .or x y, sc, s, h => by
    have bo : ∀ {a b : Expr} {es : List Expr}, (chk p.N p.fns p.cns x sc (.e a) && chk p.N p.fns p.cns y sc (.bo .Or (b :: es))) = true → ∀ pos, SE p sc (.BoolOp .Or (a :: b :: es) pos) (.or x y) := fun {a b es} q pos =>
      se_or (chk_ok x sc (.e a) (ba q).1) (chk_ok y sc (.bo .Or (b :: es)) (ba q).2 pos)
    have bw : ∀ {a b : Expr} {es : List Expr}, (chk p.N p.fns p.cns x sc (.t a) && chk p.N p.fns p.cns y sc (.bw .Or (b :: es))) = true → ∀ pos, SW p sc (.BoolOp .Or (a :: b :: es) pos) (.or x y) := fun {a b es} q pos =>
      sw_or (chk_ok x sc (.t a) (ba q).1) (chk_ok y sc (.bw .Or (b :: es)) (ba q).2 pos)
    simp only [chk] at h
    split at h
    · exact bo h _
    · obtain ⟨h, h3⟩ := ba h
      obtain ⟨h1, h2⟩ := ba h
      exact so_some (bo (by rw [h2, h3]; rfl) _) fun ρ S l S' q => ev_one _ (.or x y) _ _ _ _ h1 q
    · exact bo h
    · exact fun pos => se_bone (bo h _)
    · exact st_sw (bw h _)
    · exact sts_one (st_sw (bw h _))
    · exact bw h
    · exact fun pos => sw_one (st_sw (bw h _))
    · cases h
  | .ite c x y, sc, s, h => by
    simp only [chk] at h
    have h1 : ∀ e, (match e with
      | .IfExp t a b _ => chk p.N p.fns p.cns c sc (.t t) && chk p.N p.fns p.cns x sc (.e a) && chk p.N p.fns p.cns y sc (.e b)
      | _ => false : Bool) = true → SE p sc e (.ite c x y) := fun e he => by
      split at he
      · obtain ⟨he, h3⟩ := ba he
        obtain ⟨h1, h2⟩ := ba he
        exact se_ite (chk_ok c sc (.t _) h1) (chk_ok x sc (.e _) h2) (chk_ok y sc (.e _) h3)
      · cases he
    exact out_ok h1 (vt_ok h1) noF_ok s h
  | .tupE x, sc, s, h => by
    simp only [chk] at h
    have h1 : ∀ e, (match e with
      | .Tuple es _ _ => chk p.N p.fns p.cns x sc (.a es)
      | _ => false : Bool) = true → SE p sc e (.tupE x) := fun e he => by
      split at he
      · exact se_tup (chk_ok x sc (.a _) he)
      · cases he
    exact out_ok h1 (vt_ok h1) noF_ok s h
  | .lstE x, sc, s, h => by
    simp only [chk] at h
    have h1 : ∀ e, (match e with
      | .List es _ => chk p.N p.fns p.cns x sc (.a es)
      | _ => false : Bool) = true → SE p sc e (.lstE x) ∧ SF p sc e (.lstE x) := fun e he => by
      split at he
      · exact ⟨se_lst (chk_ok x sc (.a _) he), sf_lst (chk_ok x sc (.a _) he)⟩
      · cases he
    exact out_ok (fun e he => (h1 e he).1) (vt_ok fun e he => (h1 e he).1) (fun e he => (h1 e he).2) s h
  | .mk x, sc, s, h => by
    simp only [chk] at h
    have h1 : ∀ e, chk p.N p.fns p.cns x sc (.f e) = true → SE p sc e (.mk x) := fun e he => se_mk (chk_ok x sc (.f e) he)
    exact out_ok h1 (vt_ok h1) noF_ok s h
  | .orL x y, sc, s, h => by
    simp only [chk] at h
    refine out_ok (fun e he => by cases he) (fun e he => by cases he) (fun e he => ?_) s h
    split at he
    · exact sf_orL (chk_ok x sc (.f _) (ba he).1) (chk_ok y sc (.f _) (ba he).2)
    · cases he
  | .idx x y, sc, s, h => by
    simp only [chk] at h
    have h1 : ∀ e, (match e with
      | .Subscript a b _ => plainIx b && chk p.N p.fns p.cns x sc (.e a) && chk p.N p.fns p.cns y sc (.e b)
      | _ => false : Bool) = true → SE p sc e (.idx x y) := fun e he => by
      split at he
      · obtain ⟨he, h3⟩ := ba he
        obtain ⟨h1, h2⟩ := ba he
        exact se_idx (chk_ok x sc (.e _) h2) (chk_ok y sc (.e _) h3) h1
      · cases he
    exact out_ok h1 (vt_ok h1) noF_ok s h
  | .sl x l u, sc, s, h => by
    simp only [chk] at h
    have h1 : ∀ e, (match e with
      | .Subscript a (.Slice lo hi none _) _ => chk p.N p.fns p.cns x sc (.e a) && chk p.N p.fns p.cns l sc (.o lo) && chk p.N p.fns p.cns u sc (.o hi)
      | _ => false : Bool) = true → SE p sc e (.sl x l u) := fun e he => by
      split at he
      · obtain ⟨he, h3⟩ := ba he
        obtain ⟨h1, h2⟩ := ba he
        exact se_sl ok (chk_ok x sc (.e _) h1) (chk_ok l sc (.o _) h2) (chk_ok u sc (.o _) h3)
      · cases he
    exact out_ok h1 (vt_ok h1) noF_ok s h
  | .lc elt t it cnd own, sc, s, h => by
    simp only [chk] at h
    have h1 : ∀ e, lcB p.N sc (fun s e => chk p.N p.fns p.cns elt s (.e e)) t (fun tg e => chk p.N p.fns p.cns it sc (.i tg e)) (fun s es => chk p.N p.fns p.cns cnd s (.ts es)) own e = true → SF p sc e (.lc elt t it cnd own) := fun e he => by
      obtain ⟨elt', tg, iter, ifs, scope, pos, own', rfl, q1, q2, q3, q4, q5, q6, q7, q8⟩ := lc_parts ok.nd he (fun s e z => chk_ok elt s (.e e) z) (fun tg e z => chk_ok it sc (.i tg e) z) (fun s es z => chk_ok cnd s (.ts es) z)
      subst q8
      exact sf_lc ok.nd q1 q2 q3 q4 q5 q6 q7
    exact out_ok (fun e he => (h1 e he).se lc_only) (vt_ok fun e he => (h1 e he).se lc_only) h1 s h
  | .it x, sc, s, h => by
    simp only [chk] at h
    split at h
    · exact si_it (chk_ok x sc (.e _) h)
    · cases h
  | .rng1 x, sc, s, h => by
    simp only [chk] at h
    split at h
    · obtain ⟨p1, a, pos, rfl, h2, h3, h4⟩ := call1_ok h
      exact si_rng1 ok (chk_ok x sc (.e _) h4) h2 h3
    · cases h
  | .rng2 x y, sc, s, h => by
    simp only [chk] at h
    split at h
    · obtain ⟨p1, a, b, pos, rfl, h2, h3, h4, h5, h6⟩ := call2_ok h
      exact si_rng2 ok (chk_ok x sc (.e _) h5) (chk_ok y sc (.e _) h6) h2 h3 h4
    · cases h
  | .zip x y, sc, s, h => by
    simp only [chk] at h
    split at h
    · obtain ⟨p1, a, b, pos, rfl, h2, h3, h4, h5, h6⟩ := call2_ok h
      exact si_zip ok (chk_ok x sc (.e _) h5) (chk_ok y sc (.e _) h6) h2 h3 h4
    · cases h
  | .enm x, sc, s, h => by
    simp only [chk] at h
    split at h
    · obtain ⟨p1, a, pos, rfl, h2, h3, h4⟩ := call1_ok h
      exact si_enum ok (chk_ok x sc (.e _) h4) h2 h3
    · cases h
  | .call g x, sc, s, h => by
    simp only [chk] at h
    have h1 : ∀ e, (match e with
      | .Call (.Name nm _) (a :: as) [] _ => eqO (p.fns[g]?.map (·.1)) nm && glB sc nm && !(nm == ("__debug__" : Str)) && (a :: as).all notStar && chk p.N p.fns p.cns x sc (.a (a :: as))
      | _ => false : Bool) = true → SE p sc e (.call g x) := fun e he => by
      split at he
      · obtain ⟨he, h5⟩ := ba he
        obtain ⟨he, h4⟩ := ba he
        obtain ⟨he, h3⟩ := ba he
        obtain ⟨h1, h2⟩ := ba he
        have k1 := eqO_ok h1
        rw [Option.map_eq_some_iff] at k1
        obtain ⟨⟨nm', m⟩, k1, e1⟩ := k1
        cases e1
        exact se_call ok k1 (glB_ok h2) (nb h3) (chk_ok x sc (.a _) h5) h4
      · cases he
    exact out_ok h1 (vt_ok h1) noF_ok s h
  | .len x, sc, s, h => by
    simp only [chk] at h
    have h1 : ∀ e, call1 sc "len" (fun a => chk p.N p.fns p.cns x sc (.e a)) e = true → SE p sc e (.len x) := fun e he => by
      obtain ⟨p1, a, pos, rfl, h2, h3, h4⟩ := call1_ok he
      exact se_len ok (chk_ok x sc (.e _) h4) h2 h3
    exact out_ok h1 (vt_ok h1) noF_ok s h
  | .tuple x, sc, s, h => by
    simp only [chk] at h
    have h1 : ∀ e, call1 sc "tuple" (fun a => chk p.N p.fns p.cns x sc (.e a)) e = true → SE p sc e (.tuple x) := fun e he => by
      obtain ⟨p1, a, pos, rfl, h2, h3, h4⟩ := call1_ok he
      exact se_tuple ok (chk_ok x sc (.e _) h4) h2 h3
    exact out_ok h1 (vt_ok h1) noF_ok s h
  | .list x, sc, s, h => by
    simp only [chk] at h
    have h1 : ∀ e, call1 sc "list" (fun a => chk p.N p.fns p.cns x sc (.e a)) e = true → SE p sc e (.list x) ∧ SF p sc e (.list x) := fun e he => by
      obtain ⟨p1, a, pos, rfl, h2, h3, h4⟩ := call1_ok he
      exact ⟨se_list ok (chk_ok x sc (.e _) h4) h2 h3, sf_list ok (chk_ok x sc (.e _) h4) h2 h3⟩
    exact out_ok (fun e he => (h1 e he).1) (vt_ok fun e he => (h1 e he).1) (fun e he => (h1 e he).2) s h
  | .listR (.rng1 x), sc, s, h => by
    simp only [chk] at h
    have h1 : ∀ e, call1 sc "list" (call1 sc "range" fun a => chk p.N p.fns p.cns x sc (.e a)) e = true → SF p sc e (.listR (.rng1 x)) := fun e he => by
      obtain ⟨p1, a, pos, rfl, h2, h3, h4⟩ := call1_ok he
      obtain ⟨p2, b, pos2, rfl, k2, k3, k4⟩ := call1_ok h4
      exact sf_listR1 ok (chk_ok x sc (.e _) k4) k2 h2 k3
    exact out_ok (fun e he => (h1 e he).se listR_only) (vt_ok fun e he => (h1 e he).se listR_only) h1 s h
  | .tupleR (.rng1 x), sc, s, h => by
    simp only [chk] at h
    have h1 : ∀ e, call1 sc "tuple" (call1 sc "range" fun a => chk p.N p.fns p.cns x sc (.e a)) e = true → SE p sc e (.tupleR (.rng1 x)) := fun e he => by
      obtain ⟨p1, a, pos, rfl, h2, h3, h4⟩ := call1_ok he
      obtain ⟨p2, b, pos2, rfl, k2, k3, k4⟩ := call1_ok h4
      exact se_tupR1 ok (chk_ok x sc (.e _) k4) k2 h2 k3
    exact out_ok h1 (vt_ok h1) noF_ok s h
  | .absE x, sc, s, h => by
    simp only [chk] at h
    have h1 : ∀ e, call1 sc "abs" (fun a => chk p.N p.fns p.cns x sc (.e a)) e = true → SE p sc e (.absE x) := fun e he => by
      obtain ⟨p1, a, pos, rfl, h2, h3, h4⟩ := call1_ok he
      exact se_abs ok (chk_ok x sc (.e _) h4) h2 h3
    exact out_ok h1 (vt_ok h1) noF_ok s h
  | .intE x, sc, s, h => by
    simp only [chk] at h
    have h1 : ∀ e, call1 sc "int" (fun a => chk p.N p.fns p.cns x sc (.e a)) e = true → SE p sc e (.intE x) := fun e he => by
      obtain ⟨p1, a, pos, rfl, h2, h3, h4⟩ := call1_ok he
      exact se_intE ok (chk_ok x sc (.e _) h4) h2 h3
    exact out_ok h1 (vt_ok h1) noF_ok s h
  | .allE x, sc, s, h => by
    simp only [chk] at h
    have h1 : ∀ e, call1 sc "all" (fun a => chk p.N p.fns p.cns x sc (.e a)) e = true → SE p sc e (.allE x) := fun e he => by
      obtain ⟨p1, a, pos, rfl, h2, h3, h4⟩ := call1_ok he
      exact se_all ok (chk_ok x sc (.e _) h4) h2 h3
    exact out_ok h1 (vt_ok h1) noF_ok s h
  | .anyE x, sc, s, h => by
    simp only [chk] at h
    have h1 : ∀ e, call1 sc "any" (fun a => chk p.N p.fns p.cns x sc (.e a)) e = true → SE p sc e (.anyE x) := fun e he => by
      obtain ⟨p1, a, pos, rfl, h2, h3, h4⟩ := call1_ok he
      exact se_any ok (chk_ok x sc (.e _) h4) h2 h3
    exact out_ok h1 (vt_ok h1) noF_ok s h
  | .maxE x, sc, s, h => by
    simp only [chk] at h
    have h1 : ∀ e, call1 sc "max" (fun a => chk p.N p.fns p.cns x sc (.e a)) e = true → SE p sc e (.maxE x) := fun e he => by
      obtain ⟨p1, a, pos, rfl, h2, h3, h4⟩ := call1_ok he
      exact se_max ok (chk_ok x sc (.e _) h4) h2 h3
    exact out_ok h1 (vt_ok h1) noF_ok s h
  | .min2 x y, sc, s, h => by
    simp only [chk] at h
    have h1 : ∀ e, call2 sc "min" (fun a => chk p.N p.fns p.cns x sc (.e a)) (fun a => chk p.N p.fns p.cns y sc (.e a)) e = true → SE p sc e (.min2 x y) := fun e he => by
      obtain ⟨p1, a, b, pos, rfl, h2, h3, h4, h5, h6⟩ := call2_ok he
      exact se_min2 ok (chk_ok x sc (.e _) h5) (chk_ok y sc (.e _) h6) h2 h3 h4
    exact out_ok h1 (vt_ok h1) noF_ok s h
  | .sorted x, sc, s, h => by
    simp only [chk] at h
    have h1 : ∀ e, call1 sc "sorted" (fun a => chk p.N p.fns p.cns x sc (.e a)) e = true → SE p sc e (.sorted x) := fun e he => by
      obtain ⟨p1, a, pos, rfl, h2, h3, h4⟩ := call1_ok he
      exact se_sorted ok (chk_ok x sc (.e _) h4) h2 h3
    exact out_ok h1 (vt_ok h1) noF_ok s h
  | .isi ts x, sc, s, h => by
    simp only [chk] at h
    refine (fun (h1 : ∀ e, _ → SE p sc e (.isi ts x)) => out_ok h1 (vt_ok h1) noF_ok s h) fun e he => ?_
    split at he
    · obtain ⟨he, h5⟩ := ba he
      obtain ⟨he, h4⟩ := ba he
      obtain ⟨he, h3⟩ := ba he
      obtain ⟨h1, h2⟩ := ba he
      cases eqS_ok h1
      cases ts with
      | nil => cases h5
      | cons t ts =>
        cases ts with
        | nil =>
          simp only [tysB] at h5
          obtain ⟨h5, _⟩ := ba h5
          obtain ⟨h5, h6⟩ := ba h5
          exact se_isi1 ok (chk_ok x sc (.e _) h4) (glB_ok h2) h3 (eqS_ok h5) (glB_ok h6)
        | cons t2 ts => simp [tysB] at h5
    · obtain ⟨he, h6⟩ := ba he
      obtain ⟨he, h5⟩ := ba he
      obtain ⟨he, h4⟩ := ba he
      obtain ⟨he, h3⟩ := ba he
      obtain ⟨h1, h2⟩ := ba he
      cases eqS_ok h1
      exact se_isiN ok (chk_ok x sc (.e _) h4) (glB_ok h2) h3 (tys_ok h5) (of_decide_eq_true h6)
    · cases he
  | .popAt x y, sc, s, h => by
    simp only [chk] at h
    have h1 : ∀ e, meth1 "pop" (fun a => chk p.N p.fns p.cns x sc (.e a)) (fun a => chk p.N p.fns p.cns y sc (.e a)) e = true → SE p sc e (.popAt x y) := fun e he => by
      obtain ⟨o, apos, a, cpos, rfl, h2, h3, h4, h5, h6⟩ := meth1_ok he
      exact se_popAt (chk_ok x sc (.e _) h5) (chk_ok y sc (.e _) h6) h2 h3 h4
    exact out_ok h1 (vt_ok h1) noF_ok s h
  | .dget x y, sc, s, h => by
    simp only [chk] at h
    have h1 : ∀ e, (match e with
      | .Subscript a b _ => plainIx b && chk p.N p.fns p.cns x sc (.e a) && chk p.N p.fns p.cns y sc (.e b)
      | _ => false : Bool) = true → SE p sc e (.dget x y) := fun e he => by
      split at he
      · obtain ⟨he, h3⟩ := ba he
        obtain ⟨h1, h2⟩ := ba he
        exact se_dget (chk_ok x sc (.e _) h2) (chk_ok y sc (.e _) h3) h1
      · cases he
    exact out_ok h1 (vt_ok h1) noF_ok s h
  | .dgetD x y z, sc, s, h => by
    simp only [chk] at h
    have h1 : ∀ e, (match e with
      | .Call (.Attribute o nm apos) [a, b] [] cpos => eqS nm "get" && notStar a && notStar b && notCall o && (apos.endLine == cpos.line) && chk p.N p.fns p.cns x sc (.e o) && chk p.N p.fns p.cns y sc (.e a) && chk p.N p.fns p.cns z sc (.e b)
      | _ => false : Bool) = true → SE p sc e (.dgetD x y z) := fun e he => by
      split at he
      · obtain ⟨he, c8⟩ := ba he
        obtain ⟨he, c7⟩ := ba he
        obtain ⟨he, c6⟩ := ba he
        obtain ⟨he, c5⟩ := ba he
        obtain ⟨he, c4⟩ := ba he
        obtain ⟨he, c3⟩ := ba he
        obtain ⟨c1, c2⟩ := ba he
        cases eqS_ok c1
        exact se_dgetD (chk_ok x sc (.e _) c6) (chk_ok y sc (.e _) c7) (chk_ok z sc (.e _) c8) c2 c3 c4 c5
      · cases he
    exact out_ok h1 (vt_ok h1) noF_ok s h
  | .dnew, sc, s, h => by
    simp only [chk] at h
    have h1 : ∀ e, (match e with
      | .Dict [] [] _ => true
      | _ => false : Bool) = true → SE p sc e .dnew := fun e he => by
      split at he
      · exact se_dnew
      · cases he
    exact out_ok h1 (vt_ok h1) noF_ok s h
  | .ddisp (.tupE x) y, sc, s, h => by
    simp only [chk] at h
    have h1 : ∀ e, (match e with
      | .Dict [some (.Tuple es _ _)] [v] _ => chk p.N p.fns p.cns x sc (.a es) && chk p.N p.fns p.cns y sc (.e v)
      | _ => false : Bool) = true → SE p sc e (.ddisp (.tupE x) y) := fun e he => by
      split at he
      · exact se_ddisp (chk_ok x sc (.a _) (ba he).1) (chk_ok y sc (.e _) (ba he).2)
      · cases he
    exact out_ok h1 (vt_ok h1) noF_ok s h
  | .ddisp (.nil) _, sc, s, h => by simp [chk] at h
  | .ddisp (.cons _ _) _, sc, s, h => by simp [chk] at h
  | .ddisp (.star _) _, sc, s, h => by simp [chk] at h
  | .ddisp (.var _) _, sc, s, h => by simp [chk] at h
  | .ddisp (.int _) _, sc, s, h => by simp [chk] at h
  | .ddisp (.bl _) _, sc, s, h => by simp [chk] at h
  | .ddisp (.non) _, sc, s, h => by simp [chk] at h
  | .ddisp (.str _) _, sc, s, h => by simp [chk] at h
  | .ddisp (.glob _) _, sc, s, h => by simp [chk] at h
  | .ddisp (.bin _ _ _) _, sc, s, h => by simp [chk] at h
  | .ddisp (.neg _) _, sc, s, h => by simp [chk] at h
  | .ddisp (.nt _) _, sc, s, h => by simp [chk] at h
  | .ddisp (.cmp _ _ _) _, sc, s, h => by simp [chk] at h
  | .ddisp (.and _ _) _, sc, s, h => by simp [chk] at h
  | .ddisp (.or _ _) _, sc, s, h => by simp [chk] at h
  | .ddisp (.ite _ _ _) _, sc, s, h => by simp [chk] at h
  | .ddisp (.lstE _) _, sc, s, h => by simp [chk] at h
  | .ddisp (.mk _) _, sc, s, h => by simp [chk] at h
  | .ddisp (.orL _ _) _, sc, s, h => by simp [chk] at h
  | .ddisp (.idx _ _) _, sc, s, h => by simp [chk] at h
  | .ddisp (.sl _ _ _) _, sc, s, h => by simp [chk] at h
  | .ddisp (.lc _ _ _ _ _) _, sc, s, h => by simp [chk] at h
  | .ddisp (.it _) _, sc, s, h => by simp [chk] at h
  | .ddisp (.rng1 _) _, sc, s, h => by simp [chk] at h
  | .ddisp (.rng2 _ _) _, sc, s, h => by simp [chk] at h
  | .ddisp (.zip _ _) _, sc, s, h => by simp [chk] at h
  | .ddisp (.enm _) _, sc, s, h => by simp [chk] at h
  | .ddisp (.call _ _) _, sc, s, h => by simp [chk] at h
  | .ddisp (.len _) _, sc, s, h => by simp [chk] at h
  | .ddisp (.tuple _) _, sc, s, h => by simp [chk] at h
  | .ddisp (.list _) _, sc, s, h => by simp [chk] at h
  | .ddisp (.listR _) _, sc, s, h => by simp [chk] at h
  | .ddisp (.tupleR _) _, sc, s, h => by simp [chk] at h
  | .ddisp (.absE _) _, sc, s, h => by simp [chk] at h
  | .ddisp (.intE _) _, sc, s, h => by simp [chk] at h
  | .ddisp (.allE _) _, sc, s, h => by simp [chk] at h
  | .ddisp (.anyE _) _, sc, s, h => by simp [chk] at h
  | .ddisp (.maxE _) _, sc, s, h => by simp [chk] at h
  | .ddisp (.min2 _ _) _, sc, s, h => by simp [chk] at h
  | .ddisp (.sorted _) _, sc, s, h => by simp [chk] at h
  | .ddisp (.isi _ _) _, sc, s, h => by simp [chk] at h
  | .ddisp (.popAt _ _) _, sc, s, h => by simp [chk] at h
  | .ddisp (.dget _ _) _, sc, s, h => by simp [chk] at h
  | .ddisp (.dgetD _ _ _) _, sc, s, h => by simp [chk] at h
  | .ddisp (.dnew) _, sc, s, h => by simp [chk] at h
  | .ddisp (.ddisp _ _) _, sc, s, h => by simp [chk] at h
  | .listR (.nil), sc, s, h => by simp [chk] at h
  | .listR (.cons _ _), sc, s, h => by simp [chk] at h
  | .listR (.star _), sc, s, h => by simp [chk] at h
  | .listR (.var _), sc, s, h => by simp [chk] at h
  | .listR (.int _), sc, s, h => by simp [chk] at h
  | .listR (.bl _), sc, s, h => by simp [chk] at h
  | .listR (.non), sc, s, h => by simp [chk] at h
  | .listR (.str _), sc, s, h => by simp [chk] at h
  | .listR (.glob _), sc, s, h => by simp [chk] at h
  | .listR (.bin _ _ _), sc, s, h => by simp [chk] at h
  | .listR (.neg _), sc, s, h => by simp [chk] at h
  | .listR (.nt _), sc, s, h => by simp [chk] at h
  | .listR (.cmp _ _ _), sc, s, h => by simp [chk] at h
  | .listR (.and _ _), sc, s, h => by simp [chk] at h
  | .listR (.or _ _), sc, s, h => by simp [chk] at h
  | .listR (.ite _ _ _), sc, s, h => by simp [chk] at h
  | .listR (.tupE _), sc, s, h => by simp [chk] at h
  | .listR (.lstE _), sc, s, h => by simp [chk] at h
  | .listR (.mk _), sc, s, h => by simp [chk] at h
  | .listR (.orL _ _), sc, s, h => by simp [chk] at h
  | .listR (.idx _ _), sc, s, h => by simp [chk] at h
  | .listR (.sl _ _ _), sc, s, h => by simp [chk] at h
  | .listR (.lc _ _ _ _ _), sc, s, h => by simp [chk] at h
  | .listR (.it _), sc, s, h => by simp [chk] at h
  | .listR (.rng2 _ _), sc, s, h => by simp [chk] at h
  | .listR (.zip _ _), sc, s, h => by simp [chk] at h
  | .listR (.enm _), sc, s, h => by simp [chk] at h
  | .listR (.call _ _), sc, s, h => by simp [chk] at h
  | .listR (.len _), sc, s, h => by simp [chk] at h
  | .listR (.tuple _), sc, s, h => by simp [chk] at h
  | .listR (.list _), sc, s, h => by simp [chk] at h
  | .listR (.listR _), sc, s, h => by simp [chk] at h
  | .listR (.tupleR _), sc, s, h => by simp [chk] at h
  | .listR (.absE _), sc, s, h => by simp [chk] at h
  | .listR (.intE _), sc, s, h => by simp [chk] at h
  | .listR (.allE _), sc, s, h => by simp [chk] at h
  | .listR (.anyE _), sc, s, h => by simp [chk] at h
  | .listR (.maxE _), sc, s, h => by simp [chk] at h
  | .listR (.min2 _ _), sc, s, h => by simp [chk] at h
  | .listR (.sorted _), sc, s, h => by simp [chk] at h
  | .listR (.isi _ _), sc, s, h => by simp [chk] at h
  | .listR (.popAt _ _), sc, s, h => by simp [chk] at h
  | .listR (.dget _ _), sc, s, h => by simp [chk] at h
  | .listR (.dgetD _ _ _), sc, s, h => by simp [chk] at h
  | .listR (.dnew), sc, s, h => by simp [chk] at h
  | .listR (.ddisp _ _), sc, s, h => by simp [chk] at h
  | .tupleR (.nil), sc, s, h => by simp [chk] at h
  | .tupleR (.cons _ _), sc, s, h => by simp [chk] at h
  | .tupleR (.star _), sc, s, h => by simp [chk] at h
  | .tupleR (.var _), sc, s, h => by simp [chk] at h
  | .tupleR (.int _), sc, s, h => by simp [chk] at h
  | .tupleR (.bl _), sc, s, h => by simp [chk] at h
  | .tupleR (.non), sc, s, h => by simp [chk] at h
  | .tupleR (.str _), sc, s, h => by simp [chk] at h
  | .tupleR (.glob _), sc, s, h => by simp [chk] at h
  | .tupleR (.bin _ _ _), sc, s, h => by simp [chk] at h
  | .tupleR (.neg _), sc, s, h => by simp [chk] at h
  | .tupleR (.nt _), sc, s, h => by simp [chk] at h
  | .tupleR (.cmp _ _ _), sc, s, h => by simp [chk] at h
  | .tupleR (.and _ _), sc, s, h => by simp [chk] at h
  | .tupleR (.or _ _), sc, s, h => by simp [chk] at h
  | .tupleR (.ite _ _ _), sc, s, h => by simp [chk] at h
  | .tupleR (.tupE _), sc, s, h => by simp [chk] at h
  | .tupleR (.lstE _), sc, s, h => by simp [chk] at h
  | .tupleR (.mk _), sc, s, h => by simp [chk] at h
  | .tupleR (.orL _ _), sc, s, h => by simp [chk] at h
  | .tupleR (.idx _ _), sc, s, h => by simp [chk] at h
  | .tupleR (.sl _ _ _), sc, s, h => by simp [chk] at h
  | .tupleR (.lc _ _ _ _ _), sc, s, h => by simp [chk] at h
  | .tupleR (.it _), sc, s, h => by simp [chk] at h
  | .tupleR (.rng2 _ _), sc, s, h => by simp [chk] at h
  | .tupleR (.zip _ _), sc, s, h => by simp [chk] at h
  | .tupleR (.enm _), sc, s, h => by simp [chk] at h
  | .tupleR (.call _ _), sc, s, h => by simp [chk] at h
  | .tupleR (.len _), sc, s, h => by simp [chk] at h
  | .tupleR (.tuple _), sc, s, h => by simp [chk] at h
  | .tupleR (.list _), sc, s, h => by simp [chk] at h
  | .tupleR (.listR _), sc, s, h => by simp [chk] at h
  | .tupleR (.tupleR _), sc, s, h => by simp [chk] at h
  | .tupleR (.absE _), sc, s, h => by simp [chk] at h
  | .tupleR (.intE _), sc, s, h => by simp [chk] at h
  | .tupleR (.allE _), sc, s, h => by simp [chk] at h
  | .tupleR (.anyE _), sc, s, h => by simp [chk] at h
  | .tupleR (.maxE _), sc, s, h => by simp [chk] at h
  | .tupleR (.min2 _ _), sc, s, h => by simp [chk] at h
  | .tupleR (.sorted _), sc, s, h => by simp [chk] at h
  | .tupleR (.isi _ _), sc, s, h => by simp [chk] at h
  | .tupleR (.popAt _ _), sc, s, h => by simp [chk] at h
  | .tupleR (.dget _ _), sc, s, h => by simp [chk] at h
  | .tupleR (.dgetD _ _ _), sc, s, h => by simp [chk] at h
  | .tupleR (.dnew), sc, s, h => by simp [chk] at h
  | .tupleR (.ddisp _ _), sc, s, h => by simp [chk] at h
end
end Ev

set_option Elab.async false
set_option linter.all false
set_option maxRecDepth 100000
set_option maxHeartbeats 4000000
set_option autoImplicit false
/-! the checker: statements -/
namespace Ev
open PySem PySem.Spec PyProof.Rows L2
def lcOf : Ex → Option (Bool × Ex × Tg × Ex × Ex × List Nat)
  | .lc elt t it cnd own => some (false, elt, t, it, cnd, own)
  | .mk (.lc elt t it cnd own) => some (true, elt, t, it, cnd, own)
  | _ => none
def storB (sc : Scope) (x : Str) : Bool := isSome' (sc.names.lookup x) .local || isSome' (sc.names.lookup x) .cell
section
variable (N : List Str) (fns : List (Str × Nat)) (cns : List (Str × D))
def chkL : Lv → Scope → Sum Expr (List Expr) → Bool
  | .nm i, sc, .inl (.Name x _) => eqO N[i]? x && storB sc x
  | .sub o i, sc, .inl (.Subscript a b _) => plainIx b && chk N fns cns o sc (.e a) && chk N fns cns i sc (.e b)
  | .tup l, sc, .inl (.Tuple es _ _) => es.all tgOk && chkL l sc (.inr es)
  | .tnil, _, .inr [] => true
  | .tcons a b, sc, .inr (e :: es) => tgOk e && chkL a sc (.inl e) && chkL b sc (.inr es)
  | _, _, _ => false
def nmIs (l : Lv) (y : Str) : Bool := match l with
  | .nm i => eqO N[i]? y
  | _ => false
def asgB (l : Lv) (x : Ex) (sc : Scope) : Stmt → Bool
  | .Assign [.Name y py] (.ListComp elt gens scope pos) _ => nmIs N l y &&
    (if isSome' (sc.names.lookup y) .local then (py.line == pos.line) && !(scope.names.any fun (n, k) => n == y && (k == .local || k == .cell)) && (match lcOf x with
      | some (_, xe, t, it, cnd, own) => lcB N sc (fun s e => chk N fns cns xe s (.e e)) t (fun tg e => chk N fns cns it sc (.i tg e)) (fun s es => chk N fns cns cnd s (.ts es)) own (.ListComp elt gens scope pos)
      | none => false)
    else isSome' (sc.names.lookup y) .cell && chk N fns cns x sc (.e (.ListComp elt gens scope pos)))
  | .Assign [tg] e _ => tgOk tg && !isComp e && chkL N fns cns l sc (.inl tg) && chk N fns cns x sc (.e e) && (!isTup e || tgNo tg || (match tg, e with
    | .Tuple ts _ _, .Tuple vs _ _ => decide (swapO sc ts vs = some none)
    | _, _ => false))
  | _ => false
def parB (l : Lv) (x : Ex) (sc : Scope) : Stmt → Bool
  | .Assign [.Tuple [.Name y py, .Name z pz] _ _] (.Tuple [a, b] _ _) _ => (match l with
    | .tcons (.nm i) (.tcons (.nm j) .tnil) => eqO N[i]? y && eqO N[j]? z && !decide (i = j)
    | _ => false) && isSome' (sc.names.lookup y) .local && isSome' (sc.names.lookup z) .local && decide (swapO sc [.Name y py, .Name z pz] [a, b] = some (some [y, z])) && chk N fns cns x sc (.a [a, b])
  | .Assign [.Tuple [.Name y py, .Name z pz, .Name u pu] _ _] (.Tuple [a, b, c] _ _) _ => (match l with
    | .tcons (.nm i) (.tcons (.nm j) (.tcons (.nm k) .tnil)) => eqO N[i]? y && eqO N[j]? z && eqO N[k]? u && !decide (i = j) && !decide (i = k) && !decide (j = k)
    | _ => false) && isSome' (sc.names.lookup y) .local && isSome' (sc.names.lookup z) .local && isSome' (sc.names.lookup u) .local && decide (swapO sc [.Name y py, .Name z pz, .Name u pu] [a, b, c] = some (some [y, z, u])) && chk N fns cns x sc (.a [a, b, c])
  | _ => false
/-- a zip under a name, walked by one comprehension -/
def zip2B (a b : Sm) (sc : Scope) : List Stmt → Bool
  | [.Assign [.Name y _] (.Call (.Name zn _) [e, f] [] _) _, .Return (some (.Call (.Name tn _) [.ListComp elt [⟨.Tuple elts kk tpos, .Name y2 _, ifs, 0⟩] scope _] [] _)) _] => (match a, b with
    | .ret (.tuple (.lc xe t (.zip x1 x2) xc own)), .done => decide (sc.kind = .function) && eqS zn "zip" && eqS tn "tuple" && eqS y2 y && isSome' (sc.names.lookup y) .local && !(y == ("__debug__" : Str)) && !(y == ("__classdict__" : Str)) &&
        chk N fns cns x1 sc (.e e) && chk N fns cns x2 sc (.e f) && notStar e && notStar f && glB sc "zip" && glB sc "tuple" && blkB N sc scope own && chkT N (locB scope sc) t (.inl (.Tuple elts kk tpos)) && (tgIx t).all (fun j => own.contains j) &&
        chk N fns cns xc (relS scope sc) (.ts ifs) && chk N fns cns xe (relS scope sc) (.e elt) && own.any (fun k => eqO N[k]? y)
    | _, _ => false)
  | _ => false
/-- wide = tuple(..); later[wide] = value: what is left behind them -/
def dput2B (a : Sm) (sc : Scope) : List Stmt → Option (List Stmt)
  | .Assign [.Name nm _] (.Call (.Name tn _) [e] [] _) _ :: .Assign [.Subscript o (.Name nm2 _) _] value _ :: ss => (match a with
    | .dput i x xo xe => if eqO N[i]? nm && storB sc nm && visB sc nm && !(nm == ("__debug__" : Str)) && !(nm == ("__classdict__" : Str)) && eqS tn "tuple" && eqS nm2 nm && glB sc "tuple" && notStar e && !isComp value &&
        chk N fns cns x sc (.e e) && chk N fns cns xo sc (.e o) && chk N fns cns xe sc (.e value) then some ss else none
    | _ => none)
  | _ => none
def chkS : Sm → Scope → Sum Stmt (List Stmt) → Bool
  | .done => fun _ s => match s with
    | .inr [] => true
    | _ => false
  | .never => fun _ s => match s with
    | .inr _ => true
    | _ => false
  | .seq a b => fun sc s => match s with
    | .inr (st :: sts) => (chkS a sc (.inl st) && chkS b sc (.inr sts)) || zip2B N fns cns a b sc (st :: sts) || (match dput2B N fns cns a sc (st :: sts) with
        | some ss => chkS b sc (.inr ss)
        | none => false)
    | _ => false
  | .ret e => fun sc s => match s with
    | .inl (.Return (some v) _) => chk N fns cns e sc (.e v)
    | _ => false
  | .asg l e => fun sc s => match s with
    | .inl st => asgB N fns cns l e sc st
    | _ => false
  | .asgP l e => fun sc s => match s with
    | .inl st => decide (sc.kind = .function) && parB N fns cns l e sc st
    | _ => false
  | .app o e => fun sc s => match s with
    | .inl (.Expr v _) => meth1 "append" (fun a => chk N fns cns o sc (.e a)) (fun a => chk N fns cns e sc (.e a)) v
    | _ => false
  | .ext o e => fun sc s => match s with
    | .inl (.Expr v _) => meth1 "extend" (fun a => chk N fns cns o sc (.e a)) (fun a => chk N fns cns e sc (.e a)) v
    | _ => false
  | .ite c a b => fun sc s => match s with
    | .inl (.If t x y _) => chk N fns cns c sc (.t t) && chkS a sc (.inr x) && chkS b sc (.inr y)
    | _ => false
  | .forL t i b => fun sc s => match s with
    | .inl (.For tg iter body [] _) => chkT N (storB sc) t (.inl tg) && notSet iter && chk N fns cns i sc (.i tg iter) && chkS b sc (.inr body)
    | _ => false
  | .whl c b => fun sc s => match s with
    | .inl (.While t body [] _) => chk N fns cns c sc (.t t) && chkS b sc (.inr body)
    | _ => false
  | .forD t i b => fun sc s => match s with
    | .inl (.For tg (.Name nm _) body [] _) => eqO N[i]? nm && visB sc nm && !(nm == ("__debug__" : Str)) && !(nm == ("__classdict__" : Str)) && chkT N (storB sc) t (.inl tg) && chkS b sc (.inr body)
    | _ => false
  | .cnt => fun _ s => match s with
    | .inl (.Continue _) => true
    | _ => false
  | _ => fun _ _ => false
end
section
variable {p : Pl} (ok : p.Ok) {sc : Scope}
theorem storB_ok {x : Str} (h : storB sc x = true) : LocF (FamD p sc) x := by
  intro X hX
  refine ⟨?_, .inl (hX.fn x)⟩
  show Loc X.env.scope x
  rw [hX.fam.sc]
  unfold storB at h
  rw [Bool.or_eq_true] at h
  exact h.elim (fun z => .inl (isSome_ok z)) (fun z => .inr (isSome_ok z))
include ok
theorem chkL_ok : ∀ (l : Lv) (s : Sum Expr (List Expr)), chkL p.N p.fns p.cns l sc s = true → match s with
    | .inl e => SL p sc e l
    | .inr es => SLs p sc es l
  | .nm i, .inl e, h => by
    cases e with
    | Name x _ =>
      simp only [chkL] at h
      obtain ⟨h1, h2⟩ := ba h
      exact sl_nm ok.nd (eqO_ok h1) (storB_ok h2)
    | _ => simp [chkL] at h
  | .sub o i, .inl e, h => by
    cases e with
    | Subscript a b _ =>
      simp only [chkL] at h
      obtain ⟨h, h3⟩ := ba h
      obtain ⟨h1, h2⟩ := ba h
      exact sl_sub (chk_ok ok o sc (.e a) h2) (chk_ok ok i sc (.e b) h3) h1
    | _ => simp [chkL] at h
  | .tup l, .inl e, h => by
    cases e with
    | Tuple es _ _ =>
      simp only [chkL] at h
      obtain ⟨h1, h2⟩ := ba h
      exact sl_tup h1 (chkL_ok l (.inr es) h2)
    | _ => simp [chkL] at h
  | .tnil, .inl e, h => by cases e <;> simp [chkL] at h
  | .tcons a b, .inl e, h => by cases e <;> simp [chkL] at h
  | .nm i, .inr es, h => by cases es <;> simp [chkL] at h
  | .sub o i, .inr es, h => by cases es <;> simp [chkL] at h
  | .tup l, .inr es, h => by cases es <;> simp [chkL] at h
  | .tnil, .inr [], h => sls_nil
  | .tnil, .inr (e :: es), h => by simp [chkL] at h
  | .tcons a b, .inr [], h => by simp [chkL] at h
  | .tcons a b, .inr (e :: es), h => by
    simp only [chkL] at h
    obtain ⟨h, h3⟩ := ba h
    obtain ⟨h1, h2⟩ := ba h
    exact sls_cons h1 (chkL_ok a (.inl e) h2) (chkL_ok b (.inr es) h3)
theorem asgB_ok {l : Lv} {x : Ex} {st : Stmt} (h : asgB p.N p.fns p.cns l x sc st = true) (hk : sc.kind = .function) : SS p sc st (.asg l x) := by
  unfold asgB at h
  split at h
  · rename_i y py elt gens scope pos spos
    obtain ⟨h1, g⟩ := ba h
    clear h
    have hl : ∃ i, l = .nm i ∧ p.N[i]? = some y := by
      unfold nmIs at h1
      split at h1
      · exact ⟨_, rfl, eqO_ok h1⟩
      · cases h1
    obtain ⟨i, rfl, hN⟩ := hl
    split at g
    · rename_i hloc
      obtain ⟨g, h4⟩ := ba g
      obtain ⟨h2, h3⟩ := ba g
      split at h4
      · rename_i m xe t it cnd own hx
        obtain ⟨elt', tg, iter, ifs, scope', pos', own', e1, q1, q2, q3, q4, q5, q6, q7, q8⟩ := lc_parts ok.nd h4 (fun s e z => chk_ok ok xe s (.e e) z) (fun tg e z => chk_ok ok it sc (.i tg e) z) (fun s es z => chk_ok ok cnd s (.ts es) z)
        cases e1
        subst q8
        have := ss_setLc (pos := pos) (spos := spos) (py := py) m ok.nd hN (isSome_ok hloc) h2 (nb h3) q1 q2 q3 q4 q5 q6 q7
        unfold lcOf at hx
        split at hx
        · cases hx; exact this
        · cases hx; exact this
        · cases hx
      · cases h4
    · obtain ⟨h2, h3⟩ := ba g
      have h2 := isSome_ok h2
      refine ss_asg (chk_ok ok x sc (.e _) h3) (sl_nm ok.nd hN ?_) (fun X hX => sole_cell (by rw [hX.fam.sc]; exact h2) _) (fun X hX => swap_none2 rfl) rfl
      exact storB_ok (by unfold storB isSome'; rw [h2]; decide)
  · rename_i tg e pos hne
    obtain ⟨h, h5⟩ := ba h
    obtain ⟨h, h4⟩ := ba h
    obtain ⟨h, h3⟩ := ba h
    obtain ⟨h1, h2⟩ := ba h
    refine ss_asg (chk_ok ok x sc (.e _) h4) (chkL_ok ok l (.inl tg) h3) (fun X hX => sole_no (nb h2) _ _) (fun X hX => ?_) h1
    rw [Bool.or_eq_true, Bool.or_eq_true] at h5
    rcases h5 with (h5 | h5) | h5
    · exact swap_none1 (nb h5)
    · exact swap_none2 h5
    · split at h5
      · exact swapO_ok hX.fam.sc hk (of_decide_eq_true h5) _ _ _ _
      · cases h5
  · cases h
theorem parB_ok {l : Lv} {x : Ex} {st : Stmt} (h : parB p.N p.fns p.cns l x sc st = true) (hk : sc.kind = .function) : SS p sc st (.asgP l x) := by
  unfold parB at h
  split at h
  · obtain ⟨h, h5⟩ := ba h
    obtain ⟨h, h4⟩ := ba h
    obtain ⟨h, h3⟩ := ba h
    obtain ⟨h1, h2⟩ := ba h
    split at h1
    · obtain ⟨h1, k3⟩ := ba h1
      obtain ⟨k1, k2⟩ := ba h1
      exact ss_par2 ok.nd (eqO_ok k1) (eqO_ok k2) (of_decide_eq_false (nb k3)) (isSome_ok h2) (isSome_ok h3) (chk_ok ok x sc (.a _) h5) hk (of_decide_eq_true h4)
    · cases h1
  · obtain ⟨h, h5⟩ := ba h
    obtain ⟨h, h4⟩ := ba h
    obtain ⟨h, h6⟩ := ba h
    obtain ⟨h, h3⟩ := ba h
    obtain ⟨h1, h2⟩ := ba h
    split at h1
    · obtain ⟨h1, k6⟩ := ba h1
      obtain ⟨h1, k5⟩ := ba h1
      obtain ⟨h1, k4⟩ := ba h1
      obtain ⟨h1, k3⟩ := ba h1
      obtain ⟨k1, k2⟩ := ba h1
      exact ss_par3 ok.nd (eqO_ok k1) (eqO_ok k2) (eqO_ok k3) (of_decide_eq_false (nb k4)) (of_decide_eq_false (nb k5)) (of_decide_eq_false (nb k6)) (isSome_ok h2) (isSome_ok h3) (isSome_ok h6) (chk_ok ok x sc (.a _) h5) hk (of_decide_eq_true h4)
    · cases h1
  · cases h
theorem zip2_ok {a b : Sm} {sts : List Stmt} (h : zip2B p.N p.fns p.cns a b sc sts = true) : SSs p sc sts (.seq a b) := by
  unfold zip2B at h
  split at h
  · split at h
    · obtain ⟨h, c19⟩ := ba h
      obtain ⟨h, c18⟩ := ba h
      obtain ⟨h, c17⟩ := ba h
      obtain ⟨h, c16⟩ := ba h
      obtain ⟨h, c15⟩ := ba h
      obtain ⟨h, c14⟩ := ba h
      obtain ⟨h, c13⟩ := ba h
      obtain ⟨h, c12⟩ := ba h
      obtain ⟨h, c11⟩ := ba h
      obtain ⟨h, c10⟩ := ba h
      obtain ⟨h, c9⟩ := ba h
      obtain ⟨h, c8⟩ := ba h
      obtain ⟨h, c7⟩ := ba h
      obtain ⟨h, c6⟩ := ba h
      obtain ⟨h, c5⟩ := ba h
      obtain ⟨h, c4⟩ := ba h
      obtain ⟨h, c3⟩ := ba h
      obtain ⟨c1, c2⟩ := ba h
      cases eqS_ok c2
      cases eqS_ok c3
      cases eqS_ok c4
      obtain ⟨b1, b2⟩ := blkB_ok c14
      rw [List.any_eq_true] at c19
      obtain ⟨k, hk1, hk2⟩ := c19
      rw [List.all_eq_true] at c16
      have key := fun (py py2 p1 p2 q1 q2 spos rpos lpos : Pos) => ss_zip2 (k := k) (py := py) (py2 := py2) (p1 := p1) (p2 := p2) (q1 := q1) (q2 := q2) (spos := spos) (rpos := rpos) (lpos := lpos) ok (of_decide_eq_true c1) (eqO_ok hk2) (isSome_ok c5) (nb c6) (nb c7) (chk_ok ok _ sc (.e _) c8) (chk_ok ok _ sc (.e _) c9) c10 c11 (glB_ok c12) (glB_ok c13) b1
        (chkT_ok fok_b ok.nd (fun x => locB_ok) _ (.inl _) c15) (chk_ok ok _ _ (.ts _) c17) (chk_ok ok _ _ (.e _) c18) (fun j hj => by rw [b2]; simpa using c16 j hj) (by rw [b2]; exact hk1)
      simp only [b2] at key
      exact key _ _ _ _ _ _ _ _ _
    · cases h
  · cases h
theorem dput2_ok {a b : Sm} {sts ss : List Stmt} (h : dput2B p.N p.fns p.cns a sc sts = some ss) (hb : SSs p sc ss b) : SSs p sc sts (.seq a b) := by
  unfold dput2B at h
  split at h
  · split at h
    · split at h
      · rename_i c
        cases h
        obtain ⟨c, c13⟩ := ba c
        obtain ⟨c, c12⟩ := ba c
        obtain ⟨c, c11⟩ := ba c
        obtain ⟨c, c10⟩ := ba c
        obtain ⟨c, c9⟩ := ba c
        obtain ⟨c, c8⟩ := ba c
        obtain ⟨c, c7⟩ := ba c
        obtain ⟨c, c6⟩ := ba c
        obtain ⟨c, c5⟩ := ba c
        obtain ⟨c, c4⟩ := ba c
        obtain ⟨c, c3⟩ := ba c
        obtain ⟨c1, c2⟩ := ba c
        cases eqS_ok c6
        cases eqS_ok c7
        exact ss_dput ok (eqO_ok c1) (storB_ok c2) (visB_ok c3) (nb c4) (nb c5) (chk_ok ok _ sc (.e _) c11) (glB_ok c8) c9 (chk_ok ok _ sc (.e _) c12) (chk_ok ok _ sc (.e _) c13) (nb c10) hb
      · cases h
    · cases h
  · cases h
theorem chkS_ok (hk : sc.kind = .function) : ∀ (x : Sm) (s : Sum Stmt (List Stmt)), chkS p.N p.fns p.cns x sc s = true → match s with
    | .inl e => SS p sc e x
    | .inr es => SSs p sc es x
  | .done, s, h => by
    simp only [chkS] at h
    split at h
    · exact ss_nil
    · cases h
  | .never, s, h => by
    simp only [chkS] at h
    split at h
    · exact ss_never
    · cases h
  | .seq a b, s, h => by
    simp only [chkS] at h
    split at h
    · rw [Bool.or_eq_true, Bool.or_eq_true] at h
      rcases h with (h | h) | h
      · exact ss_cons (chkS_ok hk a (.inl _) (ba h).1) (chkS_ok hk b (.inr _) (ba h).2)
      · exact zip2_ok ok h
      · split at h
        · rename_i ss hd
          exact dput2_ok ok hd (chkS_ok hk b (.inr ss) h)
        · cases h
    · cases h
  | .ret e, s, h => by
    simp only [chkS] at h
    split at h
    · exact ss_ret (chk_ok ok e sc (.e _) h)
    · cases h
  | .asg l e, s, h => by
    simp only [chkS] at h
    split at h
    · exact asgB_ok ok h hk
    · cases h
  | .asgP l e, s, h => by
    simp only [chkS] at h
    split at h
    · exact parB_ok ok (ba h).2 hk
    · cases h
  | .app o e, s, h => by
    simp only [chkS] at h
    split at h
    · obtain ⟨o', apos, a, cpos, rfl, h2, h3, h4, h5, h6⟩ := meth1_ok h
      exact ss_app (chk_ok ok o sc (.e _) h5) (chk_ok ok e sc (.e _) h6) h2 h3 h4
    · cases h
  | .ext o e, s, h => by
    simp only [chkS] at h
    split at h
    · obtain ⟨o', apos, a, cpos, rfl, h2, h3, h4, h5, h6⟩ := meth1_ok h
      exact ss_ext (chk_ok ok o sc (.e _) h5) (chk_ok ok e sc (.e _) h6) h2 h3 h4
    · cases h
  | .ite c a b, s, h => by
    simp only [chkS] at h
    split at h
    · obtain ⟨h, h3⟩ := ba h
      obtain ⟨h1, h2⟩ := ba h
      exact ss_ite (chk_ok ok c sc (.t _) h1) (chkS_ok hk a (.inr _) h2) (chkS_ok hk b (.inr _) h3)
    · cases h
  | .forL t i b, s, h => by
    simp only [chkS] at h
    split at h
    · obtain ⟨h, h4⟩ := ba h
      obtain ⟨h, h3⟩ := ba h
      obtain ⟨h1, h2⟩ := ba h
      exact ss_for (chk_ok ok i sc (.i _ _) h3) (chkT_ok fok_d ok.nd (fun x => storB_ok) t (.inl _) h1) (chkS_ok hk b (.inr _) h4) h2
    · cases h
  | .whl c b, s, h => by
    simp only [chkS] at h
    split at h
    · exact ss_whl (chk_ok ok c sc (.t _) (ba h).1) (chkS_ok hk b (.inr _) (ba h).2)
    · cases h
  | .cnt, s, h => by
    simp only [chkS] at h
    split at h
    · exact ss_cnt
    · cases h
  | .brk, s, h => by simp [chkS] at h
  | .dput _ _ _ _, s, h => by simp [chkS] at h
  | .forD t i b, s, h => by
    simp only [chkS] at h
    split at h
    · obtain ⟨h, c6⟩ := ba h
      obtain ⟨h, c5⟩ := ba h
      obtain ⟨h, c4⟩ := ba h
      obtain ⟨h, c3⟩ := ba h
      obtain ⟨c1, c2⟩ := ba h
      exact ss_forD (eqO_ok c1) (visB_ok c2) (nb c3) (nb c4) (chkT_ok fok_d ok.nd (fun x => storB_ok) t (.inl _) c5) (chkS_ok hk b (.inr _) c6)
    · cases h
end
end Ev

set_option Elab.async false
set_option linter.all false
set_option maxRecDepth 100000
set_option maxHeartbeats 4000000
set_option autoImplicit false
/-! the end: facts of the top, the law's def -/
namespace Ev
open PySem PySem.Spec PyProof.Rows L2
def bodyOf : Stmt → List Stmt
  | .FunctionDef (body := b) .. => b
  | _ => []
def scopeOf : Stmt → Scope
  | .FunctionDef (scope := s) .. => s
  | _ => ⟨.function, [], false, false, []⟩
def argsOf : Stmt → Arguments
  | .FunctionDef (args := a) .. => a
  | _ => ⟨[], [], none, [], [], none, []⟩
def dOf (nm : Str) (st : Stmt) : He.DefD := ⟨(nm, none), nm, nm, argsOf st, bodyOf st, scopeOf st, [], []⟩
/-! ### facts: defs, built-ins left free, constants -/
def tupsB (K : PySem.W.Frag) (ts : List (Str × List Int)) : Bool := ts.all fun t => He.tupB K t.1 (t.2.map He.Dv.int)
abbrev AlX : Type := He.AlD × Bool
def obsX (n : Nat) (fa : List He.Fa) (fn : List He.DefD) (ts : List (Str × List Int)) (g : Addr → Option Obj) : AlX :=
  (He.obsD fa fn (He.frG g (He.asD g n)), tupsB (He.frG g (He.asD g n)) ts)
def SaysX (fa : List He.Fa) (fn : List He.DefD) (ts : List (Str × List Int)) (K : PySem.W.Frag) : Prop := He.SaysD fa fn K ∧ tupsB K ts = true
def hookX (n : Nat) (fa : List He.Fa) (fn : List He.DefD) (ts : List (Str × List Int)) : PySem.W.Hook where
  α := AlX
  obs := fun s => obsX n fa fn ts s.heap.get?
  val := fun _ => (He.valD fn, true)
  says := fun _ h => ∃ K : PySem.W.Frag, K.In h ∧ SaysX fa fn ts K
  of := fun _ _ e => ⟨_, He.frG_in, (congrArg (fun z : AlX => z.1) e : _), (congrArg (fun z : AlX => z.2) e : _)⟩
  keeps := fun _ _ _ ⟨K, hK, c⟩ k => ⟨K, PySem.W.Frag.In.keeps hK k, c⟩
theorem obsX_eq {n : Nat} {fa : List He.Fa} {fn : List He.DefD} {ts : List (Str × List Int)} {g : Addr → Option Obj} {s : Shared} (h : ∀ a, g a = s.heap.get? a) : obsX n fa fn ts g = (hookX n fa fn ts).obs s := by
  have e : g = s.heap.get? := funext h
  rw [e] <;> rfl
/-! ### a scope's look -/
def scB (N P : List Str) (sc : Scope) : Bool :=
  decide (sc.kind = .function) && !sc.isCoroutine && !sc.isGenerator && decide N.Nodup && decide (N.take P.length = P) && P.all (fun x => storB sc x) && sc.names.all (fun y => !decide (y.2 = .free))
theorem scB_ok {N P : List Str} {sc : Scope} (h : scB N P sc = true) : FnScope N P sc := by
  unfold scB at h
  obtain ⟨h, h7⟩ := ba h
  obtain ⟨h, h6⟩ := ba h
  obtain ⟨h, h5⟩ := ba h
  obtain ⟨h, h4⟩ := ba h
  obtain ⟨h, h3⟩ := ba h
  obtain ⟨h1, h2⟩ := ba h
  rw [List.all_eq_true] at h6 h7
  refine ⟨of_decide_eq_true h1, nb h2, nb h3, of_decide_eq_true h4, of_decide_eq_true h5, fun x hx => ?_, fun y hy => of_decide_eq_false (nb (h7 y hy))⟩
  have := h6 x hx
  unfold storB at this
  rw [Bool.or_eq_true] at this
  exact this.elim (fun z => .inl (isSome_ok z)) (fun z => .inr (isSome_ok z))
/-- plain parameters -/
def plainArgs (ps : List Str) (a : Arguments) : Bool :=
  a.posonlyargs.isEmpty && a.vararg.isNone && a.kwonlyargs.isEmpty && a.kwarg.isNone && a.defaults.isEmpty && decide (a.args.map (·.arg) = ps)
theorem con_int {K : PySem.W.Frag} {h : Heap} {mg : Str → Option Value} (X : K.In h) (G : h.Ns mainGlobals mg) {x : Str} {i : Int} (c : (He.Fa.int x i).ok K = true) : ∃ v u, mg x = some u ∧ RelV v u ∧ ∀ μ H, Is K μ H v (.int i) := by
  obtain ⟨t, e⟩ := He.int_ok X G c
  exact ⟨.int i, _, e, ⟨t, rfl⟩, fun μ H => .int i⟩
theorem con_tup {K : PySem.W.Frag} {h : Heap} {mg : Str → Option Value} (X : K.In h) (G : h.Ns mainGlobals mg) {x : Str} {ns : List Int} (c : (He.Fa.glo x).ok K = true) (t : He.tupB K x (ns.map He.Dv.int) = true) :
    ∃ v u, mg x = some u ∧ RelV v u ∧ ∀ μ H, Is K μ H v (.tup (ns.map .int)) := by
  refine ⟨.ref (He.ga K x), _, He.glo_ok X G c, rfl, fun μ H => .tup (xs := ns.map V.int) (.inr fun H' => ?_) (isAll_ints ns)⟩
  have := He.tupB_ok t H'
  rw [List.map_map] at this
  exact this
def spLaw (K : PySem.W.Frag) (n : Nat) : Sp := fun vs H Q _ => ∃ (a : Addr) (ns : List Int), vs = [.ref a] ∧ ns.length ≤ n ∧ SqL K H a (ns.map V.int) ∧ ∀ H', Q (.bl true) H'
theorem law_fn {q : Pos1} {T : List Df} {cns : List (Str × D)} (o : PrOk q T cns) {k li n : Nat} {f : Df} (hf : T[li]? = some f) (har : f.ar = 1) (hp : ∀ ns : List Int, ns.length ≤ n → ∃ S', callF T (cns.map (·.2)) k li [.fz (ns.map .int)] [] = some (.bl true, S')) :
    FnOk q.P q.w q.K q.mg q.base CX0 k (o.lk li f hf).fa (o.lk li f hf).fd (o.lk li f hf).ps (spLaw q.K n) := by
  refine (fns_ok o k li f hf).imp fun vs H Q E h => ?_
  obtain ⟨a, ns, rfl, hl, hS, hQ⟩ := h
  obtain ⟨S', hc⟩ := hp ns hl
  refine ⟨⟨[], []⟩, [], [.fz (ns.map .int)], .bl true, S', by rw [har]; rfl, ⟨rfl, List.nodup_nil, fun n a c h1 _ => by simp at h1, fun a ha => by cases ha⟩, .cons ?_ .nil, hc, fun v μ' H' _ _ iv => ?_⟩
  · refine .fz (xs := ns.map V.int) ?_ (isAll_ints ns)
    rcases hS with hS | hS
    · exact .inl ⟨⟨by simp, by simp⟩, hS⟩
    · exact .inr fun _ => .inr hS
  · cases iv; exact hQ H'
end Ev

set_option Elab.async false
set_option linter.all false
set_option maxRecDepth 100000
set_option maxHeartbeats 4000000
set_option autoImplicit false
/-! plain parameters are bound in their order -/
namespace Ev
open PySem PySem.Spec PyProof.Rows L2
theorem look_zip : ∀ {ps : List Str} {us : List Value} {x : Str}, us.length = ps.length → x ∈ ps → ((ps.zip us).lookup x).isNone = false
  | [], _, _, _, h => by cases h
  | p :: ps, [], _, h, _ => by simp at h
  | p :: ps, u :: us, x, h, hx => by
    rw [List.zip_cons_cons, List.lookup_cons]
    by_cases c : x = p
    · subst c; simp
    · have : (x == p) = false := beq_eq_false_iff_ne.mpr c
      rw [this]
      exact look_zip (by simpa using h) ((List.mem_cons.mp hx).resolve_left c)
theorem fm_congr {α β : Type} {f g : α → Option β} : ∀ {l : List α}, (∀ x ∈ l, f x = g x) → l.filterMap f = l.filterMap g
  | [], _ => rfl
  | x :: l, h => by
    rw [List.filterMap_cons, List.filterMap_cons, h x (List.mem_cons_self ..), fm_congr fun y hy => h y (List.mem_cons_of_mem _ hy)]
theorem fm_zip : ∀ {ps : List Str} {us : List Value}, us.length = ps.length → ps.Nodup → (ps.filterMap fun n => ((ps.zip us).lookup n).map (n, ·)) = ps.zip us
  | [], _, _, _ => rfl
  | p :: ps, [], h, _ => by simp at h
  | p :: ps, u :: us, h, nd => by
    rw [List.nodup_cons] at nd
    rw [List.filterMap_cons]
    have e : ((p :: ps).zip (u :: us)).lookup p = some u := by rw [List.zip_cons_cons, List.lookup_cons]; simp
    rw [e]
    simp only [Option.map_some]
    rw [List.zip_cons_cons]
    congr 1
    rw [← fm_zip (ps := ps) (us := us) (by simpa using h) nd.2]
    refine fm_congr fun x hx => ?_
    have : (x == p) = false := beq_eq_false_iff_ne.mpr fun z => nd.1 (by rw [← z]; exact hx)
    rw [List.lookup_cons, this, fm_zip (ps := ps) (us := us) (by simpa using h) nd.2]
theorem bind_plain {x qual : Str} {params : Arguments} {body : List Stmt} {scope : Scope} {kV doc pm : Value} {an : Option Addr} {cdv ct : Value} {ps : List Str} (hp : plainArgs ps params = true) (nd : ps.Nodup) (us : List Value) (hl : us.length = ps.length) :
    bindArgs (PySem.W.fnOf x qual params body scope .none kV doc pm an cdv ct) ⟨us, []⟩ = pure (ps.zip us) := by
  unfold plainArgs at hp
  obtain ⟨hp, h6⟩ := ba hp
  obtain ⟨hp, h5⟩ := ba hp
  obtain ⟨hp, h4⟩ := ba hp
  obtain ⟨hp, h3⟩ := ba hp
  obtain ⟨h1, h2⟩ := ba hp
  obtain ⟨po, as, va, ko, kd, kw, df⟩ := params
  simp only [List.isEmpty_iff, Option.isNone_iff_eq_none] at h1 h2 h3 h4 h5
  subst h1 h2 h3 h4 h5
  have h6 : as.map (·.arg) = ps := of_decide_eq_true h6
  have hm : (ps.filter fun n => ((ps.zip us).lookup n).isNone) = [] := List.filter_eq_nil_iff.mpr fun n hn => by rw [look_zip hl hn]; simp
  have hf := fm_zip hl nd
  have e0 : seqItems? Value.none = pure none := rfl
  unfold bindArgs
  simp [PySem.W.fnOf, h6, e0, hl, hm, hf]
end Ev

set_option Elab.async false
set_option linter.all false
set_option maxRecDepth 100000
set_option maxHeartbeats 4000000
set_option autoImplicit false
/-! a whole table of defs, looked at once -/
namespace Ev
open PySem PySem.Spec PyProof.Rows L2
def noSt : Stmt := .Pass ⟨0, 0, 0, 0⟩
def oneB (T : List Df) (slots : List (List Str)) (tops : List Stmt) (cns : List (Str × D)) (i : Nat) : Bool := match T[i]? with
  | some f => scB (slots.getD i []) ((slots.getD i []).take f.ar) (scopeOf (tops.getD i noSt)) && decide (f.n = (slots.getD i []).length) && decide (f.ar ≤ (slots.getD i []).length) &&
      plainArgs ((slots.getD i []).take f.ar) (argsOf (tops.getD i noSt)) && chkS (slots.getD i []) (T.map fun f => (f.name, f.ar)) cns f.body (scopeOf (tops.getD i noSt)) (.inr (bodyOf (tops.getD i noSt)))
  | none => true
def allB (T : List Df) (slots : List (List Str)) (tops : List Stmt) (cns : List (Str × D)) : Bool := (List.range T.length).all (oneB T slots tops cns)
theorem one_of {T : List Df} {slots : List (List Str)} {tops : List Stmt} {cns : List (Str × D)} (h : allB T slots tops cns = true) {i : Nat} {f : Df} (hf : T[i]? = some f) : oneB T slots tops cns i = true := by
  unfold allB at h
  rw [List.all_eq_true] at h
  exact h i (List.mem_range.mpr (List.getElem?_eq_some_iff.mp hf).1)
noncomputable def mkLk {q : Pos1} {T : List Df} {slots : List (List Str)} {tops : List Stmt} {cns : List (Str × D)} (h : allB T slots tops cns = true) {i : Nat} {f : Df} (hf : T[i]? = some f)
    (F : ∃ fd, FunD q.K f.name f.name (argsOf (tops.getD i noSt)) (bodyOf (tops.getD i noSt)) (scopeOf (tops.getD i noSt)) [] [] (He.fAd q.K (f.name, none)) fd) (hm : q.mg f.name = some (.ref (He.fAd q.K (f.name, none)))) : Lk q T cns f :=
  have o := one_of h hf
  have o' : (scB (slots.getD i []) ((slots.getD i []).take f.ar) (scopeOf (tops.getD i noSt)) && decide (f.n = (slots.getD i []).length) && decide (f.ar ≤ (slots.getD i []).length) &&
      plainArgs ((slots.getD i []).take f.ar) (argsOf (tops.getD i noSt)) && chkS (slots.getD i []) (T.map fun f => (f.name, f.ar)) cns f.body (scopeOf (tops.getD i noSt)) (.inr (bodyOf (tops.getD i noSt)))) = true := by
    unfold oneB at o
    rw [hf] at o
    exact o
  have a1 := (ba (ba (ba (ba o').1).1).1).1
  have a2 := (ba (ba (ba (ba o').1).1).1).2
  have a3 := (ba (ba (ba o').1).1).2
  have a4 := (ba (ba o').1).2
  have a5 := (ba o').2
  have sc := scB_ok a1
  { N := slots.getD i []
    ps := (slots.getD i []).take f.ar
    qual := f.name
    params := argsOf (tops.getD i noSt)
    body := bodyOf (tops.getD i noSt)
    scope := scopeOf (tops.getD i noSt)
    fa := He.fAd q.K (f.name, none)
    fd := Classical.choose F
    F := Classical.choose_spec F
    sc := sc
    hn := of_decide_eq_true a2
    har := by rw [List.length_take]; have := of_decide_eq_true a3; omega
    bd := FunD.bindsN (Classical.choose_spec F) fun kV doc pm an cdv ct us hl => bind_plain a4 (sc.nd.sublist (List.take_sublist _ _)) us hl
    bdA := fun s us hl => FunD.bindsA (Classical.choose_spec F) (fun kV doc pm an cdv ct us hl => bind_plain a4 (sc.nd.sublist (List.take_sublist _ _)) us hl) s us hl
    mg := hm
    run := fun k ok => chkS_ok ok sc.kind f.body (.inr _) a5 }
noncomputable def mkPr {q : Pos1} {T : List Df} {slots : List (List Str)} {tops : List Stmt} {cns : List (Str × D)} (h : allB T slots tops cns = true)
    (F : ∀ (i : Nat) (f : Df), T[i]? = some f → ∃ fd, FunD q.K f.name f.name (argsOf (tops.getD i noSt)) (bodyOf (tops.getD i noSt)) (scopeOf (tops.getD i noSt)) [] [] (He.fAd q.K (f.name, none)) fd) (hm : ∀ (i : Nat) (f : Df), T[i]? = some f → q.mg f.name = some (.ref (He.fAd q.K (f.name, none))))
    (blt : ∀ x ∈ blts, q.mg x = none) (con : ∀ x d, (x, d) ∈ cns → ∃ v u, q.mg x = some u ∧ RelV v u ∧ ∀ μ H, Is q.K μ H v d) : PrOk q T cns :=
  ⟨fun i f hf => mkLk h hf (F i f hf) (hm i f hf), blt, con⟩
/-! ### facts by place -/
section
variable {fa : List He.Fa} {fn : List He.DefD} {ts : List (Str × List Int)} {K : PySem.W.Frag}
theorem says_tup (c : SaysX fa fn ts K) {x : Str} {ns : List Int} (h : (x, ns) ∈ ts) : He.tupB K x (ns.map He.Dv.int) = true := by
  have := c.2
  unfold tupsB at this
  rw [List.all_eq_true] at this
  exact this _ h
end
/-- the law's def and what it promises -/
theorem law_facts {q : Pos1} {T : List Df} {slots : List (List Str)} {tops : List Stmt} {cns : List (Str × D)} (o : PrOk q T cns) {k li n : Nat} {f : Df} (hf : T[li]? = some f) (har : f.ar = 1)
    (hp : ∀ ns : List Int, ns.length ≤ n → ∃ S', callF T (cns.map (·.2)) k li [.fz (ns.map .int)] [] = some (.bl true, S')) (x : Str) (hx : (o.lk li f hf).ps = [x]) :
    (∀ (s : Shared) (v : Value), BindsTo s (o.lk li f hf).fd ⟨[v], []⟩ [(x, v)]) ∧ FnOk q.P q.w q.K q.mg q.base CX0 k (o.lk li f hf).fa (o.lk li f hf).fd [x] (spLaw q.K n) := by
  refine ⟨fun s v => ?_, ?_⟩
  · have := (o.lk li f hf).bdA s [v] (by rw [hx]; rfl)
    rw [hx] at this
    exact this
  · have := law_fn o hf har hp
    rw [hx] at this
    exact this
end Ev

set_option Elab.async false
set_option linter.all false
set_option maxRecDepth 100000
set_option maxHeartbeats 4000000
set_option autoImplicit false
/-! the head's facts, read off the tree name by name -/
namespace Ev
open PySem PySem.Spec PyProof.Rows L2
def nsG (g : Addr → Option Obj) (x : Str) : Option (Option Value) := match g mainGlobals with
  | some ⟨_, _, .dict es _, _⟩ => (match es.toList.find? (·.key.isStr x) with
      | some e => some (some e.val)
      | none => if es.toList.any (·.refKey) then none else some none)
  | _ => none
def adG (g : Addr → Option Obj) (x : Str) : Addr := match nsG g x with
  | some (some (.ref a)) => a
  | _ => 0
def refA : Value → Addr
  | .ref a => a
  | _ => 0
/-- the address of a def's code -/
def cdG (g : Addr → Option Obj) (x : Str) : Addr := match g (adG g x) with
  | some ⟨_, _, .func fd, _⟩ => refA fd.code
  | _ => 0
def cdB (g : Addr → Option Obj) (cd : Value) (q : Str) : Bool := match cd with
  | .ref c => (match g c with
      | some ⟨_, _, .fields vs, _⟩ => (match vs.toList with | _ :: .str n _ :: _ => n == q | _ => false)
      | _ => false)
  | _ => false
def dnB : Value → Bool
  | .none => true
  | _ => false
def isRf (v : Option (Option Value)) : Bool := match v with
  | some (some (.ref _)) => true
  | _ => false
/-- what a def's name stands for -/
def fnO (g : Addr → Option Obj) (x : Str) : Bool × He.FnW := match g (adG g x) with
  | some ⟨_, _, .func fd, _⟩ => (isRf (nsG g x) && cdB g fd.code x && dnB fd.defaults, some (fd.name, fd.qualname, fd.params, fd.body, fd.scope, fd.globals, fd.closure, fd.builtins))
  | _ => (false, none)
def freeB (g : Addr → Option Obj) (x : Str) : Bool := match nsG g x with
  | some none => true
  | _ => false
def intB (g : Addr → Option Obj) (x : Str) (i : Int) : Bool := match nsG g x with
  | some (some (.int j _)) => decide (j = i)
  | _ => false
def tupG (g : Addr → Option Obj) (x : Str) (ns : List Int) : Bool := isRf (nsG g x) && (match g (adG g x) with
  | some ⟨.type c, _, .seq its _, _⟩ => decide (c = "tuple") && (decide (its.size ≤ sizeLine) && He.relAll (ns.map V.int) its.toList)
  | _ => false)
abbrev AlG : Type := List (Bool × He.FnW) × Bool × Bool × Bool
def obsQ (fn : List He.DefD) (fr : List Str) (is : List (Str × Int)) (ts : List (Str × List Int)) (g : Addr → Option Obj) : AlG :=
  (fn.map fun d => fnO g d.name, fr.all fun x => freeB g x, is.all fun p => intB g p.1 p.2, ts.all fun t => tupG g t.1 t.2)
def valQ (fn : List He.DefD) : AlG := (fn.map fun d => (true, d.val), true, true, true)
structure SaysQ (fn : List He.DefD) (fr : List Str) (is : List (Str × Int)) (ts : List (Str × List Int)) (K : PySem.W.Frag) : Prop where
  fn : ∀ d ∈ fn, d.at_ = (d.name, none) → d.qual = d.name → d.dfl = [] → d.kwd = [] → d.ok K = true ∧ He.fnW K d.at_ = d.val ∧ (He.Fa.glo d.name).ok K = true
  fr : ∀ x ∈ fr, (He.Fa.free x).ok K = true
  is : ∀ p ∈ is, (He.Fa.int p.1 p.2).ok K = true
  ts : ∀ t ∈ ts, He.tupB K t.1 (t.2.map He.Dv.int) = true ∧ (He.Fa.glo t.1).ok K = true
theorem frG_look {g : Addr → Option Obj} {a : Addr} {o : Obj} (e : g a = some o) : ∀ {as : List Addr}, a ∈ as → (He.frG g as).lookup a = some o
  | b :: r, h => by
    unfold He.frG
    cases hb : g b with
    | none =>
      rw [List.filterMap_cons, hb]
      have : a ≠ b := fun z => by rw [z, hb] at e; cases e
      exact frG_look e ((List.mem_cons.mp h).resolve_left this)
    | some ob =>
      rw [List.filterMap_cons, hb]
      show List.lookup a ((b, ob) :: _) = _
      rw [List.lookup_cons]
      by_cases c : a = b
      · subst c
        rw [beq_self_eq_true]
        rw [hb] at e
        exact e
      · rw [beq_eq_false_iff_ne.mpr c]
        exact frG_look e ((List.mem_cons.mp h).resolve_left c)
def asQ (fn : List He.DefD) (ts : List (Str × List Int)) (g : Addr → Option Obj) : List Addr := mainGlobals :: ((fn.flatMap fun d => [adG g d.name, cdG g d.name]) ++ ts.map fun t => adG g t.1)
section
variable {g : Addr → Option Obj} {as : List Addr} (h0 : mainGlobals ∈ as)
include h0
theorem ns_eq {x : Str} {v : Option Value} (h : nsG g x = some v) : PySem.W.nsIn (He.frG g as) mainGlobals x = some v := by
  unfold nsG at h
  unfold PySem.W.nsIn
  cases e : g mainGlobals with
  | none => rw [e] at h; cases h
  | some o =>
    rw [frG_look e h0]
    rw [e] at h
    exact h
theorem ga_eq {x : Str} (h : isRf (nsG g x) = true) : He.ga (He.frG g as) x = adG g x ∧ PySem.W.nsIn (He.frG g as) mainGlobals x = some (some (.ref (adG g x))) := by
  unfold isRf at h
  split at h
  · rename_i a e
    have e2 := ns_eq h0 e
    have e3 : adG g x = a := by unfold adG; rw [e]
    rw [e3]
    exact ⟨by unfold He.ga; rw [e2], e2⟩
  · cases h
theorem glo_q {x : Str} (h : isRf (nsG g x) = true) : (He.Fa.glo x).ok (He.frG g as) = true := by
  obtain ⟨h1, h2⟩ := ga_eq h0 h
  show He.eqO _ _ = true
  rw [h1, h2]
  exact decide_eq_true rfl
theorem fn_q {d : He.DefD} (h : fnO g d.name = (true, d.val)) (ha : adG g d.name ∈ as) (hc : cdG g d.name ∈ as) (e1 : d.at_ = (d.name, none)) (e2 : d.qual = d.name) (e3 : d.dfl = []) (e4 : d.kwd = []) :
    d.ok (He.frG g as) = true ∧ He.fnW (He.frG g as) d.at_ = d.val ∧ (He.Fa.glo d.name).ok (He.frG g as) = true := by
  unfold fnO at h
  cases e : g (adG g d.name) with
  | none => rw [e] at h; cases (congrArg (fun z : Bool × He.FnW => z.1) h)
  | some o =>
    rw [e] at h
    obtain ⟨oc, od, dt, osl⟩ := o
    cases dt with
    | func fd =>
      have q1 : (isRf (nsG g d.name) && cdB g fd.code d.name && dnB fd.defaults) = true := congrArg (fun z : Bool × He.FnW => z.1) h
      have q2 : (some (fd.name, fd.qualname, fd.params, fd.body, fd.scope, fd.globals, fd.closure, fd.builtins) : He.FnW) = d.val := congrArg (fun z : Bool × He.FnW => z.2) h
      obtain ⟨q1, q5⟩ := ba q1
      obtain ⟨q3, q4⟩ := ba q1
      obtain ⟨h1, h2⟩ := ga_eq h0 q3
      have hf : He.fAd (He.frG g as) d.at_ = adG g d.name := by rw [e1]; exact h1
      have hl := frG_look e ha
      have hcd : PySem.W.codeIn (He.frG g as) fd.code d.qual = true := by
        rw [e2]
        unfold cdB at q4
        unfold PySem.W.codeIn
        cases ec : fd.code with
        | ref c =>
          rw [ec] at q4
          have ec2 : cdG g d.name = c := by
            unfold cdG
            rw [e]
            show refA fd.code = c
            rw [ec]; rfl
          cases eo : g c with
          | none => simp only [eo] at q4; cases q4
          | some oo =>
            have := frG_look eo (as := as) (by rw [← ec2]; exact hc)
            simp only [this]
            simp only [eo] at q4
            exact q4
        | _ => rw [ec] at q4; cases q4
      have hd : fd.defaults = .none := by
        unfold dnB at q5
        split at q5
        · assumption
        · cases q5
      refine ⟨?_, ?_, glo_q h0 q3⟩
      · unfold He.DefD.ok
        rw [hf]
        unfold PySem.W.keepIn
        simp only [hl, hcd, Bool.true_and]
        unfold He.DefD.dvs He.DefD.kws
        rw [e3, e4, hd]
        rfl
      · unfold He.fnW
        rw [hf, hl]
        exact q2
    | _ => cases (congrArg (fun z : Bool × He.FnW => z.1) h)
end
theorem says_q {fn : List He.DefD} {fr : List Str} {is : List (Str × Int)} {ts : List (Str × List Int)} {g : Addr → Option Obj} (h : obsQ fn fr is ts g = valQ fn) : SaysQ fn fr is ts (He.frG g (asQ fn ts g)) := by
  have h0 : mainGlobals ∈ asQ fn ts g := List.mem_cons_self ..
  have c1 : (fn.map fun d => fnO g d.name) = fn.map fun d => (true, d.val) := congrArg (fun z : AlG => z.1) h
  have c2 : (fr.all fun x => freeB g x) = true := congrArg (fun z : AlG => z.2.1) h
  have c3 : (is.all fun p => intB g p.1 p.2) = true := congrArg (fun z : AlG => z.2.2.1) h
  have c4 : (ts.all fun t => tupG g t.1 t.2) = true := congrArg (fun z : AlG => z.2.2.2) h
  rw [List.all_eq_true] at c2 c3 c4
  refine ⟨fun d hd e1 e2 e3 e4 => ?_, fun x hx => ?_, fun p hp => ?_, fun t ht => ?_⟩
  · have : fnO g d.name = (true, d.val) := List.map_inj_left.mp c1 d hd
    refine fn_q h0 this ?_ ?_ e1 e2 e3 e4
    · exact List.mem_cons_of_mem _ (List.mem_append_left _ (List.mem_flatMap.mpr ⟨d, hd, List.mem_cons_self ..⟩))
    · exact List.mem_cons_of_mem _ (List.mem_append_left _ (List.mem_flatMap.mpr ⟨d, hd, List.mem_cons_of_mem _ (List.mem_cons_self ..)⟩))
  · have q := c2 x hx
    unfold freeB at q
    split at q
    · rename_i e
      show He.eqO _ _ = true
      rw [ns_eq h0 e]
      exact decide_eq_true rfl
    · cases q
  · have q := c3 p hp
    unfold intB at q
    split at q
    · rename_i j t e
      show (match PySem.W.nsIn (He.frG g (asQ fn ts g)) mainGlobals p.1 with
        | some (some (.int j _)) => decide (j = p.2)
        | _ => false) = true
      rw [ns_eq h0 e]
      exact q
    · cases q
  · have q := c4 t ht
    unfold tupG at q
    obtain ⟨q1, q2⟩ := ba q
    refine ⟨?_, glo_q h0 q1⟩
    obtain ⟨h1, h2⟩ := ga_eq h0 q1
    unfold He.tupB
    rw [h1]
    cases e : g (adG g t.1) with
    | none => rw [e] at q2; cases q2
    | some o =>
      rw [frG_look e (as := asQ fn ts g) (List.mem_cons_of_mem _ (List.mem_append_right _ (List.mem_map.mpr ⟨t, ht, rfl⟩)))]
      rw [e] at q2
      have em : (t.2.map He.Dv.int).map (He.Dv.v (He.frG g (asQ fn ts g))) = t.2.map V.int := by rw [List.map_map]; rfl
      rw [em]
      exact q2
def hookQ (fn : List He.DefD) (fr : List Str) (is : List (Str × Int)) (ts : List (Str × List Int)) : PySem.W.Hook where
  α := AlG
  obs := fun s => obsQ fn fr is ts s.heap.get?
  val := fun _ => valQ fn
  says := fun _ h => ∃ K : PySem.W.Frag, K.In h ∧ SaysQ fn fr is ts K
  of := fun _ _ e => ⟨_, He.frG_in, says_q e⟩
  keeps := fun _ _ _ ⟨K, hK, c⟩ k => ⟨K, PySem.W.Frag.In.keeps hK k, c⟩
theorem obsQ_eq {fn : List He.DefD} {fr : List Str} {is : List (Str × Int)} {ts : List (Str × List Int)} {g : Addr → Option Obj} {s : Shared} (h : ∀ a, g a = s.heap.get? a) : obsQ fn fr is ts g = (hookQ fn fr is ts).obs s := by
  have e : g = s.heap.get? := funext h
  rw [e] <;> rfl
end Ev

set_option Elab.async false
set_option linter.all false
set_option maxRecDepth 100000
set_option autoImplicit false
namespace Ev
open PySem
def cns : List (Str × D) := [("NIL", (.tup [(.int (0)), (.int (1))])), ("ONE", (.tup [(.int (1)), (.int (1))])), ("PAIR", (.int (2))), ("HALF", (.tup [(.int (1)), (.int (2))])), ("LESS", (.tup [(.int (-1)), (.int (1))]))]
/-- tupled(thing): slots 0 thing 1 part -/
def n_tupled : List Str := ["thing", "part"]
def b_tupled : Sm :=
  (.seq (.ret (.ite (.isi [.list, .tuple] (.var 0)) (.tuple (.lc (.call 0 (.cons (.var 1) .nil)) (.nm 1) (.it (.var 0)) (.bl true) [1])) (.var 0)))
    .done)
/-- is_number(thing): slots 0 thing -/
def n_is_number : List Str := ["thing"]
def b_is_number : Sm :=
  (.seq (.ret (.and (.isi [.int] (.var 0)) (.nt (.isi [.bool] (.var 0)))))
    .done)
/-- is_count(thing): slots 0 thing -/
def n_is_count : List Str := ["thing"]
def b_is_count : Sm :=
  (.seq (.ret (.and (.call 1 (.cons (.var 0) .nil)) (.cmp .ge (.var 0) (.int 0))))
    .done)
/-- is_below(thing, bound): slots 0 thing 1 bound -/
def n_is_below : List Str := ["thing", "bound"]
def b_is_below : Sm :=
  (.seq (.ret (.and (.call 2 (.cons (.var 0) .nil)) (.cmp .lt (.var 0) (.var 1))))
    .done)
/-- is_tuple_of(thing, size): slots 0 thing 1 size -/
def n_is_tuple_of : List Str := ["thing", "size"]
def b_is_tuple_of : Sm :=
  (.seq (.ret (.and (.isi [.tuple] (.var 0)) (.cmp .eq (.len (.var 0)) (.var 1))))
    .done)
/-- are_numbers(thing, size): slots 0 thing 1 size 2 part -/
def n_are_numbers : List Str := ["thing", "size", "part"]
def b_are_numbers : Sm :=
  (.seq (.ret (.and (.call 4 (.cons (.var 0) (.cons (.var 1) .nil))) (.allE (.lc (.call 1 (.cons (.var 2) .nil)) (.nm 2) (.it (.var 0)) (.bl true) [2]))))
    .done)
/-- rises(things): slots 0 things 1 near 2 far -/
def n_rises : List Str := ["things", "near", "far"]
def b_rises : Sm :=
  (.seq (.ret (.allE (.lc (.cmp .lt (.var 1) (.var 2)) (.tup (.tcons (.nm 1) (.tcons (.nm 2) .tnil))) (.zip (.var 0) (.sl (.var 0) (.int 1) .nil)) (.bl true) [1, 2])))
    .done)
/-- pairs_below(size): slots 0 size 1 found 2 one 3 other -/
def n_pairs_below : List Str := ["size", "found", "one", "other"]
def b_pairs_below : Sm :=
  (.seq (.asg (.nm 1) (.mk (.lstE .nil)))
    (.seq (.forL (.nm 2) (.rng1 (.var 0))
    (.seq (.ext (.var 1) (.lc (.tupE (.cons (.var 2) (.cons (.var 3) .nil))) (.nm 3) (.rng2 (.bin .add (.var 2) (.int 1)) (.var 0)) (.bl true) [3]))
    .done))
    (.seq (.ret (.var 1))
    .done)))
/-- is_lot(thing, bound): slots 0 thing 1 bound 2 part -/
def n_is_lot : List Str := ["thing", "bound", "part"]
def b_is_lot : Sm :=
  (.seq (.ret (.and (.isi [.tuple] (.var 0)) (.and (.allE (.lc (.call 3 (.cons (.var 2) (.cons (.var 1) .nil))) (.nm 2) (.it (.var 0)) (.bl true) [2])) (.call 6 (.cons (.var 0) .nil)))))
    .done)
/-- sure_lot(lot, bound): slots 0 lot 1 bound 2 own -/
def n_sure_lot : List Str := ["lot", "bound", "own"]
def b_sure_lot : Sm :=
  (.seq (.asg (.nm 2) (.call 0 (.cons (.var 0) .nil)))
    (.seq (.ite (.nt (.call 8 (.cons (.var 2) (.cons (.var 1) .nil))))
    .never
    .done)
    (.seq (.ret (.var 2))
    .done)))
/-- sure_number(number): slots 0 number -/
def n_sure_number : List Str := ["number"]
def b_sure_number : Sm :=
  (.seq (.ite (.nt (.call 1 (.cons (.var 0) .nil)))
    .never
    .done)
    (.seq (.ret (.var 0))
    .done))
/-- shared(one, other): slots 0 one 1 other 2 near 3 far -/
def n_shared : List Str := ["one", "other", "near", "far"]
def b_shared : Sm :=
  (.seq (.asgP (.tcons (.nm 2) (.tcons (.nm 3) .tnil)) (.cons (.absE (.var 0)) (.cons (.absE (.var 1)) .nil)))
    (.seq (.whl (.cmp .gt (.var 3) (.int 0))
    (.seq (.asgP (.tcons (.nm 2) (.tcons (.nm 3) .tnil)) (.cons (.var 3) (.cons (.bin .mod (.var 2) (.var 3)) .nil)))
    .done))
    (.seq (.ret (.var 2))
    .done)))
/-- made(top, bottom): slots 0 top 1 bottom 2 much 3 sign -/
def n_made : List Str := ["top", "bottom", "much", "sign"]
def b_made : Sm :=
  (.seq (.asg (.nm 2) (.call 11 (.cons (.var 0) (.cons (.var 1) .nil))))
    (.seq (.asg (.nm 3) (.ite (.cmp .gt (.var 1) (.int 0)) (.int 1) (.neg (.int 1))))
    (.seq (.ret (.tupE (.cons (.bin .fdiv (.bin .mul (.var 3) (.var 0)) (.var 2)) (.cons (.bin .fdiv (.bin .mul (.var 3) (.var 1)) (.var 2)) .nil))))
    .done)))
/-- is_fraction(thing): slots 0 thing -/
def n_is_fraction : List Str := ["thing"]
def b_is_fraction : Sm :=
  (.seq (.ret (.and (.call 5 (.cons (.var 0) (.cons (.glob 2) .nil))) (.and (.cmp .gt (.idx (.var 0) (.int 1)) (.int 0)) (.cmp .eq (.call 11 (.cons (.idx (.var 0) (.int 0)) (.cons (.idx (.var 0) (.int 1)) .nil))) (.int 1)))))
    .done)
/-- sure_fraction(number): slots 0 number 1 own -/
def n_sure_fraction : List Str := ["number", "own"]
def b_sure_fraction : Sm :=
  (.seq (.asg (.nm 1) (.call 0 (.cons (.var 0) .nil)))
    (.seq (.ite (.nt (.call 13 (.cons (.var 1) .nil)))
    .never
    .done)
    (.seq (.ret (.var 1))
    .done)))
/-- is_row(thing): slots 0 thing 1 part -/
def n_is_row : List Str := ["thing", "part"]
def b_is_row : Sm :=
  (.seq (.ret (.and (.isi [.tuple] (.var 0)) (.and (.cmp .ne (.var 0) (.tupE .nil)) (.allE (.lc (.call 13 (.cons (.var 1) .nil)) (.nm 1) (.it (.var 0)) (.bl true) [1])))))
    .done)
/-- sure_row(row): slots 0 row 1 own -/
def n_sure_row : List Str := ["row", "own"]
def b_sure_row : Sm :=
  (.seq (.asg (.nm 1) (.call 0 (.cons (.var 0) .nil)))
    (.seq (.ite (.nt (.call 15 (.cons (.var 1) .nil)))
    .never
    .done)
    (.seq (.ret (.var 1))
    .done)))
/-- add(one, other): slots 0 one 1 other -/
def n_add : List Str := ["one", "other"]
def b_add : Sm :=
  (.seq (.ret (.call 12 (.cons (.bin .add (.bin .mul (.idx (.var 0) (.int 0)) (.idx (.var 1) (.int 1))) (.bin .mul (.idx (.var 1) (.int 0)) (.idx (.var 0) (.int 1)))) (.cons (.bin .mul (.idx (.var 0) (.int 1)) (.idx (.var 1) (.int 1))) .nil))))
    .done)
/-- take(one, other): slots 0 one 1 other -/
def n_take : List Str := ["one", "other"]
def b_take : Sm :=
  (.seq (.ret (.call 12 (.cons (.bin .sub (.bin .mul (.idx (.var 0) (.int 0)) (.idx (.var 1) (.int 1))) (.bin .mul (.idx (.var 1) (.int 0)) (.idx (.var 0) (.int 1)))) (.cons (.bin .mul (.idx (.var 0) (.int 1)) (.idx (.var 1) (.int 1))) .nil))))
    .done)
/-- multiply(one, other): slots 0 one 1 other -/
def n_multiply : List Str := ["one", "other"]
def b_multiply : Sm :=
  (.seq (.ret (.call 12 (.cons (.bin .mul (.idx (.var 0) (.int 0)) (.idx (.var 1) (.int 0))) (.cons (.bin .mul (.idx (.var 0) (.int 1)) (.idx (.var 1) (.int 1))) .nil))))
    .done)
/-- divide(one, other): slots 0 one 1 other -/
def n_divide : List Str := ["one", "other"]
def b_divide : Sm :=
  (.seq (.ret (.call 12 (.cons (.bin .mul (.idx (.var 0) (.int 0)) (.idx (.var 1) (.int 1))) (.cons (.bin .mul (.idx (.var 0) (.int 1)) (.idx (.var 1) (.int 0))) .nil))))
    .done)
/-- opposite(number): slots 0 number -/
def n_opposite : List Str := ["number"]
def b_opposite : Sm :=
  (.seq (.ret (.tupE (.cons (.neg (.idx (.var 0) (.int 0))) (.cons (.idx (.var 0) (.int 1)) .nil))))
    .done)
/-- total(fractions): slots 0 fractions 1 found 2 number -/
def n_total : List Str := ["fractions", "found", "number"]
def b_total : Sm :=
  (.seq (.asg (.nm 1) (.glob 0))
    (.seq (.forL (.nm 2) (.it (.var 0))
    (.seq (.asg (.nm 1) (.call 17 (.cons (.var 1) (.cons (.var 2) .nil))))
    .done))
    (.seq (.ret (.var 1))
    .done)))
/-- both(one, other): slots 0 one 1 other 2 near 3 far -/
def n_both : List Str := ["one", "other", "near", "far"]
def b_both : Sm :=
  (.seq (.ret (.call 22 (.cons (.lc (.call 19 (.cons (.var 2) (.cons (.var 3) .nil))) (.tup (.tcons (.nm 2) (.tcons (.nm 3) .tnil))) (.zip (.var 0) (.var 1)) (.bl true) [2, 3]) .nil)))
    .done)
/-- whole_of(row): slots 0 row 1 bottom 2 number 3 numbers 4 much -/
def n_whole_of : List Str := ["row", "bottom", "number", "numbers", "much"]
def b_whole_of : Sm :=
  (.seq (.asg (.nm 1) (.int 1))
    (.seq (.forL (.nm 2) (.it (.var 0))
    (.seq (.asg (.nm 1) (.bin .fdiv (.bin .mul (.var 1) (.idx (.var 2) (.int 1))) (.call 11 (.cons (.var 1) (.cons (.idx (.var 2) (.int 1)) .nil)))))
    .done))
    (.seq (.asg (.nm 3) (.lc (.bin .mul (.idx (.var 2) (.int 0)) (.bin .fdiv (.var 1) (.idx (.var 2) (.int 1)))) (.nm 2) (.it (.var 0)) (.bl true) [2]))
    (.seq (.asg (.nm 4) (.int 0))
    (.seq (.forL (.nm 2) (.it (.var 3))
    (.seq (.asg (.nm 4) (.call 11 (.cons (.var 4) (.cons (.var 2) .nil))))
    .done))
    (.seq (.ret (.tuple (.lc (.ite (.cmp .gt (.var 4) (.int 0)) (.bin .fdiv (.var 2) (.var 4)) (.int 0)) (.nm 2) (.it (.var 3)) (.bl true) [2])))
    .done))))))
/-- is_told(thing): slots 0 thing 1 spots 2 k 3 j 4 row -/
def n_is_told : List Str := ["thing", "spots", "k", "j", "row"]
def b_is_told : Sm :=
  (.seq (.ite (.or (.nt (.isi [.tuple] (.var 0))) (.or (.cmp .eq (.var 0) (.tupE .nil)) (.nt (.allE (.lc (.call 4 (.cons (.var 4) (.cons (.len (.var 0)) .nil))) (.nm 4) (.it (.var 0)) (.bl true) [4])))))
    (.seq (.ret (.bl false))
    .done)
    .done)
    (.seq (.ite (.nt (.allE (.lc (.call 13 (.cons (.idx (.idx (.var 0) (.var 2)) (.var 2)) .nil)) (.nm 2) (.rng1 (.len (.var 0))) (.bl true) [2])))
    (.seq (.ret (.bl false))
    .done)
    .done)
    (.seq (.asg (.nm 1) (.call 7 (.cons (.len (.var 0)) .nil)))
    (.seq (.ret (.allE (.lc (.and (.cmp .eq (.idx (.idx (.var 0) (.var 2)) (.var 3)) (.idx (.idx (.var 0) (.var 3)) (.var 2))) (.call 26 (.cons (.idx (.idx (.var 0) (.var 2)) (.var 3)) (.cons (.idx (.idx (.var 0) (.var 3)) (.var 2)) .nil)))) (.tup (.tcons (.nm 2) (.tcons (.nm 3) .tnil))) (.it (.var 1)) (.bl true) [2, 3])))
    .done))))
/-- is_told_part(one, other): slots 0 one 1 other -/
def n_is_told_part : List Str := ["one", "other"]
def b_is_told_part : Sm :=
  (.seq (.ret (.or (.and (.cmp .isN (.var 0) .non) (.cmp .isN (.var 1) .non)) (.and (.call 13 (.cons (.var 0) .nil)) (.call 13 (.cons (.var 1) .nil)))))
    .done)
/-- is_table(thing): slots 0 thing 1 row -/
def n_is_table : List Str := ["thing", "row"]
def b_is_table : Sm :=
  (.seq (.ret (.and (.call 25 (.cons (.var 0) .nil)) (.allE (.lc (.cmp .ntIn .non (.var 1)) (.nm 1) (.it (.var 0)) (.bl true) [1]))))
    .done)
/-- sure_told(told): slots 0 told 1 own -/
def n_sure_told : List Str := ["told", "own"]
def b_sure_told : Sm :=
  (.seq (.asg (.nm 1) (.call 0 (.cons (.var 0) .nil)))
    (.seq (.ite (.nt (.call 25 (.cons (.var 1) .nil)))
    .never
    .done)
    (.seq (.ret (.var 1))
    .done)))
/-- sure_table(table): slots 0 table 1 own -/
def n_sure_table : List Str := ["table", "own"]
def b_sure_table : Sm :=
  (.seq (.asg (.nm 1) (.call 0 (.cons (.var 0) .nil)))
    (.seq (.ite (.nt (.call 27 (.cons (.var 1) .nil)))
    .never
    .done)
    (.seq (.ret (.var 1))
    .done)))
/-- sure_tables(one, other): slots 0 one 1 other 2 near 3 far -/
def n_sure_tables : List Str := ["one", "other", "near", "far"]
def b_sure_tables : Sm :=
  (.seq (.asgP (.tcons (.nm 2) (.tcons (.nm 3) .tnil)) (.cons (.call 29 (.cons (.var 0) .nil)) (.cons (.call 29 (.cons (.var 1) .nil)) .nil)))
    (.seq (.ite (.cmp .ne (.len (.var 2)) (.len (.var 3)))
    .never
    .done)
    (.seq (.ret (.tupE (.cons (.var 2) (.cons (.var 3) .nil))))
    .done)))
/-- plain_of(size): slots 0 size 1 k 2 j -/
def n_plain_of : List Str := ["size", "k", "j"]
def b_plain_of : Sm :=
  (.seq (.ret (.tuple (.lc (.tuple (.lc (.ite (.cmp .eq (.var 1) (.var 2)) (.glob 1) (.glob 0)) (.nm 2) (.rng1 (.var 0)) (.bl true) [2])) (.nm 1) (.rng1 (.var 0)) (.bl true) [1])))
    .done)
/-- plain_table(size): slots 0 size -/
def n_plain_table : List Str := ["size"]
def b_plain_table : Sm :=
  (.seq (.ite (.cmp .lt (.call 10 (.cons (.var 0) .nil)) (.int 1))
    .never
    .done)
    (.seq (.ret (.call 31 (.cons (.var 0) .nil)))
    .done))
/-- mixed(one, other, much): slots 0 one 1 other 2 much 3 rows 4 near 5 far 6 a 7 b -/
def n_mixed : List Str := ["one", "other", "much", "rows", "near", "far", "a", "b"]
def b_mixed : Sm :=
  (.seq (.ret (.tuple (.lc (.tuple (.lc (.call 17 (.cons (.var 6) (.cons (.call 19 (.cons (.var 2) (.cons (.var 7) .nil))) .nil))) (.tup (.tcons (.nm 6) (.tcons (.nm 7) .tnil))) (.zip (.var 4) (.var 5)) (.bl true) [6, 7])) (.tup (.tcons (.nm 4) (.tcons (.nm 5) .tnil))) (.zip (.var 0) (.var 1)) (.bl true) [4, 5, 3])))
    .done)
/-- plus_tables(one, other): slots 0 one 1 other 2 near 3 far -/
def n_plus_tables : List Str := ["one", "other", "near", "far"]
def b_plus_tables : Sm :=
  (.seq (.asg (.tup (.tcons (.nm 2) (.tcons (.nm 3) .tnil))) (.call 30 (.cons (.var 0) (.cons (.var 1) .nil))))
    (.seq (.ret (.call 33 (.cons (.var 2) (.cons (.var 3) (.cons (.glob 1) .nil)))))
    .done))
/-- less_tables(one, other): slots 0 one 1 other 2 near 3 far -/
def n_less_tables : List Str := ["one", "other", "near", "far"]
def b_less_tables : Sm :=
  (.seq (.asg (.tup (.tcons (.nm 2) (.tcons (.nm 3) .tnil))) (.call 30 (.cons (.var 0) (.cons (.var 1) .nil))))
    (.seq (.ret (.call 33 (.cons (.var 2) (.cons (.var 3) (.cons (.call 21 (.cons (.glob 1) .nil)) .nil)))))
    .done))
/-- times_table(table, number): slots 0 table 1 number 2 own 3 much 4 row 5 part -/
def n_times_table : List Str := ["table", "number", "own", "much", "row", "part"]
def b_times_table : Sm :=
  (.seq (.asg (.tup (.tcons (.nm 2) (.tcons (.nm 3) .tnil))) (.tupE (.cons (.call 29 (.cons (.var 0) .nil)) (.cons (.call 14 (.cons (.var 1) .nil)) .nil))))
    (.seq (.ret (.tuple (.lc (.tuple (.lc (.call 19 (.cons (.var 3) (.cons (.var 5) .nil))) (.nm 5) (.it (.var 4)) (.bl true) [5])) (.nm 4) (.it (.var 2)) (.bl true) [4])))
    .done))
/-- part_at(told, lot): slots 0 told 1 lot 2 k 3 j -/
def n_part_at : List Str := ["told", "lot", "k", "j"]
def b_part_at : Sm :=
  (.seq (.ret (.tuple (.lc (.tuple (.lc (.idx (.idx (.var 0) (.var 2)) (.var 3)) (.nm 3) (.it (.var 1)) (.bl true) [3])) (.nm 2) (.it (.var 1)) (.bl true) [2])))
    .done)
/-- part_of(told, lot): slots 0 told 1 lot 2 own 3 arrows -/
def n_part_of : List Str := ["told", "lot", "own", "arrows"]
def b_part_of : Sm :=
  (.seq (.asg (.nm 2) (.call 28 (.cons (.var 0) .nil)))
    (.seq (.asg (.nm 3) (.call 9 (.cons (.var 1) (.cons (.len (.var 2)) .nil))))
    (.seq (.ite (.cmp .eq (.var 3) (.tupE .nil))
    .never
    .done)
    (.seq (.ret (.call 37 (.cons (.var 2) (.cons (.var 3) .nil))))
    .done))))
/-- times_numbers(table, row): slots 0 table 1 row 2 own -/
def n_times_numbers : List Str := ["table", "row", "own"]
def b_times_numbers : Sm :=
  (.seq (.ret (.tuple (.lc (.call 23 (.cons (.var 2) (.cons (.var 1) .nil))) (.nm 2) (.it (.var 0)) (.bl true) [2])))
    .done)
/-- row_led(table, row): slots 0 table 1 row 2 own 3 near -/
def n_row_led : List Str := ["table", "row", "own", "near"]
def b_row_led : Sm :=
  (.seq (.asgP (.tcons (.nm 2) (.tcons (.nm 3) .tnil)) (.cons (.call 29 (.cons (.var 0) .nil)) (.cons (.call 16 (.cons (.var 1) .nil)) .nil)))
    (.seq (.ite (.cmp .ne (.len (.var 3)) (.len (.var 2)))
    .never
    .done)
    (.seq (.ret (.call 39 (.cons (.var 2) (.cons (.var 3) .nil))))
    .done)))
/-- less_head(row, head, place): slots 0 row 1 head 2 place 3 much 4 part 5 own -/
def n_less_head : List Str := ["row", "head", "place", "much", "part", "own"]
def b_less_head : Sm :=
  (.seq (.asg (.nm 3) (.idx (.var 0) (.var 2)))
    (.seq (.ret (.ite (.cmp .ne (.var 3) (.glob 0)) (.lc (.call 18 (.cons (.var 4) (.cons (.call 19 (.cons (.var 3) (.cons (.var 5) .nil))) .nil))) (.tup (.tcons (.nm 4) (.tcons (.nm 5) .tnil))) (.zip (.var 0) (.var 1)) (.bl true) [4, 5]) (.var 0)))
    .done))
/-- reduced(rows, size): slots 0 rows 1 size 2 found 3 places 4 product 5 place 6 goods 7 k 8 here 9 head 10 row 11 part 12 j -/
def n_reduced : List Str := ["rows", "size", "found", "places", "product", "place", "goods", "k", "here", "head", "row", "part", "j"]
def b_reduced : Sm :=
  (.seq (.asg (.tup (.tcons (.nm 2) (.tcons (.nm 3) (.tcons (.nm 4) .tnil)))) (.tupE (.cons (.mk (.lc (.list (.var 10)) (.nm 10) (.it (.var 0)) (.bl true) [10])) (.cons (.mk (.lstE .nil)) (.cons (.glob 1) .nil)))))
    (.seq (.forL (.nm 5) (.rng1 (.var 1))
    (.seq (.asg (.nm 6) (.lc (.var 7) (.nm 7) (.rng2 (.len (.var 3)) (.len (.var 2))) (.cmp .ne (.idx (.idx (.var 2) (.var 7)) (.var 5)) (.glob 0)) [7]))
    (.seq (.ite (.cmp .eq (.var 6) (.lstE .nil))
    (.seq .cnt
    .done)
    .done)
    (.seq (.asg (.tup (.tcons (.nm 7) (.tcons (.nm 8) .tnil))) (.tupE (.cons (.idx (.var 6) (.int 0)) (.cons (.len (.var 3)) .nil))))
    (.seq (.asg (.nm 4) (.call 19 (.cons (.var 4) (.cons (.ite (.cmp .eq (.var 7) (.var 8)) (.idx (.idx (.var 2) (.var 7)) (.var 5)) (.call 21 (.cons (.idx (.idx (.var 2) (.var 7)) (.var 5)) .nil))) .nil))))
    (.seq (.asg (.tup (.tcons (.sub (.var 2) (.var 8)) (.tcons (.sub (.var 2) (.var 7)) .tnil))) (.tupE (.cons (.idx (.var 2) (.var 7)) (.cons (.idx (.var 2) (.var 8)) .nil))))
    (.seq (.asg (.nm 9) (.lc (.call 20 (.cons (.var 11) (.cons (.idx (.idx (.var 2) (.var 8)) (.var 5)) .nil))) (.nm 11) (.it (.idx (.var 2) (.var 8))) (.bl true) [11]))
    (.seq (.asg (.nm 2) (.mk (.lc (.ite (.cmp .eq (.var 12) (.var 8)) (.var 9) (.call 41 (.cons (.var 10) (.cons (.var 9) (.cons (.var 5) .nil))))) (.tup (.tcons (.nm 12) (.tcons (.nm 10) .tnil))) (.enm (.var 2)) (.bl true) [12, 10])))
    (.seq (.app (.var 3) (.var 5))
    .done)))))))))
    (.seq (.ret (.tupE (.cons (.var 2) (.cons (.var 3) (.cons (.var 4) .nil)))))
    .done)))
/-- determinant_in(table): slots 0 table 1 _ 2 places 3 product -/
def n_determinant_in : List Str := ["table", "_", "places", "product"]
def b_determinant_in : Sm :=
  (.seq (.asg (.tup (.tcons (.nm 1) (.tcons (.nm 2) (.tcons (.nm 3) .tnil)))) (.call 42 (.cons (.var 0) (.cons (.len (.var 0)) .nil))))
    (.seq (.ret (.ite (.cmp .eq (.len (.var 2)) (.len (.var 0))) (.var 3) (.glob 0)))
    .done))
/-- determinant(table): slots 0 table -/
def n_determinant : List Str := ["table"]
def b_determinant : Sm :=
  (.seq (.ret (.call 43 (.cons (.call 29 (.cons (.var 0) .nil)) .nil)))
    .done)
/-- back_in(table): slots 0 table 1 size 2 rows 3 found 4 places 5 _ 6 row 7 own -/
def n_back_in : List Str := ["table", "size", "rows", "found", "places", "_", "row", "own"]
def b_back_in : Sm :=
  (.seq (.asg (.nm 1) (.len (.var 0)))
    (.seq (.asg (.nm 2) (.lc (.bin .add (.var 6) (.var 7)) (.tup (.tcons (.nm 6) (.tcons (.nm 7) .tnil))) (.zip (.var 0) (.call 31 (.cons (.var 1) .nil))) (.bl true) [6, 7]))
    (.seq (.asg (.tup (.tcons (.nm 3) (.tcons (.nm 4) (.tcons (.nm 5) .tnil)))) (.call 42 (.cons (.var 2) (.cons (.var 1) .nil))))
    (.seq (.ret (.ite (.cmp .eq (.len (.var 4)) (.var 1)) (.tuple (.lc (.tuple (.sl (.var 6) (.var 1) .nil)) (.nm 6) (.it (.var 3)) (.bl true) [6])) .non))
    .done))))
/-- back_table(table): slots 0 table 1 found -/
def n_back_table : List Str := ["table", "found"]
def b_back_table : Sm :=
  (.seq (.asg (.nm 1) (.call 45 (.cons (.call 29 (.cons (.var 0) .nil)) .nil)))
    (.seq (.ite (.cmp .isN (.var 1) .non)
    .never
    .done)
    (.seq (.ret (.var 1))
    .done)))
/-- less_row(row, other, much): slots 0 row 1 other 2 much 3 part 4 own -/
def n_less_row : List Str := ["row", "other", "much", "part", "own"]
def b_less_row : Sm :=
  (.seq (.ret (.lc (.call 18 (.cons (.var 3) (.cons (.call 19 (.cons (.var 2) (.cons (.var 4) .nil))) .nil))) (.tup (.tcons (.nm 3) (.tcons (.nm 4) .tnil))) (.zip (.var 0) (.var 1)) (.bl true) [3, 4]))
    .done)
/-- gone_through(table): slots 0 table 1 size 2 left 3 made_of 4 weights 5 columns 6 here 7 own 8 column 9 k 10 top 11 row 12 tied 13 j -/
def n_gone_through : List Str := ["table", "size", "left", "made_of", "weights", "columns", "here", "own", "column", "k", "top", "row", "tied", "j"]
def b_gone_through : Sm :=
  (.seq (.asg (.nm 1) (.len (.var 0)))
    (.seq (.asg (.nm 2) (.mk (.lc (.list (.var 11)) (.nm 11) (.it (.var 0)) (.bl true) [11])))
    (.seq (.asg (.nm 3) (.mk (.lc (.lc (.ite (.cmp .eq (.var 9) (.var 13)) (.glob 1) (.glob 0)) (.nm 13) (.rng1 (.var 1)) (.bl true) [13]) (.nm 9) (.rng1 (.var 1)) (.bl true) [9])))
    (.seq (.asg (.tup (.tcons (.nm 4) (.tcons (.nm 5) .tnil))) (.tupE (.cons (.mk (.lstE .nil)) (.cons (.mk (.lstE .nil)) .nil))))
    (.seq (.forL (.nm 6) (.rng1 (.var 1))
    (.seq (.asg (.nm 7) (.idx (.idx (.var 2) (.var 6)) (.var 6)))
    (.seq (.ite (.cmp .lt (.idx (.var 7) (.int 0)) (.int 0))
    (.seq (.ret (.tupE (.cons .non (.cons (.call 24 (.cons (.tuple (.idx (.var 3) (.var 6))) .nil)) .nil))))
    .done)
    .done)
    (.seq (.ite (.cmp .eq (.idx (.var 7) (.int 0)) (.int 0))
    (.seq (.asg (.nm 12) (.lc (.var 9) (.nm 9) (.rng2 (.bin .add (.var 6) (.int 1)) (.var 1)) (.cmp .ne (.idx (.idx (.var 2) (.var 6)) (.var 9)) (.glob 0)) [9]))
    (.seq (.ite (.cmp .ne (.var 12) (.lstE .nil))
    (.seq (.ret (.tupE (.cons .non (.cons (.call 49 (.cons (.var 2) (.cons (.var 3) (.cons (.var 6) (.cons (.idx (.var 12) (.int 0)) .nil))))) .nil))))
    .done)
    .done)
    (.seq .cnt
    .done)))
    .done)
    (.seq (.app (.var 4) (.var 7))
    (.seq (.asg (.nm 8) (.lc (.ite (.cmp .ge (.var 9) (.var 6)) (.call 20 (.cons (.idx (.idx (.var 2) (.var 9)) (.var 6)) (.cons (.var 7) .nil))) (.glob 0)) (.nm 9) (.rng1 (.var 1)) (.bl true) [9]))
    (.seq (.app (.var 5) (.var 8))
    (.seq (.forL (.nm 9) (.rng2 (.bin .add (.var 6) (.int 1)) (.var 1))
    (.seq (.asg (.sub (.var 3) (.var 9)) (.call 47 (.cons (.idx (.var 3) (.var 9)) (.cons (.idx (.var 3) (.var 6)) (.cons (.idx (.var 8) (.var 9)) .nil)))))
    .done))
    (.seq (.asg (.nm 10) (.list (.idx (.var 2) (.var 6))))
    (.seq (.forL (.nm 9) (.rng2 (.bin .add (.var 6) (.int 1)) (.var 1))
    (.seq (.asg (.sub (.var 2) (.var 9)) (.call 47 (.cons (.idx (.var 2) (.var 9)) (.cons (.var 10) (.cons (.idx (.var 8) (.var 9)) .nil)))))
    .done))
    .done))))))))))
    (.seq (.ret (.tupE (.cons (.tupE (.cons (.tuple (.var 4)) (.cons (.tuple (.lc (.tuple (.lc (.idx (.var 8) (.var 9)) (.nm 8) (.it (.var 5)) (.bl true) [8])) (.nm 9) (.rng1 (.var 1)) (.bl true) [9])) .nil))) (.cons .non .nil))))
    .done))))))
/-- numbers_of(left, made_of, here, there): slots 0 left 1 made_of 2 here 3 there 4 more 5 much -/
def n_numbers_of : List Str := ["left", "made_of", "here", "there", "more", "much"]
def b_numbers_of : Sm :=
  (.seq (.asg (.nm 4) (.tupE (.cons (.bin .add (.idx (.idx (.idx (.var 0) (.var 3)) (.var 3)) (.int 0)) (.idx (.idx (.idx (.var 0) (.var 3)) (.var 3)) (.int 1))) (.cons (.idx (.idx (.idx (.var 0) (.var 3)) (.var 3)) (.int 1)) .nil))))
    (.seq (.asg (.nm 5) (.call 21 (.cons (.call 20 (.cons (.call 19 (.cons (.var 4) (.cons (.glob 3) .nil))) (.cons (.idx (.idx (.var 0) (.var 2)) (.var 3)) .nil))) .nil)))
    (.seq (.ret (.call 24 (.cons (.tuple (.call 47 (.cons (.idx (.var 1) (.var 3)) (.cons (.idx (.var 1) (.var 2)) (.cons (.call 21 (.cons (.var 5) .nil)) .nil))))) .nil)))
    .done)))
/-- never_below(table): slots 0 table -/
def n_never_below : List Str := ["table"]
def b_never_below : Sm :=
  (.seq (.ret (.cmp .isN (.idx (.call 48 (.cons (.var 0) .nil)) (.int 1)) .non))
    .done)
/-- is_never_below(table): slots 0 table -/
def n_is_never_below : List Str := ["table"]
def b_is_never_below : Sm :=
  (.seq (.ret (.call 50 (.cons (.call 29 (.cons (.var 0) .nil)) .nil)))
    .done)
/-- sure_never_below(table): slots 0 table 1 own -/
def n_sure_never_below : List Str := ["table", "own"]
def b_sure_never_below : Sm :=
  (.seq (.asg (.nm 1) (.call 29 (.cons (.var 0) .nil)))
    (.seq (.ite (.nt (.call 50 (.cons (.var 1) .nil)))
    .never
    .done)
    (.seq (.ret (.var 1))
    .done)))
/-- rank_in(table): slots 0 table -/
def n_rank_in : List Str := ["table"]
def b_rank_in : Sm :=
  (.seq (.ret (.len (.idx (.call 42 (.cons (.var 0) (.cons (.len (.var 0)) .nil))) (.int 1))))
    .done)
/-- solve(rows, row): slots 0 rows 1 row 2 size 3 found 4 places 5 _ 6 answer 7 place 8 own 9 part -/
def n_solve : List Str := ["rows", "row", "size", "found", "places", "_", "answer", "place", "own", "part"]
def b_solve : Sm :=
  (.seq (.asg (.nm 2) (.len (.var 0)))
    (.seq (.asg (.tup (.tcons (.nm 3) (.tcons (.nm 4) (.tcons (.nm 5) .tnil)))) (.call 42 (.cons (.lc (.bin .add (.var 8) (.tupE (.cons (.var 9) .nil))) (.tup (.tcons (.nm 8) (.tcons (.nm 9) .tnil))) (.zip (.var 0) (.var 1)) (.bl true) [8, 9]) (.cons (.var 2) .nil))))
    (.seq (.ite (.cmp .ne (.lc (.var 8) (.nm 8) (.it (.sl (.var 3) (.len (.var 4)) .nil)) (.cmp .ne (.idx (.var 8) (.var 2)) (.glob 0)) [8]) (.lstE .nil))
    (.seq (.ret .non)
    .done)
    .done)
    (.seq (.asg (.nm 6) (.mk (.bin .mul (.lstE (.cons (.glob 0) .nil)) (.var 2))))
    (.seq (.forL (.tup (.tcons (.nm 7) (.tcons (.nm 8) .tnil))) (.zip (.var 4) (.var 3))
    (.seq (.asg (.sub (.var 6) (.var 7)) (.idx (.var 8) (.var 2)))
    .done))
    (.seq (.ret (.tuple (.var 6)))
    .done))))))
/-- sure_row_for(table, row): slots 0 table 1 row 2 own -/
def n_sure_row_for : List Str := ["table", "row", "own"]
def b_sure_row_for : Sm :=
  (.seq (.asg (.nm 2) (.call 16 (.cons (.var 1) .nil)))
    (.seq (.ite (.cmp .ne (.len (.var 2)) (.len (.var 0)))
    .never
    .done)
    (.seq (.ret (.var 2))
    .done)))
/-- is_over_in(one, other): slots 0 one 1 other -/
def n_is_over_in : List Str := ["one", "other"]
def b_is_over_in : Sm :=
  (.seq (.ret (.call 50 (.cons (.call 33 (.cons (.var 0) (.cons (.var 1) (.cons (.glob 4) .nil)))) .nil)))
    .done)
/-- is_over(one, other): slots 0 one 1 other 2 near 3 far -/
def n_is_over : List Str := ["one", "other", "near", "far"]
def b_is_over : Sm :=
  (.seq (.asg (.tup (.tcons (.nm 2) (.tcons (.nm 3) .tnil))) (.call 30 (.cons (.var 0) (.cons (.var 1) .nil))))
    (.seq (.ret (.call 56 (.cons (.var 2) (.cons (.var 3) .nil))))
    .done))
/-- mixed_table(one, other, share): slots 0 one 1 other 2 share 3 near 4 far 5 much -/
def n_mixed_table : List Str := ["one", "other", "share", "near", "far", "much"]
def b_mixed_table : Sm :=
  (.seq (.asg (.tup (.tcons (.nm 3) (.tcons (.nm 4) .tnil))) (.call 30 (.cons (.var 0) (.cons (.var 1) .nil))))
    (.seq (.asg (.nm 5) (.call 14 (.cons (.var 2) .nil)))
    (.seq (.ret (.call 33 (.cons (.var 3) (.cons (.call 33 (.cons (.var 4) (.cons (.var 3) (.cons (.glob 4) .nil)))) (.cons (.var 5) .nil)))))
    .done)))
/-- row_square(row): slots 0 row 1 near 2 far -/
def n_row_square : List Str := ["row", "near", "far"]
def b_row_square : Sm :=
  (.seq (.ret (.tuple (.lc (.tuple (.lc (.call 19 (.cons (.var 1) (.cons (.var 2) .nil))) (.nm 2) (.it (.var 0)) (.bl true) [2])) (.nm 1) (.it (.var 0)) (.bl true) [1])))
    .done)
/-- own_table(row): slots 0 row -/
def n_own_table : List Str := ["row"]
def b_own_table : Sm :=
  (.seq (.ret (.call 59 (.cons (.call 16 (.cons (.var 0) .nil)) .nil)))
    .done)
/-- greatest_of_row(table, row): slots 0 table 1 row 2 own 3 goal 4 found -/
def n_greatest_of_row : List Str := ["table", "row", "own", "goal", "found"]
def b_greatest_of_row : Sm :=
  (.seq (.asg (.nm 2) (.call 52 (.cons (.var 0) .nil)))
    (.seq (.asg (.nm 3) (.call 55 (.cons (.var 2) (.cons (.var 1) .nil))))
    (.seq (.ite (.cmp .eq (.var 3) (.bin .mul (.tupE (.cons (.glob 0) .nil)) (.len (.var 2))))
    .never
    .done)
    (.seq (.asg (.nm 4) (.call 54 (.cons (.var 2) (.cons (.var 3) .nil))))
    (.seq (.ret (.ite (.cmp .isN (.var 4) .non) (.glob 0) (.call 20 (.cons (.glob 1) (.cons (.call 23 (.cons (.var 3) (.cons (.var 4) .nil))) .nil)))))
    .done)))))
/-- times_places(one, other): slots 0 one 1 other 2 near 3 far 4 rows 5 row 6 row_so 7 part 8 part_so -/
def n_times_places : List Str := ["one", "other", "near", "far", "rows", "row", "row_so", "part", "part_so"]
def b_times_places : Sm :=
  (.seq (.asg (.tup (.tcons (.nm 2) (.tcons (.nm 3) .tnil))) (.call 30 (.cons (.var 0) (.cons (.var 1) .nil))))
    (.seq (.ret (.tuple (.lc (.tuple (.lc (.call 19 (.cons (.var 7) (.cons (.var 8) .nil))) (.tup (.tcons (.nm 7) (.tcons (.nm 8) .tnil))) (.zip (.var 5) (.var 6)) (.bl true) [7, 8])) (.tup (.tcons (.nm 5) (.tcons (.nm 6) .tnil))) (.zip (.var 2) (.var 3)) (.bl true) [5, 6, 4])))
    .done))
/-- sure_without_ties(one, other): slots 0 one 1 other 2 near 3 far -/
def n_sure_without_ties : List Str := ["one", "other", "near", "far"]
def b_sure_without_ties : Sm :=
  (.seq (.asg (.tup (.tcons (.nm 2) (.tcons (.nm 3) .tnil))) (.call 30 (.cons (.var 0) (.cons (.var 1) .nil))))
    (.seq (.ite (.or (.nt (.call 50 (.cons (.var 2) .nil))) (.or (.nt (.call 50 (.cons (.var 3) .nil))) (.cmp .isIn (.glob 0) (.tupE (.cons (.call 43 (.cons (.var 2) .nil)) (.cons (.call 43 (.cons (.var 3) .nil)) .nil))))))
    .never
    .done)
    (.seq (.ret (.tupE (.cons (.var 2) (.cons (.var 3) .nil))))
    .done)))
/-- backs_over(one, other): slots 0 one 1 other 2 near 3 far -/
def n_backs_over : List Str := ["one", "other", "near", "far"]
def b_backs_over : Sm :=
  (.seq (.asg (.tup (.tcons (.nm 2) (.tcons (.nm 3) .tnil))) (.call 63 (.cons (.var 0) (.cons (.var 1) .nil))))
    (.seq (.ret (.call 56 (.cons (.call 45 (.cons (.var 3) .nil)) (.cons (.call 45 (.cons (.var 2) .nil)) .nil))))
    .done))
/-- beside_each_other(one, other): slots 0 one 1 other 2 near 3 far -/
def n_beside_each_other : List Str := ["one", "other", "near", "far"]
def b_beside_each_other : Sm :=
  (.seq (.asg (.tup (.tcons (.nm 2) (.tcons (.nm 3) .tnil))) (.call 63 (.cons (.var 0) (.cons (.var 1) .nil))))
    (.seq (.ret (.call 45 (.cons (.call 33 (.cons (.call 45 (.cons (.var 2) .nil)) (.cons (.call 45 (.cons (.var 3) .nil)) (.cons (.glob 1) .nil)))) .nil)))
    .done))
/-- make_in(table, one, other): slots 0 table 1 one 2 other -/
def n_make_in : List Str := ["table", "one", "other"]
def b_make_in : Sm :=
  (.seq (.ret (.call 23 (.cons (.var 1) (.cons (.call 39 (.cons (.var 0) (.cons (.var 2) .nil))) .nil))))
    .done)
/-- products_of_rows(table, rows): slots 0 table 1 rows 2 one 3 other -/
def n_products_of_rows : List Str := ["table", "rows", "one", "other"]
def b_products_of_rows : Sm :=
  (.seq (.ret (.tuple (.lc (.tuple (.lc (.call 66 (.cons (.var 0) (.cons (.var 2) (.cons (.var 3) .nil)))) (.nm 3) (.it (.var 1)) (.bl true) [3])) (.nm 2) (.it (.var 1)) (.bl true) [2])))
    .done)
/-- sure_products(table, row): slots 0 table 1 row 2 own -/
def n_sure_products : List Str := ["table", "row", "own"]
def b_sure_products : Sm :=
  (.seq (.asg (.nm 2) (.call 16 (.cons (.var 1) .nil)))
    (.seq (.ite (.cmp .ne (.len (.var 2)) (.len (.var 0)))
    .never
    .done)
    (.seq (.ret (.var 2))
    .done)))
/-- sure_gap(table, lot): slots 0 table 1 lot 2 own 3 arrows -/
def n_sure_gap : List Str := ["table", "lot", "own", "arrows"]
def b_sure_gap : Sm :=
  (.seq (.asg (.nm 2) (.call 52 (.cons (.var 0) .nil)))
    (.seq (.asg (.nm 3) (.call 9 (.cons (.var 1) (.cons (.len (.var 2)) .nil))))
    (.seq (.ite (.cmp .eq (.len (.var 3)) (.len (.var 2)))
    .never
    .done)
    (.seq (.ret (.tupE (.cons (.var 2) (.cons (.var 3) .nil))))
    .done))))
/-- rest_of(table, lot): slots 0 table 1 lot 2 arrow -/
def n_rest_of : List Str := ["table", "lot", "arrow"]
def b_rest_of : Sm :=
  (.seq (.ret (.lc (.var 2) (.nm 2) (.rng1 (.len (.var 0))) (.cmp .ntIn (.var 2) (.var 1)) [2]))
    .done)
/-- share_of(table, arrow, lot): slots 0 table 1 arrow 2 lot 3 other -/
def n_share_of : List Str := ["table", "arrow", "lot", "other"]
def b_share_of : Sm :=
  (.seq (.ret (.ite (.cmp .ne (.var 2) (.tupE .nil)) (.call 54 (.cons (.call 37 (.cons (.var 0) (.cons (.var 2) .nil))) (.cons (.tuple (.lc (.idx (.idx (.var 0) (.var 1)) (.var 3)) (.nm 3) (.it (.var 2)) (.bl true) [3])) .nil))) (.tupE .nil)))
    .done)
/-- row_beyond(table, arrow, lot): slots 0 table 1 arrow 2 lot 3 row 4 place 5 share -/
def n_row_beyond : List Str := ["table", "arrow", "lot", "row", "place", "share"]
def b_row_beyond : Sm :=
  (.seq (.asg (.nm 3) (.mk (.lc (.ite (.cmp .eq (.var 4) (.var 1)) (.glob 1) (.glob 0)) (.nm 4) (.rng1 (.len (.var 0))) (.bl true) [4])))
    (.seq (.forL (.tup (.tcons (.nm 4) (.tcons (.nm 5) .tnil))) (.zip (.var 2) (.call 71 (.cons (.var 0) (.cons (.var 1) (.cons (.var 2) .nil)))))
    (.seq (.asg (.sub (.var 3) (.var 4)) (.call 21 (.cons (.var 5) .nil)))
    .done))
    (.seq (.ret (.tuple (.var 3)))
    .done)))
/-- rows_beyond(table, lot): slots 0 table 1 lot 2 arrow -/
def n_rows_beyond : List Str := ["table", "lot", "arrow"]
def b_rows_beyond : Sm :=
  (.seq (.ret (.tuple (.lc (.call 72 (.cons (.var 0) (.cons (.var 2) (.cons (.var 1) .nil)))) (.nm 2) (.it (.call 70 (.cons (.var 0) (.cons (.var 1) .nil)))) (.bl true) [2])))
    .done)
/-- beyond_in(table, lot): slots 0 table 1 lot -/
def n_beyond_in : List Str := ["table", "lot"]
def b_beyond_in : Sm :=
  (.seq (.ret (.call 67 (.cons (.var 0) (.cons (.call 73 (.cons (.var 0) (.cons (.var 1) .nil))) .nil))))
    .done)
/-- beyond_table(table, lot): slots 0 table 1 lot 2 own 3 arrows -/
def n_beyond_table : List Str := ["table", "lot", "own", "arrows"]
def b_beyond_table : Sm :=
  (.seq (.asg (.tup (.tcons (.nm 2) (.tcons (.nm 3) .tnil))) (.call 69 (.cons (.var 0) (.cons (.var 1) .nil))))
    (.seq (.ret (.call 74 (.cons (.var 2) (.cons (.var 3) .nil))))
    .done))
/-- is_tieless(table): slots 0 table -/
def n_is_tieless : List Str := ["table"]
def b_is_tieless : Sm :=
  (.seq (.ret (.and (.call 50 (.cons (.var 0) .nil)) (.cmp .eq (.call 53 (.cons (.var 0) .nil)) (.len (.var 0)))))
    .done)
/-- is_without_ties(table): slots 0 table -/
def n_is_without_ties : List Str := ["table"]
def b_is_without_ties : Sm :=
  (.seq (.ret (.call 76 (.cons (.call 29 (.cons (.var 0) .nil)) .nil)))
    .done)
/-- sure_more(table, row): slots 0 table 1 row 2 own -/
def n_sure_more : List Str := ["table", "row", "own"]
def b_sure_more : Sm :=
  (.seq (.asg (.nm 2) (.call 52 (.cons (.var 0) .nil)))
    (.seq (.ret (.tupE (.cons (.var 2) (.cons (.call 68 (.cons (.var 2) (.cons (.var 1) .nil))) .nil))))
    .done))
/-- sum_for_row(table, row): slots 0 table 1 row 2 own 3 products 4 found -/
def n_sum_for_row : List Str := ["table", "row", "own", "products", "found"]
def b_sum_for_row : Sm :=
  (.seq (.asg (.tup (.tcons (.nm 2) (.tcons (.nm 3) .tnil))) (.call 78 (.cons (.var 0) (.cons (.var 1) .nil))))
    (.seq (.asg (.nm 4) (.call 54 (.cons (.var 2) (.cons (.var 3) .nil))))
    (.seq (.ite (.cmp .isN (.var 4) .non)
    .never
    .done)
    (.seq (.ret (.var 4))
    .done))))
/-- least_own(table, row): slots 0 table 1 row 2 own 3 products -/
def n_least_own : List Str := ["table", "row", "own", "products"]
def b_least_own : Sm :=
  (.seq (.asg (.tup (.tcons (.nm 2) (.tcons (.nm 3) .tnil))) (.call 78 (.cons (.var 0) (.cons (.var 1) .nil))))
    (.seq (.ret (.call 23 (.cons (.var 3) (.cons (.call 79 (.cons (.var 2) (.cons (.var 3) .nil))) .nil))))
    .done))
/-- sure_sum(table, row): slots 0 table 1 row 2 own -/
def n_sure_sum : List Str := ["table", "row", "own"]
def b_sure_sum : Sm :=
  (.seq (.asg (.nm 2) (.call 16 (.cons (.var 1) .nil)))
    (.seq (.ite (.cmp .ne (.len (.var 2)) (.len (.var 0)))
    .never
    .done)
    (.seq (.ret (.var 2))
    .done)))
/-- product_of_sums(table, one, other): slots 0 table 1 one 2 other -/
def n_product_of_sums : List Str := ["table", "one", "other"]
def b_product_of_sums : Sm :=
  (.seq (.ret (.call 23 (.cons (.var 1) (.cons (.call 39 (.cons (.var 0) (.cons (.var 2) .nil))) .nil))))
    .done)
/-- sums_product(table, one, other): slots 0 table 1 one 2 other 3 own 4 near 5 far -/
def n_sums_product : List Str := ["table", "one", "other", "own", "near", "far"]
def b_sums_product : Sm :=
  (.seq (.asg (.nm 3) (.call 52 (.cons (.var 0) .nil)))
    (.seq (.asgP (.tcons (.nm 4) (.tcons (.nm 5) .tnil)) (.cons (.call 81 (.cons (.var 3) (.cons (.var 1) .nil))) (.cons (.call 81 (.cons (.var 3) (.cons (.var 2) .nil))) .nil)))
    (.seq (.ret (.call 82 (.cons (.var 3) (.cons (.var 4) (.cons (.var 5) .nil)))))
    .done)))
/-- sum_own(table, row): slots 0 table 1 row -/
def n_sum_own : List Str := ["table", "row"]
def b_sum_own : Sm :=
  (.seq (.ret (.call 83 (.cons (.var 0) (.cons (.var 1) (.cons (.var 1) .nil)))))
    .done)
/-- _law_box(script, k): slots 0 script 1 k 2 cell -/
def n__law_box : List Str := ["script", "k", "cell"]
def b__law_box : Sm :=
  (.seq (.asg (.nm 2) (.ite (.cmp .lt (.var 1) (.len (.var 0))) (.idx (.var 0) (.var 1)) (.int 0)))
    (.seq (.ret (.mk (.lstE (.cons (.bin .mul (.absE (.var 2)) (.intE (.cmp .ge (.absE (.var 2)) (.bin .pow (.int 10) (.int 18))))) (.cons (.bin .add (.bin .add (.bin .mod (.intE (.var 2)) (.int 2305843009213693951)) (.bin .mul (.int 39373) (.var 1))) (.int 23836)) (.cons (.int 0) .nil))))))
    .done))
/-- _law_take(tin, below_so): slots 0 tin 1 below_so 2 once_so 3 wide_so 4 twice_so 5 drawn -/
def n__law_take : List Str := ["tin", "below_so", "once_so", "wide_so", "twice_so", "drawn"]
def b__law_take : Sm :=
  (.seq (.ite (.cmp .gt (.idx (.var 0) (.int 0)) (.int 0))
    (.seq (.asg (.nm 5) (.bin .mod (.intE (.idx (.var 0) (.int 0))) (.var 1)))
    (.seq (.asg (.sub (.var 0) (.int 0)) (.bin .fdiv (.idx (.var 0) (.int 0)) (.var 1)))
    (.seq (.ret (.var 5))
    .done)))
    .done)
    (.seq (.asg (.sub (.var 0) (.int 2)) (.bin .add (.idx (.var 0) (.int 2)) (.int 1)))
    (.seq (.asg (.nm 2) (.bin .mod (.intE (.bin .mul (.bin .add (.idx (.var 0) (.int 1)) (.bin .mul (.int 48271) (.idx (.var 0) (.int 2)))) (.bin .add (.int 39373) (.idx (.var 0) (.int 2))))) (.int 2147483647)))
    (.seq (.asg (.nm 3) (.bin .add (.bin .mod (.intE (.var 2)) (.int 40009)) (.int 7)))
    (.seq (.asg (.nm 4) (.bin .mod (.intE (.bin .mul (.bin .add (.bin .add (.var 2) (.idx (.var 0) (.int 2))) (.bin .fdiv (.idx (.var 0) (.int 1)) (.int 1000003))) (.var 3))) (.int 2147483629)))
    (.seq (.ret (.bin .mod (.intE (.bin .fdiv (.bin .mod (.intE (.bin .add (.bin .mul (.var 4) (.int 48271)) (.var 2))) (.int 2147483587)) (.int 64))) (.var 1)))
    .done))))))
/-- _law_cells(script, most_so): slots 0 script 1 most_so 2 cells_so 3 k 4 cell_so 5 at_so -/
def n__law_cells : List Str := ["script", "most_so", "cells_so", "k", "cell_so", "at_so"]
def b__law_cells : Sm :=
  (.seq (.asg (.nm 2) (.mk (.orL (.list (.sl (.var 0) .nil (.var 1))) (.lstE (.cons (.int 0) .nil)))))
    (.seq (.forL (.tup (.tcons (.nm 3) (.tcons (.nm 4) .tnil))) (.enm (.sl (.var 0) (.var 1) (.int 63)))
    (.seq (.asg (.nm 5) (.bin .mod (.intE (.var 3)) (.var 1)))
    (.seq (.asg (.sub (.var 2) (.var 5)) (.bin .add (.idx (.var 2) (.var 5)) (.bin .mul (.var 4) (.bin .add (.var 3) (.int 2)))))
    .done)))
    (.seq (.ret (.var 2))
    .done)))
/-- _law_of(tin, goods_so): slots 0 tin 1 goods_so -/
def n__law_of : List Str := ["tin", "goods_so"]
def b__law_of : Sm :=
  (.seq (.ret (.idx (.var 1) (.call 86 (.cons (.var 0) (.cons (.len (.var 1)) .nil)))))
    .done)
/-- _law_pick(tin, goods_so, count_so): slots 0 tin 1 goods_so 2 count_so 3 pool_so 4 found 5 lap -/
def n__law_pick : List Str := ["tin", "goods_so", "count_so", "pool_so", "found", "lap"]
def b__law_pick : Sm :=
  (.seq (.asgP (.tcons (.nm 3) (.tcons (.nm 4) .tnil)) (.cons (.mk (.list (.var 1))) (.cons (.mk (.lstE .nil)) .nil)))
    (.seq (.forL (.nm 5) (.rng1 (.min2 (.intE (.var 2)) (.len (.var 3))))
    (.seq (.app (.var 4) (.popAt (.var 3) (.call 86 (.cons (.var 0) (.cons (.len (.var 3)) .nil)))))
    .done))
    (.seq (.ret (.var 4))
    .done)))
/-- _law_same(got, due): slots 0 got 1 due 2 mine 3 its -/
def n__law_same : List Str := ["got", "due", "mine", "its"]
def b__law_same : Sm :=
  (.seq (.ite (.isi [.list, .tuple] (.var 1))
    (.seq (.ite (.or (.cmp .ne (.isi [.list] (.var 0)) (.isi [.list] (.var 1))) (.cmp .ne (.isi [.tuple] (.var 0)) (.isi [.tuple] (.var 1))))
    (.seq (.ret (.bl false))
    .done)
    .done)
    (.seq (.ret (.and (.cmp .eq (.len (.var 0)) (.len (.var 1))) (.allE (.lc (.call 90 (.cons (.var 2) (.cons (.var 3) .nil))) (.tup (.tcons (.nm 2) (.tcons (.nm 3) .tnil))) (.zip (.var 0) (.var 1)) (.bl true) [2, 3]))))
    .done))
    .done)
    (.seq (.ite (.or (.cmp .isN (.var 1) .non) (.isi [.bool, .str] (.var 1)))
    (.seq (.ret (.and (.cmp .eq (.var 0) (.var 1)) (.and (.cmp .eq (.isi [.bool] (.var 0)) (.isi [.bool] (.var 1))) (.cmp .eq (.cmp .isN (.var 0) .non) (.cmp .isN (.var 1) .non)))))
    .done)
    .done)
    (.seq (.ret (.and (.isi [.int] (.var 0)) (.and (.nt (.isi [.bool] (.var 0))) (.cmp .eq (.var 0) (.var 1)))))
    .done)))
/-- _law_lists(matter): slots 0 matter 1 bit -/
def n__law_lists : List Str := ["matter", "bit"]
def b__law_lists : Sm :=
  (.seq (.ret (.ite (.isi [.list, .tuple] (.var 0)) (.lc (.call 91 (.cons (.var 1) .nil)) (.nm 1) (.it (.var 0)) (.bl true) [1]) (.var 0)))
    .done)
/-- _law_gcd(one, other): slots 0 one 1 other -/
def n__law_gcd : List Str := ["one", "other"]
def b__law_gcd : Sm :=
  (.seq (.whl (.cmp .ne (.var 1) (.int 0))
    (.seq (.asgP (.tcons (.nm 0) (.tcons (.nm 1) .tnil)) (.cons (.var 1) (.cons (.bin .mod (.var 0) (.var 1)) .nil)))
    .done))
    (.seq (.ret (.absE (.var 0)))
    .done))
/-- _law_fr(high_so, base_so): slots 0 high_so 1 base_so 2 deep_so -/
def n__law_fr : List Str := ["high_so", "base_so", "deep_so"]
def b__law_fr : Sm :=
  (.seq (.asg (.nm 2) (.call 92 (.cons (.var 0) (.cons (.var 1) .nil))))
    (.seq (.ret (.tupE (.cons (.bin .fdiv (.var 0) (.var 2)) (.cons (.bin .fdiv (.var 1) (.var 2)) .nil))))
    .done))
/-- _law_below(one, other): slots 0 one 1 other -/
def n__law_below : List Str := ["one", "other"]
def b__law_below : Sm :=
  (.seq (.ret (.cmp .lt (.bin .mul (.idx (.var 0) (.int 0)) (.idx (.var 1) (.int 1))) (.bin .mul (.idx (.var 1) (.int 0)) (.idx (.var 0) (.int 1)))))
    .done)
/-- _law_sum(one, other): slots 0 one 1 other -/
def n__law_sum : List Str := ["one", "other"]
def b__law_sum : Sm :=
  (.seq (.ret (.call 93 (.cons (.bin .add (.bin .mul (.idx (.var 0) (.int 0)) (.idx (.var 1) (.int 1))) (.bin .mul (.idx (.var 1) (.int 0)) (.idx (.var 0) (.int 1)))) (.cons (.bin .mul (.idx (.var 0) (.int 1)) (.idx (.var 1) (.int 1))) .nil))))
    .done)
/-- _law_mul(one, other): slots 0 one 1 other -/
def n__law_mul : List Str := ["one", "other"]
def b__law_mul : Sm :=
  (.seq (.ret (.call 93 (.cons (.bin .mul (.idx (.var 0) (.int 0)) (.idx (.var 1) (.int 0))) (.cons (.bin .mul (.idx (.var 0) (.int 1)) (.idx (.var 1) (.int 1))) .nil))))
    .done)
/-- _law_over(much): slots 0 much -/
def n__law_over : List Str := ["much"]
def b__law_over : Sm :=
  (.seq (.ret (.ite (.cmp .gt (.idx (.var 0) (.int 0)) (.int 0)) (.tupE (.cons (.idx (.var 0) (.int 1)) (.cons (.idx (.var 0) (.int 0)) .nil))) (.tupE (.cons (.neg (.idx (.var 0) (.int 1))) (.cons (.neg (.idx (.var 0) (.int 0))) .nil)))))
    .done)
/-- _law_less(one, other): slots 0 one 1 other -/
def n__law_less : List Str := ["one", "other"]
def b__law_less : Sm :=
  (.seq (.ret (.call 95 (.cons (.var 0) (.cons (.tupE (.cons (.neg (.idx (.var 1) (.int 0))) (.cons (.idx (.var 1) (.int 1)) .nil))) .nil))))
    .done)
/-- _law_total(fractions): slots 0 fractions 1 found 2 own -/
def n__law_total : List Str := ["fractions", "found", "own"]
def b__law_total : Sm :=
  (.seq (.asg (.nm 1) (.tupE (.cons (.int 0) (.cons (.int 1) .nil))))
    (.seq (.forL (.nm 2) (.it (.var 0))
    (.seq (.asg (.nm 1) (.call 95 (.cons (.var 1) (.cons (.var 2) .nil))))
    .done))
    (.seq (.ret (.var 1))
    .done)))
/-- _law_both(one, other): slots 0 one 1 other 2 near 3 far -/
def n__law_both : List Str := ["one", "other", "near", "far"]
def b__law_both : Sm :=
  (.seq (.ret (.call 99 (.cons (.lc (.call 96 (.cons (.var 2) (.cons (.var 3) .nil))) (.tup (.tcons (.nm 2) (.tcons (.nm 3) .tnil))) (.zip (.var 0) (.var 1)) (.bl true) [2, 3]) .nil)))
    .done)
/-- _law_det(table): slots 0 table 1 sums 2 row 3 later 4 lot 5 j 6 much 7 wide 8 own -/
def n__law_det : List Str := ["table", "sums", "row", "later", "lot", "j", "much", "wide", "own"]
def b__law_det : Sm :=
  (.seq (.asg (.nm 1) (.ddisp (.tupE .nil) (.tupE (.cons (.int 1) (.cons (.int 1) .nil)))))
    (.seq (.forL (.nm 2) (.it (.var 0))
    (.seq (.asg (.nm 3) .dnew)
    (.seq (.forD (.nm 4) 1
    (.seq (.forL (.nm 5) (.it (.lc (.var 8) (.nm 8) (.rng1 (.len (.var 0))) (.cmp .ntIn (.var 8) (.var 4)) [8]))
    (.seq (.asg (.nm 6) (.call 96 (.cons (.dget (.var 1) (.var 4)) (.cons (.idx (.var 2) (.var 5)) .nil))))
    (.seq (.ite (.cmp .eq (.bin .mod (.len (.lc (.int 1) (.nm 8) (.it (.var 4)) (.cmp .gt (.var 8) (.var 5)) [8])) (.int 2)) (.int 1))
    (.seq (.asg (.nm 6) (.tupE (.cons (.neg (.idx (.var 6) (.int 0))) (.cons (.idx (.var 6) (.int 1)) .nil))))
    .done)
    .done)
    (.seq (.dput 7 (.sorted (.bin .add (.var 4) (.tupE (.cons (.var 5) .nil)))) (.var 3) (.call 95 (.cons (.dgetD (.var 3) (.var 7) (.tupE (.cons (.int 0) (.cons (.int 1) .nil)))) (.cons (.var 6) .nil))))
    .done))))
    .done))
    (.seq (.asg (.nm 1) (.var 3))
    .done))))
    (.seq (.ret (.dget (.var 1) (.tupleR (.rng1 (.len (.var 0))))))
    .done)))
/-- _law_gram(weights, rows): slots 0 weights 1 rows 2 found 3 one 4 scaled 5 weight 6 own 7 other -/
def n__law_gram : List Str := ["weights", "rows", "found", "one", "scaled", "weight", "own", "other"]
def b__law_gram : Sm :=
  (.seq (.asg (.nm 2) (.mk (.lstE .nil)))
    (.seq (.forL (.nm 3) (.it (.var 1))
    (.seq (.asg (.nm 4) (.lc (.call 96 (.cons (.var 5) (.cons (.var 6) .nil))) (.tup (.tcons (.nm 5) (.tcons (.nm 6) .tnil))) (.zip (.var 0) (.var 3)) (.bl true) [5, 6]))
    (.seq (.app (.var 2) (.tuple (.lc (.call 100 (.cons (.var 4) (.cons (.var 7) .nil))) (.nm 7) (.it (.var 1)) (.bl true) [7])))
    .done)))
    (.seq (.ret (.tuple (.var 2)))
    .done)))
/-- _law_axes(tin, size, most): slots 0 tin 1 size 2 most 3 many 4 weights 5 rows 6 lap 7 own -/
def n__law_axes : List Str := ["tin", "size", "most", "many", "weights", "rows", "lap", "own"]
def b__law_axes : Sm :=
  (.seq (.asg (.nm 3) (.bin .add (.int 1) (.call 86 (.cons (.var 0) (.cons (.var 2) .nil)))))
    (.seq (.asg (.nm 4) (.tuple (.lc (.call 88 (.cons (.var 0) (.cons (.lstE (.cons (.tupE (.cons (.int 1) (.cons (.int 1) .nil))) (.cons (.tupE (.cons (.int 1) (.cons (.int 1) .nil))) (.cons (.tupE (.cons (.int 2) (.cons (.int 1) .nil))) (.cons (.tupE (.cons (.int 1) (.cons (.int 2) .nil))) (.cons (.tupE (.cons (.int 3) (.cons (.int 1) .nil))) .nil)))))) .nil))) (.nm 6) (.rng1 (.var 3)) (.bl true) [6])))
    (.seq (.asg (.nm 5) (.mk (.lstE .nil)))
    (.seq (.forL (.nm 6) (.rng1 (.var 1))
    (.seq (.app (.var 5) (.tuple (.lc (.call 88 (.cons (.var 0) (.cons (.lstE (.cons (.tupE (.cons (.int 0) (.cons (.int 1) .nil))) (.cons (.tupE (.cons (.int 0) (.cons (.int 1) .nil))) (.cons (.tupE (.cons (.int 1) (.cons (.int 1) .nil))) (.cons (.tupE (.cons (.neg (.int 1)) (.cons (.int 1) .nil))) (.cons (.tupE (.cons (.int 2) (.cons (.int 1) .nil))) (.cons (.tupE (.cons (.int 1) (.cons (.int 2) .nil))) (.cons (.tupE (.cons (.neg (.int 2)) (.cons (.int 1) .nil))) .nil)))))))) .nil))) (.nm 7) (.rng1 (.var 3)) (.bl true) [7])))
    .done))
    (.seq (.ret (.tupE (.cons (.var 4) (.cons (.tuple (.var 5)) .nil))))
    .done)))))
/-- _law_firm(tin, size): slots 0 tin 1 size 2 axes 3 plain 4 k 5 row 6 j 7 own -/
def n__law_firm : List Str := ["tin", "size", "axes", "plain", "k", "row", "j", "own"]
def b__law_firm : Sm :=
  (.seq (.asg (.nm 2) (.call 103 (.cons (.var 0) (.cons (.var 1) (.cons (.int 3) .nil)))))
    (.seq (.asg (.nm 3) (.call 102 (.cons (.idx (.var 2) (.int 0)) (.cons (.idx (.var 2) (.int 1)) .nil))))
    (.seq (.ret (.tuple (.lc (.tuple (.lc (.ite (.cmp .eq (.var 6) (.var 4)) (.call 95 (.cons (.var 7) (.cons (.tupE (.cons (.int 1) (.cons (.int 1) .nil))) .nil))) (.var 7)) (.tup (.tcons (.nm 6) (.tcons (.nm 7) .tnil))) (.enm (.var 5)) (.bl true) [6, 7])) (.tup (.tcons (.nm 4) (.tcons (.nm 5) .tnil))) (.enm (.var 3)) (.bl true) [4, 5])))
    .done)))
/-- _law_back(table): slots 0 table 1 size 2 whole 3 found 4 line 5 row 6 place 7 less_so 8 much 9 k 10 own -/
def n__law_back : List Str := ["table", "size", "whole", "found", "line", "row", "place", "less_so", "much", "k", "own"]
def b__law_back : Sm :=
  (.seq (.asgP (.tcons (.nm 1) (.tcons (.nm 2) .tnil)) (.cons (.len (.var 0)) (.cons (.call 97 (.cons (.call 101 (.cons (.var 0) .nil)) .nil)) .nil)))
    (.seq (.asg (.nm 3) (.mk (.lstE .nil)))
    (.seq (.forL (.nm 4) (.rng1 (.var 1))
    (.seq (.asg (.nm 5) (.mk (.lstE .nil)))
    (.seq (.forL (.nm 6) (.rng1 (.var 1))
    (.seq (.asg (.nm 7) (.tuple (.lc (.bin .add (.sl (.var 10) .nil (.var 4)) (.sl (.var 10) (.bin .add (.var 4) (.int 1)) .nil)) (.tup (.tcons (.nm 9) (.tcons (.nm 10) .tnil))) (.enm (.var 0)) (.cmp .ne (.var 9) (.var 6)) [9, 10])))
    (.seq (.asg (.nm 8) (.call 96 (.cons (.call 101 (.cons (.var 7) .nil)) (.cons (.var 2) .nil))))
    (.seq (.app (.var 5) (.ite (.cmp .eq (.bin .mod (.bin .add (.var 4) (.var 6)) (.int 2)) (.int 0)) (.var 8) (.tupE (.cons (.neg (.idx (.var 8) (.int 0))) (.cons (.idx (.var 8) (.int 1)) .nil)))))
    .done))))
    (.seq (.app (.var 3) (.tuple (.var 5)))
    .done))))
    (.seq (.ret (.tuple (.var 3)))
    .done))))
/-- _law_inside(fractions): slots 0 fractions 1 own -/
def n__law_inside : List Str := ["fractions", "own"]
def b__law_inside : Sm :=
  (.seq (.ret (.and (.cmp .le (.maxE (.bin .add (.lstE (.cons (.int 0) .nil)) (.lc (.absE (.idx (.var 1) (.int 0))) (.nm 1) (.it (.var 0)) (.bl true) [1]))) (.int 1000000)) (.cmp .le (.maxE (.bin .add (.lstE (.cons (.int 1) .nil)) (.lc (.idx (.var 1) (.int 1)) (.nm 1) (.it (.var 0)) (.bl true) [1]))) (.int 100000))))
    .done)
/-- _law_added(one, other): slots 0 one 1 other 2 line 3 its 4 a 5 b -/
def n__law_added : List Str := ["one", "other", "line", "its", "a", "b"]
def b__law_added : Sm :=
  (.seq (.ret (.tuple (.lc (.tuple (.lc (.call 95 (.cons (.var 4) (.cons (.var 5) .nil))) (.tup (.tcons (.nm 4) (.tcons (.nm 5) .tnil))) (.zip (.var 2) (.var 3)) (.bl true) [4, 5])) (.tup (.tcons (.nm 2) (.tcons (.nm 3) .tnil))) (.zip (.var 0) (.var 1)) (.bl true) [2, 3])))
    .done)
/-- _law_own_sum(table, row): slots 0 table 1 row 2 line -/
def n__law_own_sum : List Str := ["table", "row", "line"]
def b__law_own_sum : Sm :=
  (.seq (.ret (.call 100 (.cons (.var 1) (.cons (.tuple (.lc (.call 100 (.cons (.var 2) (.cons (.var 1) .nil))) (.nm 2) (.it (.var 0)) (.bl true) [2])) .nil))))
    .done)
/-- _law_two_right(tin, one, other): slots 0 tin 1 one 2 other 3 size 4 near 5 far 6 due 7 whole 8 got 9 added 10 much 11 half 12 share 13 gone 14 split 15 row 16 best 17 rest 18 line 19 k 20 a 21 b 22 own -/
def n__law_two_right : List Str := ["tin", "one", "other", "size", "near", "far", "due", "whole", "got", "added", "much", "half", "share", "gone", "split", "row", "best", "rest", "line", "k", "a", "b", "own"]
def b__law_two_right : Sm :=
  (.seq (.asg (.nm 3) (.len (.var 1)))
    (.seq (.asgP (.tcons (.nm 4) (.tcons (.nm 5) .tnil)) (.cons (.call 105 (.cons (.var 1) .nil)) (.cons (.call 105 (.cons (.var 2) .nil)) .nil)))
    (.seq (.asg (.nm 6) (.call 105 (.cons (.call 107 (.cons (.var 4) (.cons (.var 5) .nil))) .nil)))
    (.seq (.asg (.nm 7) (.call 65 (.cons (.call 91 (.cons (.var 1) .nil)) (.cons (.var 2) .nil))))
    (.seq (.asg (.nm 8) (.lstE (.cons (.var 7) (.cons (.call 65 (.cons (.var 2) (.cons (.var 1) .nil))) (.cons (.call 46 (.cons (.var 1) .nil)) (.cons (.call 46 (.cons (.var 7) .nil)) (.cons (.call 57 (.cons (.var 1) (.cons (.var 7) .nil))) (.cons (.call 57 (.cons (.var 2) (.cons (.var 7) .nil))) (.cons (.call 77 (.cons (.var 7) .nil)) (.cons (.call 64 (.cons (.var 1) (.cons (.var 7) .nil))) (.cons (.call 44 (.cons (.var 7) .nil)) (.cons (.call 65 (.cons (.var 1) (.cons (.var 1) .nil))) .nil))))))))))))
    (.seq (.asg (.nm 9) (.call 107 (.cons (.var 1) (.cons (.var 2) .nil))))
    (.seq (.asg (.nm 10) (.call 96 (.cons (.call 96 (.cons (.call 101 (.cons (.var 1) .nil)) (.cons (.call 101 (.cons (.var 2) .nil)) .nil))) (.cons (.call 97 (.cons (.call 101 (.cons (.var 9) .nil)) .nil)) .nil))))
    (.seq (.asg (.nm 11) (.tuple (.lc (.tuple (.lc (.call 96 (.cons (.tupE (.cons (.int 1) (.cons (.int 2) .nil))) (.cons (.var 22) .nil))) (.nm 22) (.it (.var 18)) (.bl true) [22])) (.nm 18) (.it (.var 1)) (.bl true) [18])))
    (.seq (.ite (.nt (.call 90 (.cons (.var 8) (.cons (.lstE (.cons (.var 6) (.cons (.var 6) (.cons (.var 4) (.cons (.call 107 (.cons (.var 4) (.cons (.var 5) .nil))) (.cons (.bl true) (.cons (.bl true) (.cons (.bl true) (.cons (.bl true) (.cons (.var 10) (.cons (.var 11) .nil))))))))))) .nil))))
    (.seq (.ret (.bl false))
    .done)
    .done)
    (.seq (.asg (.nm 12) (.call 88 (.cons (.var 0) (.cons (.lstE (.cons (.tupE (.cons (.int 1) (.cons (.int 2) .nil))) (.cons (.tupE (.cons (.int 1) (.cons (.int 3) .nil))) (.cons (.tupE (.cons (.int 1) (.cons (.int 1) .nil))) (.cons (.tupE (.cons (.int 2) (.cons (.int 3) .nil))) .nil))))) .nil))))
    (.seq (.asg (.nm 13) (.call 98 (.cons (.tupE (.cons (.int 1) (.cons (.int 1) .nil))) (.cons (.var 12) .nil))))
    (.seq (.asg (.nm 14) (.call 107 (.cons (.call 36 (.cons (.var 1) (.cons (.call 96 (.cons (.var 12) (.cons (.var 12) .nil))) .nil))) (.cons (.call 36 (.cons (.var 2) (.cons (.call 96 (.cons (.var 13) (.cons (.var 13) .nil))) .nil))) .nil))))
    (.seq (.asg (.nm 15) (.tuple (.lc (.tupE (.cons (.bin .sub (.call 86 (.cons (.var 0) (.cons (.int 5) .nil))) (.int 2)) (.cons (.int 1) .nil))) (.nm 19) (.rng1 (.var 3)) (.bl true) [19])))
    (.seq (.asg (.nm 8) (.lstE (.cons (.call 57 (.cons (.var 14) (.cons (.var 7) .nil))) (.cons (.call 94 (.cons (.call 108 (.cons (.var 14) (.cons (.var 15) .nil))) (.cons (.call 84 (.cons (.var 7) (.cons (.var 15) .nil))) .nil))) (.cons (.call 51 (.cons (.call 35 (.cons (.var 1) (.cons (.var 7) .nil))) .nil)) (.cons (.call 57 (.cons (.call 58 (.cons (.var 1) (.cons (.var 2) (.cons (.tupE (.cons (.int 1) (.cons (.int 2) .nil))) .nil)))) (.cons (.var 7) .nil))) .nil))))))
    (.seq (.ite (.nt (.call 90 (.cons (.var 8) (.cons (.lstE (.cons (.bl true) (.cons (.bl false) (.cons (.bl true) (.cons (.bl true) .nil))))) .nil))))
    (.seq (.ret (.bl false))
    .done)
    .done)
    (.seq (.asg (.nm 16) (.tuple (.lc (.call 100 (.cons (.var 18) (.cons (.call 40 (.cons (.var 1) (.cons (.var 15) .nil))) .nil))) (.nm 18) (.it (.call 105 (.cons (.var 9) .nil))) (.bl true) [18])))
    (.seq (.asg (.nm 17) (.tuple (.lc (.call 98 (.cons (.var 20) (.cons (.var 21) .nil))) (.tup (.tcons (.nm 20) (.tcons (.nm 21) .tnil))) (.zip (.var 15) (.var 16)) (.bl true) [20, 21])))
    (.seq (.ite (.nt (.call 106 (.cons (.bin .add (.list (.var 16)) (.list (.var 17))) .nil)))
    (.seq (.ret (.bl true))
    .done)
    .done)
    (.seq (.ret (.cmp .eq (.call 95 (.cons (.call 84 (.cons (.var 1) (.cons (.list (.var 17)) .nil))) (.cons (.call 84 (.cons (.var 2) (.cons (.var 16) .nil))) .nil))) (.call 84 (.cons (.var 7) (.cons (.var 15) .nil)))))
    .done)))))))))))))))))))
/-- _law_shares_right(tin, one, other): slots 0 tin 1 one 2 other 3 size 4 whole 5 row 6 near 7 far 8 both_so 9 got 10 own 11 k -/
def n__law_shares_right : List Str := ["tin", "one", "other", "size", "whole", "row", "near", "far", "both_so", "got", "own", "k"]
def b__law_shares_right : Sm :=
  (.seq (.asg (.nm 3) (.len (.var 1)))
    (.seq (.asgP (.tcons (.nm 4) (.tcons (.nm 5) .tnil)) (.cons (.call 65 (.cons (.var 1) (.cons (.var 2) .nil))) (.cons (.tuple (.lc (.tupE (.cons (.bin .sub (.call 86 (.cons (.var 0) (.cons (.int 5) .nil))) (.int 2)) (.cons (.int 1) .nil))) (.nm 11) (.rng1 (.var 3)) (.bl true) [11])) .nil)))
    (.seq (.ite (.cmp .eq (.lc (.int 1) (.nm 10) (.it (.var 5)) (.cmp .ne (.var 10) (.tupE (.cons (.int 0) (.cons (.int 1) .nil)))) [10]) (.lstE .nil))
    (.seq (.asg (.nm 5) (.bin .add (.tupE (.cons (.tupE (.cons (.int 1) (.cons (.int 1) .nil))) .nil)) (.sl (.var 5) (.int 1) .nil)))
    .done)
    .done)
    (.seq (.asgP (.tcons (.nm 6) (.tcons (.nm 7) (.tcons (.nm 8) .tnil))) (.cons (.call 80 (.cons (.var 1) (.cons (.var 5) .nil))) (.cons (.call 80 (.cons (.var 2) (.cons (.list (.var 5)) .nil))) (.cons (.call 80 (.cons (.var 4) (.cons (.var 5) .nil))) .nil))))
    (.seq (.asg (.nm 9) (.lstE (.cons (.var 8) (.cons (.call 61 (.cons (.var 1) (.cons (.var 5) .nil))) (.cons (.call 61 (.cons (.var 4) (.cons (.var 5) .nil))) (.cons (.call 57 (.cons (.var 4) (.cons (.call 36 (.cons (.call 60 (.cons (.var 5) .nil)) (.cons (.call 61 (.cons (.var 4) (.cons (.var 5) .nil))) .nil))) .nil))) .nil))))))
    (.seq (.ret (.call 90 (.cons (.var 9) (.cons (.lstE (.cons (.call 95 (.cons (.var 6) (.cons (.var 7) .nil))) (.cons (.call 97 (.cons (.var 6) .nil)) (.cons (.call 97 (.cons (.call 95 (.cons (.var 6) (.cons (.var 7) .nil))) .nil)) (.cons (.bl true) .nil))))) .nil))))
    .done))))))
/-- _law_three_right(tin, one, other, last): slots 0 tin 1 one 2 other 3 last 4 size 5 near 6 far 7 plain 8 got 9 lot 10 whole 11 parts 12 gone 13 k -/
def n__law_three_right : List Str := ["tin", "one", "other", "last", "size", "near", "far", "plain", "got", "lot", "whole", "parts", "gone", "k"]
def b__law_three_right : Sm :=
  (.seq (.asg (.nm 4) (.len (.var 1)))
    (.seq (.asgP (.tcons (.nm 5) (.tcons (.nm 6) .tnil)) (.cons (.call 65 (.cons (.call 65 (.cons (.var 1) (.cons (.var 2) .nil))) (.cons (.var 3) .nil))) (.cons (.call 65 (.cons (.var 1) (.cons (.call 65 (.cons (.var 2) (.cons (.var 3) .nil))) .nil))) .nil)))
    (.seq (.asg (.nm 7) (.call 32 (.cons (.var 4) .nil)))
    (.seq (.asg (.nm 8) (.lstE (.cons (.var 5) (.cons (.call 65 (.cons (.var 3) (.cons (.call 65 (.cons (.var 2) (.cons (.var 1) .nil))) .nil))) (.cons (.call 57 (.cons (.call 34 (.cons (.var 1) (.cons (.var 2) .nil))) (.cons (.call 65 (.cons (.var 1) (.cons (.var 2) .nil))) .nil))) (.cons (.call 51 (.cons (.call 62 (.cons (.var 1) (.cons (.var 5) .nil))) .nil)) .nil))))))
    (.seq (.ite (.nt (.call 90 (.cons (.var 8) (.cons (.lstE (.cons (.var 6) (.cons (.var 6) (.cons (.bl true) (.cons (.bl true) .nil))))) .nil))))
    (.seq (.ret (.bl false))
    .done)
    .done)
    (.seq (.asg (.nm 9) (.tuple (.sorted (.call 89 (.cons (.var 0) (.cons (.listR (.rng1 (.var 4))) (.cons (.bin .add (.int 1) (.call 86 (.cons (.var 0) (.cons (.var 4) .nil)))) .nil)))))))
    (.seq (.asg (.nm 10) (.call 65 (.cons (.var 1) (.cons (.var 2) .nil))))
    (.seq (.asg (.nm 11) (.call 65 (.cons (.call 38 (.cons (.var 1) (.cons (.var 9) .nil))) (.cons (.call 38 (.cons (.var 2) (.cons (.var 9) .nil))) .nil))))
    (.seq (.ite (.nt (.call 57 (.cons (.var 11) (.cons (.call 38 (.cons (.var 10) (.cons (.var 9) .nil))) .nil))))
    (.seq (.ret (.bl false))
    .done)
    .done)
    (.seq (.asg (.nm 12) (.tuple (.lc (.var 13) (.nm 13) (.rng1 (.var 4)) (.cmp .ntIn (.var 13) (.var 9)) [13])))
    (.seq (.ite (.and (.cmp .ne (.var 12) (.tupE .nil)) (.cmp .ne (.call 75 (.cons (.var 10) (.cons (.var 9) .nil))) (.call 65 (.cons (.call 75 (.cons (.var 1) (.cons (.var 9) .nil))) (.cons (.call 75 (.cons (.var 2) (.cons (.var 9) .nil))) .nil)))))
    (.seq (.ret (.bl false))
    .done)
    .done)
    (.seq (.ret (.cmp .eq (.call 65 (.cons (.var 7) (.cons (.call 36 (.cons (.var 7) (.cons (.tupE (.cons (.int 2) (.cons (.int 1) .nil))) .nil))) .nil))) (.call 36 (.cons (.var 7) (.cons (.tupE (.cons (.int 2) (.cons (.int 3) .nil))) .nil)))))
    .done))))))))))))
/-- _law_right(tin): slots 0 tin 1 size 2 one 3 other 4 last -/
def n__law_right : List Str := ["tin", "size", "one", "other", "last"]
def b__law_right : Sm :=
  (.seq (.asg (.nm 1) (.bin .add (.int 1) (.call 86 (.cons (.var 0) (.cons (.int 3) .nil)))))
    (.seq (.asgP (.tcons (.nm 2) (.tcons (.nm 3) (.tcons (.nm 4) .tnil))) (.cons (.call 104 (.cons (.var 0) (.cons (.var 1) .nil))) (.cons (.call 104 (.cons (.var 0) (.cons (.var 1) .nil))) (.cons (.call 104 (.cons (.var 0) (.cons (.var 1) .nil))) .nil))))
    (.seq (.ret (.and (.call 109 (.cons (.var 0) (.cons (.var 2) (.cons (.var 3) .nil)))) (.and (.call 110 (.cons (.var 0) (.cons (.var 2) (.cons (.var 3) .nil)))) (.call 111 (.cons (.var 0) (.cons (.var 2) (.cons (.var 3) (.cons (.var 4) .nil))))))))
    .done)))
/-- law(script): slots 0 script 1 tin 2 lap -/
def n_law : List Str := ["script", "tin", "lap"]
def b_law : Sm :=
  (.seq (.asg (.nm 1) (.call 85 (.cons (.call 87 (.cons (.var 0) (.cons (.int 1) .nil))) (.cons (.int 0) .nil))))
    (.seq (.ret (.cmp .eq (.lc (.int 1) (.nm 2) (.rng1 (.int 2)) (.nt (.call 112 (.cons (.var 1) .nil))) [2]) (.lstE .nil)))
    .done))
def defs : List Df := [
  ⟨"tupled", 1, 2, b_tupled, false⟩,
  ⟨"is_number", 1, 1, b_is_number, false⟩,
  ⟨"is_count", 1, 1, b_is_count, false⟩,
  ⟨"is_below", 2, 2, b_is_below, false⟩,
  ⟨"is_tuple_of", 2, 2, b_is_tuple_of, false⟩,
  ⟨"are_numbers", 2, 3, b_are_numbers, false⟩,
  ⟨"rises", 1, 3, b_rises, false⟩,
  ⟨"pairs_below", 1, 4, b_pairs_below, false⟩,
  ⟨"is_lot", 2, 3, b_is_lot, false⟩,
  ⟨"sure_lot", 2, 3, b_sure_lot, false⟩,
  ⟨"sure_number", 1, 1, b_sure_number, false⟩,
  ⟨"shared", 2, 4, b_shared, false⟩,
  ⟨"made", 2, 4, b_made, false⟩,
  ⟨"is_fraction", 1, 1, b_is_fraction, false⟩,
  ⟨"sure_fraction", 1, 2, b_sure_fraction, false⟩,
  ⟨"is_row", 1, 2, b_is_row, false⟩,
  ⟨"sure_row", 1, 2, b_sure_row, false⟩,
  ⟨"add", 2, 2, b_add, false⟩,
  ⟨"take", 2, 2, b_take, false⟩,
  ⟨"multiply", 2, 2, b_multiply, false⟩,
  ⟨"divide", 2, 2, b_divide, false⟩,
  ⟨"opposite", 1, 1, b_opposite, false⟩,
  ⟨"total", 1, 3, b_total, false⟩,
  ⟨"both", 2, 4, b_both, false⟩,
  ⟨"whole_of", 1, 5, b_whole_of, false⟩,
  ⟨"is_told", 1, 5, b_is_told, false⟩,
  ⟨"is_told_part", 2, 2, b_is_told_part, false⟩,
  ⟨"is_table", 1, 2, b_is_table, false⟩,
  ⟨"sure_told", 1, 2, b_sure_told, false⟩,
  ⟨"sure_table", 1, 2, b_sure_table, false⟩,
  ⟨"sure_tables", 2, 4, b_sure_tables, false⟩,
  ⟨"plain_of", 1, 3, b_plain_of, false⟩,
  ⟨"plain_table", 1, 1, b_plain_table, false⟩,
  ⟨"mixed", 3, 8, b_mixed, false⟩,
  ⟨"plus_tables", 2, 4, b_plus_tables, false⟩,
  ⟨"less_tables", 2, 4, b_less_tables, false⟩,
  ⟨"times_table", 2, 6, b_times_table, false⟩,
  ⟨"part_at", 2, 4, b_part_at, false⟩,
  ⟨"part_of", 2, 4, b_part_of, false⟩,
  ⟨"times_numbers", 2, 3, b_times_numbers, false⟩,
  ⟨"row_led", 2, 4, b_row_led, false⟩,
  ⟨"less_head", 3, 6, b_less_head, false⟩,
  ⟨"reduced", 2, 13, b_reduced, false⟩,
  ⟨"determinant_in", 1, 4, b_determinant_in, false⟩,
  ⟨"determinant", 1, 1, b_determinant, false⟩,
  ⟨"back_in", 1, 8, b_back_in, false⟩,
  ⟨"back_table", 1, 2, b_back_table, false⟩,
  ⟨"less_row", 3, 5, b_less_row, false⟩,
  ⟨"gone_through", 1, 14, b_gone_through, false⟩,
  ⟨"numbers_of", 4, 6, b_numbers_of, false⟩,
  ⟨"never_below", 1, 1, b_never_below, false⟩,
  ⟨"is_never_below", 1, 1, b_is_never_below, false⟩,
  ⟨"sure_never_below", 1, 2, b_sure_never_below, false⟩,
  ⟨"rank_in", 1, 1, b_rank_in, false⟩,
  ⟨"solve", 2, 10, b_solve, false⟩,
  ⟨"sure_row_for", 2, 3, b_sure_row_for, false⟩,
  ⟨"is_over_in", 2, 2, b_is_over_in, false⟩,
  ⟨"is_over", 2, 4, b_is_over, false⟩,
  ⟨"mixed_table", 3, 6, b_mixed_table, false⟩,
  ⟨"row_square", 1, 3, b_row_square, false⟩,
  ⟨"own_table", 1, 1, b_own_table, false⟩,
  ⟨"greatest_of_row", 2, 5, b_greatest_of_row, false⟩,
  ⟨"times_places", 2, 9, b_times_places, false⟩,
  ⟨"sure_without_ties", 2, 4, b_sure_without_ties, false⟩,
  ⟨"backs_over", 2, 4, b_backs_over, false⟩,
  ⟨"beside_each_other", 2, 4, b_beside_each_other, false⟩,
  ⟨"make_in", 3, 3, b_make_in, false⟩,
  ⟨"products_of_rows", 2, 4, b_products_of_rows, false⟩,
  ⟨"sure_products", 2, 3, b_sure_products, false⟩,
  ⟨"sure_gap", 2, 4, b_sure_gap, false⟩,
  ⟨"rest_of", 2, 3, b_rest_of, false⟩,
  ⟨"share_of", 3, 4, b_share_of, false⟩,
  ⟨"row_beyond", 3, 6, b_row_beyond, false⟩,
  ⟨"rows_beyond", 2, 3, b_rows_beyond, false⟩,
  ⟨"beyond_in", 2, 2, b_beyond_in, false⟩,
  ⟨"beyond_table", 2, 4, b_beyond_table, false⟩,
  ⟨"is_tieless", 1, 1, b_is_tieless, false⟩,
  ⟨"is_without_ties", 1, 1, b_is_without_ties, false⟩,
  ⟨"sure_more", 2, 3, b_sure_more, false⟩,
  ⟨"sum_for_row", 2, 5, b_sum_for_row, false⟩,
  ⟨"least_own", 2, 4, b_least_own, false⟩,
  ⟨"sure_sum", 2, 3, b_sure_sum, false⟩,
  ⟨"product_of_sums", 3, 3, b_product_of_sums, false⟩,
  ⟨"sums_product", 3, 6, b_sums_product, false⟩,
  ⟨"sum_own", 2, 2, b_sum_own, false⟩,
  ⟨"_law_box", 2, 3, b__law_box, true⟩,
  ⟨"_law_take", 2, 6, b__law_take, false⟩,
  ⟨"_law_cells", 2, 6, b__law_cells, false⟩,
  ⟨"_law_of", 2, 2, b__law_of, false⟩,
  ⟨"_law_pick", 3, 6, b__law_pick, false⟩,
  ⟨"_law_same", 2, 4, b__law_same, false⟩,
  ⟨"_law_lists", 1, 2, b__law_lists, false⟩,
  ⟨"_law_gcd", 2, 2, b__law_gcd, false⟩,
  ⟨"_law_fr", 2, 3, b__law_fr, false⟩,
  ⟨"_law_below", 2, 2, b__law_below, false⟩,
  ⟨"_law_sum", 2, 2, b__law_sum, false⟩,
  ⟨"_law_mul", 2, 2, b__law_mul, false⟩,
  ⟨"_law_over", 1, 1, b__law_over, false⟩,
  ⟨"_law_less", 2, 2, b__law_less, false⟩,
  ⟨"_law_total", 1, 3, b__law_total, false⟩,
  ⟨"_law_both", 2, 4, b__law_both, false⟩,
  ⟨"_law_det", 1, 9, b__law_det, false⟩,
  ⟨"_law_gram", 2, 8, b__law_gram, false⟩,
  ⟨"_law_axes", 3, 8, b__law_axes, false⟩,
  ⟨"_law_firm", 2, 8, b__law_firm, false⟩,
  ⟨"_law_back", 1, 11, b__law_back, false⟩,
  ⟨"_law_inside", 1, 2, b__law_inside, false⟩,
  ⟨"_law_added", 2, 6, b__law_added, false⟩,
  ⟨"_law_own_sum", 2, 3, b__law_own_sum, false⟩,
  ⟨"_law_two_right", 3, 23, b__law_two_right, false⟩,
  ⟨"_law_shares_right", 3, 12, b__law_shares_right, false⟩,
  ⟨"_law_three_right", 4, 14, b__law_three_right, false⟩,
  ⟨"_law_right", 1, 5, b__law_right, false⟩,
  ⟨"law", 1, 3, b_law, false⟩]
abbrev i_tupled : Nat := 0
abbrev d_tupled : Df := ⟨"tupled", 1, 2, b_tupled, false⟩
theorem t_tupled : defs[i_tupled]? = some d_tupled := rfl
abbrev i_is_number : Nat := 1
abbrev d_is_number : Df := ⟨"is_number", 1, 1, b_is_number, false⟩
theorem t_is_number : defs[i_is_number]? = some d_is_number := rfl
abbrev i_is_count : Nat := 2
abbrev d_is_count : Df := ⟨"is_count", 1, 1, b_is_count, false⟩
theorem t_is_count : defs[i_is_count]? = some d_is_count := rfl
abbrev i_is_below : Nat := 3
abbrev d_is_below : Df := ⟨"is_below", 2, 2, b_is_below, false⟩
theorem t_is_below : defs[i_is_below]? = some d_is_below := rfl
abbrev i_is_tuple_of : Nat := 4
abbrev d_is_tuple_of : Df := ⟨"is_tuple_of", 2, 2, b_is_tuple_of, false⟩
theorem t_is_tuple_of : defs[i_is_tuple_of]? = some d_is_tuple_of := rfl
abbrev i_are_numbers : Nat := 5
abbrev d_are_numbers : Df := ⟨"are_numbers", 2, 3, b_are_numbers, false⟩
theorem t_are_numbers : defs[i_are_numbers]? = some d_are_numbers := rfl
abbrev i_rises : Nat := 6
abbrev d_rises : Df := ⟨"rises", 1, 3, b_rises, false⟩
theorem t_rises : defs[i_rises]? = some d_rises := rfl
abbrev i_pairs_below : Nat := 7
abbrev d_pairs_below : Df := ⟨"pairs_below", 1, 4, b_pairs_below, false⟩
theorem t_pairs_below : defs[i_pairs_below]? = some d_pairs_below := rfl
abbrev i_is_lot : Nat := 8
abbrev d_is_lot : Df := ⟨"is_lot", 2, 3, b_is_lot, false⟩
theorem t_is_lot : defs[i_is_lot]? = some d_is_lot := rfl
abbrev i_sure_lot : Nat := 9
abbrev d_sure_lot : Df := ⟨"sure_lot", 2, 3, b_sure_lot, false⟩
theorem t_sure_lot : defs[i_sure_lot]? = some d_sure_lot := rfl
abbrev i_sure_number : Nat := 10
abbrev d_sure_number : Df := ⟨"sure_number", 1, 1, b_sure_number, false⟩
theorem t_sure_number : defs[i_sure_number]? = some d_sure_number := rfl
abbrev i_shared : Nat := 11
abbrev d_shared : Df := ⟨"shared", 2, 4, b_shared, false⟩
theorem t_shared : defs[i_shared]? = some d_shared := rfl
abbrev i_made : Nat := 12
abbrev d_made : Df := ⟨"made", 2, 4, b_made, false⟩
theorem t_made : defs[i_made]? = some d_made := rfl
abbrev i_is_fraction : Nat := 13
abbrev d_is_fraction : Df := ⟨"is_fraction", 1, 1, b_is_fraction, false⟩
theorem t_is_fraction : defs[i_is_fraction]? = some d_is_fraction := rfl
abbrev i_sure_fraction : Nat := 14
abbrev d_sure_fraction : Df := ⟨"sure_fraction", 1, 2, b_sure_fraction, false⟩
theorem t_sure_fraction : defs[i_sure_fraction]? = some d_sure_fraction := rfl
abbrev i_is_row : Nat := 15
abbrev d_is_row : Df := ⟨"is_row", 1, 2, b_is_row, false⟩
theorem t_is_row : defs[i_is_row]? = some d_is_row := rfl
abbrev i_sure_row : Nat := 16
abbrev d_sure_row : Df := ⟨"sure_row", 1, 2, b_sure_row, false⟩
theorem t_sure_row : defs[i_sure_row]? = some d_sure_row := rfl
abbrev i_add : Nat := 17
abbrev d_add : Df := ⟨"add", 2, 2, b_add, false⟩
theorem t_add : defs[i_add]? = some d_add := rfl
abbrev i_take : Nat := 18
abbrev d_take : Df := ⟨"take", 2, 2, b_take, false⟩
theorem t_take : defs[i_take]? = some d_take := rfl
abbrev i_multiply : Nat := 19
abbrev d_multiply : Df := ⟨"multiply", 2, 2, b_multiply, false⟩
theorem t_multiply : defs[i_multiply]? = some d_multiply := rfl
abbrev i_divide : Nat := 20
abbrev d_divide : Df := ⟨"divide", 2, 2, b_divide, false⟩
theorem t_divide : defs[i_divide]? = some d_divide := rfl
abbrev i_opposite : Nat := 21
abbrev d_opposite : Df := ⟨"opposite", 1, 1, b_opposite, false⟩
theorem t_opposite : defs[i_opposite]? = some d_opposite := rfl
abbrev i_total : Nat := 22
abbrev d_total : Df := ⟨"total", 1, 3, b_total, false⟩
theorem t_total : defs[i_total]? = some d_total := rfl
abbrev i_both : Nat := 23
abbrev d_both : Df := ⟨"both", 2, 4, b_both, false⟩
theorem t_both : defs[i_both]? = some d_both := rfl
abbrev i_whole_of : Nat := 24
abbrev d_whole_of : Df := ⟨"whole_of", 1, 5, b_whole_of, false⟩
theorem t_whole_of : defs[i_whole_of]? = some d_whole_of := rfl
abbrev i_is_told : Nat := 25
abbrev d_is_told : Df := ⟨"is_told", 1, 5, b_is_told, false⟩
theorem t_is_told : defs[i_is_told]? = some d_is_told := rfl
abbrev i_is_told_part : Nat := 26
abbrev d_is_told_part : Df := ⟨"is_told_part", 2, 2, b_is_told_part, false⟩
theorem t_is_told_part : defs[i_is_told_part]? = some d_is_told_part := rfl
abbrev i_is_table : Nat := 27
abbrev d_is_table : Df := ⟨"is_table", 1, 2, b_is_table, false⟩
theorem t_is_table : defs[i_is_table]? = some d_is_table := rfl
abbrev i_sure_told : Nat := 28
abbrev d_sure_told : Df := ⟨"sure_told", 1, 2, b_sure_told, false⟩
theorem t_sure_told : defs[i_sure_told]? = some d_sure_told := rfl
abbrev i_sure_table : Nat := 29
abbrev d_sure_table : Df := ⟨"sure_table", 1, 2, b_sure_table, false⟩
theorem t_sure_table : defs[i_sure_table]? = some d_sure_table := rfl
abbrev i_sure_tables : Nat := 30
abbrev d_sure_tables : Df := ⟨"sure_tables", 2, 4, b_sure_tables, false⟩
theorem t_sure_tables : defs[i_sure_tables]? = some d_sure_tables := rfl
abbrev i_plain_of : Nat := 31
abbrev d_plain_of : Df := ⟨"plain_of", 1, 3, b_plain_of, false⟩
theorem t_plain_of : defs[i_plain_of]? = some d_plain_of := rfl
abbrev i_plain_table : Nat := 32
abbrev d_plain_table : Df := ⟨"plain_table", 1, 1, b_plain_table, false⟩
theorem t_plain_table : defs[i_plain_table]? = some d_plain_table := rfl
abbrev i_mixed : Nat := 33
abbrev d_mixed : Df := ⟨"mixed", 3, 8, b_mixed, false⟩
theorem t_mixed : defs[i_mixed]? = some d_mixed := rfl
abbrev i_plus_tables : Nat := 34
abbrev d_plus_tables : Df := ⟨"plus_tables", 2, 4, b_plus_tables, false⟩
theorem t_plus_tables : defs[i_plus_tables]? = some d_plus_tables := rfl
abbrev i_less_tables : Nat := 35
abbrev d_less_tables : Df := ⟨"less_tables", 2, 4, b_less_tables, false⟩
theorem t_less_tables : defs[i_less_tables]? = some d_less_tables := rfl
abbrev i_times_table : Nat := 36
abbrev d_times_table : Df := ⟨"times_table", 2, 6, b_times_table, false⟩
theorem t_times_table : defs[i_times_table]? = some d_times_table := rfl
abbrev i_part_at : Nat := 37
abbrev d_part_at : Df := ⟨"part_at", 2, 4, b_part_at, false⟩
theorem t_part_at : defs[i_part_at]? = some d_part_at := rfl
abbrev i_part_of : Nat := 38
abbrev d_part_of : Df := ⟨"part_of", 2, 4, b_part_of, false⟩
theorem t_part_of : defs[i_part_of]? = some d_part_of := rfl
abbrev i_times_numbers : Nat := 39
abbrev d_times_numbers : Df := ⟨"times_numbers", 2, 3, b_times_numbers, false⟩
theorem t_times_numbers : defs[i_times_numbers]? = some d_times_numbers := rfl
abbrev i_row_led : Nat := 40
abbrev d_row_led : Df := ⟨"row_led", 2, 4, b_row_led, false⟩
theorem t_row_led : defs[i_row_led]? = some d_row_led := rfl
abbrev i_less_head : Nat := 41
abbrev d_less_head : Df := ⟨"less_head", 3, 6, b_less_head, false⟩
theorem t_less_head : defs[i_less_head]? = some d_less_head := rfl
abbrev i_reduced : Nat := 42
abbrev d_reduced : Df := ⟨"reduced", 2, 13, b_reduced, false⟩
theorem t_reduced : defs[i_reduced]? = some d_reduced := rfl
abbrev i_determinant_in : Nat := 43
abbrev d_determinant_in : Df := ⟨"determinant_in", 1, 4, b_determinant_in, false⟩
theorem t_determinant_in : defs[i_determinant_in]? = some d_determinant_in := rfl
abbrev i_determinant : Nat := 44
abbrev d_determinant : Df := ⟨"determinant", 1, 1, b_determinant, false⟩
theorem t_determinant : defs[i_determinant]? = some d_determinant := rfl
abbrev i_back_in : Nat := 45
abbrev d_back_in : Df := ⟨"back_in", 1, 8, b_back_in, false⟩
theorem t_back_in : defs[i_back_in]? = some d_back_in := rfl
abbrev i_back_table : Nat := 46
abbrev d_back_table : Df := ⟨"back_table", 1, 2, b_back_table, false⟩
theorem t_back_table : defs[i_back_table]? = some d_back_table := rfl
abbrev i_less_row : Nat := 47
abbrev d_less_row : Df := ⟨"less_row", 3, 5, b_less_row, false⟩
theorem t_less_row : defs[i_less_row]? = some d_less_row := rfl
abbrev i_gone_through : Nat := 48
abbrev d_gone_through : Df := ⟨"gone_through", 1, 14, b_gone_through, false⟩
theorem t_gone_through : defs[i_gone_through]? = some d_gone_through := rfl
abbrev i_numbers_of : Nat := 49
abbrev d_numbers_of : Df := ⟨"numbers_of", 4, 6, b_numbers_of, false⟩
theorem t_numbers_of : defs[i_numbers_of]? = some d_numbers_of := rfl
abbrev i_never_below : Nat := 50
abbrev d_never_below : Df := ⟨"never_below", 1, 1, b_never_below, false⟩
theorem t_never_below : defs[i_never_below]? = some d_never_below := rfl
abbrev i_is_never_below : Nat := 51
abbrev d_is_never_below : Df := ⟨"is_never_below", 1, 1, b_is_never_below, false⟩
theorem t_is_never_below : defs[i_is_never_below]? = some d_is_never_below := rfl
abbrev i_sure_never_below : Nat := 52
abbrev d_sure_never_below : Df := ⟨"sure_never_below", 1, 2, b_sure_never_below, false⟩
theorem t_sure_never_below : defs[i_sure_never_below]? = some d_sure_never_below := rfl
abbrev i_rank_in : Nat := 53
abbrev d_rank_in : Df := ⟨"rank_in", 1, 1, b_rank_in, false⟩
theorem t_rank_in : defs[i_rank_in]? = some d_rank_in := rfl
abbrev i_solve : Nat := 54
abbrev d_solve : Df := ⟨"solve", 2, 10, b_solve, false⟩
theorem t_solve : defs[i_solve]? = some d_solve := rfl
abbrev i_sure_row_for : Nat := 55
abbrev d_sure_row_for : Df := ⟨"sure_row_for", 2, 3, b_sure_row_for, false⟩
theorem t_sure_row_for : defs[i_sure_row_for]? = some d_sure_row_for := rfl
abbrev i_is_over_in : Nat := 56
abbrev d_is_over_in : Df := ⟨"is_over_in", 2, 2, b_is_over_in, false⟩
theorem t_is_over_in : defs[i_is_over_in]? = some d_is_over_in := rfl
abbrev i_is_over : Nat := 57
abbrev d_is_over : Df := ⟨"is_over", 2, 4, b_is_over, false⟩
theorem t_is_over : defs[i_is_over]? = some d_is_over := rfl
abbrev i_mixed_table : Nat := 58
abbrev d_mixed_table : Df := ⟨"mixed_table", 3, 6, b_mixed_table, false⟩
theorem t_mixed_table : defs[i_mixed_table]? = some d_mixed_table := rfl
abbrev i_row_square : Nat := 59
abbrev d_row_square : Df := ⟨"row_square", 1, 3, b_row_square, false⟩
theorem t_row_square : defs[i_row_square]? = some d_row_square := rfl
abbrev i_own_table : Nat := 60
abbrev d_own_table : Df := ⟨"own_table", 1, 1, b_own_table, false⟩
theorem t_own_table : defs[i_own_table]? = some d_own_table := rfl
abbrev i_greatest_of_row : Nat := 61
abbrev d_greatest_of_row : Df := ⟨"greatest_of_row", 2, 5, b_greatest_of_row, false⟩
theorem t_greatest_of_row : defs[i_greatest_of_row]? = some d_greatest_of_row := rfl
abbrev i_times_places : Nat := 62
abbrev d_times_places : Df := ⟨"times_places", 2, 9, b_times_places, false⟩
theorem t_times_places : defs[i_times_places]? = some d_times_places := rfl
abbrev i_sure_without_ties : Nat := 63
abbrev d_sure_without_ties : Df := ⟨"sure_without_ties", 2, 4, b_sure_without_ties, false⟩
theorem t_sure_without_ties : defs[i_sure_without_ties]? = some d_sure_without_ties := rfl
abbrev i_backs_over : Nat := 64
abbrev d_backs_over : Df := ⟨"backs_over", 2, 4, b_backs_over, false⟩
theorem t_backs_over : defs[i_backs_over]? = some d_backs_over := rfl
abbrev i_beside_each_other : Nat := 65
abbrev d_beside_each_other : Df := ⟨"beside_each_other", 2, 4, b_beside_each_other, false⟩
theorem t_beside_each_other : defs[i_beside_each_other]? = some d_beside_each_other := rfl
abbrev i_make_in : Nat := 66
abbrev d_make_in : Df := ⟨"make_in", 3, 3, b_make_in, false⟩
theorem t_make_in : defs[i_make_in]? = some d_make_in := rfl
abbrev i_products_of_rows : Nat := 67
abbrev d_products_of_rows : Df := ⟨"products_of_rows", 2, 4, b_products_of_rows, false⟩
theorem t_products_of_rows : defs[i_products_of_rows]? = some d_products_of_rows := rfl
abbrev i_sure_products : Nat := 68
abbrev d_sure_products : Df := ⟨"sure_products", 2, 3, b_sure_products, false⟩
theorem t_sure_products : defs[i_sure_products]? = some d_sure_products := rfl
abbrev i_sure_gap : Nat := 69
abbrev d_sure_gap : Df := ⟨"sure_gap", 2, 4, b_sure_gap, false⟩
theorem t_sure_gap : defs[i_sure_gap]? = some d_sure_gap := rfl
abbrev i_rest_of : Nat := 70
abbrev d_rest_of : Df := ⟨"rest_of", 2, 3, b_rest_of, false⟩
theorem t_rest_of : defs[i_rest_of]? = some d_rest_of := rfl
abbrev i_share_of : Nat := 71
abbrev d_share_of : Df := ⟨"share_of", 3, 4, b_share_of, false⟩
theorem t_share_of : defs[i_share_of]? = some d_share_of := rfl
abbrev i_row_beyond : Nat := 72
abbrev d_row_beyond : Df := ⟨"row_beyond", 3, 6, b_row_beyond, false⟩
theorem t_row_beyond : defs[i_row_beyond]? = some d_row_beyond := rfl
abbrev i_rows_beyond : Nat := 73
abbrev d_rows_beyond : Df := ⟨"rows_beyond", 2, 3, b_rows_beyond, false⟩
theorem t_rows_beyond : defs[i_rows_beyond]? = some d_rows_beyond := rfl
abbrev i_beyond_in : Nat := 74
abbrev d_beyond_in : Df := ⟨"beyond_in", 2, 2, b_beyond_in, false⟩
theorem t_beyond_in : defs[i_beyond_in]? = some d_beyond_in := rfl
abbrev i_beyond_table : Nat := 75
abbrev d_beyond_table : Df := ⟨"beyond_table", 2, 4, b_beyond_table, false⟩
theorem t_beyond_table : defs[i_beyond_table]? = some d_beyond_table := rfl
abbrev i_is_tieless : Nat := 76
abbrev d_is_tieless : Df := ⟨"is_tieless", 1, 1, b_is_tieless, false⟩
theorem t_is_tieless : defs[i_is_tieless]? = some d_is_tieless := rfl
abbrev i_is_without_ties : Nat := 77
abbrev d_is_without_ties : Df := ⟨"is_without_ties", 1, 1, b_is_without_ties, false⟩
theorem t_is_without_ties : defs[i_is_without_ties]? = some d_is_without_ties := rfl
abbrev i_sure_more : Nat := 78
abbrev d_sure_more : Df := ⟨"sure_more", 2, 3, b_sure_more, false⟩
theorem t_sure_more : defs[i_sure_more]? = some d_sure_more := rfl
abbrev i_sum_for_row : Nat := 79
abbrev d_sum_for_row : Df := ⟨"sum_for_row", 2, 5, b_sum_for_row, false⟩
theorem t_sum_for_row : defs[i_sum_for_row]? = some d_sum_for_row := rfl
abbrev i_least_own : Nat := 80
abbrev d_least_own : Df := ⟨"least_own", 2, 4, b_least_own, false⟩
theorem t_least_own : defs[i_least_own]? = some d_least_own := rfl
abbrev i_sure_sum : Nat := 81
abbrev d_sure_sum : Df := ⟨"sure_sum", 2, 3, b_sure_sum, false⟩
theorem t_sure_sum : defs[i_sure_sum]? = some d_sure_sum := rfl
abbrev i_product_of_sums : Nat := 82
abbrev d_product_of_sums : Df := ⟨"product_of_sums", 3, 3, b_product_of_sums, false⟩
theorem t_product_of_sums : defs[i_product_of_sums]? = some d_product_of_sums := rfl
abbrev i_sums_product : Nat := 83
abbrev d_sums_product : Df := ⟨"sums_product", 3, 6, b_sums_product, false⟩
theorem t_sums_product : defs[i_sums_product]? = some d_sums_product := rfl
abbrev i_sum_own : Nat := 84
abbrev d_sum_own : Df := ⟨"sum_own", 2, 2, b_sum_own, false⟩
theorem t_sum_own : defs[i_sum_own]? = some d_sum_own := rfl
abbrev i__law_box : Nat := 85
abbrev d__law_box : Df := ⟨"_law_box", 2, 3, b__law_box, true⟩
theorem t__law_box : defs[i__law_box]? = some d__law_box := rfl
abbrev i__law_take : Nat := 86
abbrev d__law_take : Df := ⟨"_law_take", 2, 6, b__law_take, false⟩
theorem t__law_take : defs[i__law_take]? = some d__law_take := rfl
abbrev i__law_cells : Nat := 87
abbrev d__law_cells : Df := ⟨"_law_cells", 2, 6, b__law_cells, false⟩
theorem t__law_cells : defs[i__law_cells]? = some d__law_cells := rfl
abbrev i__law_of : Nat := 88
abbrev d__law_of : Df := ⟨"_law_of", 2, 2, b__law_of, false⟩
theorem t__law_of : defs[i__law_of]? = some d__law_of := rfl
abbrev i__law_pick : Nat := 89
abbrev d__law_pick : Df := ⟨"_law_pick", 3, 6, b__law_pick, false⟩
theorem t__law_pick : defs[i__law_pick]? = some d__law_pick := rfl
abbrev i__law_same : Nat := 90
abbrev d__law_same : Df := ⟨"_law_same", 2, 4, b__law_same, false⟩
theorem t__law_same : defs[i__law_same]? = some d__law_same := rfl
abbrev i__law_lists : Nat := 91
abbrev d__law_lists : Df := ⟨"_law_lists", 1, 2, b__law_lists, false⟩
theorem t__law_lists : defs[i__law_lists]? = some d__law_lists := rfl
abbrev i__law_gcd : Nat := 92
abbrev d__law_gcd : Df := ⟨"_law_gcd", 2, 2, b__law_gcd, false⟩
theorem t__law_gcd : defs[i__law_gcd]? = some d__law_gcd := rfl
abbrev i__law_fr : Nat := 93
abbrev d__law_fr : Df := ⟨"_law_fr", 2, 3, b__law_fr, false⟩
theorem t__law_fr : defs[i__law_fr]? = some d__law_fr := rfl
abbrev i__law_below : Nat := 94
abbrev d__law_below : Df := ⟨"_law_below", 2, 2, b__law_below, false⟩
theorem t__law_below : defs[i__law_below]? = some d__law_below := rfl
abbrev i__law_sum : Nat := 95
abbrev d__law_sum : Df := ⟨"_law_sum", 2, 2, b__law_sum, false⟩
theorem t__law_sum : defs[i__law_sum]? = some d__law_sum := rfl
abbrev i__law_mul : Nat := 96
abbrev d__law_mul : Df := ⟨"_law_mul", 2, 2, b__law_mul, false⟩
theorem t__law_mul : defs[i__law_mul]? = some d__law_mul := rfl
abbrev i__law_over : Nat := 97
abbrev d__law_over : Df := ⟨"_law_over", 1, 1, b__law_over, false⟩
theorem t__law_over : defs[i__law_over]? = some d__law_over := rfl
abbrev i__law_less : Nat := 98
abbrev d__law_less : Df := ⟨"_law_less", 2, 2, b__law_less, false⟩
theorem t__law_less : defs[i__law_less]? = some d__law_less := rfl
abbrev i__law_total : Nat := 99
abbrev d__law_total : Df := ⟨"_law_total", 1, 3, b__law_total, false⟩
theorem t__law_total : defs[i__law_total]? = some d__law_total := rfl
abbrev i__law_both : Nat := 100
abbrev d__law_both : Df := ⟨"_law_both", 2, 4, b__law_both, false⟩
theorem t__law_both : defs[i__law_both]? = some d__law_both := rfl
abbrev i__law_det : Nat := 101
abbrev d__law_det : Df := ⟨"_law_det", 1, 9, b__law_det, false⟩
theorem t__law_det : defs[i__law_det]? = some d__law_det := rfl
abbrev i__law_gram : Nat := 102
abbrev d__law_gram : Df := ⟨"_law_gram", 2, 8, b__law_gram, false⟩
theorem t__law_gram : defs[i__law_gram]? = some d__law_gram := rfl
abbrev i__law_axes : Nat := 103
abbrev d__law_axes : Df := ⟨"_law_axes", 3, 8, b__law_axes, false⟩
theorem t__law_axes : defs[i__law_axes]? = some d__law_axes := rfl
abbrev i__law_firm : Nat := 104
abbrev d__law_firm : Df := ⟨"_law_firm", 2, 8, b__law_firm, false⟩
theorem t__law_firm : defs[i__law_firm]? = some d__law_firm := rfl
abbrev i__law_back : Nat := 105
abbrev d__law_back : Df := ⟨"_law_back", 1, 11, b__law_back, false⟩
theorem t__law_back : defs[i__law_back]? = some d__law_back := rfl
abbrev i__law_inside : Nat := 106
abbrev d__law_inside : Df := ⟨"_law_inside", 1, 2, b__law_inside, false⟩
theorem t__law_inside : defs[i__law_inside]? = some d__law_inside := rfl
abbrev i__law_added : Nat := 107
abbrev d__law_added : Df := ⟨"_law_added", 2, 6, b__law_added, false⟩
theorem t__law_added : defs[i__law_added]? = some d__law_added := rfl
abbrev i__law_own_sum : Nat := 108
abbrev d__law_own_sum : Df := ⟨"_law_own_sum", 2, 3, b__law_own_sum, false⟩
theorem t__law_own_sum : defs[i__law_own_sum]? = some d__law_own_sum := rfl
abbrev i__law_two_right : Nat := 109
abbrev d__law_two_right : Df := ⟨"_law_two_right", 3, 23, b__law_two_right, false⟩
theorem t__law_two_right : defs[i__law_two_right]? = some d__law_two_right := rfl
abbrev i__law_shares_right : Nat := 110
abbrev d__law_shares_right : Df := ⟨"_law_shares_right", 3, 12, b__law_shares_right, false⟩
theorem t__law_shares_right : defs[i__law_shares_right]? = some d__law_shares_right := rfl
abbrev i__law_three_right : Nat := 111
abbrev d__law_three_right : Df := ⟨"_law_three_right", 4, 14, b__law_three_right, false⟩
theorem t__law_three_right : defs[i__law_three_right]? = some d__law_three_right := rfl
abbrev i__law_right : Nat := 112
abbrev d__law_right : Df := ⟨"_law_right", 1, 5, b__law_right, false⟩
theorem t__law_right : defs[i__law_right]? = some d__law_right := rfl
abbrev i_law : Nat := 113
abbrev d_law : Df := ⟨"law", 1, 3, b_law, false⟩
theorem t_law : defs[i_law]? = some d_law := rfl
def slotsOf : List (List Str) := [n_tupled, n_is_number, n_is_count, n_is_below, n_is_tuple_of, n_are_numbers, n_rises, n_pairs_below, n_is_lot, n_sure_lot, n_sure_number, n_shared, n_made, n_is_fraction, n_sure_fraction, n_is_row, n_sure_row, n_add, n_take, n_multiply, n_divide, n_opposite, n_total, n_both, n_whole_of, n_is_told, n_is_told_part, n_is_table, n_sure_told, n_sure_table, n_sure_tables, n_plain_of, n_plain_table, n_mixed, n_plus_tables, n_less_tables, n_times_table, n_part_at, n_part_of, n_times_numbers, n_row_led, n_less_head, n_reduced, n_determinant_in, n_determinant, n_back_in, n_back_table, n_less_row, n_gone_through, n_numbers_of, n_never_below, n_is_never_below, n_sure_never_below, n_rank_in, n_solve, n_sure_row_for, n_is_over_in, n_is_over, n_mixed_table, n_row_square, n_own_table, n_greatest_of_row, n_times_places, n_sure_without_ties, n_backs_over, n_beside_each_other, n_make_in, n_products_of_rows, n_sure_products, n_sure_gap, n_rest_of, n_share_of, n_row_beyond, n_rows_beyond, n_beyond_in, n_beyond_table, n_is_tieless, n_is_without_ties, n_sure_more, n_sum_for_row, n_least_own, n_sure_sum, n_product_of_sums, n_sums_product, n_sum_own, n__law_box, n__law_take, n__law_cells, n__law_of, n__law_pick, n__law_same, n__law_lists, n__law_gcd, n__law_fr, n__law_below, n__law_sum, n__law_mul, n__law_over, n__law_less, n__law_total, n__law_both, n__law_det, n__law_gram, n__law_axes, n__law_firm, n__law_back, n__law_inside, n__law_added, n__law_own_sum, n__law_two_right, n__law_shares_right, n__law_three_right, n__law_right, n_law]
def topOf : List Nat := [4, 5, 6, 7, 8, 9, 10, 11, 12, 13, 14, 19, 20, 21, 22, 23, 24, 25, 26, 27, 28, 29, 30, 31, 32, 34, 35, 36, 37, 38, 39, 40, 41, 42, 43, 44, 45, 46, 47, 48, 49, 50, 51, 52, 53, 54, 55, 58, 59, 60, 61, 62, 64, 65, 66, 67, 70, 71, 72, 73, 74, 75, 76, 77, 78, 79, 81, 82, 83, 85, 86, 87, 88, 89, 90, 91, 93, 94, 96, 97, 98, 100, 101, 102, 103, 105, 106, 107, 108, 109, 110, 111, 112, 113, 114, 115, 116, 117, 118, 119, 120, 121, 122, 123, 124, 125, 126, 127, 128, 129, 130, 131, 132, 133]
end Ev

set_option Elab.async false
set_option linter.all false
set_option maxRecDepth 100000
set_option maxHeartbeats 4000000
set_option autoImplicit false
/-! specs: calls without cells, numbers -/
namespace Ev
open PySem
abbrev cs97 : List D := cns.map (·.2)
noncomputable abbrev run (k i : Nat) (ds : List D) (S : Store) : Option (D × Store) := callF defs cs97 k i ds S
noncomputable abbrev G (k : Nat) : GC := ⟨callF defs cs97 k, cs97, 0⟩
mutual
/-- no cell within -/
def pureD : D → Bool
  | .cell _ => false
  | .tup ds => pureDs ds
  | .lst ds => pureDs ds
  | .fz ds => pureDs ds
  | _ => true
def pureDs : List D → Bool
  | [] => true
  | d :: ds => pureD d && pureDs ds
end
mutual
theorem pure_ok {n : Nat} : ∀ {d : D}, pureD d = true → okD n d = true
  | .non, _ => rfl
  | .bl _, _ => rfl
  | .int _, _ => rfl
  | .str _, _ => rfl
  | .tup ds, h => by simp only [okD]; exact pures_ok (by simpa [pureD] using h)
  | .lst ds, h => by simp only [okD]; exact pures_ok (by simpa [pureD] using h)
  | .fz ds, h => by simp only [okD]; exact pures_ok (by simpa [pureD] using h)
  | .cell _, h => by simp [pureD] at h
theorem pures_ok {n : Nat} : ∀ {ds : List D}, pureDs ds = true → okDs n ds = true
  | [], _ => rfl
  | d :: ds, h => by
    simp only [pureDs, Bool.and_eq_true] at h
    simp only [okDs, Bool.and_eq_true]
    exact ⟨pure_ok h.1, pures_ok h.2⟩
end
mutual
theorem pure_res {S : Store} {n : Nat} : ∀ {d : D}, pureD d = true → resD S n d = some d
  | .non, _ => by simp [resD]
  | .bl _, _ => by simp [resD]
  | .int _, _ => by simp [resD]
  | .str _, _ => by simp [resD]
  | .tup ds, h => by simp only [resD]; rw [pures_res (by simpa [pureD] using h)]; rfl
  | .lst ds, h => by simp only [resD]; rw [if_pos (pures_ok (by simpa [pureD] using h))]
  | .fz ds, h => by simp only [resD]; rw [if_pos (pures_ok (by simpa [pureD] using h))]
  | .cell _, h => by simp [pureD] at h
theorem pures_res {S : Store} {n : Nat} : ∀ {ds : List D}, pureDs ds = true → resDs S n ds = some ds
  | [], _ => by simp [resDs]
  | d :: ds, h => by
    simp only [pureDs, Bool.and_eq_true] at h
    simp only [resDs, pure_res h.1, pures_res h.2]
    rfl
end
theorem cut_pure {S S' : Store} {d : D} (h : pureD d = true) (hS : S'.take S.length = S) : cutS S d S' = some (d, S) := by
  unfold cutS
  rw [if_pos fun n hn => .inl (by rw [← List.getElem?_take_of_lt (l := S') hn, hS])]
  rw [pure_res h, hS]
  rfl
/-- a call that returns a value without cells and leaves the store as it was (its own cells behind it) -/
theorem call_ret {k i : Nat} {ds : List D} {S S' : Store} {f : Df} {d : D} (hf : defs[i]? = some f) (hl : ds.length = f.ar) (hv : f.live = false) (hx : exec (G k) f.body (ds.map some ++ List.replicate (f.n - f.ar) none) S = some (.rt d S'))
    (hp : pureD d = true) (hS : S'.take S.length = S) : run (k + 1) i ds S = some (d, S) := by
  show callF defs cs97 (k + 1) i ds S = _
  simp only [callF, hf, Option.bind_some]
  rw [if_pos hl]
  have hx : exec ⟨callF defs cs97 k, cs97, 0⟩ f.body (ds.map some ++ List.replicate (f.n - f.ar) none) S = some (.rt d S') := hx
  rw [hx]
  simp only [Option.bind_some, hv, Bool.false_eq_true, if_false]
  exact cut_pure hp hS
theorem take_self (S : Store) : S.take S.length = S := List.take_length
/-! ### statements, step by step -/
section
variable {g : GC} {a b : Sm} {ρ ρ1 : Env} {S S1 S2 : Store} {d x : D} {e o : Ex} {i n : Nat} {r : Option Fl}
theorem x_seq (h : exec g a ρ S = some (.nx ρ1 S1)) (h2 : exec g b ρ1 S1 = r) : exec g (.seq a b) ρ S = r := by
  rw [exec, h]; exact h2
theorem x_seqR (h : exec g a ρ S = some (.rt d S1)) : exec g (.seq a b) ρ S = some (.rt d S1) := by
  rw [exec, h]; rfl
theorem x_asg (h : ev g e ρ S = some ([d], S1)) (hi : i < ρ.length := by simp) : exec g (.asg (.nm i) e) ρ S = some (.nx (ρ.set i (some d)) S1) := by
  simp [exec, h, sg, setL, hi]
theorem x_ret (h : ev g e ρ S = some ([d], S1)) : exec g (.ret e) ρ S = some (.rt d S1) := by
  simp [exec, h, sg]
theorem x_iteT (h : ev g e ρ S = some ([.bl true], S1)) (h2 : exec g a ρ S1 = r) : exec g (.ite e a b) ρ S = r := by
  rw [exec, h]; exact h2
theorem x_iteF (h : ev g e ρ S = some ([.bl false], S1)) (h2 : exec g b ρ S1 = r) : exec g (.ite e a b) ρ S = r := by
  rw [exec, h]; exact h2
theorem x_par2 {j : Nat} {y : D} (h : ev g e ρ S = some ([x, y], S1)) (hi : i < ρ.length := by simp) (hj : j < ρ.length := by simp) : exec g (.asgP (.tcons (.nm i) (.tcons (.nm j) .tnil)) e) ρ S = some (.nx ((ρ.set i (some x)).set j (some y)) S1) := by
  simp [exec, h, setL, hi, hj]
theorem x_tup2 {j : Nat} {y : D} (h : ev g e ρ S = some ([.tup [x, y]], S1)) (hi : i < ρ.length := by simp) (hj : j < ρ.length := by simp) : exec g (.asg (.tup (.tcons (.nm i) (.tcons (.nm j) .tnil))) e) ρ S = some (.nx ((ρ.set i (some x)).set j (some y)) S1) := by
  simp [exec, h, sg, setL, hi, hj]
theorem e_andT {x y : Ex} {r : Option (List D × Store)} (h : ev g x ρ S = some ([.bl true], S1)) (h2 : ev g y ρ S1 = r) : ev g (.and x y) ρ S = r := by
  rw [ev, h]; exact h2
theorem e_andF {x y : Ex} (h : ev g x ρ S = some ([.bl false], S1)) : ev g (.and x y) ρ S = some ([.bl false], S1) := by
  rw [ev, h]; rfl
theorem e_orF {x y : Ex} {r : Option (List D × Store)} (h : ev g x ρ S = some ([.bl false], S1)) (h2 : ev g y ρ S1 = r) : ev g (.or x y) ρ S = r := by
  rw [ev, h]; exact h2
theorem e_orT {x y : Ex} (h : ev g x ρ S = some ([.bl true], S1)) : ev g (.or x y) ρ S = some ([.bl true], S1) := by
  rw [ev, h]; rfl
theorem e_nt {x : Ex} {b : Bool} (h : ev g x ρ S = some ([.bl b], S1)) : ev g (.nt x) ρ S = some ([.bl (!b)], S1) := by
  rw [ev, h]; rfl
theorem e_iteT {c x y : Ex} {r : Option (List D × Store)} (h : ev g c ρ S = some ([.bl true], S1)) (h2 : ev g x ρ S1 = r) : ev g (.ite c x y) ρ S = r := by
  rw [ev, h]; exact h2
theorem e_iteF {c x y : Ex} {r : Option (List D × Store)} (h : ev g c ρ S = some ([.bl false], S1)) (h2 : ev g y ρ S1 = r) : ev g (.ite c x y) ρ S = r := by
  rw [ev, h]; exact h2
theorem e_call {xs : List D} {es : Ex} (h : ev g es ρ S = some (xs, S1)) (h2 : g.call i xs S1 = some (d, S2)) : ev g (.call i es) ρ S = some ([d], S2) := by
  simp [ev, h, h2]
end
/-! ### guards -/
theorem bits_le {a : Int} {m : Nat} (h : a.natAbs < 2 ^ m) : Builtin.Int.intBits a ≤ m := by
  unfold Builtin.Int.intBits
  split
  · exact Nat.zero_le _
  · rename_i c
    have h0 : a.natAbs ≠ 0 := by
      intro z
      exact c (by rw [Int.natAbs_eq_zero.mp z]; rfl)
    have := (Nat.log2_lt h0).mpr h
    omega
theorem mul_ok {a b : Int} {m n : Nat} (ha : a.natAbs < 2 ^ m) (hb : b.natAbs < 2 ^ n) (h : m + n ≤ 100000) : mulOk a b = true := by
  unfold mulOk
  have h1 := bits_le ha
  have h2 := bits_le hb
  have e : Builtin.Int.intTooBig (Builtin.Int.intBits a + Builtin.Int.intBits b) = false := by
    unfold Builtin.Int.intTooBig
    refine decide_eq_false ?_
    have : (bitsLine : Int) ≥ 100000 := by decide
    omega
  rw [e]
  simp
theorem div_ok {a b : Int} (h0 : 0 < b) (hb : b.natAbs < 2 ^ 9000) : divOk a b = true := by
  unfold divOk
  have h1 : ¬ (b == 0) = true := by
    intro z
    rw [beq_iff_eq.mp z] at h0
    exact absurd h0 (by decide)
  have h2 : b.natAbs ≠ 0 := by omega
  have h3 := (Nat.log2_lt h2).mpr hb
  have e : Builtin.divisionGoesByPylong a b = false := by
    unfold Builtin.divisionGoesByPylong
    rw [Bool.and_eq_false_iff]
    left
    refine decide_eq_false ?_
    show ¬ ((if (b == 0) = true then 0 else b.natAbs.log2 / 30 + 1) > 300)
    rw [if_neg h1]
    have h4 : b.natAbs.log2 ≤ 8999 := by omega
    have h5 : b.natAbs.log2 / 30 ≤ 8999 / 30 := Nat.div_le_div_right h4
    have h6 : (8999 : Nat) / 30 = 299 := by decide
    omega
  rw [e, decide_eq_true h0]
  rfl
/-! ### shared: the greatest common divisor -/
theorem gcd_loop (k : Nat) (c : Env → Store → Option (D × Store)) (f : Env → Store → Option Fl) (S : Store) (e0 e1 : Option D)
    (hc : ∀ a b : Int, c [e0, e1, some (.int a), some (.int b)] S = some (.bl (decide (0 < b)), S))
    (hf : ∀ a b : Int, b ≠ 0 → f [e0, e1, some (.int a), some (.int b)] S = some (.nx [e0, e1, some (.int b), some (.int (a.fmod b))] S)) :
    ∀ (b : Nat) (a : Nat), ∃ n, whLp c f n [e0, e1, some (.int a), some (.int b)] S = some (.nx [e0, e1, some (.int (Nat.gcd b a)), some (.int 0)] S) := by
  intro b
  induction b using Nat.strongRecOn with
  | ind b ih =>
    intro a
    by_cases hb : b = 0
    · subst hb
      refine ⟨1, ?_⟩
      rw [whLp, hc]
      simp
    · obtain ⟨n, hn⟩ := ih (a % b) (Nat.mod_lt _ (Nat.pos_of_ne_zero hb)) b
      refine ⟨n + 1, ?_⟩
      have hb2 : (b : Int) ≠ 0 := by omega
      have e1 : (a : Int).fmod b = ((a % b : Nat) : Int) := by
        rw [Int.fmod_eq_emod_of_nonneg _ (by omega)]; simp
      rw [whLp, hc, Option.bind_some, decide_eq_true (by omega : (0 : Int) < b)]
      show (f _ S).bind _ = _
      rw [hf _ _ hb2, e1, Option.bind_some]
      show whLp c f n _ S = _
      rw [hn, Nat.gcd_rec b a]
theorem spec_shared (k : Nat) (a b : Int) (S : Store) : run (k + 1) 11 [.int a, .int b] S = some (.int (Int.gcd a b), S) := by
  refine call_ret (f := ⟨"shared", 2, 4, b_shared, false⟩) rfl rfl rfl (S' := S) ?_ (by simp [pureD]) (take_self S)
  have ab : ∀ z : Int, (if z < 0 then -z else z) = (z.natAbs : Int) := fun z => by split <;> omega
  obtain ⟨n, hn⟩ := gcd_loop k (fun ρ S => (ev (G k) (.cmp .gt (.var 3) (.int 0)) ρ S).bind fun p => (sg p.1).bind fun d => some (d, p.2))
    (exec (G k) (.seq (.asgP (.tcons (.nm 2) (.tcons (.nm 3) .tnil)) (.cons (.var 3) (.cons (.bin .mod (.var 2) (.var 3)) .nil))) .done)) S (some (.int a)) (some (.int b))
    (fun a b => by simp [ev, cmpD, sg]) (fun a b hb => by simp [exec, ev, setL, binD, hb, sg]) b.natAbs a.natAbs
  have h1 : exec (G k) (.asgP (.tcons (.nm 2) (.tcons (.nm 3) .tnil)) (.cons (.absE (.var 0)) (.cons (.absE (.var 1)) .nil))) [some (.int a), some (.int b), none, none] S = some (.nx [some (.int a), some (.int b), some (.int a.natAbs), some (.int b.natAbs)] S) := by
    simp [exec, ev, setL, ab]
  show exec (G k) b_shared [some (.int a), some (.int b), none, none] S = _
  unfold b_shared
  rw [exec, h1, Option.bind_some]
  show exec (G k) (.seq (.whl _ _) _) _ S = _
  rw [exec, exec, whC_of hn, Option.bind_some]
  show exec (G k) (.seq (.ret (.var 2)) .done) _ S = _
  rw [Nat.gcd_comm]
  simp [exec, ev, sg, Int.gcd]
end Ev

set_option Elab.async false
set_option linter.all false
set_option maxRecDepth 100000
set_option maxHeartbeats 4000000
set_option autoImplicit false
/-! specs: fractions -/
namespace Ev
open PySem
theorem lev {n k : Nat} (h : n + 1 ≤ k) : ∃ j, k = j + 1 ∧ n ≤ j := ⟨k - 1, by omega, by omega⟩
def fr (q : Rat) : D := .tup [.int q.num, .int q.den]
@[simp] theorem pure_fr (q : Rat) : pureD (fr q) = true := rfl
/-- not too large for the machine's rules -/
def ok (q : Rat) : Prop := q.num.natAbs < 2 ^ 4400 ∧ q.den < 2 ^ 4400
theorem spec_shared' {k : Nat} (hk : 1 ≤ k) (a b : Int) (S : Store) : callF defs cs97 k i_shared [.int a, .int b] S = some (.int (Int.gcd a b), S) := by
  obtain ⟨k, rfl, _⟩ := lev hk
  exact spec_shared k a b S
theorem fr_mk (t b : Int) (hb : b ≠ 0) (s : Int) (hs : s = if 0 < b then 1 else -1) : D.tup [.int (s * t / (Int.gcd t b : Int)), .int (s * b / (Int.gcd t b : Int))] = fr (Rat.divInt t b) := by
  unfold fr
  rw [Rat.num_divInt, Rat.den_divInt, if_neg hb]
  have e1 : b.sign = s := by
    rw [hs]
    split
    · rename_i h; exact Int.sign_eq_one_of_pos h
    · exact Int.sign_eq_neg_one_of_neg (by omega)
  have e2 : s * b = (b.natAbs : Int) := by rw [hs]; split <;> omega
  rw [e1, e2, Int.gcd_comm]
  congr 3
theorem spec_made {k : Nat} (hk : 2 ≤ k) {t b : Int} (S : Store) (hb : b ≠ 0) (h9 : b.natAbs < 2 ^ 9000) (ht : t.natAbs < 2 ^ 50000) : callF defs cs97 k i_made [.int t, .int b] S = some (fr (Rat.divInt t b), S) := by
  obtain ⟨k, rfl, hj⟩ := lev hk
  have sh := spec_shared' hj t b S
  have g0 : 0 < (Int.gcd t b : Int) := by
    have := Int.gcd_pos_of_ne_zero_right t hb
    omega
  have g9 : (Int.gcd t b : Int).natAbs < 2 ^ 9000 := by
    rw [Int.natAbs_natCast]
    exact Nat.lt_of_le_of_lt (Nat.le_of_dvd (by omega) (Int.gcd_dvd_natAbs_right t b)) h9
  refine call_ret t_made rfl rfl (S' := S) ?_ (by simp) (take_self S)
  show exec (G k) b_made [some (.int t), some (.int b), none, none] S = _
  have m1 : mulOk (if 0 < b then 1 else -1) t = true := mul_ok (m := 1) (by split <;> decide) ht (by decide)
  have m2 : mulOk (if 0 < b then 1 else -1) b = true := mul_ok (m := 1) (by split <;> decide) h9 (by decide)
  have d1 : ∀ x, divOk x (Int.gcd t b : Int) = true := fun x => div_ok g0 g9
  rw [← fr_mk t b hb _ rfl]
  have hs : ev (G k) (.ite (.cmp .gt (.var 1) (.int 0)) (.int 1) (.neg (.int 1))) [some (.int t), some (.int b), some (.int (Int.gcd t b)), none] S = some ([.int (if 0 < b then 1 else -1)], S) := by
    by_cases c : 0 < b
    · simp [ev, cmpD, sg, c]
    · simp [ev, cmpD, sg, c]
  generalize (if 0 < b then (1 : Int) else -1) = s at *
  refine x_seq (x_asg (e_call (xs := [.int t, .int b]) (S1 := S) (by simp [ev]) sh)) ?_
  refine x_seq (x_asg hs) ?_
  refine x_seqR (x_ret ?_)
  simp [ev, sg, binD, m1, m2, d1, most]
theorem pow_add_lt {a b m n : Nat} (ha : a < 2 ^ m) (hb : b < 2 ^ n) : a * b < 2 ^ (m + n) := by
  rw [Nat.pow_add]
  rcases Nat.eq_zero_or_pos b with h | h
  · subst h; simp; exact Nat.mul_pos (Nat.two_pow_pos _) (Nat.two_pow_pos _)
  · calc a * b < 2 ^ m * b := Nat.mul_lt_mul_of_pos_right ha h
      _ ≤ 2 ^ m * 2 ^ n := Nat.mul_le_mul_left _ (Nat.le_of_lt hb)
theorem nm {a b : Int} {m n : Nat} (ha : a.natAbs < 2 ^ m) (hb : b.natAbs < 2 ^ n) : (a * b).natAbs < 2 ^ (m + n) := by
  rw [Int.natAbs_mul]; exact pow_add_lt ha hb
theorem na {a b : Int} {m n : Nat} (ha : a.natAbs < 2 ^ m) (hb : b.natAbs < 2 ^ m) (h : m + 1 ≤ n) : (a + b).natAbs < 2 ^ n := by
  have h1 : (a + b).natAbs ≤ a.natAbs + b.natAbs := Int.natAbs_add_le a b
  have h2 : 2 ^ (m + 1) ≤ 2 ^ n := Nat.pow_le_pow_right (by decide) h
  rw [Nat.pow_succ] at h2
  omega
theorem np {a : Int} {m n : Nat} (ha : a.natAbs < 2 ^ m) (h : m ≤ n) : a.natAbs < 2 ^ n := Nat.lt_of_lt_of_le ha (Nat.pow_le_pow_right (by decide) h)
theorem ok.n {q : Rat} (h : ok q) : q.num.natAbs < 2 ^ 4400 := h.1
theorem ok.d {q : Rat} (h : ok q) : ((q.den : Int)).natAbs < 2 ^ 4400 := by rw [Int.natAbs_natCast]; exact h.2
theorem ok.m {p q : Rat} (hp : ok p) (hq : ok q) : mulOk p.num q.num = true ∧ mulOk p.num q.den = true ∧ mulOk p.den q.num = true ∧ mulOk p.den q.den = true :=
  ⟨mul_ok hp.n hq.n (by decide), mul_ok hp.n hq.d (by decide), mul_ok hp.d hq.n (by decide), mul_ok hp.d hq.d (by decide)⟩
theorem den_ne (q : Rat) : (q.den : Int) ≠ 0 := by have := q.den_nz; omega
theorem self_div (q : Rat) : Rat.divInt q.num q.den = q := Rat.num_divInt_den q
section
variable {k : Nat} {p q : Rat} (S : Store)
theorem spec_add (hk : 3 ≤ k) (hp : ok p) (hq : ok q) : callF defs cs97 k i_add [fr p, fr q] S = some (fr (p + q), S) := by
  obtain ⟨k, rfl, hj⟩ := lev hk
  have e : Rat.divInt (p.num * q.den + q.num * p.den) (p.den * q.den) = p + q := by
    rw [← Rat.divInt_add_divInt _ _ (den_ne p) (den_ne q), self_div, self_div]
  have md := spec_made hj (t := p.num * q.den + q.num * p.den) (b := p.den * q.den) S (Int.mul_ne_zero (den_ne p) (den_ne q)) (np (nm hp.d hq.d) (by decide)) (na (nm hp.n hq.d) (nm hq.n hp.d) (by decide))
  rw [e] at md
  refine call_ret t_add rfl rfl (S' := S) ?_ (by simp) (take_self S)
  show exec (G k) b_add [some (fr p), some (fr q)] S = _
  obtain ⟨m1, m2, m3, m4⟩ := hp.m hq
  obtain ⟨n1, n2, n3, n4⟩ := hq.m hp
  refine x_seqR (x_ret (e_call (xs := [.int (p.num * q.den + q.num * p.den), .int (p.den * q.den)]) (S1 := S) ?_ md))
  simp [ev, sg, fr, seqOf, idxL, L2.ixN, binD, m1, m2, m3, m4, n1, n2, n3, n4]
theorem spec_take (hk : 3 ≤ k) (hp : ok p) (hq : ok q) : callF defs cs97 k i_take [fr p, fr q] S = some (fr (p - q), S) := by
  obtain ⟨k, rfl, hj⟩ := lev hk
  have e : Rat.divInt (p.num * q.den - q.num * p.den) (p.den * q.den) = p - q := by
    have h1 := Rat.divInt_add_divInt p.num (-q.num) (den_ne p) (den_ne q)
    rw [self_div, ← Rat.neg_divInt, self_div] at h1
    rw [Rat.sub_eq_add_neg, h1]
    congr 1
    rw [Int.neg_mul, Int.sub_eq_add_neg]
  have md := spec_made hj (t := p.num * q.den - q.num * p.den) (b := p.den * q.den) S (Int.mul_ne_zero (den_ne p) (den_ne q)) (np (nm hp.d hq.d) (by decide)) (by
    rw [Int.sub_eq_add_neg]
    exact na (nm hp.n hq.d) (by rw [Int.natAbs_neg]; exact nm hq.n hp.d) (by decide))
  rw [e] at md
  refine call_ret t_take rfl rfl (S' := S) ?_ (by simp) (take_self S)
  show exec (G k) b_take [some (fr p), some (fr q)] S = _
  obtain ⟨m1, m2, m3, m4⟩ := hp.m hq
  obtain ⟨n1, n2, n3, n4⟩ := hq.m hp
  refine x_seqR (x_ret (e_call (xs := [.int (p.num * q.den - q.num * p.den), .int (p.den * q.den)]) (S1 := S) ?_ md))
  simp [ev, sg, fr, seqOf, idxL, L2.ixN, binD, m1, m2, m3, m4, n1, n2, n3, n4]
theorem spec_multiply (hk : 3 ≤ k) (hp : ok p) (hq : ok q) : callF defs cs97 k i_multiply [fr p, fr q] S = some (fr (p * q), S) := by
  obtain ⟨k, rfl, hj⟩ := lev hk
  have e : Rat.divInt (p.num * q.num) (p.den * q.den) = p * q := by
    rw [← Rat.divInt_mul_divInt, self_div, self_div]
  have md := spec_made hj (t := p.num * q.num) (b := p.den * q.den) S (Int.mul_ne_zero (den_ne p) (den_ne q)) (np (nm hp.d hq.d) (by decide)) (np (nm hp.n hq.n) (by decide))
  rw [e] at md
  refine call_ret t_multiply rfl rfl (S' := S) ?_ (by simp) (take_self S)
  show exec (G k) b_multiply [some (fr p), some (fr q)] S = _
  obtain ⟨m1, m2, m3, m4⟩ := hp.m hq
  refine x_seqR (x_ret (e_call (xs := [.int (p.num * q.num), .int (p.den * q.den)]) (S1 := S) ?_ md))
  simp [ev, sg, fr, seqOf, idxL, L2.ixN, binD, m1, m2, m3, m4]
theorem spec_divide (hk : 3 ≤ k) (hp : ok p) (hq : ok q) (h0 : q ≠ 0) : callF defs cs97 k i_divide [fr p, fr q] S = some (fr (p / q), S) := by
  obtain ⟨k, rfl, hj⟩ := lev hk
  have hn : q.num ≠ 0 := fun z => h0 (Rat.num_eq_zero.mp z)
  have e : Rat.divInt (p.num * q.den) (p.den * q.num) = p / q := by
    rw [Rat.div_def, ← Rat.divInt_mul_divInt, self_div]
    congr 1
    rw [← Rat.inv_divInt, self_div]
  have md := spec_made hj (t := p.num * q.den) (b := p.den * q.num) S (Int.mul_ne_zero (den_ne p) hn) (np (nm hp.d hq.n) (by decide)) (np (nm hp.n hq.d) (by decide))
  rw [e] at md
  refine call_ret t_divide rfl rfl (S' := S) ?_ (by simp) (take_self S)
  show exec (G k) b_divide [some (fr p), some (fr q)] S = _
  obtain ⟨m1, m2, m3, m4⟩ := hp.m hq
  refine x_seqR (x_ret (e_call (xs := [.int (p.num * q.den), .int (p.den * q.num)]) (S1 := S) ?_ md))
  simp [ev, sg, fr, seqOf, idxL, L2.ixN, binD, m1, m2, m3, m4]
theorem spec_opposite (hk : 1 ≤ k) : callF defs cs97 k i_opposite [fr q] S = some (fr (-q), S) := by
  obtain ⟨k, rfl, hj⟩ := lev hk
  refine call_ret t_opposite rfl rfl (S' := S) ?_ (by simp) (take_self S)
  show exec (G k) b_opposite [some (fr q)] S = _
  refine x_seqR (x_ret ?_)
  simp [ev, sg, fr, seqOf, idxL, L2.ixN, most]
end
end Ev

set_option Elab.async false
set_option linter.all false
set_option maxRecDepth 100000
set_option maxHeartbeats 4000000
set_option autoImplicit false
/-! equality of data; the law's own fractions -/
namespace Ev
open PySem
theorem eqD_int (S : Store) (i j : Int) : eqD S (.int i) (.int j) = some (decide (i = j)) := by
  have h : ∀ i : Int, SeqAt.shaped (.int i) = true := fun i => rfl
  simp [eqD, flat, toPy, h, PyData.eqv]
  by_cases c : i = j <;> simp [c]
theorem toPy_fr (q : Rat) : toPy (fr q) = some (.tuple [.int q.num, .int q.den]) := rfl
theorem flat_fr (S : Store) (q : Rat) : flat S (fr q) = fr q := rfl
theorem eqD_fr (S : Store) (p q : Rat) : eqD S (fr p) (fr q) = some (decide (p = q)) := by
  have h : ∀ i j : Int, SeqAt.shaped (.tuple [.int i, .int j]) = true := fun i j => rfl
  simp only [eqD, flat_fr, toPy_fr, Option.bind_some, h, Bool.and_self, if_true]
  simp only [PyData.eqv, PyData.eqvAll, Bool.and_true, Option.some.injEq]
  by_cases c : p = q
  · subst c; simp
  · rw [decide_eq_false c, Bool.and_eq_false_iff]
    by_cases c1 : p.num = q.num
    · right
      have : p.den ≠ q.den := fun z => c (Rat.ext c1 z)
      rw [beq_eq_false_iff_ne]; omega
    · left; simpa using c1
theorem fr_nil : fr 0 = .tup [.int 0, .int 1] := rfl
theorem fr_one : fr 1 = .tup [.int 1, .int 1] := rfl
theorem gcd_loop2 (c : Env → Store → Option (D × Store)) (f : Env → Store → Option Fl) (S : Store)
    (hc : ∀ a b : Int, c [some (.int a), some (.int b)] S = some (.bl (!decide (b = 0)), S))
    (hf : ∀ a b : Int, b ≠ 0 → f [some (.int a), some (.int b)] S = some (.nx [some (.int b), some (.int (a.fmod b))] S)) :
    ∀ (b : Nat) (a : Int), ∃ (n : Nat) (g : Int), whLp c f n [some (.int a), some (.int b)] S = some (.nx [some (.int g), some (.int 0)] S) ∧ g.natAbs = Int.gcd a b := by
  intro b
  induction b using Nat.strongRecOn with
  | ind b ih =>
    intro a
    by_cases hb : b = 0
    · subst hb
      refine ⟨1, a, ?_, by simp⟩
      rw [whLp, hc]
      simp
    · have hb2 : (b : Int) ≠ 0 := by omega
      have hp : 0 < (b : Int) := by omega
      have h0 := Int.emod_nonneg a hb2
      have h1 := Int.emod_lt_of_pos a hp
      obtain ⟨n, g, hn, hg⟩ := ih (a % b).toNat (by omega) b
      refine ⟨n + 1, g, ?_, ?_⟩
      · have e1 : a.fmod b = (((a % b).toNat : Nat) : Int) := by
          rw [Int.fmod_eq_emod_of_nonneg _ (by omega)]; omega
        rw [whLp, hc, Option.bind_some, decide_eq_false hb2]
        show (f _ S).bind _ = _
        rw [hf _ _ hb2, e1, Option.bind_some]
        exact hn
      · rw [hg, show (((a % b).toNat : Nat) : Int) = a % b by omega, Int.gcd_comm a b]
        have e := Int.gcd_add_mul_right_right (b : Int) (a % b) (a / b)
        rw [Int.emod_add_ediv_mul] at e
        exact e.symm
section
variable {k : Nat} {p q : Rat} (S : Store)
theorem spec_lgcd (hk : 1 ≤ k) (a : Int) (b : Int) (hb : 0 ≤ b) : callF defs cs97 k i__law_gcd [.int a, .int b] S = some (.int (Int.gcd a b), S) := by
  obtain ⟨k, rfl, hj⟩ := lev hk
  refine call_ret t__law_gcd rfl rfl (S' := S) ?_ (by simp [pureD]) (take_self S)
  have ab : ∀ z : Int, (if z < 0 then -z else z) = (z.natAbs : Int) := fun z => by split <;> omega
  obtain ⟨b', rfl⟩ := Int.eq_ofNat_of_zero_le hb
  obtain ⟨n, g, hn, hg⟩ := gcd_loop2 (fun ρ S => (ev (G k) (.cmp .ne (.var 1) (.int 0)) ρ S).bind fun p => (sg p.1).bind fun d => some (d, p.2))
    (exec (G k) (.seq (.asgP (.tcons (.nm 0) (.tcons (.nm 1) .tnil)) (.cons (.var 1) (.cons (.bin .mod (.var 0) (.var 1)) .nil))) .done)) S
    (fun a b => by simp [ev, cmpD, sg, eqD_int]) (fun a b hb => by simp [exec, ev, setL, binD, hb, sg]) b' a
  show exec (G k) b__law_gcd [some (.int a), some (.int b')] S = _
  unfold b__law_gcd
  rw [exec, exec, whC_of hn, Option.bind_some]
  show exec (G k) (.seq (.ret _) .done) _ S = _
  refine x_seqR (x_ret ?_)
  simp [ev, ab, hg]
theorem spec_lfr (hk : 2 ≤ k) {t b : Int} (hb : 0 < b) (h9 : b.natAbs < 2 ^ 9000) : callF defs cs97 k i__law_fr [.int t, .int b] S = some (fr (Rat.divInt t b), S) := by
  obtain ⟨k, rfl, hj⟩ := lev hk
  have sh := spec_lgcd S hj t b (Int.le_of_lt hb)
  have g0 : 0 < (Int.gcd t b : Int) := by
    have := Int.gcd_pos_of_ne_zero_right t (by omega : b ≠ 0)
    omega
  have g9 : (Int.gcd t b : Int).natAbs < 2 ^ 9000 := by
    rw [Int.natAbs_natCast]
    exact Nat.lt_of_le_of_lt (Nat.le_of_dvd (by omega) (Int.gcd_dvd_natAbs_right t b)) h9
  have d1 : ∀ x, divOk x (Int.gcd t b : Int) = true := fun x => div_ok g0 g9
  refine call_ret t__law_fr rfl rfl (S' := S) ?_ (by simp) (take_self S)
  show exec (G k) b__law_fr [some (.int t), some (.int b), none] S = _
  rw [← fr_mk t b (by omega) 1 (by rw [if_pos hb])]
  refine x_seq (x_asg (e_call (xs := [.int t, .int b]) (S1 := S) (by simp [ev]) sh)) ?_
  refine x_seqR (x_ret ?_)
  simp [ev, sg, binD, d1, most]
theorem den_pos (q : Rat) : 0 < (q.den : Int) := by have := q.den_nz; omega
theorem spec_lsum (hk : 3 ≤ k) (hp : ok p) (hq : ok q) : callF defs cs97 k i__law_sum [fr p, fr q] S = some (fr (p + q), S) := by
  obtain ⟨k, rfl, hj⟩ := lev hk
  have e : Rat.divInt (p.num * q.den + q.num * p.den) (p.den * q.den) = p + q := by
    rw [← Rat.divInt_add_divInt _ _ (den_ne p) (den_ne q), self_div, self_div]
  have md := spec_lfr S hj (t := p.num * q.den + q.num * p.den) (b := p.den * q.den) (Int.mul_pos (den_pos p) (den_pos q)) (np (nm hp.d hq.d) (by decide))
  rw [e] at md
  refine call_ret t__law_sum rfl rfl (S' := S) ?_ (by simp) (take_self S)
  show exec (G k) b__law_sum [some (fr p), some (fr q)] S = _
  obtain ⟨m1, m2, m3, m4⟩ := hp.m hq
  obtain ⟨n1, n2, n3, n4⟩ := hq.m hp
  refine x_seqR (x_ret (e_call (xs := [.int (p.num * q.den + q.num * p.den), .int (p.den * q.den)]) (S1 := S) ?_ md))
  simp [ev, sg, fr, seqOf, idxL, L2.ixN, binD, m1, m2, m3, m4, n1, n2, n3, n4]
theorem spec_lmul (hk : 3 ≤ k) (hp : ok p) (hq : ok q) : callF defs cs97 k i__law_mul [fr p, fr q] S = some (fr (p * q), S) := by
  obtain ⟨k, rfl, hj⟩ := lev hk
  have e : Rat.divInt (p.num * q.num) (p.den * q.den) = p * q := by
    rw [← Rat.divInt_mul_divInt, self_div, self_div]
  have md := spec_lfr S hj (t := p.num * q.num) (b := p.den * q.den) (Int.mul_pos (den_pos p) (den_pos q)) (np (nm hp.d hq.d) (by decide))
  rw [e] at md
  refine call_ret t__law_mul rfl rfl (S' := S) ?_ (by simp) (take_self S)
  show exec (G k) b__law_mul [some (fr p), some (fr q)] S = _
  obtain ⟨m1, m2, m3, m4⟩ := hp.m hq
  refine x_seqR (x_ret (e_call (xs := [.int (p.num * q.num), .int (p.den * q.den)]) (S1 := S) ?_ md))
  simp [ev, sg, fr, seqOf, idxL, L2.ixN, binD, m1, m2, m3, m4]
theorem fr_neg (q : Rat) : D.tup [.int (-q.num), .int q.den] = fr (-q) := by simp [fr]
theorem ok.neg (h : ok q) : ok (-q) := ⟨by rw [Rat.neg_num, Int.natAbs_neg]; exact h.1, by rw [Rat.neg_den]; exact h.2⟩
theorem spec_lless (hk : 4 ≤ k) (hp : ok p) (hq : ok q) : callF defs cs97 k i__law_less [fr p, fr q] S = some (fr (p - q), S) := by
  obtain ⟨k, rfl, hj⟩ := lev hk
  have md := spec_lsum S hj hp hq.neg
  rw [← Rat.sub_eq_add_neg] at md
  refine call_ret t__law_less rfl rfl (S' := S) ?_ (by simp) (take_self S)
  show exec (G k) b__law_less [some (fr p), some (fr q)] S = _
  refine x_seqR (x_ret (e_call (xs := [fr p, fr (-q)]) (S1 := S) ?_ md))
  rw [← fr_neg]
  simp [ev, sg, fr, seqOf, idxL, L2.ixN, most]
theorem spec_lbelow (hk : 1 ≤ k) (hp : ok p) (hq : ok q) : callF defs cs97 k i__law_below [fr p, fr q] S = some (.bl (decide (p < q)), S) := by
  obtain ⟨k, rfl, hj⟩ := lev hk
  refine call_ret t__law_below rfl rfl (S' := S) ?_ (by simp [pureD]) (take_self S)
  show exec (G k) b__law_below [some (fr p), some (fr q)] S = _
  obtain ⟨m1, m2, m3, m4⟩ := hp.m hq
  obtain ⟨n1, n2, n3, n4⟩ := hq.m hp
  have e : (p < q) ↔ p.num * q.den < q.num * p.den := Rat.lt_iff p q
  refine x_seqR (x_ret ?_)
  simp [ev, sg, fr, seqOf, idxL, L2.ixN, binD, cmpD, m1, m2, m3, m4, n1, n2, n3, n4, e]
theorem spec_lover (hk : 1 ≤ k) (h0 : q ≠ 0) : callF defs cs97 k i__law_over [fr q] S = some (fr q⁻¹, S) := by
  obtain ⟨k, rfl, hj⟩ := lev hk
  refine call_ret t__law_over rfl rfl (S' := S) ?_ (by simp) (take_self S)
  show exec (G k) b__law_over [some (fr q)] S = _
  have hn : q.num ≠ 0 := fun z => h0 (Rat.num_eq_zero.mp z)
  refine x_seqR (x_ret ?_)
  have e1 : fr q⁻¹ = .tup [.int (q.num.sign * q.den), .int q.num.natAbs] := by
    simp [fr, Rat.num_inv, Rat.den_inv, hn]
  rw [e1]
  by_cases c : 0 < q.num
  · simp [ev, sg, fr, seqOf, idxL, L2.ixN, cmpD, c, most, Int.sign_eq_one_of_pos c]
    omega
  · have c' : q.num < 0 := by omega
    simp [ev, sg, fr, seqOf, idxL, L2.ixN, cmpD, c, most, Int.sign_eq_neg_one_of_neg c']
    omega
end
end Ev

set_option Elab.async false
set_option linter.all false
set_option maxRecDepth 100000
set_option maxHeartbeats 4000000
set_option autoImplicit false
/-! comprehensions and loops without cells; sums, products of rows -/
namespace Ev
open PySem
section
variable {g : GC} {α : Type}
theorem kept_self (gd : List Nat) (S : Store) : kept gd S S := fun _ _ => rfl
theorem lc_all {elt cnd : Env → Store → Option (D × Store)} {tg : Tg} {ρ : Env} {gd : List Nat} {S : Store} (h : α → D) (f : α → D) : ∀ (l : List α) (acc : List D),
    (∀ a ∈ l, ∃ ρ1, setT tg [h a] ρ = some ρ1 ∧ cnd ρ1 S = some (.bl true, S) ∧ elt ρ1 S = some (f a, S)) → acc.length + l.length ≤ most → lcL elt cnd tg ρ gd (l.map h) S acc = some (acc ++ l.map f, S)
  | [], acc, _, _ => by simp [lcL]
  | a :: l, acc, hs, hl => by
    obtain ⟨ρ1, h1, h2, h3⟩ := hs a (List.mem_cons_self ..)
    rw [List.length_cons] at hl
    have ih := lc_all (elt := elt) (cnd := cnd) (tg := tg) (ρ := ρ) (gd := gd) (S := S) h f l (acc ++ [f a]) (fun b hb => hs b (List.mem_cons_of_mem _ hb)) (by simp; omega)
    rw [List.map_cons, lcL, h1, Option.bind_some, h2, Option.bind_some]
    show (elt ρ1 S).bind _ = _
    rw [h3, Option.bind_some, if_pos ⟨by omega, kept_self gd S⟩]
    show lcL _ _ _ _ _ _ S (acc ++ [f a]) = _
    rw [ih, List.map_cons, List.append_assoc]
    rfl
theorem lc_some {elt cnd : Env → Store → Option (D × Store)} {tg : Tg} {ρ : Env} {gd : List Nat} {S : Store} (h : α → D) (f : α → D) (p : α → Bool) : ∀ (l : List α) (acc : List D),
    (∀ a ∈ l, ∃ ρ1, setT tg [h a] ρ = some ρ1 ∧ cnd ρ1 S = some (.bl (p a), S) ∧ (p a = true → elt ρ1 S = some (f a, S))) → acc.length + l.length ≤ most → lcL elt cnd tg ρ gd (l.map h) S acc = some (acc ++ (l.filter p).map f, S)
  | [], acc, _, _ => by simp [lcL]
  | a :: l, acc, hs, hl => by
    obtain ⟨ρ1, h1, h2, h3⟩ := hs a (List.mem_cons_self ..)
    rw [List.length_cons] at hl
    cases hp : p a with
    | true =>
      have ih := lc_some (elt := elt) (cnd := cnd) (tg := tg) (ρ := ρ) (gd := gd) (S := S) h f p l (acc ++ [f a]) (fun b hb => hs b (List.mem_cons_of_mem _ hb)) (by simp; omega)
      rw [hp] at h2
      simp only [List.map_cons, lcL, h1, h2, h3 hp, Option.bind_some]
      rw [if_pos ⟨by omega, kept_self gd S⟩, ih, List.filter_cons_of_pos hp, List.map_cons, List.append_assoc]
      rfl
    | false =>
      have ih := lc_some (elt := elt) (cnd := cnd) (tg := tg) (ρ := ρ) (gd := gd) (S := S) h f p l acc (fun b hb => hs b (List.mem_cons_of_mem _ hb)) (by omega)
      rw [hp] at h2
      simp only [List.map_cons, lcL, h1, h2, Option.bind_some]
      rw [if_pos (kept_self gd S), ih, List.filter_cons_of_neg (by rw [hp]; decide)]
/-- [elt for tg in it] -/
theorem e_lc {ρ : Env} {S S1 : Store} {elt it : Ex} {tg : Tg} {own gd : List Nat} (h : α → D) (f : α → D) (l : List α) (hit : ev g it ρ S = some (packG gd (l.map h), S1)) (hl : l.length ≤ most)
    (hs : ∀ a ∈ l, ∃ ρ1, setT tg [h a] (wipeE ρ own) = some ρ1 ∧ ev g elt ρ1 S1 = some ([f a], S1)) : ev g (.lc elt tg it (.bl true) own) ρ S = some ([.lst (l.map f)], S1) := by
  rw [ev, hit, Option.bind_some]
  have e : unG (packG gd (l.map h)) = some (gd, l.map h) := by simp [packG, unG, gNat_cells]
  rw [e, Option.bind_some, lc_all h f l [] (fun a ha => ?_) (by simpa using hl)]
  · simp
  · obtain ⟨ρ1, h1, h2⟩ := hs a ha
    exact ⟨ρ1, h1, by simp [ev, sg], by simp [h2, sg]⟩
theorem e_lcIf {ρ : Env} {S S1 : Store} {elt it cnd : Ex} {tg : Tg} {own gd : List Nat} (h : α → D) (f : α → D) (p : α → Bool) (l : List α) (hit : ev g it ρ S = some (packG gd (l.map h), S1)) (hl : l.length ≤ most)
    (hs : ∀ a ∈ l, ∃ ρ1, setT tg [h a] (wipeE ρ own) = some ρ1 ∧ ev g cnd ρ1 S1 = some ([.bl (p a)], S1) ∧ (p a = true → ev g elt ρ1 S1 = some ([f a], S1))) : ev g (.lc elt tg it cnd own) ρ S = some ([.lst ((l.filter p).map f)], S1) := by
  rw [ev, hit, Option.bind_some]
  have e : unG (packG gd (l.map h)) = some (gd, l.map h) := by simp [packG, unG, gNat_cells]
  rw [e, Option.bind_some, lc_some h f p l [] (fun a ha => ?_) (by simpa using hl)]
  · simp
  · obtain ⟨ρ1, h1, h2, h3⟩ := hs a ha
    exact ⟨ρ1, h1, by simp [h2, sg], fun hp => by simp [h3 hp, sg]⟩
theorem zip_map {β : Type} (h1 : α → D) (h2 : β → D) : ∀ (l : List α) (m : List β), zipD (l.map h1) (m.map h2) = (l.zip m).map fun p => D.tup [h1 p.1, h2 p.2]
  | [], m => by simp [zipD]
  | _ :: _, [] => by simp [zipD]
  | a :: l, b :: m => by simp [zipD, zip_map h1 h2 l m]
/-- for t in items: the env as a function of what is carried -/
theorem for_fold {β : Type} {body : Env → Store → Option Fl} {t : Tg} {gd : List Nat} {S : Store} (h : α → D) (E : β → Env) (step : β → α → β) : ∀ (l : List α) (b : β),
    (∀ l1 a l2, l = l1 ++ a :: l2 → ∃ ρ1, setT t [h a] (E (l1.foldl step b)) = some ρ1 ∧ body ρ1 S = some (.nx (E (step (l1.foldl step b) a)) S)) → forLp body t gd (l.map h) (E b) S = some (.nx (E (l.foldl step b)) S)
  | [], b, _ => by simp [forLp]
  | a :: l, b, hs => by
    obtain ⟨ρ1, h1, h2⟩ := hs [] a l rfl
    have ih := for_fold (body := body) (t := t) (gd := gd) (S := S) h E step l (step b a) fun l1 a' l2 e => hs (a :: l1) a' l2 (by rw [e]; rfl)
    rw [List.foldl_nil] at h1 h2
    simp only [List.map_cons, forLp, h1, h2, Option.bind_some]
    rw [if_pos (kept_self gd S), ih]
    rfl
end
/-! ### sums -/
def sumR (l : List Rat) : Rat := l.foldl (· + ·) 0
/-- all that is met in summing up is small -/
def okSum (l : List Rat) : Prop := (∀ x ∈ l, ok x) ∧ ∀ l1 l2, l = l1 ++ l2 → ok (sumR l1)
section
variable {k : Nat} (S : Store)
theorem spec_total (hk : 4 ≤ k) (l : List Rat) (hl : okSum l) (w : List D → D) (hw : ∀ ds, w ds = .tup ds ∨ w ds = .lst ds) : callF defs cs97 k i_total [w (l.map fr)] S = some (fr (sumR l), S) := by
  obtain ⟨k, rfl, hj⟩ := lev hk
  refine call_ret t_total rfl rfl (S' := S) ?_ (by simp) (take_self S)
  show exec (G k) b_total [some (w (l.map fr)), none, none] S = _
  refine x_seq (x_asg (d := fr 0) (S1 := S) (by simp [ev, cs97, cns, fr_nil])) ?_
  have loop := for_fold (α := Rat) (β := Rat × Option D) (gd := guardOf (w (l.map fr))) (S := S) (t := .nm 2) (body := exec (G k) (.seq (.asg (.nm 1) (.call i_add (.cons (.var 1) (.cons (.var 2) .nil)))) .done)) fr (fun b => [some (w (l.map fr)), some (fr b.1), b.2]) (fun b a => (b.1 + a, some (fr a))) l (0, none) fun l1 a l2 e => by
    have hf : ∀ (l1 : List Rat) (b : Rat × Option D), (l1.foldl (fun (b : Rat × Option D) a => (b.1 + a, some (fr a))) b).1 = l1.foldl (· + ·) b.1 := by
      intro l1
      induction l1 with
      | nil => intro b; rfl
      | cons x l1 ih => intro b; rw [List.foldl_cons, List.foldl_cons, ih]
    refine ⟨[some (w (l.map fr)), some (fr (sumR l1)), some (fr a)], by simp [setT, hf, sumR], ?_⟩
    have h1 : ok (sumR l1) := hl.2 l1 (a :: l2) e
    have h2 : ok a := hl.1 a (by rw [e]; simp)
    have := spec_add S hj h1 h2
    refine x_seq (x_asg (e_call (xs := [fr (sumR l1), fr a]) (S1 := S) ?_ this)) ?_
    · simp [ev]
    · simp [exec, hf, sumR]
  have hit : ev (G k) (.it (.var 0)) [some (w (l.map fr)), some (fr 0), none] S = some (packG (guardOf (w (l.map fr))) (l.map fr), S) := by
    rcases hw (l.map fr) with e | e <;> simp [ev, sg, e, seqOf]
  have hf : ∀ (l1 : List Rat) (b : Rat × Option D), (l1.foldl (fun (b : Rat × Option D) a => (b.1 + a, some (fr a))) b).1 = l1.foldl (· + ·) b.1 := by
    intro l1
    induction l1 with
    | nil => intro b; rfl
    | cons x l1 ih => intro b; rw [List.foldl_cons, List.foldl_cons, ih]
  refine x_seq (ρ1 := [some (w (l.map fr)), some (fr (sumR l)), (l.foldl (fun (b : Rat × Option D) a => (b.1 + a, some (fr a))) (0, none)).2]) (S1 := S) ?_ (x_seqR (x_ret (by simp [ev])))
  have e : unG (packG (guardOf (w (l.map fr))) (l.map fr)) = some (guardOf (w (l.map fr)), l.map fr) := by simp [packG, unG, gNat_cells]
  show exec (G k) (.forL (.nm 2) (.it (.var 0)) _) [some (w (l.map fr)), some (fr 0), none] S = _
  rw [exec, hit, Option.bind_some, e, Option.bind_some]
  rw [loop, hf]
  rfl
theorem spec_ltotal (hk : 4 ≤ k) (l : List Rat) (hl : okSum l) (w : List D → D) (hw : ∀ ds, w ds = .tup ds ∨ w ds = .lst ds) : callF defs cs97 k i__law_total [w (l.map fr)] S = some (fr (sumR l), S) := by
  obtain ⟨k, rfl, hj⟩ := lev hk
  refine call_ret t__law_total rfl rfl (S' := S) ?_ (by simp) (take_self S)
  show exec (G k) b__law_total [some (w (l.map fr)), none, none] S = _
  refine x_seq (x_asg (d := fr 0) (S1 := S) (by simp [ev, fr_nil, most])) ?_
  have hf : ∀ (l1 : List Rat) (b : Rat × Option D), (l1.foldl (fun (b : Rat × Option D) a => (b.1 + a, some (fr a))) b).1 = l1.foldl (· + ·) b.1 := by
    intro l1
    induction l1 with
    | nil => intro b; rfl
    | cons x l1 ih => intro b; rw [List.foldl_cons, List.foldl_cons, ih]
  have loop := for_fold (α := Rat) (β := Rat × Option D) (gd := guardOf (w (l.map fr))) (S := S) (t := .nm 2) (body := exec (G k) (.seq (.asg (.nm 1) (.call i__law_sum (.cons (.var 1) (.cons (.var 2) .nil)))) .done)) fr (fun b => [some (w (l.map fr)), some (fr b.1), b.2]) (fun b a => (b.1 + a, some (fr a))) l (0, none) fun l1 a l2 e => by
    refine ⟨[some (w (l.map fr)), some (fr (sumR l1)), some (fr a)], by simp [setT, hf, sumR], ?_⟩
    have h1 : ok (sumR l1) := hl.2 l1 (a :: l2) e
    have h2 : ok a := hl.1 a (by rw [e]; simp)
    have := spec_lsum S hj h1 h2
    refine x_seq (x_asg (e_call (xs := [fr (sumR l1), fr a]) (S1 := S) ?_ this)) ?_
    · simp [ev]
    · simp [exec, hf, sumR]
  have hit : ev (G k) (.it (.var 0)) [some (w (l.map fr)), some (fr 0), none] S = some (packG (guardOf (w (l.map fr))) (l.map fr), S) := by
    rcases hw (l.map fr) with e | e <;> simp [ev, sg, e, seqOf]
  refine x_seq (ρ1 := [some (w (l.map fr)), some (fr (sumR l)), (l.foldl (fun (b : Rat × Option D) a => (b.1 + a, some (fr a))) (0, none)).2]) (S1 := S) ?_ (x_seqR (x_ret (by simp [ev])))
  have e : unG (packG (guardOf (w (l.map fr))) (l.map fr)) = some (guardOf (w (l.map fr)), l.map fr) := by simp [packG, unG, gNat_cells]
  show exec (G k) (.forL (.nm 2) (.it (.var 0)) _) [some (w (l.map fr)), some (fr 0), none] S = _
  rw [exec, hit, Option.bind_some, e, Option.bind_some]
  rw [loop, hf]
  rfl
/-! ### products of rows -/
def mulR (u v : List Rat) : List Rat := (u.zip v).map fun p => p.1 * p.2
def dot (u v : List Rat) : Rat := sumR (mulR u v)
def Rw (w : List D → D) : Prop := ∀ ds, w ds = .tup ds ∨ w ds = .lst ds
theorem rw_tup : Rw .tup := fun _ => .inl rfl
theorem rw_lst : Rw .lst := fun _ => .inr rfl
theorem seq_rw {w : List D → D} (hw : Rw w) (ds : List D) : seqOf S (w ds) = some ds := by rcases hw ds with e | e <;> rw [e] <;> rfl
theorem grd_rw {w : List D → D} (hw : Rw w) (ds : List D) : guardOf (w ds) = [] := by rcases hw ds with e | e <;> rw [e] <;> rfl
theorem spec_both (hk : 5 ≤ k) (u v : List Rat) (hu : ∀ x ∈ u, ok x) (hv : ∀ x ∈ v, ok x) (hs : okSum (mulR u v)) (hl : u.length ≤ most) {w1 w2 : List D → D} (h1 : Rw w1) (h2 : Rw w2) :
    callF defs cs97 k i_both [w1 (u.map fr), w2 (v.map fr)] S = some (fr (dot u v), S) := by
  obtain ⟨k, rfl, hj⟩ := lev hk
  refine call_ret t_both rfl rfl (S' := S) ?_ (by simp) (take_self S)
  show exec (G k) b_both [some (w1 (u.map fr)), some (w2 (v.map fr)), none, none] S = _
  have hit : ev (G k) (.zip (.var 0) (.var 1)) [some (w1 (u.map fr)), some (w2 (v.map fr)), none, none] S = some (packG [] ((u.zip v).map fun p => D.tup [fr p.1, fr p.2]), S) := by
    simp [ev, sg, seq_rw S h1, seq_rw S h2, grd_rw h1, grd_rw h2, zip_map]
  have hlc := e_lc (elt := .call i_multiply (.cons (.var 2) (.cons (.var 3) .nil))) (tg := .tup (.tcons (.nm 2) (.tcons (.nm 3) .tnil))) (own := [2, 3]) (fun p : Rat × Rat => D.tup [fr p.1, fr p.2]) (fun p => fr (p.1 * p.2)) (u.zip v) hit (by rw [List.length_zip]; omega) fun p hp => by
    refine ⟨[some (w1 (u.map fr)), some (w2 (v.map fr)), some (fr p.1), some (fr p.2)], by simp [setT, wipeE], ?_⟩
    exact e_call (xs := [fr p.1, fr p.2]) (S1 := S) (by simp [ev]) (spec_multiply S (by omega) (hu _ (List.of_mem_zip hp).1) (hv _ (List.of_mem_zip hp).2))
  have em : (u.zip v).map (fun p => fr (p.1 * p.2)) = (mulR u v).map fr := by simp [mulR]
  rw [em] at hlc
  refine x_seqR (x_ret (e_call (xs := [.lst ((mulR u v).map fr)]) (S1 := S) ?_ (spec_total S hj _ hs .lst rw_lst)))
  rw [ev, hlc]
  simp [ev]
theorem spec_lboth (hk : 5 ≤ k) (u v : List Rat) (hu : ∀ x ∈ u, ok x) (hv : ∀ x ∈ v, ok x) (hs : okSum (mulR u v)) (hl : u.length ≤ most) {w1 w2 : List D → D} (h1 : Rw w1) (h2 : Rw w2) :
    callF defs cs97 k i__law_both [w1 (u.map fr), w2 (v.map fr)] S = some (fr (dot u v), S) := by
  obtain ⟨k, rfl, hj⟩ := lev hk
  refine call_ret t__law_both rfl rfl (S' := S) ?_ (by simp) (take_self S)
  show exec (G k) b__law_both [some (w1 (u.map fr)), some (w2 (v.map fr)), none, none] S = _
  have hit : ev (G k) (.zip (.var 0) (.var 1)) [some (w1 (u.map fr)), some (w2 (v.map fr)), none, none] S = some (packG [] ((u.zip v).map fun p => D.tup [fr p.1, fr p.2]), S) := by
    simp [ev, sg, seq_rw S h1, seq_rw S h2, grd_rw h1, grd_rw h2, zip_map]
  have hlc := e_lc (elt := .call i__law_mul (.cons (.var 2) (.cons (.var 3) .nil))) (tg := .tup (.tcons (.nm 2) (.tcons (.nm 3) .tnil))) (own := [2, 3]) (fun p : Rat × Rat => D.tup [fr p.1, fr p.2]) (fun p => fr (p.1 * p.2)) (u.zip v) hit (by rw [List.length_zip]; omega) fun p hp => by
    refine ⟨[some (w1 (u.map fr)), some (w2 (v.map fr)), some (fr p.1), some (fr p.2)], by simp [setT, wipeE], ?_⟩
    exact e_call (xs := [fr p.1, fr p.2]) (S1 := S) (by simp [ev]) (spec_lmul S (by omega) (hu _ (List.of_mem_zip hp).1) (hv _ (List.of_mem_zip hp).2))
  have em : (u.zip v).map (fun p => fr (p.1 * p.2)) = (mulR u v).map fr := by simp [mulR]
  rw [em] at hlc
  refine x_seqR (x_ret (e_call (xs := [.lst ((mulR u v).map fr)]) (S1 := S) ?_ (spec_ltotal S hj _ hs .lst rw_lst)))
  rw [ev, hlc]
  simp [ev]
end
end Ev

set_option Elab.async false
set_option linter.all false
set_option maxRecDepth 100000
set_option maxHeartbeats 4000000
set_option autoImplicit false
/-! looks at data -/
namespace Ev
open PySem
section
variable {k : Nat} (S : Store)
theorem ty_rw {w : List D → D} (hw : Rw w) (ds : List D) : ∃ t, tyD S (w ds) = some (some t) ∧ ([Ty.list, Ty.tuple].any fun u => isTy (some t) u) = true := by
  rcases hw ds with e | e <;> rw [e]
  · exact ⟨.tuple, rfl, rfl⟩
  · exact ⟨.list, rfl, rfl⟩
theorem pures_map {α : Type} {f : α → D} : ∀ {l : List α}, (∀ a ∈ l, pureD (f a) = true) → pureDs (l.map f) = true
  | [], _ => rfl
  | a :: l, h => by
    simp only [List.map_cons, pureDs, Bool.and_eq_true]
    exact ⟨h a (List.mem_cons_self ..), pures_map fun b hb => h b (List.mem_cons_of_mem _ hb)⟩
/-! ### tupled -/
theorem tupled_int (hk : 1 ≤ k) (i : Int) : callF defs cs97 k i_tupled [.int i] S = some (.int i, S) := by
  obtain ⟨k, rfl, hj⟩ := lev hk
  refine call_ret t_tupled rfl rfl (S' := S) ?_ (by simp [pureD]) (take_self S)
  show exec (G k) b_tupled [some (.int i), none] S = _
  refine x_seqR (x_ret ?_)
  simp [ev, sg, tyD, isTy]
theorem tupled_seq {α : Type} (hk : 1 ≤ k) (l : List α) (h f : α → D) (hs : ∀ a ∈ l, callF defs cs97 (k - 1) i_tupled [h a] S = some (f a, S)) (hp : ∀ a ∈ l, pureD (f a) = true) (hl : l.length ≤ most) {w : List D → D} (hw : Rw w) :
    callF defs cs97 k i_tupled [w (l.map h)] S = some (.tup (l.map f), S) := by
  obtain ⟨k, rfl, hj⟩ := lev hk
  refine call_ret t_tupled rfl rfl (S' := S) ?_ (by simp only [pureD]; exact pures_map hp) (take_self S)
  show exec (G k) b_tupled [some (w (l.map h)), none] S = _
  obtain ⟨t, h1, h2⟩ := ty_rw S hw (l.map h)
  have hit : ev (G k) (.it (.var 0)) [some (w (l.map h)), none] S = some (packG [] (l.map h), S) := by
    simp [ev, sg, seq_rw S hw, grd_rw hw]
  have hlc := e_lc (elt := .call i_tupled (.cons (.var 1) .nil)) (tg := .nm 1) (own := [1]) h f l hit hl fun a ha => by
    refine ⟨[some (w (l.map h)), some (h a)], by simp [setT, wipeE], ?_⟩
    exact e_call (xs := [h a]) (S1 := S) (by simp [ev]) (hs a ha)
  refine x_seqR (x_ret ?_)
  have hc : ev (G k) (.isi [.list, .tuple] (.var 0)) [some (w (l.map h)), none] S = some ([.bl true], S) := by
    simp only [ev, sg, List.getElem?_cons_zero, Option.bind_some, h1, h2]
  rw [ev, hc]
  show ev (G k) (.tuple _) _ S = _
  rw [ev, hlc]
  simp [sg, seqOf]
/-- a fraction, as a tuple or a list -/
theorem tupled_fr (hk : 2 ≤ k) (q : Rat) {w : List D → D} (hw : Rw w) : callF defs cs97 k i_tupled [w [.int q.num, .int q.den]] S = some (fr q, S) :=
  tupled_seq S (k := k) (by omega) [q.num, (q.den : Int)] D.int D.int (fun a _ => tupled_int S (by omega) a) (fun _ _ => rfl) (by simp [most]) hw
theorem tupled_row (hk : 3 ≤ k) (l : List Rat) (hl : l.length ≤ most) {w w' : List D → D} (hw : Rw w) (hw' : Rw w') : callF defs cs97 k i_tupled [w (l.map fun q => w' [.int q.num, .int q.den])] S = some (.tup (l.map fr), S) :=
  tupled_seq S (by omega) l _ fr (fun a _ => tupled_fr S (by omega) a hw') (fun _ _ => rfl) hl hw
def rowD (l : List Rat) : D := .tup (l.map fr)
def tabD (m : List (List Rat)) : D := .tup (m.map rowD)
@[simp] theorem pure_row (l : List Rat) : pureD (rowD l) = true := by simp only [rowD, pureD]; exact pures_map fun _ _ => rfl
@[simp] theorem pure_tab (m : List (List Rat)) : pureD (tabD m) = true := by simp only [tabD, pureD]; exact pures_map fun _ _ => pure_row _
theorem tupled_tab (hk : 4 ≤ k) (m : List (List Rat)) (hm : m.length ≤ most) (hr : ∀ r ∈ m, r.length ≤ most) {w1 w2 w3 : List D → D} (h1 : Rw w1) (h2 : Rw w2) (h3 : Rw w3) :
    callF defs cs97 k i_tupled [w1 (m.map fun r => w2 (r.map fun q => w3 [.int q.num, .int q.den]))] S = some (tabD m, S) :=
  tupled_seq S (by omega) m _ rowD (fun r hr' => tupled_row S (by omega) r (hr r hr') h2 h3) (fun _ _ => pure_row _) hm h1
/-! ### numbers, fractions, rows -/
theorem is_number_int (hk : 1 ≤ k) (i : Int) : callF defs cs97 k i_is_number [.int i] S = some (.bl true, S) := by
  obtain ⟨k, rfl, hj⟩ := lev hk
  refine call_ret t_is_number rfl rfl (S' := S) ?_ (by simp [pureD]) (take_self S)
  show exec (G k) b_is_number [some (.int i)] S = _
  refine x_seqR (x_ret ?_)
  simp [ev, sg, tyD, isTy]
theorem is_count_int (hk : 2 ≤ k) (i : Int) : callF defs cs97 k i_is_count [.int i] S = some (.bl (decide (0 ≤ i)), S) := by
  obtain ⟨k, rfl, hj⟩ := lev hk
  refine call_ret t_is_count rfl rfl (S' := S) ?_ (by simp [pureD]) (take_self S)
  show exec (G k) b_is_count [some (.int i)] S = _
  refine x_seqR (x_ret ?_)
  rw [ev, e_call (xs := [.int i]) (S1 := S) (by simp [ev]) (is_number_int S hj i)]
  simp [ev, sg, cmpD]
theorem is_below_int (hk : 3 ≤ k) (i n : Int) : callF defs cs97 k i_is_below [.int i, .int n] S = some (.bl (decide (0 ≤ i) && decide (i < n)), S) := by
  obtain ⟨k, rfl, hj⟩ := lev hk
  refine call_ret t_is_below rfl rfl (S' := S) ?_ (by simp [pureD]) (take_self S)
  show exec (G k) b_is_below [some (.int i), some (.int n)] S = _
  refine x_seqR (x_ret ?_)
  rw [ev, e_call (xs := [.int i]) (S1 := S) (by simp [ev]) (is_count_int S hj i)]
  by_cases c : 0 ≤ i
  · simp [ev, sg, cmpD, c]
  · simp [ev, sg, cmpD, c]
theorem is_tuple_of_tup (hk : 1 ≤ k) (ds : List D) (n : Nat) : callF defs cs97 k i_is_tuple_of [.tup ds, .int n] S = some (.bl (decide (ds.length = n)), S) := by
  obtain ⟨k, rfl, hj⟩ := lev hk
  refine call_ret t_is_tuple_of rfl rfl (S' := S) ?_ (by simp [pureD]) (take_self S)
  show exec (G k) b_is_tuple_of [some (.tup ds), some (.int n)] S = _
  refine x_seqR (x_ret ?_)
  have e : (decide (((ds.length : Nat) : Int) = (n : Int))) = decide (ds.length = n) := by
    by_cases c : ds.length = n
    · simp [c]
    · have : ¬ (((ds.length : Nat) : Int) = (n : Int)) := by omega
      simp [c, this]
  simp [ev, sg, tyD, isTy, seqOf, cmpD, eqD_int, e]
end
end Ev

set_option Elab.async false
set_option linter.all false
set_option maxRecDepth 100000
set_option maxHeartbeats 4000000
set_option autoImplicit false
/-! equality of plain data -/
namespace Ev
open PySem
mutual
/-- ints, tuples and lists of them, at most n deep -/
def layD : Nat → D → Bool
  | _, .int _ => true
  | n, .tup ds => (match n with
    | 0 => false
    | m + 1 => layDs m ds)
  | n, .lst ds => (match n with
    | 0 => false
    | m + 1 => layDs m ds)
  | _, _ => false
def layDs : Nat → List D → Bool
  | _, [] => true
  | n, d :: ds => layD n d && layDs n ds
end
mutual
theorem lay_py : ∀ {d : D} {n : Nat}, layD n d = true → ∃ x, toPy d = some x ∧ x.canLay0 = true ∧ x.depth ≤ n
  | .int i, n, _ => ⟨.int i, rfl, rfl, Nat.zero_le _⟩
  | .tup ds, 0, h => by simp [layD] at h
  | .tup ds, m + 1, h => by
    simp only [layD] at h
    obtain ⟨xs, h1, h2, h3⟩ := lay_pys h
    exact ⟨.tuple xs, by simp [toPy, h1], by simp [PyData.canLay0, h2], by simp only [PyData.depth]; omega⟩
  | .lst ds, 0, h => by simp [layD] at h
  | .lst ds, m + 1, h => by
    simp only [layD] at h
    obtain ⟨xs, h1, h2, h3⟩ := lay_pys h
    exact ⟨.list xs, by simp [toPy, h1], by simp [PyData.canLay0, h2], by simp only [PyData.depth]; omega⟩
  | .non, _, h => by simp [layD] at h
  | .bl _, _, h => by simp [layD] at h
  | .str _, _, h => by simp [layD] at h
  | .fz _, _, h => by simp [layD] at h
  | .cell _, _, h => by simp [layD] at h
theorem lay_pys : ∀ {ds : List D} {n : Nat}, layDs n ds = true → ∃ xs, toPys ds = some xs ∧ PyData.canLayAll0 xs = true ∧ PyData.depthAll xs ≤ n
  | [], n, _ => ⟨[], rfl, rfl, Nat.zero_le _⟩
  | d :: ds, n, h => by
    simp only [layDs, Bool.and_eq_true] at h
    obtain ⟨x, h1, h2, h3⟩ := lay_py h.1
    obtain ⟨xs, h4, h5, h6⟩ := lay_pys h.2
    exact ⟨x :: xs, by simp [toPys, h1, h4], by simp [PyData.canLayAll0, h2, h5], by simp only [PyData.depthAll]; omega⟩
end
mutual
theorem eqv_iff : ∀ {d e : D} {n m : Nat} {x y : PyData}, layD n d = true → layD m e = true → toPy d = some x → toPy e = some y → (PyData.eqv x y = true ↔ d = e)
  | .int i, e, n, m, x, y, h1, h2, h3, h4 => by
    cases h3
    cases e with
    | int j => cases h4; simp [PyData.eqv]
    | tup ds =>
      simp only [toPy, Option.map_eq_some_iff] at h4
      obtain ⟨_, _, rfl⟩ := h4
      simp [PyData.eqv]
    | lst ds =>
      simp only [toPy, Option.map_eq_some_iff] at h4
      obtain ⟨_, _, rfl⟩ := h4
      simp [PyData.eqv]
    | _ => simp [layD] at h2
  | .tup ds, e, n, m, x, y, h1, h2, h3, h4 => by
    simp only [toPy, Option.map_eq_some_iff] at h3
    obtain ⟨xs, h3, rfl⟩ := h3
    cases n with
    | zero => simp [layD] at h1
    | succ n =>
      simp only [layD] at h1
      cases e with
      | int j => cases h4; simp [PyData.eqv]
      | tup es =>
        simp only [toPy, Option.map_eq_some_iff] at h4
        obtain ⟨ys, h4, rfl⟩ := h4
        cases m with
        | zero => simp [layD] at h2
        | succ m =>
          simp only [layD] at h2
          simp only [PyData.eqv, D.tup.injEq]
          exact eqvs_iff h1 h2 h3 h4
      | lst es =>
        simp only [toPy, Option.map_eq_some_iff] at h4
        obtain ⟨_, _, rfl⟩ := h4
        simp [PyData.eqv]
      | _ => simp [layD] at h2
  | .lst ds, e, n, m, x, y, h1, h2, h3, h4 => by
    simp only [toPy, Option.map_eq_some_iff] at h3
    obtain ⟨xs, h3, rfl⟩ := h3
    cases n with
    | zero => simp [layD] at h1
    | succ n =>
      simp only [layD] at h1
      cases e with
      | int j => cases h4; simp [PyData.eqv]
      | lst es =>
        simp only [toPy, Option.map_eq_some_iff] at h4
        obtain ⟨ys, h4, rfl⟩ := h4
        cases m with
        | zero => simp [layD] at h2
        | succ m =>
          simp only [layD] at h2
          simp only [PyData.eqv, D.lst.injEq]
          exact eqvs_iff h1 h2 h3 h4
      | tup es =>
        simp only [toPy, Option.map_eq_some_iff] at h4
        obtain ⟨_, _, rfl⟩ := h4
        simp [PyData.eqv]
      | _ => simp [layD] at h2
  | .non, _, _, _, _, _, h, _, _, _ => by simp [layD] at h
  | .bl _, _, _, _, _, _, h, _, _, _ => by simp [layD] at h
  | .str _, _, _, _, _, _, h, _, _, _ => by simp [layD] at h
  | .fz _, _, _, _, _, _, h, _, _, _ => by simp [layD] at h
  | .cell _, _, _, _, _, _, h, _, _, _ => by simp [layD] at h
theorem eqvs_iff : ∀ {ds es : List D} {n m : Nat} {xs ys : List PyData}, layDs n ds = true → layDs m es = true → toPys ds = some xs → toPys es = some ys → (PyData.eqvAll xs ys = true ↔ ds = es)
  | [], [], _, _, _, _, _, _, h3, h4 => by cases h3; cases h4; simp [PyData.eqvAll]
  | [], e :: es, _, _, _, _, _, _, h3, h4 => by
    cases h3
    simp only [toPys, Option.bind_eq_some_iff, Option.map_eq_some_iff] at h4
    obtain ⟨_, _, _, _, rfl⟩ := h4
    simp [PyData.eqvAll]
  | d :: ds, [], _, _, _, _, _, _, h3, h4 => by
    cases h4
    simp only [toPys, Option.bind_eq_some_iff, Option.map_eq_some_iff] at h3
    obtain ⟨_, _, _, _, rfl⟩ := h3
    simp [PyData.eqvAll]
  | d :: ds, e :: es, n, m, _, _, h1, h2, h3, h4 => by
    simp only [toPys, Option.bind_eq_some_iff, Option.map_eq_some_iff] at h3 h4
    obtain ⟨x, a1, xs, a2, rfl⟩ := h3
    obtain ⟨y, b1, ys, b2, rfl⟩ := h4
    simp only [layDs, Bool.and_eq_true] at h1 h2
    simp only [PyData.eqvAll, Bool.and_eq_true, List.cons.injEq]
    rw [eqv_iff h1.1 h2.1 a1 b1, eqvs_iff h1.2 h2.2 a2 b2]
end
theorem lay_flat (S : Store) {n : Nat} {d : D} (h : layD n d = true) : flat S d = d := by
  cases d with
  | cell _ => simp [layD] at h
  | _ => rfl
open Classical in
theorem eqD_lay (S : Store) {n m : Nat} {d e : D} (hn : n ≤ 64) (hm : m ≤ 64) (h1 : layD n d = true) (h2 : layD m e = true) : eqD S d e = some (decide (d = e)) := by
  obtain ⟨x, a1, a2, a3⟩ := lay_py h1
  obtain ⟨y, b1, b2, b3⟩ := lay_py h2
  have s1 : SeqAt.shaped x = true := by unfold SeqAt.shaped; rw [a2, decide_eq_true (by omega)]; rfl
  have s2 : SeqAt.shaped y = true := by unfold SeqAt.shaped; rw [b2, decide_eq_true (by omega)]; rfl
  unfold eqD
  rw [lay_flat S h1, lay_flat S h2, a1, b1]
  simp only [Option.bind_some, s1, s2, Bool.and_self, if_true, Option.some.injEq]
  have := eqv_iff h1 h2 a1 b1
  by_cases c : d = e
  · rw [decide_eq_true c, this.mpr c]
  · rw [decide_eq_false c]
    cases q : PyData.eqv x y with
    | false => rfl
    | true => exact absurd (this.mp q) c
open Classical in
theorem eqD_no (S : Store) {n m : Nat} {d e : D} (hn : n ≤ 64) (hm : m ≤ 64) (h1 : layD n d = true) (h2 : layD m e = true) (h : d ≠ e) : eqD S d e = some false := by
  rw [eqD_lay S hn hm h1 h2, decide_eq_false h]
open Classical in
theorem eqD_yes (S : Store) {n : Nat} {d : D} (hn : n ≤ 64) (h1 : layD n d = true) : eqD S d d = some true := by
  rw [eqD_lay S hn hn h1 h1, decide_eq_true rfl]
theorem lay_fr (n : Nat) (q : Rat) : layD (n + 1) (fr q) = true := rfl
theorem lays_map {α : Type} {f : α → D} {n : Nat} : ∀ {l : List α}, (∀ a ∈ l, layD n (f a) = true) → layDs n (l.map f) = true
  | [], _ => rfl
  | a :: l, h => by
    simp only [List.map_cons, layDs, Bool.and_eq_true]
    exact ⟨h a (List.mem_cons_self ..), lays_map fun b hb => h b (List.mem_cons_of_mem _ hb)⟩
theorem lay_row (n : Nat) (l : List Rat) : layD (n + 2) (rowD l) = true := by simp only [rowD, layD]; exact lays_map fun q _ => lay_fr n q
theorem lay_tab (n : Nat) (m : List (List Rat)) : layD (n + 3) (tabD m) = true := by simp only [tabD, layD]; exact lays_map fun l _ => lay_row n l
theorem fr_inj {p q : Rat} (h : fr p = fr q) : p = q := by
  simp only [fr, D.tup.injEq, List.cons.injEq, D.int.injEq, and_true] at h
  exact Rat.ext h.1 (by omega)
theorem map_inj {α : Type} {f : α → D} (hf : ∀ a b, f a = f b → a = b) : ∀ {l m : List α}, l.map f = m.map f → l = m
  | [], [], _ => rfl
  | [], _ :: _, h => by simp at h
  | _ :: _, [], h => by simp at h
  | a :: l, b :: m, h => by
    simp only [List.map_cons, List.cons.injEq] at h
    rw [hf _ _ h.1, map_inj hf h.2]
theorem row_inj {l m : List Rat} (h : rowD l = rowD m) : l = m := map_inj (fun _ _ => fr_inj) (by simpa [rowD] using h)
theorem tab_inj {l m : List (List Rat)} (h : tabD l = tabD m) : l = m := map_inj (fun _ _ => row_inj) (by simpa [tabD] using h)
end Ev

set_option Elab.async false
set_option linter.all false
set_option maxRecDepth 100000
set_option maxHeartbeats 4000000
set_option autoImplicit false
/-! fractions, rows, tables are what they should be -/
namespace Ev
open PySem
theorem bls_map {α : Type} (p : α → Bool) : ∀ l : List α, blsOf (l.map fun a => D.bl (p a)) = some (l.map p)
  | [] => rfl
  | a :: l => by simp [blsOf, bls_map p l]
section
variable {k : Nat} (S : Store)
/-- all([p(x) for x in t]) -/
theorem e_all {g : GC} {α : Type} {ρ : Env} {S S1 : Store} {elt it : Ex} {tg : Tg} {own gd : List Nat} (h : α → D) (p : α → Bool) (l : List α) (hit : ev g it ρ S = some (packG gd (l.map h), S1)) (hl : l.length ≤ most)
    (hs : ∀ a ∈ l, ∃ ρ1, setT tg [h a] (wipeE ρ own) = some ρ1 ∧ ev g elt ρ1 S1 = some ([.bl (p a)], S1)) : ev g (.allE (.lc elt tg it (.bl true) own)) ρ S = some ([.bl (l.all p)], S1) := by
  have := e_lc (g := g) h (fun a => D.bl (p a)) l hit hl hs
  rw [ev, this]
  simp [bls_map, List.all_map]
theorem are_numbers_ints (hk : 2 ≤ k) (l : List Int) (hl : l.length ≤ most) : callF defs cs97 k i_are_numbers [.tup (l.map .int), .int l.length] S = some (.bl true, S) := by
  obtain ⟨k, rfl, hj⟩ := lev hk
  refine call_ret t_are_numbers rfl rfl (S' := S) ?_ (by simp [pureD]) (take_self S)
  show exec (G k) b_are_numbers [some (.tup (l.map .int)), some (.int l.length), none] S = _
  refine x_seqR (x_ret ?_)
  rw [ev, e_call (xs := [.tup (l.map .int), .int l.length]) (S1 := S) (by simp [ev]) (is_tuple_of_tup S hj _ _)]
  simp only [List.length_map, decide_true, Option.bind_some]
  rw [e_all (α := Int) (gd := []) D.int (fun _ => true) l (by simp [ev, sg, seqOf, packG, guardOf]) hl fun a ha => ⟨[some (.tup (l.map .int)), some (.int l.length), some (.int a)], by simp [setT, wipeE], e_call (xs := [.int a]) (S1 := S) (by simp [ev]) (is_number_int S hj a)⟩]
  simp
theorem is_fraction_fr (hk : 3 ≤ k) (q : Rat) : callF defs cs97 k i_is_fraction [fr q] S = some (.bl true, S) := by
  obtain ⟨k, rfl, hj⟩ := lev hk
  refine call_ret t_is_fraction rfl rfl (S' := S) ?_ (by simp [pureD]) (take_self S)
  show exec (G k) b_is_fraction [some (fr q)] S = _
  have h1 := are_numbers_ints S hj [q.num, (q.den : Int)] (by simp [most])
  have hd := den_pos q
  have h2 : ev (G k) (.cmp .gt (.idx (.var 0) (.int 1)) (.int 0)) [some (fr q)] S = some ([.bl true], S) := by
    simp [ev, sg, fr, seqOf, idxL, L2.ixN, cmpD]
    omega
  have h3 := spec_shared' (k := k) (by omega) q.num q.den S
  have hr : Int.gcd q.num q.den = 1 := q.reduced
  rw [hr] at h3
  refine x_seqR (x_ret (e_andT (e_call (xs := [fr q, .int 2]) (S1 := S) (by simp [ev, cs97, cns]) h1) (e_andT h2 ?_)))
  rw [ev, e_call (xs := [.int q.num, .int q.den]) (S1 := S) (by simp [ev, sg, fr, seqOf, idxL, L2.ixN]) h3]
  simp [ev, sg, cmpD, eqD_int]
theorem sure_fraction_fr (hk : 4 ≤ k) (q : Rat) {w : List D → D} (hw : Rw w) : callF defs cs97 k i_sure_fraction [w [.int q.num, .int q.den]] S = some (fr q, S) := by
  obtain ⟨k, rfl, hj⟩ := lev hk
  refine call_ret t_sure_fraction rfl rfl (S' := S) ?_ (by simp) (take_self S)
  show exec (G k) b_sure_fraction [some (w [.int q.num, .int q.den]), none] S = _
  refine x_seq (x_asg (e_call (xs := [w [.int q.num, .int q.den]]) (S1 := S) (by simp [ev]) (tupled_fr S (by omega) q hw))) ?_
  refine x_seq (x_iteF (S1 := S) ?_ (by rw [exec])) (x_seqR (x_ret (by simp [ev])))
  rw [ev, e_call (xs := [fr q]) (S1 := S) (by simp [ev]) (is_fraction_fr S (by omega) q)]
  rfl
theorem is_row_row (hk : 4 ≤ k) (l : List Rat) (h0 : l ≠ []) (hl : l.length ≤ most) : callF defs cs97 k i_is_row [rowD l] S = some (.bl true, S) := by
  obtain ⟨k, rfl, hj⟩ := lev hk
  refine call_ret t_is_row rfl rfl (S' := S) ?_ (by simp [pureD]) (take_self S)
  show exec (G k) b_is_row [some (rowD l), none] S = _
  have h1 : ev (G k) (.isi [.tuple] (.var 0)) [some (rowD l), none] S = some ([.bl true], S) := by simp [ev, sg, rowD, tyD, isTy]
  have h2 : ev (G k) (.cmp .ne (.var 0) (.tupE .nil)) [some (rowD l), none] S = some ([.bl true], S) := by
    have ne : rowD l ≠ .tup [] := fun z => h0 (row_inj (m := []) z)
    have e := eqD_no S (n := 2) (m := 2) (by decide) (by decide) (lay_row 0 l) (lay_row 0 []) ne
    have e2 : rowD [] = .tup [] := rfl
    rw [e2] at e
    simp [ev, sg, most, cmpD, e]
  refine x_seqR (x_ret (e_andT h1 (e_andT h2 ?_)))
  rw [e_all (α := Rat) (gd := []) fr (fun _ => true) l (by simp [ev, sg, rowD, seqOf, packG, guardOf]) hl fun a ha => ⟨[some (rowD l), some (fr a)], by simp [setT, wipeE], e_call (xs := [fr a]) (S1 := S) (by simp [ev]) (is_fraction_fr S (by omega) a)⟩]
  simp
theorem sure_row_row (hk : 5 ≤ k) (l : List Rat) (h0 : l ≠ []) (hl : l.length ≤ most) {w w' : List D → D} (hw : Rw w) (hw' : Rw w') : callF defs cs97 k i_sure_row [w (l.map fun q => w' [.int q.num, .int q.den])] S = some (rowD l, S) := by
  obtain ⟨k, rfl, hj⟩ := lev hk
  refine call_ret t_sure_row rfl rfl (S' := S) ?_ (by simp) (take_self S)
  show exec (G k) b_sure_row [some (w (l.map fun q => w' [.int q.num, .int q.den])), none] S = _
  refine x_seq (x_asg (e_call (xs := [w (l.map fun q => w' [.int q.num, .int q.den])]) (S1 := S) (by simp [ev]) (tupled_row S (by omega) l hl hw hw'))) ?_
  refine x_seq (x_iteF (S1 := S) ?_ (by rw [exec])) (x_seqR (x_ret (by simp [ev, rowD])))
  rw [ev, e_call (xs := [rowD l]) (S1 := S) (by simp [ev, rowD]) (is_row_row S hj l h0 hl)]
  rfl
end
end Ev

set_option Elab.async false
set_option linter.all false
set_option maxRecDepth 100000
set_option maxHeartbeats 4000000
set_option autoImplicit false
/-! loops that change cells; pairs -/
namespace Ev
open PySem
/-- for tg in items: env and store as functions of what is carried -/
theorem for_foldS {α β : Type} {body : Env → Store → Option Fl} {t : Tg} (h : α → D) (E : β → Env) (Sf : β → Store) (step : β → α → β) : ∀ (l : List α) (b : β),
    (∀ l1 a l2, l = l1 ++ a :: l2 → ∃ ρ1, setT t [h a] (E (l1.foldl step b)) = some ρ1 ∧ body ρ1 (Sf (l1.foldl step b)) = some (.nx (E (step (l1.foldl step b) a)) (Sf (step (l1.foldl step b) a)))) →
    forLp body t [] (l.map h) (E b) (Sf b) = some (.nx (E (l.foldl step b)) (Sf (l.foldl step b)))
  | [], b, _ => by simp [forLp]
  | a :: l, b, hs => by
    obtain ⟨ρ1, h1, h2⟩ := hs [] a l rfl
    have ih := for_foldS (body := body) (t := t) h E Sf step l (step b a) fun l1 a' l2 e => hs (a :: l1) a' l2 (by rw [e]; rfl)
    rw [List.foldl_nil] at h1 h2
    simp only [List.map_cons, forLp, h1, h2, Option.bind_some]
    rw [if_pos (show kept [] (Sf b) (Sf (step b a)) from fun n hn => by cases hn), ih]
    rfl
theorem x_ext {g : GC} {ρ : Env} {S S1 S2 : Store} {o e : Ex} {n : Nat} {ds0 ds zs : List D} (h1 : ev g o ρ S = some ([.cell n], S1)) (h2 : ev g e ρ S1 = some ([.lst zs], S2)) (h3 : S1[n]? = some (.lst ds0)) (h4 : S2[n]? = some (.lst ds)) (hl : ds.length + zs.length ≤ most) :
    exec g (.ext o e) ρ S = some (.nx ρ (S2.set n (.lst (ds ++ zs)))) := by
  simp [exec, h1, h2, h3, h4, hl]
theorem x_app {g : GC} {ρ : Env} {S S1 S2 : Store} {o e : Ex} {n : Nat} {ds0 ds : List D} {d : D} (h1 : ev g o ρ S = some ([.cell n], S1)) (h2 : ev g e ρ S1 = some ([d], S2)) (h3 : S1[n]? = some (.lst ds0)) (h4 : S2[n]? = some (.lst ds)) (hl : ds.length < most) :
    exec g (.app o e) ρ S = some (.nx ρ (S2.set n (.lst (ds ++ [d])))) := by
  simp [exec, h1, h2, h3, h4, hl, sg]
theorem get_last (S : Store) (c : C) : (S ++ [c])[S.length]? = some c := by simp
theorem set_last (S : Store) (c c' : C) : (S ++ [c]).set S.length c' = S ++ [c'] := by simp
theorem take_app (S T : Store) : (S ++ T).take S.length = S := List.take_left
/-- a result that is the call's own one cell -/
theorem call_cell {k i : Nat} {ds : List D} {S : Store} {f : Df} {xs : List D} {T : Store} {n : Nat} (hf : defs[i]? = some f) (hl : ds.length = f.ar) (hv : f.live = false) (hx : exec (G k) f.body (ds.map some ++ List.replicate (f.n - f.ar) none) S = some (.rt (.cell (S.length + n)) (S ++ T)))
    (hT : T[n]? = some (.lst xs)) (hp : pureDs xs = true) : callF defs cs97 (k + 1) i ds S = some (.lst xs, S) := by
  simp only [callF, hf, Option.bind_some]
  rw [if_pos hl]
  have hx : exec ⟨callF defs cs97 k, cs97, 0⟩ f.body (ds.map some ++ List.replicate (f.n - f.ar) none) S = some (.rt (.cell (S.length + n)) (S ++ T)) := hx
  rw [hx]
  simp only [Option.bind_some, hv, Bool.false_eq_true, if_false]
  unfold cutS
  rw [if_pos fun m hm => .inl (List.getElem?_append_left hm)]
  have e : (S ++ T)[S.length + n]? = some (.lst xs) := by rw [List.getElem?_append_right (by omega)]; rw [show S.length + n - S.length = n by omega]; exact hT
  simp only [resD, if_neg (show ¬ (S.length + n < S.length) by omega), e, pures_ok hp, if_true, Option.map_some, take_app]
def restOf (n i : Nat) : List (Nat × Nat) := (List.range (n - (i + 1))).map fun t => (i, i + 1 + t)
def pairsOf (n : Nat) : List (Nat × Nat) := (List.range n).flatMap (restOf n)
def pairD (p : Nat × Nat) : D := .tup [.int (p.1 : Nat), .int (p.2 : Nat)]
theorem pairs_below_int {k : Nat} (S : Store) (hk : 1 ≤ k) (n : Nat) (hn : n ≤ 20) : callF defs cs97 k i_pairs_below [.int n] S = some (.lst ((pairsOf n).map pairD), S) := by
  obtain ⟨k, rfl, hj⟩ := lev hk
  refine call_cell (n := 0) (T := [.lst ((pairsOf n).map pairD)]) t_pairs_below rfl rfl ?_ rfl (pures_map fun _ _ => rfl)
  show exec (G k) b_pairs_below [some (.int n), none, none, none] S = _
  refine x_seq (x_asg (d := .cell S.length) (S1 := S ++ [.lst []]) (by simp [ev, most])) ?_
  have loop := for_foldS (α := Nat) (β := List (Nat × Nat) × Option D) (t := .nm 2) (body := exec (G k) (.seq (.ext (.var 1) (.lc (.tupE (.cons (.var 2) (.cons (.var 3) .nil))) (.nm 3) (.rng2 (.bin .add (.var 2) (.int 1)) (.var 0)) (.bl true) [3])) .done))
    (fun i => .int (i : Nat)) (fun b => [some (.int n), some (.cell S.length), b.2, none]) (fun b => S ++ [.lst (b.1.map pairD)]) (fun b i => (b.1 ++ restOf n i, some (.int (i : Nat)))) (List.range n) ([], none) fun l1 i l2 e => by
    have hi : i < n := List.mem_range.mp (by rw [e]; simp)
    generalize hb : l1.foldl (fun (b : List (Nat × Nat) × Option D) i => (b.1 ++ restOf n i, some (.int (i : Nat)))) ([], none) = b
    refine ⟨[some (.int n), some (.cell S.length), some (.int (i : Nat)), none], by simp [setT], ?_⟩
    have hlen : b.1.length ≤ 20 * l1.length := by
      rw [← hb]
      clear hb e
      have gen : ∀ (l1 : List Nat) (b : List (Nat × Nat) × Option D), (l1.foldl (fun (b : List (Nat × Nat) × Option D) i => (b.1 ++ restOf n i, some (.int (i : Nat)))) b).1.length ≤ b.1.length + 20 * l1.length := by
        intro l1
        induction l1 with
        | nil => intro b; simp
        | cons x l1 ih =>
          intro b
          rw [List.foldl_cons]
          refine Nat.le_trans (ih _) ?_
          simp only [List.length_append, restOf, List.length_map, List.length_range, List.length_cons]
          omega
      simpa using gen l1 ([], none)
    have hl1 : l1.length < n := by
      have := congrArg List.length e
      simp at this
      omega
    have hit : ev (G k) (.rng2 (.bin .add (.var 2) (.int 1)) (.var 0)) [some (.int n), some (.cell S.length), some (.int (i : Nat)), none] (S ++ [.lst (b.1.map pairD)]) = some (packG [] ((List.range (n - (i + 1))).map fun t => D.int ((i : Int) + 1 + (t : Nat))), S ++ [.lst (b.1.map pairD)]) := by
      have e1 : ((n : Int) - ((i : Int) + 1)).toNat = n - (i + 1) := by omega
      simp only [ev, sg, binD, List.getElem?_cons_succ, List.getElem?_cons_zero, Option.bind_some]
      rw [if_pos (by omega)]
      unfold rngD
      rw [e1]
    have hlc := e_lc (elt := .tupE (.cons (.var 2) (.cons (.var 3) .nil))) (tg := .nm 3) (own := [3]) (fun t : Nat => D.int ((i : Int) + 1 + (t : Nat))) (fun t => pairD (i, i + 1 + t)) (List.range (n - (i + 1))) hit (by simp [most]; omega) fun t ht => by
      refine ⟨[some (.int n), some (.cell S.length), some (.int (i : Nat)), some (.int ((i : Int) + 1 + (t : Nat)))], by simp [setT, wipeE], ?_⟩
      simp [ev, most, pairD]
    refine x_seq (ρ1 := [some (.int n), some (.cell S.length), some (.int (i : Nat)), none]) (S1 := S ++ [.lst ((b.1 ++ restOf n i).map pairD)]) ?_ (by simp [exec])
    have hr : (List.range (n - (i + 1))).map (fun t => pairD (i, i + 1 + t)) = (restOf n i).map pairD := by simp [restOf]
    rw [hr] at hlc
    have hx := x_ext (S := S ++ [.lst (b.1.map pairD)]) (S1 := S ++ [.lst (b.1.map pairD)]) (o := .var 1) (n := S.length) (ds0 := b.1.map pairD) (ds := b.1.map pairD) (by simp [ev]) hlc (get_last _ _) (get_last _ _) (by simp [restOf, most]; omega)
    rw [set_last, ← List.map_append] at hx
    exact hx
  have hf : ∀ (l : List Nat) (b : List (Nat × Nat) × Option D), (l.foldl (fun (b : List (Nat × Nat) × Option D) i => (b.1 ++ restOf n i, some (.int (i : Nat)))) b).1 = b.1 ++ l.flatMap (restOf n) := by
    intro l
    induction l with
    | nil => intro b; simp
    | cons x l ih => intro b; rw [List.foldl_cons, ih]; simp
  have e0 : exec (G k) (.forL (.nm 2) (.rng1 (.var 0)) (.seq (.ext (.var 1) (.lc (.tupE (.cons (.var 2) (.cons (.var 3) .nil))) (.nm 3) (.rng2 (.bin .add (.var 2) (.int 1)) (.var 0)) (.bl true) [3])) .done)) [some (.int n), some (.cell S.length), none, none] (S ++ [.lst []]) =
      forLp (exec (G k) (.seq (.ext (.var 1) (.lc (.tupE (.cons (.var 2) (.cons (.var 3) .nil))) (.nm 3) (.rng2 (.bin .add (.var 2) (.int 1)) (.var 0)) (.bl true) [3])) .done)) (.nm 2) [] ((List.range n).map fun i => D.int (i : Nat)) [some (.int n), some (.cell S.length), none, none] (S ++ [.lst []]) := by
    rw [exec, ev]
    simp only [ev, List.getElem?_cons_zero, Option.bind_some]
    rw [if_pos (by omega)]
    simp [packG, unG, gNat, rngD]
  refine x_seq (e0.trans loop) (x_seqR (x_ret ?_))
  simp [ev, hf, pairsOf]
end Ev

set_option Elab.async false
set_option linter.all false
set_option maxRecDepth 100000
set_option maxHeartbeats 4000000
set_option autoImplicit false
/-! tables -/
namespace Ev
open PySem
def at_ (m : List (List Rat)) (i j : Nat) : Rat := (m.getD i []).getD j 0
/-- a symmetric table of n rows -/
structure Tab (n : Nat) (m : List (List Rat)) : Prop where
  pos : 0 < n
  le : n ≤ 20
  len : m.length = n
  rows : ∀ r ∈ m, r.length = n
  sym : ∀ i j, i < n → j < n → at_ m i j = at_ m j i
theorem idx_nat {α : Type} (xs : List α) (i : Nat) (h : i < xs.length) : idxL xs (i : Int) = some xs[i] := by
  unfold idxL L2.ixN
  rw [if_pos (by omega), if_pos (by omega)]
  simp [h]
theorem e_args1 {g : GC} {ρ : Env} {S S1 : Store} {a : Ex} {x : D} (h : ev g a ρ S = some ([x], S1)) : ev g (.cons a .nil) ρ S = some ([x], S1) := by
  rw [ev, h]; simp [ev]
theorem e_args2 {g : GC} {ρ : Env} {S S1 S2 : Store} {a b : Ex} {x y : D} (h : ev g a ρ S = some ([x], S1)) (h2 : ev g b ρ S1 = some ([y], S2)) : ev g (.cons a (.cons b .nil)) ρ S = some ([x, y], S2) := by
  rw [ev, h, Option.bind_some, e_args1 h2]; simp
section
variable {k : Nat} (S : Store)
theorem Tab.row {n : Nat} {m : List (List Rat)} (t : Tab n m) {i : Nat} (h : i < n) : ∃ r, m[i]? = some r ∧ r.length = n ∧ ∀ j, j < n → r[j]? = some (at_ m i j) := by
  have hl : i < m.length := by rw [t.len]; exact h
  refine ⟨m[i], List.getElem?_eq_getElem hl, t.rows _ (List.getElem_mem hl), fun j hj => ?_⟩
  have hr := t.rows _ (List.getElem_mem hl)
  have e0 : m.getD i [] = m[i] := by rw [List.getD_eq_getElem?_getD, List.getElem?_eq_getElem hl]; rfl
  have e : at_ m i j = (m[i]).getD j 0 := by unfold at_; rw [e0]
  rw [e, List.getD_eq_getElem?_getD, List.getElem?_eq_getElem (by omega)]
  rfl
/-- t[i][j] -/
theorem e_at {g : GC} {n : Nat} {m : List (List Rat)} (t : Tab n m) {ρ : Env} {S : Store} {x y z : Ex} {i j : Nat} (hi : i < n) (hj : j < n) (hx : ev g x ρ S = some ([tabD m], S)) (hy : ev g y ρ S = some ([.int (i : Nat)], S)) (hz : ev g z ρ S = some ([.int (j : Nat)], S)) :
    ev g (.idx (.idx x y) z) ρ S = some ([fr (at_ m i j)], S) := by
  obtain ⟨r, h1, h2, h3⟩ := t.row hi
  have hl : i < m.length := by rw [t.len]; exact hi
  have e1 : ev g (.idx x y) ρ S = some ([rowD r], S) := by
    have : idxL (m.map rowD) (i : Int) = some (rowD r) := by
      rw [idx_nat _ _ (by simpa using hl)]
      rw [List.getElem?_eq_getElem hl] at h1
      simp only [List.getElem_map]
      rw [Option.some.inj h1]
    simp [ev, hx, hy, sg, tabD, seqOf, this]
  have e2 : idxL (r.map fr) (j : Int) = some (fr (at_ m i j)) := by
    rw [idx_nat _ _ (by simp; omega)]
    have := h3 j hj
    rw [List.getElem?_eq_getElem (by omega)] at this
    simp only [List.getElem_map]
    rw [Option.some.inj this]
  rw [ev, e1]
  simp [hz, sg, rowD, seqOf, e2]
theorem told_part_fr (hk : 4 ≤ k) (p q : Rat) : callF defs cs97 k i_is_told_part [fr p, fr q] S = some (.bl true, S) := by
  obtain ⟨k, rfl, hj⟩ := lev hk
  refine call_ret t_is_told_part rfl rfl (S' := S) ?_ (by simp [pureD]) (take_self S)
  show exec (G k) b_is_told_part [some (fr p), some (fr q)] S = _
  refine x_seqR (x_ret (e_orF (S1 := S) (e_andF (S1 := S) (by simp [ev, sg, cmpD, fr])) (e_andT (S1 := S) (e_call (xs := [fr p]) (S1 := S) (by simp [ev]) (is_fraction_fr S hj p)) (e_call (xs := [fr q]) (S1 := S) (by simp [ev]) (is_fraction_fr S hj q)))))
theorem pairs_mem {n : Nat} {p : Nat × Nat} (h : p ∈ pairsOf n) : p.1 < n ∧ p.2 < n := by
  unfold pairsOf restOf at h
  simp only [List.mem_flatMap, List.mem_range, List.mem_map] at h
  obtain ⟨i, hi, t, ht, rfl⟩ := h
  exact ⟨hi, by omega⟩
theorem pairs_len (n : Nat) (hn : n ≤ 20) : (pairsOf n).length ≤ most := by
  unfold pairsOf
  rw [List.length_flatMap]
  have : ∀ l : List Nat, (l.map fun i => (restOf n i).length).sum ≤ 20 * l.length := by
    intro l
    induction l with
    | nil => simp
    | cons x l ih =>
      simp only [List.map_cons, List.sum_cons, List.length_cons, restOf, List.length_map, List.length_range] at ih ⊢
      omega
  have h := this (List.range n)
  rw [List.length_range] at h
  unfold most
  omega
theorem is_told_tab (hk : 5 ≤ k) {n : Nat} {m : List (List Rat)} (t : Tab n m) : callF defs cs97 k i_is_told [tabD m] S = some (.bl true, S) := by
  obtain ⟨k, rfl, hj⟩ := lev hk
  have hm := t.len
  have hle := t.le
  refine call_ret t_is_told rfl rfl (S' := S) ?_ (by simp [pureD]) (take_self S)
  show exec (G k) b_is_told [some (tabD m), none, none, none, none] S = _
  have len : ∀ ρ : Env, ρ[0]? = some (some (tabD m)) → ev (G k) (.len (.var 0)) ρ S = some ([.int n], S) := fun ρ h => by simp [ev, h, sg, tabD, seqOf, hm]
  have c1 : ev (G k) (.cmp .eq (.var 0) (.tupE .nil)) [some (tabD m), none, none, none, none] S = some ([.bl false], S) := by
    have ne : tabD m ≠ .tup [] := fun z => by
      have : m = [] := tab_inj (l := m) (m := []) z
      rw [this] at hm
      have := t.pos
      simp at hm
      omega
    have e := eqD_no S (n := 3) (m := 3) (by decide) (by decide) (lay_tab 0 m) (lay_tab 0 []) ne
    have e2 : tabD [] = .tup [] := rfl
    rw [e2] at e
    simp [ev, sg, most, cmpD, e]
  have c2 := e_all (g := G k) (ρ := [some (tabD m), none, none, none, none]) (S := S) (S1 := S) (elt := .call i_is_tuple_of (.cons (.var 4) (.cons (.len (.var 0)) .nil))) (it := .it (.var 0)) (tg := .nm 4) (own := [4]) (gd := []) rowD (fun _ => true) m (by simp [ev, sg, tabD, seqOf, packG, guardOf]) (by unfold most; omega) fun r hr => by
    refine ⟨[some (tabD m), none, none, none, some (rowD r)], by simp [setT, wipeE], ?_⟩
    have h2 := is_tuple_of_tup S (k := k) (by omega) (r.map fr) n
    rw [List.length_map, t.rows r hr, decide_eq_true rfl] at h2
    exact e_call (xs := [rowD r, .int n]) (S1 := S) (by rw [ev, ev]; simp [ev, sg, tabD, seqOf, hm]) h2
  have c3 := e_all (g := G k) (ρ := [some (tabD m), none, none, none, none]) (S := S) (S1 := S) (elt := .call i_is_fraction (.cons (.idx (.idx (.var 0) (.var 2)) (.var 2)) .nil)) (it := .rng1 (.len (.var 0))) (tg := .nm 2) (own := [2]) (gd := []) (fun i : Nat => D.int (i : Nat)) (fun _ => true) (List.range n) (by
      rw [ev, len _ rfl]
      simp only [Option.bind_some]
      rw [if_pos (by omega)]
      simp [rngD]) (by simp [most]; omega) fun i hi => by
    have hi := List.mem_range.mp hi
    refine ⟨[some (tabD m), none, some (.int (i : Nat)), none, none], by simp [setT, wipeE], ?_⟩
    have ea := e_at (g := G k) (ρ := [some (tabD m), none, some (.int (i : Nat)), none, none]) (S := S) t hi hi (x := .var 0) (y := .var 2) (z := .var 2) (by simp [ev]) (by simp [ev]) (by simp [ev])
    exact e_call (xs := [fr (at_ m i i)]) (S1 := S) (by rw [ev, ea]; simp [ev]) (is_fraction_fr S (by omega) _)
  refine x_seq (x_iteF (S1 := S) (e_orF (S1 := S) ?_ (e_orF c1 (e_nt (b := true) (by rw [c2]; simp)))) (by rw [exec])) ?_
  · exact e_nt (b := true) (by simp [ev, sg, tabD, tyD, isTy])
  refine x_seq (x_iteF (S1 := S) (e_nt (b := true) (by rw [c3]; simp)) (by rw [exec])) ?_
  refine x_seq (x_asg (e_call (xs := [.int n]) (S1 := S) (by rw [ev, len _ rfl]; simp [ev]) (pairs_below_int S (by omega) n t.le))) ?_
  refine x_seqR (x_ret ?_)
  have c4 := e_all (g := G k) (ρ := [some (tabD m), some (.lst ((pairsOf n).map pairD)), none, none, none]) (S := S) (S1 := S) (elt := .and (.cmp .eq (.idx (.idx (.var 0) (.var 2)) (.var 3)) (.idx (.idx (.var 0) (.var 3)) (.var 2))) (.call i_is_told_part (.cons (.idx (.idx (.var 0) (.var 2)) (.var 3)) (.cons (.idx (.idx (.var 0) (.var 3)) (.var 2)) .nil)))) (it := .it (.var 1)) (tg := .tup (.tcons (.nm 2) (.tcons (.nm 3) .tnil))) (own := [2, 3]) (gd := []) pairD (fun _ => true) (pairsOf n) (by simp [ev, sg, seqOf, packG, guardOf]) (pairs_len n t.le) fun p hp => by
    obtain ⟨h1, h2⟩ := pairs_mem hp
    let ρ1 : Env := [some (tabD m), some (.lst ((pairsOf n).map pairD)), some (.int (p.1 : Nat)), some (.int (p.2 : Nat)), none]
    refine ⟨ρ1, by simp [setT, wipeE, pairD, ρ1], ?_⟩
    have ea := e_at (g := G k) (ρ := ρ1) (S := S) t h1 h2 (x := .var 0) (y := .var 2) (z := .var 3) (by simp [ev, ρ1]) (by simp [ev, ρ1]) (by simp [ev, ρ1])
    have eb := e_at (g := G k) (ρ := ρ1) (S := S) t h2 h1 (x := .var 0) (y := .var 3) (z := .var 2) (by simp [ev, ρ1]) (by simp [ev, ρ1]) (by simp [ev, ρ1])
    refine e_andT (S1 := S) ?_ (e_call (xs := [fr (at_ m p.1 p.2), fr (at_ m p.2 p.1)]) (S1 := S) ?_ (told_part_fr S (by omega) _ _))
    · rw [ev, ea]
      simp [eb, sg, cmpD, eqD_fr, t.sym p.1 p.2 h1 h2]
    · exact e_args2 ea eb
  refine Eq.trans ?_ (c4.trans (by simp))
  rfl
end
end Ev

set_option Elab.async false
set_option linter.all false
set_option maxRecDepth 100000
set_option maxHeartbeats 4000000
set_option autoImplicit false
/-! sure_table and its kin -/
namespace Ev
open PySem
section
variable {k : Nat} (S : Store)
def pyFr (q : Rat) : PyData := .tuple [.int q.num, .int q.den]
theorem toPys_fr : ∀ l : List Rat, toPys (l.map fr) = some (l.map pyFr)
  | [] => rfl
  | q :: l => by simp [toPys, toPys_fr l, toPy_fr, pyFr]
theorem none_notIn (l : List Rat) : inD S .non (rowD l) = some false := by
  obtain ⟨x, a1, a2, a3⟩ := lay_py (lay_row 0 l)
  have e : toPy (rowD l) = some (.tuple (l.map pyFr)) := by simp [rowD, toPy, toPys_fr]
  rw [e] at a1
  cases a1
  have s1 : SeqAt.shaped (.list (l.map pyFr)) = true := by
    have hd : (PyData.list (l.map pyFr)).depth ≤ 64 := by
      simp only [PyData.depth] at a3 ⊢
      omega
    have hc : (PyData.list (l.map pyFr)).canLay0 = true := by
      simp only [PyData.canLay0] at a2 ⊢
      exact a2
    unfold SeqAt.shaped
    rw [hc, decide_eq_true hd]; rfl
  have s0 : SeqAt.shaped PyData.none = true := rfl
  have an : ((l.map pyFr).any fun z => PyData.eqv z .none) = false := by
    rw [List.any_eq_false]
    intro z hz
    obtain ⟨q, _, rfl⟩ := List.mem_map.mp hz
    simp [pyFr, PyData.eqv]
  unfold inD
  simp only [flat, toPy, rowD, Option.bind_some, toPys_fr, s0, s1, Bool.and_self, if_true, an]
theorem is_table_tab (hk : 6 ≤ k) {n : Nat} {m : List (List Rat)} (t : Tab n m) : callF defs cs97 k i_is_table [tabD m] S = some (.bl true, S) := by
  obtain ⟨k, rfl, hj⟩ := lev hk
  have hm := t.len
  have hle := t.le
  refine call_ret t_is_table rfl rfl (S' := S) ?_ (by simp [pureD]) (take_self S)
  show exec (G k) b_is_table [some (tabD m), none] S = _
  have c2 := e_all (g := G k) (ρ := [some (tabD m), none]) (S := S) (S1 := S) (elt := .cmp .ntIn .non (.var 1)) (it := .it (.var 0)) (tg := .nm 1) (own := [1]) (gd := []) rowD (fun _ => true) m (by simp [ev, sg, tabD, seqOf, packG, guardOf]) (by unfold most; omega) fun r hr => by
    refine ⟨[some (tabD m), some (rowD r)], by simp [setT, wipeE], ?_⟩
    simp [ev, sg, cmpD, none_notIn]
  refine x_seqR (x_ret (e_andT (S1 := S) (e_call (xs := [tabD m]) (S1 := S) (by simp [ev]) (is_told_tab S (by omega) t)) (c2.trans (by simp))))
/-- a table given in whatever form -/
def formD (w1 w2 w3 : List D → D) (m : List (List Rat)) : D := w1 (m.map fun r => w2 (r.map fun q => w3 [.int q.num, .int q.den]))
theorem form_tab (m : List (List Rat)) : formD .tup .tup .tup m = tabD m := rfl
theorem Tab.rl {n : Nat} {m : List (List Rat)} (t : Tab n m) : ∀ r ∈ m, r.length ≤ most := fun r hr => by rw [t.rows r hr]; have := t.le; unfold most; omega
theorem Tab.ml {n : Nat} {m : List (List Rat)} (t : Tab n m) : m.length ≤ most := by rw [t.len]; have := t.le; unfold most; omega
theorem sure_table_tab (hk : 7 ≤ k) {n : Nat} {m : List (List Rat)} (t : Tab n m) {w1 w2 w3 : List D → D} (h1 : Rw w1) (h2 : Rw w2) (h3 : Rw w3) : callF defs cs97 k i_sure_table [formD w1 w2 w3 m] S = some (tabD m, S) := by
  obtain ⟨k, rfl, hj⟩ := lev hk
  refine call_ret t_sure_table rfl rfl (S' := S) ?_ (by simp) (take_self S)
  show exec (G k) b_sure_table [some (formD w1 w2 w3 m), none] S = _
  refine x_seq (x_asg (e_call (xs := [formD w1 w2 w3 m]) (S1 := S) (by simp [ev]) (tupled_tab S (by omega) m t.ml t.rl h1 h2 h3))) ?_
  refine x_seq (x_iteF (S1 := S) (e_nt (b := true) (e_call (xs := [tabD m]) (S1 := S) (by simp [ev]) (is_table_tab S hj t))) (by rw [exec])) (x_seqR (x_ret (by simp [ev])))
theorem sure_told_tab (hk : 6 ≤ k) {n : Nat} {m : List (List Rat)} (t : Tab n m) {w1 w2 w3 : List D → D} (h1 : Rw w1) (h2 : Rw w2) (h3 : Rw w3) : callF defs cs97 k i_sure_told [formD w1 w2 w3 m] S = some (tabD m, S) := by
  obtain ⟨k, rfl, hj⟩ := lev hk
  refine call_ret t_sure_told rfl rfl (S' := S) ?_ (by simp) (take_self S)
  show exec (G k) b_sure_told [some (formD w1 w2 w3 m), none] S = _
  refine x_seq (x_asg (e_call (xs := [formD w1 w2 w3 m]) (S1 := S) (by simp [ev]) (tupled_tab S (by omega) m t.ml t.rl h1 h2 h3))) ?_
  refine x_seq (x_iteF (S1 := S) (e_nt (b := true) (e_call (xs := [tabD m]) (S1 := S) (by simp [ev]) (is_told_tab S hj t))) (by rw [exec])) (x_seqR (x_ret (by simp [ev])))
theorem sure_tables_tab (hk : 8 ≤ k) {n : Nat} {m m' : List (List Rat)} (t : Tab n m) (t' : Tab n m') {w1 w2 w3 v1 v2 v3 : List D → D} (h1 : Rw w1) (h2 : Rw w2) (h3 : Rw w3) (g1 : Rw v1) (g2 : Rw v2) (g3 : Rw v3) :
    callF defs cs97 k i_sure_tables [formD w1 w2 w3 m, formD v1 v2 v3 m'] S = some (.tup [tabD m, tabD m'], S) := by
  obtain ⟨k, rfl, hj⟩ := lev hk
  refine call_ret t_sure_tables rfl rfl (S' := S) ?_ (by simp [pureD, pureDs]) (take_self S)
  show exec (G k) b_sure_tables [some (formD w1 w2 w3 m), some (formD v1 v2 v3 m'), none, none] S = _
  refine x_seq (x_par2 (e_args2 (e_call (xs := [formD w1 w2 w3 m]) (S1 := S) (by simp [ev]) (sure_table_tab S hj t h1 h2 h3)) (e_call (xs := [formD v1 v2 v3 m']) (S1 := S) (by simp [ev]) (sure_table_tab S hj t' g1 g2 g3)))) ?_
  refine x_seq (x_iteF (S1 := S) ?_ (by rw [exec])) (x_seqR (x_ret (by simp [ev, most])))
  simp [ev, sg, tabD, seqOf, cmpD, eqD_int, t.len, t'.len]
end
end Ev

set_option Elab.async false
set_option linter.all false
set_option maxRecDepth 100000
set_option maxHeartbeats 4000000
set_option autoImplicit false
/-! tables mixed -/
namespace Ev
open PySem
def mixRow (u v : List Rat) (c : Rat) : List Rat := (u.zip v).map fun q => q.1 + c * q.2
def mixR (m m' : List (List Rat)) (c : Rat) : List (List Rat) := (m.zip m').map fun p => mixRow p.1 p.2 c
/-- all that mixing meets is small -/
def okMix (m m' : List (List Rat)) (c : Rat) : Prop := ok c ∧ (∀ r ∈ m, ∀ x ∈ r, ok x) ∧ (∀ r ∈ m', ∀ x ∈ r, ok x ∧ ok (c * x))
section
variable {k : Nat} (S : Store)
theorem spec_mixed (hk : 4 ≤ k) (m m' : List (List Rat)) (c : Rat) (h : okMix m m' c) (hm : m.length ≤ most) (hr : ∀ r ∈ m, r.length ≤ most) : callF defs cs97 k i_mixed [tabD m, tabD m', fr c] S = some (tabD (mixR m m' c), S) := by
  obtain ⟨k, rfl, hj⟩ := lev hk
  obtain ⟨hc, h1, h2⟩ := h
  refine call_ret t_mixed rfl rfl (S' := S) ?_ (by simp) (take_self S)
  let ρ0 : Env := [some (tabD m), some (tabD m'), some (fr c), none, none, none, none, none]
  show exec (G k) b_mixed ρ0 S = _
  have hit : ev (G k) (.zip (.var 0) (.var 1)) ρ0 S = some (packG [] ((m.zip m').map fun p => D.tup [rowD p.1, rowD p.2]), S) := by
    simp [ev, sg, tabD, seqOf, guardOf, zip_map, ρ0]
  have outer := e_lc (g := G k) (ρ := ρ0) (S := S) (S1 := S) (elt := .tuple (.lc (.call i_add (.cons (.var 6) (.cons (.call i_multiply (.cons (.var 2) (.cons (.var 7) .nil))) .nil))) (.tup (.tcons (.nm 6) (.tcons (.nm 7) .tnil))) (.zip (.var 4) (.var 5)) (.bl true) [6, 7])) (tg := .tup (.tcons (.nm 4) (.tcons (.nm 5) .tnil))) (own := [4, 5, 3]) (gd := [])
    (fun p : List Rat × List Rat => D.tup [rowD p.1, rowD p.2]) (fun p => rowD (mixRow p.1 p.2 c)) (m.zip m') hit (by rw [List.length_zip]; omega) fun p hp => by
    obtain ⟨q1, q2⟩ := List.of_mem_zip hp
    let ρ1 : Env := [some (tabD m), some (tabD m'), some (fr c), none, some (rowD p.1), some (rowD p.2), none, none]
    refine ⟨ρ1, by simp [setT, wipeE, ρ0, ρ1], ?_⟩
    have hit2 : ev (G k) (.zip (.var 4) (.var 5)) ρ1 S = some (packG [] ((p.1.zip p.2).map fun q => D.tup [fr q.1, fr q.2]), S) := by
      simp [ev, sg, rowD, seqOf, guardOf, zip_map, ρ1]
    have inner := e_lc (g := G k) (ρ := ρ1) (S := S) (S1 := S) (elt := .call i_add (.cons (.var 6) (.cons (.call i_multiply (.cons (.var 2) (.cons (.var 7) .nil))) .nil))) (tg := .tup (.tcons (.nm 6) (.tcons (.nm 7) .tnil))) (own := [6, 7]) (gd := [])
      (fun q : Rat × Rat => D.tup [fr q.1, fr q.2]) (fun q => fr (q.1 + c * q.2)) (p.1.zip p.2) hit2 (by rw [List.length_zip]; have := hr _ q1; omega) fun q hq => by
      obtain ⟨a1, a2⟩ := List.of_mem_zip hq
      let ρ2 : Env := [some (tabD m), some (tabD m'), some (fr c), none, some (rowD p.1), some (rowD p.2), some (fr q.1), some (fr q.2)]
      refine ⟨ρ2, by simp [setT, wipeE, ρ1, ρ2], ?_⟩
      obtain ⟨b1, b2⟩ := h2 _ q2 _ a2
      refine e_call (xs := [fr q.1, fr (c * q.2)]) (S1 := S) (e_args2 (S1 := S) (by simp [ev, ρ2]) (e_call (xs := [fr c, fr q.2]) (S1 := S) (by simp [ev, ρ2]) (spec_multiply S hj hc b1))) (spec_add S hj (h1 _ q1 _ a1) b2)
    have em : (p.1.zip p.2).map (fun q => fr (q.1 + c * q.2)) = (mixRow p.1 p.2 c).map fr := by simp [mixRow]
    rw [em] at inner
    rw [ev, inner]
    simp [sg, seqOf, rowD]
  refine x_seqR (x_ret ?_)
  have em : (m.zip m').map (fun p => rowD (mixRow p.1 p.2 c)) = (mixR m m' c).map rowD := by simp [mixR]
  rw [em] at outer
  rw [ev, outer]
  simp [sg, seqOf, tabD]
end
end Ev

set_option Elab.async false
set_option linter.all false
set_option maxRecDepth 100000
set_option maxHeartbeats 4000000
set_option autoImplicit false
/-! tables added, taken, times a number; parts; rows led -/
namespace Ev
open PySem
theorem e_args3 {g : GC} {ρ : Env} {S S1 S2 S3 : Store} {a b c : Ex} {x y z : D} (h : ev g a ρ S = some ([x], S1)) (h2 : ev g b ρ S1 = some ([y], S2)) (h3 : ev g c ρ S2 = some ([z], S3)) : ev g (.cons a (.cons b (.cons c .nil))) ρ S = some ([x, y, z], S3) := by
  rw [ev, h, Option.bind_some, e_args2 h2 h3]; simp
section
variable {k : Nat} (S : Store)
theorem spec_plus (hk : 9 ≤ k) {n : Nat} {m m' : List (List Rat)} (t : Tab n m) (t' : Tab n m') (h : okMix m m' 1) {w1 w2 w3 v1 v2 v3 : List D → D} (h1 : Rw w1) (h2 : Rw w2) (h3 : Rw w3) (g1 : Rw v1) (g2 : Rw v2) (g3 : Rw v3) :
    callF defs cs97 k i_plus_tables [formD w1 w2 w3 m, formD v1 v2 v3 m'] S = some (tabD (mixR m m' 1), S) := by
  obtain ⟨k, rfl, hj⟩ := lev hk
  refine call_ret t_plus_tables rfl rfl (S' := S) ?_ (by simp) (take_self S)
  show exec (G k) b_plus_tables [some (formD w1 w2 w3 m), some (formD v1 v2 v3 m'), none, none] S = _
  refine x_seq (x_tup2 (e_call (xs := [formD w1 w2 w3 m, formD v1 v2 v3 m']) (S1 := S) (by simp [ev]) (sure_tables_tab S hj t t' h1 h2 h3 g1 g2 g3))) ?_
  exact x_seqR (x_ret (e_call (xs := [tabD m, tabD m', fr 1]) (S1 := S) (by simp [ev, cs97, cns, fr_one]) (spec_mixed S (by omega) m m' 1 h t.ml t.rl)))
theorem spec_less (hk : 9 ≤ k) {n : Nat} {m m' : List (List Rat)} (t : Tab n m) (t' : Tab n m') (h : okMix m m' (-1)) {w1 w2 w3 v1 v2 v3 : List D → D} (h1 : Rw w1) (h2 : Rw w2) (h3 : Rw w3) (g1 : Rw v1) (g2 : Rw v2) (g3 : Rw v3) :
    callF defs cs97 k i_less_tables [formD w1 w2 w3 m, formD v1 v2 v3 m'] S = some (tabD (mixR m m' (-1)), S) := by
  obtain ⟨k, rfl, hj⟩ := lev hk
  refine call_ret t_less_tables rfl rfl (S' := S) ?_ (by simp) (take_self S)
  show exec (G k) b_less_tables [some (formD w1 w2 w3 m), some (formD v1 v2 v3 m'), none, none] S = _
  refine x_seq (x_tup2 (e_call (xs := [formD w1 w2 w3 m, formD v1 v2 v3 m']) (S1 := S) (by simp [ev]) (sure_tables_tab S hj t t' h1 h2 h3 g1 g2 g3))) ?_
  have ho : ev (G k) (.call i_opposite (.cons (.glob 1) .nil)) [some (formD w1 w2 w3 m), some (formD v1 v2 v3 m'), some (tabD m), some (tabD m')] S = some ([fr (-1)], S) :=
    e_call (xs := [fr 1]) (S1 := S) (by simp [ev, cs97, cns, fr_one]) (spec_opposite S (by omega))
  exact x_seqR (x_ret (e_call (xs := [tabD m, tabD m', fr (-1)]) (S1 := S) (e_args3 (S1 := S) (S2 := S) (by simp [ev]) (by simp [ev]) ho) (spec_mixed S (by omega) m m' (-1) h t.ml t.rl)))
def timesR (m : List (List Rat)) (c : Rat) : List (List Rat) := m.map fun r => r.map fun x => c * x
theorem spec_times (hk : 8 ≤ k) {n : Nat} {m : List (List Rat)} (t : Tab n m) (c : Rat) (hc : ok c) (ho : ∀ r ∈ m, ∀ x ∈ r, ok x) {w1 w2 w3 : List D → D} (h1 : Rw w1) (h2 : Rw w2) (h3 : Rw w3) :
    callF defs cs97 k i_times_table [formD w1 w2 w3 m, fr c] S = some (tabD (timesR m c), S) := by
  obtain ⟨k, rfl, hj⟩ := lev hk
  refine call_ret t_times_table rfl rfl (S' := S) ?_ (by simp) (take_self S)
  show exec (G k) b_times_table [some (formD w1 w2 w3 m), some (fr c), none, none, none, none] S = _
  have ht : ev (G k) (.tupE (.cons (.call i_sure_table (.cons (.var 0) .nil)) (.cons (.call i_sure_fraction (.cons (.var 1) .nil)) .nil))) [some (formD w1 w2 w3 m), some (fr c), none, none, none, none] S = some ([.tup [tabD m, fr c]], S) := by
    rw [ev, e_args2 (e_call (xs := [formD w1 w2 w3 m]) (S1 := S) (by simp [ev]) (sure_table_tab S hj t h1 h2 h3)) (e_call (xs := [fr c]) (S1 := S) (by simp [ev]) (sure_fraction_fr S (by omega) c rw_tup))]
    simp [most]
  refine x_seq (x_tup2 ht) ?_
  have outer := e_lc (g := G k) (ρ := [some (formD w1 w2 w3 m), some (fr c), some (tabD m), some (fr c), none, none]) (S := S) (S1 := S) (elt := .tuple (.lc (.call i_multiply (.cons (.var 3) (.cons (.var 5) .nil))) (.nm 5) (.it (.var 4)) (.bl true) [5])) (it := .it (.var 2)) (tg := .nm 4) (own := [4]) (gd := []) rowD (fun r => rowD (r.map fun x => c * x)) m
    (by simp [ev, sg, tabD, seqOf, packG, guardOf]) t.ml fun r hr => by
    refine ⟨[some (formD w1 w2 w3 m), some (fr c), some (tabD m), some (fr c), some (rowD r), none], by simp [setT, wipeE], ?_⟩
    have inner := e_lc (g := G k) (ρ := [some (formD w1 w2 w3 m), some (fr c), some (tabD m), some (fr c), some (rowD r), none]) (S := S) (S1 := S) (elt := .call i_multiply (.cons (.var 3) (.cons (.var 5) .nil))) (it := .it (.var 4)) (tg := .nm 5) (own := [5]) (gd := []) fr (fun x => fr (c * x)) r
      (by simp [ev, sg, rowD, seqOf, packG, guardOf]) (t.rl r hr) fun x hx =>
      ⟨[some (formD w1 w2 w3 m), some (fr c), some (tabD m), some (fr c), some (rowD r), some (fr x)], by simp [setT, wipeE], e_call (xs := [fr c, fr x]) (S1 := S) (by simp [ev]) (spec_multiply S (by omega) hc (ho r hr x hx))⟩
    have em : r.map (fun x => fr (c * x)) = (r.map fun x => c * x).map fr := by simp
    rw [em] at inner
    rw [ev, inner]
    simp [sg, seqOf, rowD]
  have em : m.map (fun r => rowD (r.map fun x => c * x)) = (timesR m c).map rowD := by simp [timesR]
  rw [em] at outer
  refine x_seqR (x_ret ?_)
  rw [ev]
  refine Eq.trans (congrArg (fun z => Option.bind z _) outer) ?_
  simp [sg, seqOf, tabD]
end
end Ev

set_option Elab.async false
set_option linter.all false
set_option maxRecDepth 100000
set_option maxHeartbeats 4000000
set_option autoImplicit false
/-! parts, rows led, the plain table -/
namespace Ev
open PySem
section
variable {k : Nat} (S : Store)
def natD (i : Nat) : D := .int (i : Nat)
def partR (m : List (List Rat)) (l : List Nat) : List (List Rat) := l.map fun i => l.map fun j => at_ m i j
theorem spec_part_at (hk : 1 ≤ k) {n : Nat} {m : List (List Rat)} (t : Tab n m) (l : List Nat) (hl : ∀ i ∈ l, i < n) (hlen : l.length ≤ most) {w : List D → D} (hw : Rw w) :
    callF defs cs97 k i_part_at [tabD m, w (l.map natD)] S = some (tabD (partR m l), S) := by
  obtain ⟨k, rfl, hj⟩ := lev hk
  refine call_ret t_part_at rfl rfl (S' := S) ?_ (by simp) (take_self S)
  show exec (G k) b_part_at [some (tabD m), some (w (l.map natD)), none, none] S = _
  have outer := e_lc (g := G k) (ρ := [some (tabD m), some (w (l.map natD)), none, none]) (S := S) (S1 := S) (elt := .tuple (.lc (.idx (.idx (.var 0) (.var 2)) (.var 3)) (.nm 3) (.it (.var 1)) (.bl true) [3])) (it := .it (.var 1)) (tg := .nm 2) (own := [2]) (gd := []) natD (fun i => rowD (l.map fun j => at_ m i j)) l
    (by simp [ev, sg, seq_rw S hw, grd_rw hw]) hlen fun i hi => by
    refine ⟨[some (tabD m), some (w (l.map natD)), some (natD i), none], by simp [setT, wipeE], ?_⟩
    have inner := e_lc (g := G k) (ρ := [some (tabD m), some (w (l.map natD)), some (natD i), none]) (S := S) (S1 := S) (elt := .idx (.idx (.var 0) (.var 2)) (.var 3)) (it := .it (.var 1)) (tg := .nm 3) (own := [3]) (gd := []) natD (fun j => fr (at_ m i j)) l
      (by simp [ev, sg, seq_rw S hw, grd_rw hw]) hlen fun j hj2 =>
      ⟨[some (tabD m), some (w (l.map natD)), some (natD i), some (natD j)], by simp [setT, wipeE], e_at t (hl i hi) (hl j hj2) (by simp [ev]) (by simp [ev, natD]) (by simp [ev, natD])⟩
    have em : l.map (fun j => fr (at_ m i j)) = (l.map fun j => at_ m i j).map fr := by simp
    rw [em] at inner
    rw [ev, inner]
    simp [sg, seqOf, rowD]
  have em : l.map (fun i => rowD (l.map fun j => at_ m i j)) = (partR m l).map rowD := by simp [partR]
  rw [em] at outer
  refine x_seqR (x_ret ?_)
  rw [ev]
  refine Eq.trans (congrArg (fun z => Option.bind z _) outer) ?_
  simp [sg, seqOf, tabD]
def ledR (m : List (List Rat)) (v : List Rat) : List Rat := m.map fun r => dot r v
/-- all that leading a row meets is small -/
def okLed (m : List (List Rat)) (v : List Rat) : Prop := (∀ x ∈ v, ok x) ∧ ∀ r ∈ m, (∀ x ∈ r, ok x) ∧ okSum (mulR r v)
theorem spec_times_numbers (hk : 6 ≤ k) (m : List (List Rat)) (v : List Rat) (h : okLed m v) (hm : m.length ≤ most) (hr : ∀ r ∈ m, r.length ≤ most) {w : List D → D} (hw : Rw w) :
    callF defs cs97 k i_times_numbers [tabD m, w (v.map fr)] S = some (rowD (ledR m v), S) := by
  obtain ⟨k, rfl, hj⟩ := lev hk
  refine call_ret t_times_numbers rfl rfl (S' := S) ?_ (by simp) (take_self S)
  show exec (G k) b_times_numbers [some (tabD m), some (w (v.map fr)), none] S = _
  have outer := e_lc (g := G k) (ρ := [some (tabD m), some (w (v.map fr)), none]) (S := S) (S1 := S) (elt := .call i_both (.cons (.var 2) (.cons (.var 1) .nil))) (it := .it (.var 0)) (tg := .nm 2) (own := [2]) (gd := []) rowD (fun r => fr (dot r v)) m
    (by simp [ev, sg, tabD, seqOf, packG, guardOf]) hm fun r hr' => by
    refine ⟨[some (tabD m), some (w (v.map fr)), some (rowD r)], by simp [setT, wipeE], ?_⟩
    exact e_call (xs := [rowD r, w (v.map fr)]) (S1 := S) (by simp [ev]) (spec_both S (by omega) r v (h.2 r hr').1 h.1 (h.2 r hr').2 (hr r hr') rw_tup hw)
  have em : m.map (fun r => fr (dot r v)) = (ledR m v).map fr := by simp [ledR]
  rw [em] at outer
  refine x_seqR (x_ret ?_)
  rw [ev]
  refine Eq.trans (congrArg (fun z => Option.bind z _) outer) ?_
  simp [sg, seqOf, rowD]
def unitR (n i : Nat) : List Rat := (List.range n).map fun j => if i = j then 1 else 0
def plainR (n : Nat) : List (List Rat) := (List.range n).map (unitR n)
theorem spec_plain_of (hk : 1 ≤ k) (n : Nat) (hn : n ≤ 20) : callF defs cs97 k i_plain_of [.int n] S = some (tabD (plainR n), S) := by
  obtain ⟨k, rfl, hj⟩ := lev hk
  refine call_ret t_plain_of rfl rfl (S' := S) ?_ (by simp) (take_self S)
  show exec (G k) b_plain_of [some (.int n), none, none] S = _
  have rng : ∀ ρ : Env, ρ[0]? = some (some (.int n)) → ev (G k) (.rng1 (.var 0)) ρ S = some (packG [] ((List.range n).map natD), S) := fun ρ h => by
    rw [ev, ev, h]
    simp only [Option.bind_some]
    rw [if_pos (by omega)]
    simp [rngD, natD]
    rfl
  have outer := e_lc (g := G k) (ρ := [some (.int n), none, none]) (S := S) (S1 := S) (elt := .tuple (.lc (.ite (.cmp .eq (.var 1) (.var 2)) (.glob 1) (.glob 0)) (.nm 2) (.rng1 (.var 0)) (.bl true) [2])) (it := .rng1 (.var 0)) (tg := .nm 1) (own := [1]) (gd := []) natD (fun i => rowD (unitR n i)) (List.range n)
    (rng _ rfl) (by simp [most]; omega) fun i hi => by
    refine ⟨[some (.int n), some (natD i), none], by simp [setT, wipeE], ?_⟩
    have inner := e_lc (g := G k) (ρ := [some (.int n), some (natD i), none]) (S := S) (S1 := S) (elt := .ite (.cmp .eq (.var 1) (.var 2)) (.glob 1) (.glob 0)) (it := .rng1 (.var 0)) (tg := .nm 2) (own := [2]) (gd := []) natD (fun j => fr (if i = j then 1 else 0)) (List.range n)
      (rng _ rfl) (by simp [most]; omega) fun j hj2 => by
      refine ⟨[some (.int n), some (natD i), some (natD j)], by simp [setT, wipeE], ?_⟩
      by_cases c : i = j
      · have c' : ((i : Int) = (j : Int)) := by omega
        exact e_iteT (S1 := S) (by simp [ev, sg, cmpD, natD, eqD_int, c']) (by simp [ev, cs97, cns, c, fr_one])
      · have c' : ¬ ((i : Int) = (j : Int)) := by omega
        exact e_iteF (S1 := S) (by simp [ev, sg, cmpD, natD, eqD_int, c']) (by simp [ev, cs97, cns, c, fr_nil])
    have em : (List.range n).map (fun j => fr (if i = j then 1 else 0)) = (unitR n i).map fr := by simp [unitR]
    rw [em] at inner
    rw [ev, inner]
    simp [sg, seqOf, rowD]
  have em : (List.range n).map (fun i => rowD (unitR n i)) = (plainR n).map rowD := by simp [plainR]
  rw [em] at outer
  refine x_seqR (x_ret ?_)
  rw [ev]
  refine Eq.trans (congrArg (fun z => Option.bind z _) outer) ?_
  simp [sg, seqOf, tabD]
end
end Ev

set_option Elab.async false
set_option linter.all false
set_option maxRecDepth 100000
set_option maxHeartbeats 4000000
set_option autoImplicit false
/-! lots -/
namespace Ev
open PySem
theorem cut_from {α : Type} (xs : List α) (i : Nat) : cutL xs (some (i : Int)) none = xs.drop i := by
  unfold cutL
  rw [HT.sIx_nat, HT.sIx_none]
  by_cases h : i ≤ xs.length
  · rw [Nat.min_eq_left h]
    exact List.take_of_length_le (by rw [List.length_drop]; omega)
  · rw [Nat.min_eq_right (by omega), List.drop_eq_nil_of_le (by omega : xs.length ≤ i)]
    simp
/-- a lot: below n, rising -/
structure Lot (n : Nat) (l : List Nat) : Prop where
  lt : ∀ i ∈ l, i < n
  up : l.Pairwise (· < ·)
theorem Lot.len {n : Nat} {l : List Nat} (h : Lot n l) : l.length ≤ n := by
  have h1 : l.Nodup := h.up.imp (fun h => Nat.ne_of_lt h)
  have h2 : l.length ≤ (List.range n).length := h1.length_le_of_subset fun i hi => List.mem_range.mpr (h.lt i hi)
  simpa using h2
theorem up_zip : ∀ {l : List Nat}, l.Pairwise (· < ·) → ∀ p ∈ l.zip (l.drop 1), p.1 < p.2
  | [], _, p, hp => by simp at hp
  | [x], _, p, hp => by simp at hp
  | x :: y :: l, h, p, hp => by
    rw [List.pairwise_cons] at h
    simp only [List.drop_succ_cons, List.drop_zero, List.zip_cons_cons, List.mem_cons] at hp
    rcases hp with rfl | hp
    · exact h.1 y (List.mem_cons_self ..)
    · exact up_zip h.2 p (by simpa using hp)
section
variable {k : Nat} (S : Store)
theorem rises_lot (hk : 1 ≤ k) (l : List Nat) (hu : l.Pairwise (· < ·)) (hl : l.length ≤ most) : callF defs cs97 k i_rises [.tup (l.map natD)] S = some (.bl true, S) := by
  obtain ⟨k, rfl, hj⟩ := lev hk
  refine call_ret t_rises rfl rfl (S' := S) ?_ (by simp [pureD]) (take_self S)
  show exec (G k) b_rises [some (.tup (l.map natD)), none, none] S = _
  have hsl : ev (G k) (.sl (.var 0) (.int 1) .nil) [some (.tup (l.map natD)), none, none] S = some ([.tup ((l.drop 1).map natD)], S) := by
    have := cut_from (l.map natD) 1
    simp only [ev, sg, oInt, flat, List.getElem?_cons_zero, Option.bind_some]
    rw [show ((1 : Nat) : Int) = 1 from rfl] at this
    rw [this, List.map_drop]
  have hit : ev (G k) (.zip (.var 0) (.sl (.var 0) (.int 1) .nil)) [some (.tup (l.map natD)), none, none] S = some (packG [] ((l.zip (l.drop 1)).map fun p => D.tup [natD p.1, natD p.2]), S) := by
    rw [ev, ev]
    simp only [List.getElem?_cons_zero, Option.bind_some, sg, hsl, seqOf, guardOf, List.append_nil, zip_map]
  have c := e_all (g := G k) (ρ := [some (.tup (l.map natD)), none, none]) (S := S) (S1 := S) (elt := .cmp .lt (.var 1) (.var 2)) (tg := .tup (.tcons (.nm 1) (.tcons (.nm 2) .tnil))) (own := [1, 2]) (gd := []) (fun p : Nat × Nat => D.tup [natD p.1, natD p.2]) (fun _ => true) (l.zip (l.drop 1)) hit (by rw [List.length_zip]; omega) fun p hp => by
    refine ⟨[some (.tup (l.map natD)), some (natD p.1), some (natD p.2)], by simp [setT, wipeE], ?_⟩
    have := up_zip hu p hp
    simp [ev, sg, cmpD, natD]
    exact this
  exact x_seqR (x_ret (c.trans (by simp)))
theorem is_lot_lot (hk : 4 ≤ k) {n : Nat} {l : List Nat} (h : Lot n l) (hl : l.length ≤ most) : callF defs cs97 k i_is_lot [.tup (l.map natD), .int n] S = some (.bl true, S) := by
  obtain ⟨k, rfl, hj⟩ := lev hk
  refine call_ret t_is_lot rfl rfl (S' := S) ?_ (by simp [pureD]) (take_self S)
  show exec (G k) b_is_lot [some (.tup (l.map natD)), some (.int n), none] S = _
  have c := e_all (g := G k) (ρ := [some (.tup (l.map natD)), some (.int n), none]) (S := S) (S1 := S) (elt := .call i_is_below (.cons (.var 2) (.cons (.var 1) .nil))) (it := .it (.var 0)) (tg := .nm 2) (own := [2]) (gd := []) natD (fun _ => true) l (by simp [ev, sg, seqOf, packG, guardOf]) hl fun i hi => by
    refine ⟨[some (.tup (l.map natD)), some (.int n), some (natD i)], by simp [setT, wipeE], ?_⟩
    have := is_below_int S hj (i : Int) (n : Int)
    have hi' := h.lt i hi
    rw [decide_eq_true (by omega : (0 : Int) ≤ i), decide_eq_true (by omega : (i : Int) < n)] at this
    exact e_call (xs := [natD i, .int n]) (S1 := S) (by simp [ev]) this
  exact x_seqR (x_ret (e_andT (S1 := S) (by simp [ev, sg, tyD, isTy]) (e_andT (S1 := S) (c.trans (by simp)) (e_call (xs := [.tup (l.map natD)]) (S1 := S) (by simp [ev]) (rises_lot S (by omega) l h.up hl)))))
theorem tupled_lot (hk : 2 ≤ k) (l : List Nat) (hl : l.length ≤ most) {w : List D → D} (hw : Rw w) : callF defs cs97 k i_tupled [w (l.map natD)] S = some (.tup (l.map natD), S) :=
  tupled_seq S (by omega) l natD natD (fun a _ => tupled_int S (by omega) a) (fun _ _ => rfl) hl hw
theorem sure_lot_lot (hk : 5 ≤ k) {n : Nat} {l : List Nat} (h : Lot n l) (hl : l.length ≤ most) {w : List D → D} (hw : Rw w) : callF defs cs97 k i_sure_lot [w (l.map natD), .int n] S = some (.tup (l.map natD), S) := by
  obtain ⟨k, rfl, hj⟩ := lev hk
  refine call_ret t_sure_lot rfl rfl (S' := S) ?_ (by simp only [pureD]; exact pures_map fun _ _ => rfl) (take_self S)
  show exec (G k) b_sure_lot [some (w (l.map natD)), some (.int n), none] S = _
  refine x_seq (x_asg (e_call (xs := [w (l.map natD)]) (S1 := S) (by simp [ev]) (tupled_lot S (by omega) l hl hw))) ?_
  exact x_seq (x_iteF (S1 := S) (e_nt (b := true) (e_call (xs := [.tup (l.map natD), .int n]) (S1 := S) (by simp [ev]) (is_lot_lot S hj h hl))) (by rw [exec])) (x_seqR (x_ret (by simp [ev])))
end
end Ev

set_option Elab.async false
set_option linter.all false
set_option maxRecDepth 100000
set_option maxHeartbeats 4000000
set_option autoImplicit false
/-! a step of the reduction -/
namespace Ev
open PySem
def lessR (u v : List Rat) (c : Rat) : List Rat := (u.zip v).map fun p => p.1 - c * p.2
theorem lessR_zero : ∀ (u v : List Rat), u.length = v.length → lessR u v 0 = u
  | [], [], _ => rfl
  | [], _ :: _, h => by simp at h
  | _ :: _, [], h => by simp at h
  | x :: u, y :: v, h => by
    have ih := lessR_zero u v (by simpa using h)
    unfold lessR at ih ⊢
    rw [List.zip_cons_cons, List.map_cons, ih]
    congr 1
    show x - 0 * y = x
    rw [Rat.zero_mul, Rat.sub_eq_add_neg, Rat.neg_zero, Rat.add_zero]
section
variable {k : Nat} (S : Store)
theorem idx_fr (r : List Rat) (i : Nat) (h : i < r.length) : idxL (r.map fr) (i : Int) = some (fr (r.getD i 0)) := by
  rw [idx_nat _ _ (by simpa using h), List.getElem_map, List.getD_eq_getElem?_getD, List.getElem?_eq_getElem h]
  rfl
theorem spec_less_head (hk : 4 ≤ k) (u v : List Rat) (t : Nat) (ht : t < u.length) (hl : u.length = v.length) (hm : u.length ≤ most) (hu : ∀ x ∈ u, ok x) (hv : ∀ y ∈ v, ok y ∧ ok (u.getD t 0 * y)) :
    callF defs cs97 k i_less_head [.lst (u.map fr), .lst (v.map fr), .int t] S = some (.lst ((lessR u v (u.getD t 0)).map fr), S) := by
  obtain ⟨k, rfl, hj⟩ := lev hk
  refine call_ret t_less_head rfl rfl (S' := S) ?_ (by simp only [pureD]; exact pures_map fun _ _ => rfl) (take_self S)
  show exec (G k) b_less_head [some (.lst (u.map fr)), some (.lst (v.map fr)), some (.int t), none, none, none] S = _
  have hc : ok (u.getD t 0) := by
    rw [List.getD_eq_getElem?_getD, List.getElem?_eq_getElem ht]
    exact hu _ (List.getElem_mem ht)
  generalize hcc : u.getD t 0 = c at *
  have hi := idx_fr u t ht
  rw [hcc] at hi
  refine x_seq (x_asg (d := fr c) (S1 := S) (by simp [ev, sg, seqOf, hi])) ?_
  refine x_seqR (x_ret ?_)
  by_cases c0 : c = 0
  · have e0 : lessR u v c = u := by rw [c0]; exact lessR_zero u v hl
    rw [e0]
    refine e_iteF (S1 := S) ?_ (by simp [ev])
    have := eqD_fr S c 0
    rw [fr_nil] at this
    have hb : decide (c = 0) = true := by simp [c0]
    rw [hb] at this
    simp [ev, sg, cs97, cns, cmpD, this]
  · refine e_iteT (S1 := S) ?_ ?_
    · have := eqD_fr S c 0
      rw [fr_nil] at this
      simp [ev, sg, cs97, cns, cmpD, this, c0]
    · have hit : ev (G k) (.zip (.var 0) (.var 1)) [some (.lst (u.map fr)), some (.lst (v.map fr)), some (.int t), some (fr c), none, none] S = some (packG [] ((u.zip v).map fun p => D.tup [fr p.1, fr p.2]), S) := by
        simp [ev, sg, seqOf, guardOf, zip_map]
      have h := e_lc (g := G k) (ρ := [some (.lst (u.map fr)), some (.lst (v.map fr)), some (.int t), some (fr c), none, none]) (S := S) (S1 := S) (elt := .call i_take (.cons (.var 4) (.cons (.call i_multiply (.cons (.var 3) (.cons (.var 5) .nil))) .nil))) (tg := .tup (.tcons (.nm 4) (.tcons (.nm 5) .tnil))) (own := [4, 5]) (gd := [])
        (fun p : Rat × Rat => D.tup [fr p.1, fr p.2]) (fun p => fr (p.1 - c * p.2)) (u.zip v) hit (by rw [List.length_zip]; omega) fun p hp => by
        obtain ⟨a1, a2⟩ := List.of_mem_zip hp
        refine ⟨[some (.lst (u.map fr)), some (.lst (v.map fr)), some (.int t), some (fr c), some (fr p.1), some (fr p.2)], by simp [setT, wipeE], ?_⟩
        exact e_call (xs := [fr p.1, fr (c * p.2)]) (S1 := S) (e_args2 (S1 := S) (by simp [ev]) (e_call (xs := [fr c, fr p.2]) (S1 := S) (by simp [ev]) (spec_multiply S hj hc (hv _ a2).1))) (spec_take S hj (hu _ a1) (hv _ a2).2)
      have em : (u.zip v).map (fun p => fr (p.1 - c * p.2)) = (lessR u v c).map fr := by simp [lessR]
      rw [em] at h
      exact h
end
end Ev

set_option Elab.async false
set_option linter.all false
set_option maxRecDepth 100000
set_option maxHeartbeats 4000000
set_option autoImplicit false
/-! a kit: rules of evaluation one by one, loops by an invariant, rows and tables by functions -/
namespace Ev
open PySem
section
variable {g : GC} {ρ ρ1 : Env} {S S1 S2 S3 : Store} {a b c e : Ex} {x y z d : D} {xs ys ds : List D} {i j : Int}
theorem e_var {n : Nat} (h : ρ[n]? = some (some d)) : ev g (.var n) ρ S = some ([d], S) := by rw [ev, h]
theorem e_int : ev g (.int i) ρ S = some ([.int i], S) := by rw [ev]
theorem e_bl {v : Bool} : ev g (.bl v) ρ S = some ([.bl v], S) := by rw [ev]
theorem e_non : ev g .non ρ S = some ([.non], S) := by rw [ev]
theorem e_nil : ev g .nil ρ S = some ([], S) := by rw [ev]
theorem e_glob {n : Nat} (h : g.cs[n]? = some d) : ev g (.glob n) ρ S = some ([d], S) := by rw [ev, h]; rfl
theorem e_cons (h : ev g a ρ S = some ([x], S1)) (h2 : ev g b ρ S1 = some (ys, S2)) : ev g (.cons a b) ρ S = some (x :: ys, S2) := by rw [ev, h]; simp [h2]
theorem e_idx (h1 : ev g a ρ S = some ([x], S1)) (h2 : ev g b ρ S1 = some ([.int i], S2)) (h3 : seqOf S2 x = some xs) (h4 : idxL xs i = some z) : ev g (.idx a b) ρ S = some ([z], S2) := by
  rw [ev, h1]; simp [sg, h2, h3, h4]
theorem e_bin {o : Op} (h1 : ev g a ρ S = some ([x], S1)) (h2 : ev g b ρ S1 = some ([y], S2)) (h3 : binD S2 o x y = some z) : ev g (.bin o a b) ρ S = some ([z], S2) := by
  rw [ev, h1]; simp [sg, h2, h3]
theorem e_cmp {o : Cm} {v : Bool} (h1 : ev g a ρ S = some ([x], S1)) (h2 : ev g b ρ S1 = some ([y], S2)) (h3 : cmpD S2 o x y = some v) : ev g (.cmp o a b) ρ S = some ([.bl v], S2) := by
  rw [ev, h1]; simp [sg, h2, h3]
theorem e_len (h1 : ev g a ρ S = some ([x], S1)) (h3 : seqOf S1 x = some xs) : ev g (.len a) ρ S = some ([.int (xs.length : Nat)], S1) := by
  rw [ev, h1]; simp [sg, h3]
theorem e_lenN {n : Nat} (h1 : ev g a ρ S = some ([x], S1)) (h3 : seqOf S1 x = some xs) (hn : xs.length = n := by simp) : ev g (.len a) ρ S = some ([natD n], S1) := by
  subst hn; exact e_len h1 h3
theorem e_tupE (h1 : ev g a ρ S = some (xs, S1)) (h3 : xs.length ≤ most := by simp [most]) : ev g (.tupE a) ρ S = some ([.tup xs], S1) := by
  rw [ev, h1]; simp [h3]
theorem e_lstE (h1 : ev g a ρ S = some (xs, S1)) (h3 : xs.length ≤ most := by simp [most]) : ev g (.lstE a) ρ S = some ([.lst xs], S1) := by
  rw [ev, h1]; simp [h3]
theorem e_mk (h1 : ev g a ρ S = some ([.lst xs], S1)) : ev g (.mk a) ρ S = some ([.cell S1.length], S1 ++ [.lst xs]) := by
  rw [ev, h1]; simp
theorem e_list (h1 : ev g a ρ S = some ([x], S1)) (h3 : seqOf S1 x = some xs) : ev g (.list a) ρ S = some ([.lst xs], S1) := by
  rw [ev, h1]; simp [sg, h3]
theorem e_tuple (h1 : ev g a ρ S = some ([x], S1)) (h3 : seqOf S1 x = some xs) : ev g (.tuple a) ρ S = some ([.tup xs], S1) := by
  rw [ev, h1]; simp [sg, h3]
theorem e_it (h1 : ev g a ρ S = some ([x], S1)) (h3 : seqOf S1 x = some xs) : ev g (.it a) ρ S = some (packG (guardOf x) xs, S1) := by
  rw [ev, h1]; simp [sg, h3]
theorem e_enm (h1 : ev g a ρ S = some ([x], S1)) (h3 : seqOf S1 x = some xs) : ev g (.enm a) ρ S = some (packG (guardOf x) (enumD 0 xs), S1) := by
  rw [ev, h1]; simp [sg, h3]
theorem e_zip (h1 : ev g a ρ S = some ([x], S1)) (h2 : ev g b ρ S1 = some ([y], S2)) (h3 : seqOf S2 x = some xs) (h4 : seqOf S2 y = some ys) : ev g (.zip a b) ρ S = some (packG (guardOf x ++ guardOf y) (zipD xs ys), S2) := by
  rw [ev, h1]; simp [sg, h2, h3, h4]
theorem e_rng1 {n : Nat} (h1 : ev g a ρ S = some ([.int (n : Nat)], S1)) (h : n ≤ 1000) : ev g (.rng1 a) ρ S = some (packG [] ((List.range n).map natD), S1) := by
  rw [ev, h1]
  simp only [Option.bind_some]
  rw [if_pos (by omega)]
  simp [rngD, natD]
  rfl
theorem e_rng2 {m n : Nat} (h1 : ev g a ρ S = some ([.int (m : Nat)], S1)) (h2 : ev g b ρ S1 = some ([.int (n : Nat)], S2)) (hm : m ≤ 1000) (h : n ≤ 1000) : ev g (.rng2 a b) ρ S = some (packG [] ((List.range (n - m)).map fun t => natD (m + t)), S2) := by
  rw [ev, h1]
  simp only [Option.bind_some, h2]
  rw [if_pos (by omega)]
  have e1 : ((n : Int) - (m : Int)).toNat = n - m := by omega
  simp [rngD, natD, e1]
theorem x_asgL {l : Lv} (h : ev g e ρ S = some ([d], S1)) (h2 : setL g l [d] ρ S1 = some (ρ1, S2)) : exec g (.asg l e) ρ S = some (.nx ρ1 S2) := by
  simp [exec, h, sg, h2]
theorem l_nm {n : Nat} (h : n < ρ.length := by simp) : setL g (.nm n) [d] ρ S = some (ρ.set n (some d), S) := by
  simp [setL, h]
theorem l_sub {o i : Ex} {n : Nat} {k : Nat} (h1 : ev g o ρ S = some ([.cell n], S1)) (h2 : ev g i ρ S1 = some ([.int (k : Nat)], S2)) (h3 : S2[n]? = some (.lst xs)) (hk : k < xs.length) : setL g (.sub o i) [d] ρ S = some (ρ, S2.set n (.lst (xs.set k d))) := by
  have e : L2.ixN xs.length (k : Int) = some k := by unfold L2.ixN; rw [if_pos (by omega), if_pos (by omega)]; simp
  rw [setL, h1]
  simp only [Option.bind_some, h2, h3, e]
theorem l_tup {l : Lv} {r : Option (Env × Store)} (h : setL g l xs ρ S = r) : setL g (.tup l) [.tup xs] ρ S = r := by rw [setL]; exact h
theorem l_cons {l m : Lv} {r : Option (Env × Store)} (h : setL g l [x] ρ S = some (ρ1, S1)) (h2 : setL g m xs ρ1 S1 = r) : setL g (.tcons l m) (x :: xs) ρ S = r := by rw [setL, h]; exact h2
theorem l_nil : setL g .tnil [] ρ S = some (ρ, S) := by rw [setL]
end
/-- a loop by an invariant -/
theorem for_inv {α β : Type} {body : Env → Store → Option Fl} {t : Tg} (h : α → D) (Inv : β → Env → Store → Prop) (step : β → α → β) : ∀ (l : List α) (b : β) (ρ : Env) (S : Store), Inv b ρ S →
    (∀ l1 a l2 ρ S, l = l1 ++ a :: l2 → Inv (l1.foldl step b) ρ S → ∃ ρ1, setT t [h a] ρ = some ρ1 ∧ ∃ ρ2 S2, (body ρ1 S = some (.nx ρ2 S2) ∨ body ρ1 S = some (.ct ρ2 S2)) ∧ Inv (step (l1.foldl step b) a) ρ2 S2) →
    ∃ ρ' S', forLp body t [] (l.map h) ρ S = some (.nx ρ' S') ∧ Inv (l.foldl step b) ρ' S'
  | [], b, ρ, S, hi, _ => ⟨ρ, S, by simp [forLp], hi⟩
  | a :: l, b, ρ, S, hi, hs => by
    obtain ⟨ρ1, h1, ρ2, S2, h2, h3⟩ := hs [] a l ρ S rfl hi
    obtain ⟨ρ', S', h4, h5⟩ := for_inv (body := body) (t := t) h Inv step l (step b a) ρ2 S2 h3 fun l1 a' l2 ρ S e hi => hs (a :: l1) a' l2 ρ S (by rw [e]; rfl) hi
    refine ⟨ρ', S', ?_, h5⟩
    rcases h2 with h2 | h2
    · simp only [List.map_cons, forLp, h1, h2, Option.bind_some]
      rw [if_pos (show kept [] S S2 from fun n hn => by cases hn), h4]
    · simp only [List.map_cons, forLp, h1, h2, Option.bind_some]
      rw [if_pos (show kept [] S S2 from fun n hn => by cases hn), h4]
theorem x_for {g : GC} {α : Type} {ρ ρ' : Env} {S S1 S' : Store} {t : Tg} {it : Ex} {b : Sm} {h : α → D} {l : List α} (hit : ev g it ρ S = some (packG [] (l.map h), S1)) (hf : forLp (exec g b) t [] (l.map h) ρ S1 = some (.nx ρ' S')) : exec g (.forL t it b) ρ S = some (.nx ρ' S') := by
  have e : unG (packG [] (l.map h)) = some ([], l.map h) := by simp [packG, unG, gNat]
  rw [exec, hit, Option.bind_some, e, Option.bind_some]
  exact hf
/-- a result that leans on the call's own cells -/
theorem call_cut {k i : Nat} {ds : List D} {S S' : Store} {f : Df} {d d' : D} (hf : defs[i]? = some f) (hl : ds.length = f.ar) (hv : f.live = false) (hx : exec (G k) f.body (ds.map some ++ List.replicate (f.n - f.ar) none) S = some (.rt d S'))
    (hp : resD S' S.length d = some d') (hS : S'.take S.length = S) : callF defs cs97 (k + 1) i ds S = some (d', S) := by
  simp only [callF, hf, Option.bind_some]
  rw [if_pos hl]
  have hx : exec ⟨callF defs cs97 k, cs97, 0⟩ f.body (ds.map some ++ List.replicate (f.n - f.ar) none) S = some (.rt d S') := hx
  rw [hx]
  simp only [Option.bind_some, hv, Bool.false_eq_true, if_false]
  unfold cutS
  rw [if_pos fun n hn => .inl (by rw [← List.getElem?_take_of_lt (l := S') hn, hS]), hp, hS]
  rfl
/-! ### rows and tables by functions -/
def vec (n : Nat) (f : Nat → Rat) : List Rat := (List.range n).map f
def mat (n m : Nat) (F : Nat → Nat → Rat) : List (List Rat) := (List.range n).map fun i => vec m (F i)
def sum : Nat → (Nat → Rat) → Rat
  | 0, _ => 0
  | n + 1, f => sum n f + f n
@[simp] theorem vec_len (n : Nat) (f : Nat → Rat) : (vec n f).length = n := by simp [vec]
@[simp] theorem mat_len (n m : Nat) (F : Nat → Nat → Rat) : (mat n m F).length = n := by simp [mat]
theorem vec_succ (n : Nat) (f : Nat → Rat) : vec (n + 1) f = vec n f ++ [f n] := by simp [vec, List.range_succ]
theorem sumR_vec (n : Nat) (f : Nat → Rat) : sumR (vec n f) = sum n f := by
  induction n with
  | zero => rfl
  | succ n ih =>
    rw [vec_succ, sum, ← ih]
    simp [sumR]
theorem range_zip {α β γ : Type} (n : Nat) (f : Nat → α) (g : Nat → β) : ((List.range n).map f).zip ((List.range n).map g) = (List.range n).map fun i => (f i, g i) := by
  rw [List.zip_map']
theorem mulR_vec (n : Nat) (f g : Nat → Rat) : mulR (vec n f) (vec n g) = vec n fun i => f i * g i := by
  simp [mulR, vec, List.zip_map']
theorem dot_vec (n : Nat) (f g : Nat → Rat) : dot (vec n f) (vec n g) = sum n fun i => f i * g i := by
  rw [dot, mulR_vec, sumR_vec]
theorem mixR_mat (n m : Nat) (F G : Nat → Nat → Rat) (c : Rat) : mixR (mat n m F) (mat n m G) c = mat n m fun i j => F i j + c * G i j := by
  simp [mixR, mixRow, mat, vec, List.zip_map']
theorem timesR_mat (n m : Nat) (F : Nat → Nat → Rat) (c : Rat) : timesR (mat n m F) c = mat n m fun i j => c * F i j := by
  simp [timesR, mat, vec]
theorem lessR_vec (n : Nat) (f g : Nat → Rat) (c : Rat) : lessR (vec n f) (vec n g) c = vec n fun i => f i - c * g i := by
  simp [lessR, vec, List.zip_map']
theorem ledR_mat (n m : Nat) (F : Nat → Nat → Rat) (v : Nat → Rat) : ledR (mat n m F) (vec m v) = vec n fun i => sum m fun j => F i j * v j := by
  have : ∀ i, dot (vec m (F i)) (vec m v) = sum m fun j => F i j * v j := fun i => dot_vec ..
  simp only [ledR, mat, List.map_map]
  unfold vec at *
  simp [this]
theorem vec_congr {n : Nat} {f g : Nat → Rat} (h : ∀ i, i < n → f i = g i) : vec n f = vec n g := by
  unfold vec
  exact List.map_congr_left fun i hi => h i (List.mem_range.mp hi)
theorem mat_congr {n m : Nat} {F G : Nat → Nat → Rat} (h : ∀ i j, i < n → j < m → F i j = G i j) : mat n m F = mat n m G := by
  unfold mat
  exact List.map_congr_left fun i hi => vec_congr fun j hj => h i j (List.mem_range.mp hi) hj
theorem vec_get {n : Nat} {f : Nat → Rat} {i : Nat} (h : i < n) : (vec n f).getD i 0 = f i := by
  simp [vec, h]
theorem at_mat {n m : Nat} {F : Nat → Nat → Rat} {i j : Nat} (hi : i < n) (hj : j < m) : at_ (mat n m F) i j = F i j := by
  unfold at_
  have : (mat n m F).getD i [] = vec m (F i) := by simp [mat, hi]
  rw [this, vec_get hj]
theorem vec_inj {n : Nat} {f g : Nat → Rat} (h : vec n f = vec n g) : ∀ i, i < n → f i = g i := fun i hi => by
  rw [← vec_get (f := f) hi, h, vec_get hi]
theorem mat_inj {n m : Nat} {F G : Nat → Nat → Rat} (h : mat n m F = mat n m G) : ∀ i j, i < n → j < m → F i j = G i j := fun i j hi hj => by
  rw [← at_mat (F := F) hi hj, h, at_mat hi hj]
theorem tab_mat {n : Nat} (h0 : 0 < n) (h : n ≤ 20) (F : Nat → Nat → Rat) (hs : ∀ i j, i < n → j < n → F i j = F j i) : Tab n (mat n n F) where
  pos := h0
  le := h
  len := by simp
  rows := fun r hr => by
    obtain ⟨i, _, rfl⟩ := List.mem_map.mp hr
    simp
  sym := fun i j hi hj => by rw [at_mat hi hj, at_mat hj hi]; exact hs i j hi hj
theorem mem_mat {n m : Nat} {F : Nat → Nat → Rat} {r : List Rat} (h : r ∈ mat n m F) : ∃ i, i < n ∧ r = vec m (F i) := by
  obtain ⟨i, hi, rfl⟩ := List.mem_map.mp h
  exact ⟨i, List.mem_range.mp hi, rfl⟩
theorem mem_vec {n : Nat} {f : Nat → Rat} {x : Rat} (h : x ∈ vec n f) : ∃ i, i < n ∧ x = f i := by
  obtain ⟨i, hi, rfl⟩ := List.mem_map.mp h
  exact ⟨i, List.mem_range.mp hi, rfl⟩
def vrow (n : Nat) (f : Nat → Rat) : List D := (List.range n).map fun i => fr (f i)
theorem rowD_vec (n : Nat) (f : Nat → Rat) : rowD (vec n f) = .tup (vrow n f) := by simp [rowD, vec, vrow]
theorem map_vec (n : Nat) (f : Nat → Rat) : (vec n f).map fr = vrow n f := by simp [vec, vrow]
theorem tabD_mat (n m : Nat) (F : Nat → Nat → Rat) : tabD (mat n m F) = .tup ((List.range n).map fun i => .tup (vrow m (F i))) := by
  simp only [tabD, mat, List.map_map]
  congr 2
  funext i
  exact rowD_vec _ _
theorem idx_rng {α : Type} {n i : Nat} (f : Nat → α) (h : i < n) : idxL ((List.range n).map f) (i : Int) = some (f i) := by
  rw [idx_nat _ _ (by simpa using h)]; simp
theorem enum_rng {α : Type} (f : Nat → D) (n : Nat) : enumD 0 ((List.range n).map f) = (List.range n).map fun i => .tup [natD i, f i] := by
  have gen : ∀ (l : List Nat) (s : Nat), (∀ i, (h : i < l.length) → l[i] = s + i) → enumD s (l.map f) = l.map fun i => .tup [natD i, f i] := by
    intro l
    induction l with
    | nil => intro s _; simp [enumD]
    | cons x l ih =>
      intro s h
      have h0 := h 0 (by simp)
      simp at h0
      subst h0
      simp only [List.map_cons, enumD]
      rw [ih (x + 1) fun i hi => by
        have := h (i + 1) (by simp; omega)
        simp at this
        omega]
      rfl
  exact gen _ 0 fun i hi => by simp
theorem zip_rng (f g : Nat → D) (n : Nat) : zipD ((List.range n).map f) ((List.range n).map g) = (List.range n).map fun i => .tup [f i, g i] := by
  have gen : ∀ l : List Nat, zipD (l.map f) (l.map g) = l.map fun i => .tup [f i, g i] := by
    intro l
    induction l with
    | nil => simp [zipD]
    | cons x l ih => simp [zipD, ih]
  exact gen _
end Ev

set_option Elab.async false
set_option linter.all false
set_option maxRecDepth 100000
set_option maxHeartbeats 4000000
set_option autoImplicit false
set_option exponentiation.threshold 10000
/-! sizes over a common bottom -/
namespace Ev
open PySem
/-- x is a whole number below 2^a over d -/
def Q (a d : Nat) (x : Rat) : Prop := ∃ P : Int, x = Rat.divInt P d ∧ P.natAbs < 2 ^ a
theorem Q.ok {a d : Nat} {x : Rat} (h : Q a d x) (h0 : 0 < d) (hd : d < 2 ^ 4400) (ha : a ≤ 4400) : ok x := by
  obtain ⟨P, rfl, hP⟩ := h
  have hdz : (d : Int) ≠ 0 := by omega
  have h1 : (Rat.divInt P d).num.natAbs ≤ P.natAbs := by
    rw [Rat.num_divInt]
    have hs : (d : Int).sign = 1 := Int.sign_eq_one_of_pos (by omega)
    rw [hs, Int.one_mul]
    rw [Int.natAbs_ediv_of_dvd (Int.gcd_dvd_right ..)]
    exact Nat.div_le_self _ _
  have h2 : (Rat.divInt P d).den ≤ d := by
    rw [Rat.den_divInt, if_neg hdz]
    simp only [Int.natAbs_natCast]
    exact Nat.div_le_self _ _
  exact ⟨Nat.lt_of_le_of_lt h1 (np hP ha), Nat.lt_of_le_of_lt h2 hd⟩
theorem Q.mono {a b d : Nat} {x : Rat} (h : Q a d x) (hb : a ≤ b) : Q b d x := by
  obtain ⟨P, e, hP⟩ := h
  exact ⟨P, e, np hP hb⟩
theorem Q.mul {a b d e : Nat} {x y : Rat} (h : Q a d x) (h2 : Q b e y) : Q (a + b) (d * e) (x * y) := by
  obtain ⟨P, rfl, hP⟩ := h
  obtain ⟨R, rfl, hR⟩ := h2
  exact ⟨P * R, by rw [Rat.divInt_mul_divInt, Int.natCast_mul], nm hP hR⟩
theorem Q.add {a b d : Nat} {x y : Rat} (h0 : 0 < d) (h : Q a d x) (h2 : Q a d y) (hb : a + 1 ≤ b) : Q b d (x + y) := by
  obtain ⟨P, rfl, hP⟩ := h
  obtain ⟨R, rfl, hR⟩ := h2
  have hdz : (d : Int) ≠ 0 := by omega
  refine ⟨P + R, ?_, na hP hR hb⟩
  rw [Rat.divInt_add_divInt _ _ hdz hdz, ← Int.add_mul, Rat.divInt_mul_right hdz]
theorem Q.neg {a d : Nat} {x : Rat} (h : Q a d x) : Q a d (-x) := by
  obtain ⟨P, rfl, hP⟩ := h
  exact ⟨-P, by rw [Rat.neg_divInt], by rw [Int.natAbs_neg]; exact hP⟩
theorem Q.sub {a b d : Nat} {x y : Rat} (h0 : 0 < d) (h : Q a d x) (h2 : Q a d y) (hb : a + 1 ≤ b) : Q b d (x - y) := by
  rw [Rat.sub_eq_add_neg]
  exact Q.add h0 h h2.neg hb
/-- over a greater bottom -/
theorem Q.up {a b d e : Nat} {x : Rat} (h : Q a d x) (he : 0 < e) (hb : e < 2 ^ b) : Q (a + b) (d * e) x := by
  have h2 : Q b e (1 : Rat) := ⟨e, by
    have : (e : Int) ≠ 0 := by omega
    rw [Rat.divInt_self' this], by rw [Int.natAbs_natCast]; exact hb⟩
  have := h.mul h2
  rwa [Rat.mul_one] at this
theorem Q.comm {a d e : Nat} {x : Rat} (h : Q a (d * e) x) : Q a (e * d) x := by rwa [Nat.mul_comm]
theorem Q.zero (a d : Nat) : Q a d 0 := ⟨0, by simp, by simp; exact Nat.two_pow_pos _⟩
theorem Q.int {a : Nat} {i : Int} (h : i.natAbs < 2 ^ a) : Q a 1 (i : Rat) := ⟨i, by rw [show ((1:Nat):Int) = ((i:Rat).den : Int) from rfl]; exact (self_div (i:Rat)).symm, h⟩
theorem Q.sum {a b d : Nat} {f : Nat → Rat} (h0 : 0 < d) : ∀ (n : Nat), (∀ i, i < n → Q a d (f i)) → a + n ≤ b → Q b d (sum n f)
  | 0, _, _ => Q.zero b d
  | n + 1, h, hb => Q.add (a := a + n) h0 (Q.sum h0 n (fun i hi => h i (by omega)) (by omega)) ((h n (by omega)).mono (by omega)) hb
theorem div_cross {P R : Int} {d : Nat} (h0 : 0 < d) (hR : R ≠ 0) : Rat.divInt P d / Rat.divInt R d = Rat.divInt P R := by
  have hd : (d : Int) ≠ 0 := by omega
  rw [Rat.div_def, Rat.inv_divInt, Rat.divInt_mul_divInt, Int.mul_comm P]
  exact Rat.divInt_mul_left hd
theorem div_sign {P R : Int} (hR : R ≠ 0) : Rat.divInt P R = Rat.divInt (R.sign * P) (R.natAbs : Nat) := by
  have h : (R.natAbs : Int) = R.sign * R := by
    rw [Int.sign_mul_self]
  rw [h, Rat.divInt_mul_left]
  intro z
  exact hR (Int.sign_eq_zero_iff_zero.mp z)
/-- all are whole numbers below 2^a over one bottom below 2^a -/
structure SzM (a d n m : Nat) (F : Nat → Nat → Rat) : Prop where
  pos : 0 < d
  lt : d < 2 ^ a
  q : ∀ i j, i < n → j < m → Q a d (F i j)
theorem SzM.ok {a d n m : Nat} {F : Nat → Nat → Rat} (h : SzM a d n m F) (ha : a ≤ 4400) {i j : Nat} (hi : i < n) (hj : j < m) : ok (F i j) :=
  (h.q i j hi hj).ok h.pos (Nat.lt_of_lt_of_le h.lt (Nat.pow_le_pow_right (by decide) ha)) ha
end Ev

set_option Elab.async false
set_option linter.all false
set_option maxRecDepth 100000
set_option maxHeartbeats 4000000
set_option autoImplicit false
set_option exponentiation.threshold 10000
/-! the reduction of rows: what it does, by functions -/
namespace Ev
open PySem
abbrev Red := (Nat → Nat → Rat) × List Nat × Rat
def fromTo (p r : Nat) : List Nat := (List.range (r - p)).map (p + ·)
def goodsOf (r : Nat) (F : Nat → Nat → Rat) (p pl : Nat) : List Nat := (fromTo p r).filter fun k => decide (F k pl ≠ 0)
def swapF (F : Nat → Nat → Rat) (h k : Nat) : Nat → Nat → Rat := fun i => if i = h then F k else if i = k then F h else F i
def clearF (F : Nat → Nat → Rat) (h pl : Nat) : Nat → Nat → Rat := fun i c => if i = h then F h c / F h pl else F i c - F i pl * (F h c / F h pl)
def redStep (r : Nat) (s : Red) (pl : Nat) : Red := match goodsOf r s.1 s.2.1.length pl with
  | [] => s
  | k :: _ => (clearF (swapF s.1 s.2.1.length k) s.2.1.length pl, s.2.1 ++ [pl], s.2.2 * (if k = s.2.1.length then s.1 k pl else -(s.1 k pl)))
def redN (r size : Nat) (F : Nat → Nat → Rat) : Red := (List.range size).foldl (redStep r) (F, [], 1)
theorem mem_goods {r p pl k : Nat} {F : Nat → Nat → Rat} (h : k ∈ goodsOf r F p pl) : p ≤ k ∧ k < r ∧ F k pl ≠ 0 := by
  unfold goodsOf fromTo at h
  rw [List.mem_filter] at h
  obtain ⟨h1, h2⟩ := h
  obtain ⟨t, ht, rfl⟩ := List.mem_map.mp h1
  have := List.mem_range.mp ht
  exact ⟨by omega, by omega, of_decide_eq_true h2⟩
theorem clear_sz {a d r w : Nat} {F : Nat → Nat → Rat} (z : SzM a d r w F) {h pl : Nat} (hh : h < r) (hp : pl < w) (h0 : F h pl ≠ 0) : ∃ d', SzM (2 * a + 1) d' r w (clearF F h pl) ∧ (∀ c, c < w → Q (2 * a + 1) d' (F h c / F h pl)) ∧ (∀ i c, i < r → c < w → Q (2 * a + 1) d' (F i pl * (F h c / F h pl))) := by
  obtain ⟨P, e, hP⟩ := z.q h pl hh hp
  have hP0 : P ≠ 0 := by
    intro c
    rw [c] at e
    exact h0 (by rw [e]; simp)
  have hd0 := z.pos
  have hdz : (d : Int) ≠ 0 := by omega
  have hPn : 0 < P.natAbs := by omega
  have hs : ∀ R : Int, (P.sign * R).natAbs = R.natAbs := fun R => by
    rw [Int.natAbs_mul, Int.natAbs_sign, if_neg hP0, Nat.one_mul]
  have head : ∀ c, c < w → Q a P.natAbs (F h c / F h pl) := fun c hc => by
    obtain ⟨R, e2, hR⟩ := z.q h c hh hc
    refine ⟨P.sign * R, ?_, by rw [hs]; exact hR⟩
    rw [e, e2, div_cross hd0 hP0, div_sign hP0]
  have head2 : ∀ c, c < w → Q (2 * a + 1) (d * P.natAbs) (F h c / F h pl) := fun c hc =>
    (((head c hc).up hd0 z.lt).comm).mono (by omega)
  have prod : ∀ i c, i < r → c < w → Q (2 * a) (d * P.natAbs) (F i pl * (F h c / F h pl)) := fun i c hi hc =>
    ((z.q i pl hi hp).mul (head c hc)).mono (by omega)
  refine ⟨d * P.natAbs, ⟨Nat.mul_pos hd0 hPn, Nat.lt_of_lt_of_le (pow_add_lt z.lt hP) (Nat.pow_le_pow_right (by decide) (by omega)), fun i j hi hj => ?_⟩, head2, fun i c hi hc => (prod i c hi hc).mono (by omega)⟩
  unfold clearF
  by_cases c : i = h
  · rw [if_pos c]; exact head2 j hj
  · rw [if_neg c]
    exact Q.sub (a := 2 * a) (Nat.mul_pos hd0 hPn) (((z.q i j hi hj).up hPn hP).mono (by omega)) (prod i j hi hj) (by omega)
theorem swap_sz {a d r w : Nat} {F : Nat → Nat → Rat} (z : SzM a d r w F) {h k : Nat} (hh : h < r) (hk : k < r) : SzM a d r w (swapF F h k) :=
  ⟨z.pos, z.lt, fun i j hi hj => by
    unfold swapF
    by_cases c : i = h
    · rw [if_pos c]; exact z.q k j hk hj
    · rw [if_neg c]
      by_cases c : i = k
      · rw [if_pos c]; exact z.q h j hh hj
      · rw [if_neg c]; exact z.q i j hi hj⟩
/-- sizes of a state -/
structure SzR (a b r w : Nat) (s : Red) : Prop where
  m : ∃ d, SzM a d r w s.1
  e : ∃ d, 0 < d ∧ d < 2 ^ b ∧ Q b d s.2.2
theorem step_sz {a b r w : Nat} {s : Red} (z : SzR a b r w s) {pl : Nat} (hp : pl < w) : SzR (2 * a + 1) (a + b) r w (redStep r s pl) := by
  obtain ⟨⟨d, m⟩, e, e1, e2, e3⟩ := z
  unfold redStep
  cases hg : goodsOf r s.1 s.2.1.length pl with
  | nil =>
    exact ⟨⟨d, m.pos, Nat.lt_of_lt_of_le m.lt (Nat.pow_le_pow_right (by decide) (by omega)), fun i j hi hj => (m.q i j hi hj).mono (by omega)⟩, e, e1, Nat.lt_of_lt_of_le e2 (Nat.pow_le_pow_right (by decide) (by omega)), e3.mono (by omega)⟩
  | cons k ks =>
    obtain ⟨h1, h2, h3⟩ := mem_goods (k := k) (by rw [hg]; exact List.mem_cons_self ..)
    have hsw : swapF s.1 s.2.1.length k s.2.1.length = s.1 k := by simp [swapF]
    obtain ⟨d', m', _⟩ := clear_sz (swap_sz m (h := s.2.1.length) (k := k) (by omega) h2) (h := s.2.1.length) (pl := pl) (by omega) hp (by rw [hsw]; exact h3)
    refine ⟨⟨d', m'⟩, e * d, Nat.mul_pos e1 m.pos, ?_, ?_⟩
    · rw [Nat.add_comm]; exact pow_add_lt e2 m.lt
    · rw [Nat.add_comm]
      refine e3.mul ?_
      split
      · exact m.q k pl h2 hp
      · exact (m.q k pl h2 hp).neg
theorem range_split {n : Nat} {l1 l2 : List Nat} {a : Nat} (h : List.range n = l1 ++ a :: l2) : l1 = List.range a ∧ a < n := by
  have hl : l1.length < n := by
    have := congrArg List.length h
    simp at this
    omega
  have ha : a = l1.length := by
    have h1 := congrArg (fun l => l[l1.length]?) h
    simp [hl] at h1
    omega
  have h2 := congrArg (fun l => l.take l1.length) h
  simp only [List.take_left] at h2
  rw [List.take_range] at h2
  rw [← h2, ha, Nat.min_eq_left (by omega)]
  exact ⟨rfl, hl⟩
theorem red_sz {a r w : Nat} {F : Nat → Nat → Rat} (h : ∃ d, SzM a d r w F) (ha : 1 ≤ a) : ∀ t, t ≤ w → SzR (2 ^ t * (a + 1) - 1) (2 ^ t * (a + 1)) r w ((List.range t).foldl (redStep r) (F, [], 1))
  | 0, _ => by
    refine ⟨?_, 1, by omega, ?_, ?_⟩
    · rw [show 2 ^ 0 * (a + 1) - 1 = a by omega]; exact h
    · exact Nat.one_lt_two_pow (by omega)
    · have := Q.int (a := 2 ^ 0 * (a + 1)) (i := 1) (by have := Nat.one_lt_two_pow (n := 2 ^ 0 * (a + 1)) (by omega); simpa using this)
      simpa using this
  | t + 1, ht => by
    have ih := red_sz h ha t (by omega)
    have st := step_sz ih (pl := t) (by omega)
    rw [List.range_succ, List.foldl_append]
    have hp : 0 < 2 ^ t * (a + 1) := Nat.mul_pos (Nat.two_pow_pos _) (by omega)
    have e1 : 2 ^ (t + 1) * (a + 1) = 2 * (2 ^ t * (a + 1)) := by rw [Nat.pow_succ, Nat.mul_comm (2 ^ t) 2, Nat.mul_assoc]
    generalize 2 ^ t * (a + 1) = x at *
    rw [e1]
    show SzR (2 * x - 1) (2 * x) r w (redStep r (List.foldl (redStep r) (F, [], 1) (List.range t)) t)
    obtain ⟨⟨d, m⟩, e, g1, g2, g3⟩ := st
    refine ⟨⟨d, ?_⟩, e, g1, Nat.lt_of_lt_of_le g2 (Nat.pow_le_pow_right (by decide) (by omega)), g3.mono (by omega)⟩
    rw [show 2 * (x - 1) + 1 = 2 * x - 1 by omega] at m
    exact m
end Ev

set_option Elab.async false
set_option linter.all false
set_option maxRecDepth 100000
set_option maxHeartbeats 4000000
set_option autoImplicit false
set_option exponentiation.threshold 10000
/-! spec: reduced -/
namespace Ev
open PySem
def rowsL (r w : Nat) (F : Nat → Nat → Rat) : List D := (List.range r).map fun i => .lst (vrow w (F i))
@[simp] theorem rowsL_len (r w : Nat) (F : Nat → Nat → Rat) : (rowsL r w F).length = r := by simp [rowsL]
@[simp] theorem vrow_len (w : Nat) (f : Nat → Rat) : (vrow w f).length = w := by simp [vrow]
theorem vrow_get {w : Nat} {f : Nat → Rat} {c : Nat} (h : c < w) : idxL (vrow w f) (c : Int) = some (fr (f c)) := idx_rng _ h
theorem rowsL_get {r w : Nat} {F : Nat → Nat → Rat} {i : Nat} (h : i < r) : idxL (rowsL r w F) (i : Int) = some (.lst (vrow w (F i))) := idx_rng _ h
theorem pures_vrow (w : Nat) (f : Nat → Rat) : pureDs (vrow w f) = true := pures_map fun _ _ => rfl
theorem pures_rowsL (r w : Nat) (F : Nat → Nat → Rat) : pureDs (rowsL r w F) = true := pures_map fun _ _ => by simp only [pureD]; exact pures_vrow _ _
theorem set_range {α : Type} (n k : Nat) (f : Nat → α) (x : α) : ((List.range n).map f).set k x = (List.range n).map fun i => if i = k then x else f i := by
  apply List.ext_getElem
  · simp
  · intro i h1 h2
    simp at h1
    rw [List.getElem_set]
    simp only [List.getElem_map, List.getElem_range]
    by_cases c : k = i
    · rw [if_pos c, if_pos c.symm]
    · rw [if_neg c, if_neg (fun z => c z.symm)]
theorem rowsL_swap (r w : Nat) (F : Nat → Nat → Rat) (h k : Nat) (hh : h < r) : ((rowsL r w F).set h (.lst (vrow w (F k)))).set k (.lst (vrow w (F h))) = rowsL r w (swapF F h k) := by
  unfold rowsL
  rw [set_range, set_range]
  refine List.map_congr_left fun i _ => ?_
  unfold swapF
  by_cases c : i = h
  · by_cases c2 : i = k
    · subst c; subst c2; simp
    · rw [if_neg c2, if_pos c, if_pos c]
  · by_cases c2 : i = k
    · rw [if_pos c2, if_neg c, if_pos c2]
    · rw [if_neg c2, if_neg c, if_neg c, if_neg c2]
def InvR (R : D) (size r w : Nat) (S0 : Store) (s : Red) (ρ : Env) (S : Store) : Prop := ∃ (cf cp : Nat) (e5 e6 e7 e8 e9 e10 e11 e12 : Option D),
  ρ = [some R, some (natD size), some (.cell cf), some (.cell cp), some (fr s.2.2), e5, e6, e7, e8, e9, e10, e11, e12] ∧ S.take S0.length = S0 ∧ S0.length ≤ cf ∧ S0.length ≤ cp ∧ cf ≠ cp ∧ S[cf]? = some (.lst (rowsL r w s.1)) ∧ S[cp]? = some (.lst (s.2.1.map natD))
theorem seq_cell {S : Store} {n : Nat} {xs : List D} (h : S[n]? = some (.lst xs)) : seqOf S (.cell n) = some xs := by simp [seqOf, h]
theorem take_le {S0 S : Store} (h : S.take S0.length = S0) : S0.length ≤ S.length := by
  have := congrArg List.length h
  simp at this
  omega
theorem take_set {S0 S : Store} {n : Nat} {c : C} (h : S.take S0.length = S0) (hn : S0.length ≤ n) : (S.set n c).take S0.length = S0 := by
  rw [List.take_set_of_le (by omega)]; exact h
theorem take_push {S0 S T : Store} (h : S.take S0.length = S0) : (S ++ T).take S0.length = S0 := by
  rw [List.take_append_of_le_length (take_le h)]; exact h
section
variable {k : Nat}
theorem red_iter (hk : 4 ≤ k) {R : D} {size r w : Nat} {S0 S : Store} {s : Red} {ρ : Env} {pl a b : Nat} (hr : r ≤ 20) (hw : w ≤ 1000) (hp : pl < w) (hpp : pl < 100) (hlen : s.2.1.length ≤ pl) (z : SzR a b r w s) (ha : 2 * a + 1 ≤ 4400) (hb : b ≤ 4400)
    (hi : InvR R size r w S0 s ρ S) : ∃ ρ1, setT (.nm 5) [natD pl] ρ = some ρ1 ∧ ∃ ρ2 S2,
      (exec (G k) (.seq (.asg (.nm 6) (.lc (.var 7) (.nm 7) (.rng2 (.len (.var 3)) (.len (.var 2))) (.cmp .ne (.idx (.idx (.var 2) (.var 7)) (.var 5)) (.glob 0)) [7]))
        (.seq (.ite (.cmp .eq (.var 6) (.lstE .nil))
        (.seq .cnt
        .done)
        .done)
        (.seq (.asg (.tup (.tcons (.nm 7) (.tcons (.nm 8) .tnil))) (.tupE (.cons (.idx (.var 6) (.int 0)) (.cons (.len (.var 3)) .nil))))
        (.seq (.asg (.nm 4) (.call 19 (.cons (.var 4) (.cons (.ite (.cmp .eq (.var 7) (.var 8)) (.idx (.idx (.var 2) (.var 7)) (.var 5)) (.call 21 (.cons (.idx (.idx (.var 2) (.var 7)) (.var 5)) .nil))) .nil))))
        (.seq (.asg (.tup (.tcons (.sub (.var 2) (.var 8)) (.tcons (.sub (.var 2) (.var 7)) .tnil))) (.tupE (.cons (.idx (.var 2) (.var 7)) (.cons (.idx (.var 2) (.var 8)) .nil))))
        (.seq (.asg (.nm 9) (.lc (.call 20 (.cons (.var 11) (.cons (.idx (.idx (.var 2) (.var 8)) (.var 5)) .nil))) (.nm 11) (.it (.idx (.var 2) (.var 8))) (.bl true) [11]))
        (.seq (.asg (.nm 2) (.mk (.lc (.ite (.cmp .eq (.var 12) (.var 8)) (.var 9) (.call 41 (.cons (.var 10) (.cons (.var 9) (.cons (.var 5) .nil))))) (.tup (.tcons (.nm 12) (.tcons (.nm 10) .tnil))) (.enm (.var 2)) (.bl true) [12, 10])))
        (.seq (.app (.var 3) (.var 5))
        .done)))))))) ρ1 S = some (.nx ρ2 S2) ∨
       exec (G k) (.seq (.asg (.nm 6) (.lc (.var 7) (.nm 7) (.rng2 (.len (.var 3)) (.len (.var 2))) (.cmp .ne (.idx (.idx (.var 2) (.var 7)) (.var 5)) (.glob 0)) [7]))
        (.seq (.ite (.cmp .eq (.var 6) (.lstE .nil))
        (.seq .cnt
        .done)
        .done)
        (.seq (.asg (.tup (.tcons (.nm 7) (.tcons (.nm 8) .tnil))) (.tupE (.cons (.idx (.var 6) (.int 0)) (.cons (.len (.var 3)) .nil))))
        (.seq (.asg (.nm 4) (.call 19 (.cons (.var 4) (.cons (.ite (.cmp .eq (.var 7) (.var 8)) (.idx (.idx (.var 2) (.var 7)) (.var 5)) (.call 21 (.cons (.idx (.idx (.var 2) (.var 7)) (.var 5)) .nil))) .nil))))
        (.seq (.asg (.tup (.tcons (.sub (.var 2) (.var 8)) (.tcons (.sub (.var 2) (.var 7)) .tnil))) (.tupE (.cons (.idx (.var 2) (.var 7)) (.cons (.idx (.var 2) (.var 8)) .nil))))
        (.seq (.asg (.nm 9) (.lc (.call 20 (.cons (.var 11) (.cons (.idx (.idx (.var 2) (.var 8)) (.var 5)) .nil))) (.nm 11) (.it (.idx (.var 2) (.var 8))) (.bl true) [11]))
        (.seq (.asg (.nm 2) (.mk (.lc (.ite (.cmp .eq (.var 12) (.var 8)) (.var 9) (.call 41 (.cons (.var 10) (.cons (.var 9) (.cons (.var 5) .nil))))) (.tup (.tcons (.nm 12) (.tcons (.nm 10) .tnil))) (.enm (.var 2)) (.bl true) [12, 10])))
        (.seq (.app (.var 3) (.var 5))
        .done)))))))) ρ1 S = some (.ct ρ2 S2)) ∧ InvR R size r w S0 (redStep r s pl) ρ2 S2 := by
  obtain ⟨cf, cp, e5, e6, e7, e8, e9, e10, e11, e12, rfl, hS, c1, c2, c3, hf, hpl⟩ := hi
  obtain ⟨F, p, q⟩ := s
  obtain ⟨⟨d, zm⟩, e, z1, z2, z3⟩ := z
  simp only at hf hpl hlen zm z3
  refine ⟨[some R, some (natD size), some (.cell cf), some (.cell cp), some (fr q), some (natD pl), e6, e7, e8, e9, e10, e11, e12], by simp [setT], ?_⟩
  have hg : ∀ e7 : Option D, ev (G k) (.lc (.var 7) (.nm 7) (.rng2 (.len (.var 3)) (.len (.var 2))) (.cmp .ne (.idx (.idx (.var 2) (.var 7)) (.var 5)) (.glob 0)) [7]) [some R, some (natD size), some (.cell cf), some (.cell cp), some (fr q), some (natD pl), e6, e7, e8, e9, e10, e11, e12] S = some ([.lst ((goodsOf r F p.length pl).map natD)], S) := fun e7 => by
    have hit : ev (G k) (.rng2 (.len (.var 3)) (.len (.var 2))) [some R, some (natD size), some (.cell cf), some (.cell cp), some (fr q), some (natD pl), e6, e7, e8, e9, e10, e11, e12] S = some (packG [] ((fromTo p.length r).map natD), S) := by
      refine (e_rng2 (m := p.length) (n := r) (e_lenN (e_var rfl) (seq_cell hpl)) (e_lenN (e_var rfl) (seq_cell hf)) (by omega) (by omega)).trans ?_
      simp [fromTo]
      rfl
    refine e_lcIf natD natD (fun k => decide (F k pl ≠ 0)) (fromTo p.length r) hit (by simp [fromTo, most]; omega) fun t ht => ?_
    obtain ⟨t', ht', rfl⟩ := List.mem_map.mp ht
    have := List.mem_range.mp ht'
    refine ⟨_, by simp [setT, wipeE]; rfl, ?_, fun _ => e_var rfl⟩
    refine e_cmp (e_idx (e_idx (e_var rfl) (e_var rfl) (seq_cell hf) (rowsL_get (by omega))) (e_var rfl) rfl (vrow_get hp)) (e_glob (show cs97[0]? = some (fr 0) from rfl)) ?_
    simp only [cmpD, eqD_fr, Option.map_some]
    by_cases c : F (p.length + t') pl = 0 <;> simp [c]
  cases hgo : goodsOf r F p.length pl with
  | nil =>
    refine ⟨[some R, some (natD size), some (.cell cf), some (.cell cp), some (fr q), some (natD pl), some (.lst []), e7, e8, e9, e10, e11, e12], S, .inr ?_, ?_⟩
    · have := hg e7
      rw [hgo] at this
      refine x_seq (x_asg this) ?_
      rw [exec, x_iteT (r := some (.ct _ _)) (S1 := S) ?_ (by simp [exec]; exact ⟨rfl, rfl⟩)]
      · rfl
      · refine e_cmp (e_var rfl) (e_lstE e_nil) ?_
        exact eqD_yes S (n := 1) (by decide) rfl
    · unfold redStep
      simp only [hgo]
      exact ⟨cf, cp, _, _, _, _, _, _, _, _, rfl, hS, c1, c2, c3, hf, hpl⟩
  | cons j js =>
    obtain ⟨h1, h2, h3⟩ := mem_goods (k := j) (by rw [hgo]; exact List.mem_cons_self ..)
    have hh : p.length < r := by omega
    obtain ⟨d', zc, zh, zp⟩ := clear_sz (swap_sz zm hh h2) (h := p.length) (pl := pl) hh hp (by simpa [swapF] using h3)
    have zs := swap_sz zm hh h2
    have s1 : swapF F p.length j p.length = F j := by simp [swapF]
    let piv := F j pl
    have okp : ok piv := zm.ok (by omega) h2 hp
    have okq : ok q := z3.ok z1 (Nat.lt_of_lt_of_le z2 (Nat.pow_le_pow_right (by decide) hb)) hb
    let q' : Rat := q * (if j = p.length then piv else -piv)
    let S2 : Store := S.set cf (C.lst (rowsL r w (swapF F p.length j)))
    have lcf : cf < S.length := (List.getElem?_eq_some_iff.mp hf).1
    have lcp : cp < S.length := (List.getElem?_eq_some_iff.mp hpl).1
    have hf2 : S2[cf]? = some (.lst (rowsL r w (swapF F p.length j))) := by simp [S2, lcf]
    have hp2 : S2[cp]? = some (.lst (p.map natD)) := by simp [S2, List.getElem?_set, c3, hpl]
    let head : Nat → Rat := fun c => F j c / piv
    let ρ2 : Env := [some R, some (natD size), some (.cell S2.length), some (.cell cp), some (fr q'), some (natD pl), some (.lst ((j :: js).map natD)), some (natD j), some (natD p.length), some (.lst (vrow w head)), e10, e11, e12]
    refine ⟨ρ2, (S2 ++ [C.lst (rowsL r w (clearF (swapF F p.length j) p.length pl))]).set cp (C.lst ((p ++ [pl]).map natD)), .inl ?_, ?_⟩
    · have := hg e7
      rw [hgo] at this
      refine x_seq (x_asg this) ?_
      refine x_seq (S1 := S) (x_iteF (S1 := S) ?_ (by rw [exec])) ?_
      · refine e_cmp (e_var rfl) (e_lstE e_nil) ?_
        refine eqD_no S (n := 1) (m := 1) (by decide) (by decide) ?_ rfl (by simp)
        simp only [layD]
        exact lays_map fun _ _ => rfl
      refine x_seq (x_tup2 (e_tupE (e_cons (e_idx (i := 0) (e_var rfl) e_int rfl (idx_nat _ 0 (by simp))) (e_cons (e_lenN (n := p.length) (e_var rfl) (seq_cell hpl)) e_nil)))) ?_
      have hj0 : (List.map natD (j :: js))[0]'(by simp) = natD j := rfl
      rw [hj0]
      refine x_seq (x_asg (d := fr q') (S1 := S) ?_) ?_
      · refine e_call (xs := [fr q, fr (if j = p.length then piv else -piv)]) (S1 := S) (e_args2 (e_var rfl) (?_ : ev (G k) _ _ S = some (_, S))) (spec_multiply S (by omega) okq (by split; exact okp; exact okp.neg))
        have hc : ev (G k) (.cmp .eq (.var 7) (.var 8)) ([some R, some (natD size), some (.cell cf), some (.cell cp), some (fr q), some (natD pl), some (.lst ((j :: js).map natD)), some (natD j), some (natD p.length), e9, e10, e11, e12] : Env) S = some ([.bl (decide (j = p.length))], S) := by
          refine e_cmp (e_var rfl) (e_var rfl) ?_
          show eqD S (.int j) (.int p.length) = _
          rw [eqD_int]
          by_cases c : j = p.length
          · simp [c]
          · have : ¬ ((j : Int) = (p.length : Int)) := by omega
            simp [c, this]
        have hv : ev (G k) (.idx (.idx (.var 2) (.var 7)) (.var 5)) ([some R, some (natD size), some (.cell cf), some (.cell cp), some (fr q), some (natD pl), some (.lst ((j :: js).map natD)), some (natD j), some (natD p.length), e9, e10, e11, e12] : Env) S = some ([fr piv], S) :=
          e_idx (e_idx (e_var rfl) (e_var rfl) (seq_cell hf) (rowsL_get h2)) (e_var rfl) rfl (vrow_get hp)
        by_cases c : j = p.length
        · rw [if_pos c]
          rw [decide_eq_true c] at hc
          exact e_iteT hc hv
        · rw [if_neg c]
          rw [decide_eq_false c] at hc
          exact e_iteF hc (e_call (xs := [fr piv]) (S1 := S) (e_args1 hv) (spec_opposite S (by omega)))
      refine x_seq (x_asgL (S1 := S) (e_tupE (e_cons (e_idx (e_var rfl) (e_var rfl) (seq_cell hf) (rowsL_get h2)) (e_cons (e_idx (e_var rfl) (e_var rfl) (seq_cell hf) (rowsL_get hh)) e_nil))) (l_tup (l_cons (l_sub (e_var rfl) (e_var rfl) hf (by simpa using hh)) (l_cons (l_sub (e_var rfl) (e_var rfl) (by rw [List.getElem?_set_self lcf]) (by simpa using h2)) l_nil)))) ?_
      rw [List.set_set, rowsL_swap _ _ _ _ _ hh]
      show exec (G k) _ _ S2 = _
      refine x_seq (x_asg (d := .lst (vrow w head)) (S1 := S2) ?_) ?_
      · have hit : ∀ ρ : Env, ρ[2]? = some (some (.cell cf)) → ρ[8]? = some (some (natD p.length)) → ev (G k) (.it (.idx (.var 2) (.var 8))) ρ S2 = some (packG [] ((List.range w).map fun c => fr (F j c)), S2) := fun ρ h2 h8 => by
          have := e_it (g := G k) (e_idx (e_var h2) (e_var h8) (seq_cell hf2) (rowsL_get hh)) (xs := vrow w (F j)) (by rw [s1]; rfl)
          rw [this]; rfl
        refine e_lc (fun c => fr (F j c)) (fun c => fr (head c)) (List.range w) (hit _ rfl rfl) (by simp [most]; omega) fun c hc => ?_
        have hc := List.mem_range.mp hc
        refine ⟨_, by simp [setT, wipeE]; rfl, ?_⟩
        refine e_call (xs := [fr (F j c), fr piv]) (S1 := S2) (e_args2 (e_var rfl) ?_) (spec_divide S2 (by omega) (zm.ok (by omega) h2 hc) okp h3)
        exact e_idx (e_idx (e_var rfl) (e_var rfl) (seq_cell hf2) (rowsL_get hh)) (e_var rfl) rfl (by rw [s1]; exact vrow_get hp)
      refine x_seq (x_asg (d := .cell S2.length) (S1 := S2 ++ [.lst (rowsL r w (clearF (swapF F p.length j) p.length pl))]) ?_) ?_
      · refine e_mk ?_
        have hit : ∀ ρ : Env, ρ[2]? = some (some (.cell cf)) → ev (G k) (.enm (.var 2)) ρ S2 = some (packG [cf] ((List.range r).map fun i => D.tup [natD i, .lst (vrow w (swapF F p.length j i))]), S2) := fun ρ h2 => by
          have := e_enm (g := G k) (e_var h2) (seq_cell hf2)
          rw [this]
          unfold rowsL
          rw [enum_rng (α := D)]
          rfl
        refine e_lc (fun i => D.tup [natD i, .lst (vrow w (swapF F p.length j i))]) (fun i => .lst (vrow w (clearF (swapF F p.length j) p.length pl i))) (List.range r) (hit _ rfl) (by simp [most]; omega) fun i hi => ?_
        have hi := List.mem_range.mp hi
        refine ⟨_, by simp [setT, wipeE]; rfl, ?_⟩
        by_cases c : i = p.length
        · refine e_iteT (S1 := S2) (e_cmp (e_var rfl) (e_var rfl) ?_) ?_
          · show eqD S2 (.int i) (.int p.length) = _
            rw [eqD_int, decide_eq_true (by omega)]
          · have : clearF (swapF F p.length j) p.length pl i = head := by
              funext c'
              unfold clearF
              rw [if_pos c, s1]
            rw [this]
            exact e_var rfl
        · refine e_iteF (S1 := S2) (e_cmp (e_var rfl) (e_var rfl) ?_) ?_
          · show eqD S2 (.int i) (.int p.length) = _
            rw [eqD_int, decide_eq_false (by omega)]
          · have hsp := spec_less_head S2 (k := k) hk (vec w (swapF F p.length j i)) (vec w head) pl (by simpa using hp) (by simp) (by simp [most]; omega)
              (fun x hx => by obtain ⟨c', hc', rfl⟩ := mem_vec hx; exact zs.ok (by omega) hi hc')
              (fun y hy => by
                obtain ⟨c', hc', rfl⟩ := mem_vec hy
                rw [vec_get hp]
                have o1 := zh c' hc'
                have o2 := zp i c' hi hc'
                rw [s1] at o1 o2
                have hd : d' < 2 ^ 4400 := Nat.lt_of_lt_of_le zc.lt (Nat.pow_le_pow_right (by decide) ha)
                exact ⟨o1.ok zc.pos hd ha, o2.ok zc.pos hd ha⟩)
            rw [map_vec, map_vec, vec_get hp, lessR_vec, map_vec] at hsp
            have e2 : (fun c' => swapF F p.length j i c' - swapF F p.length j i pl * head c') = clearF (swapF F p.length j) p.length pl i := by
              funext c'
              unfold clearF
              rw [if_neg c, s1]
            rw [e2] at hsp
            exact e_call (e_args3 (e_var rfl) (e_var rfl) (e_var rfl)) hsp
      have hp3 : (S2 ++ [C.lst (rowsL r w (clearF (swapF F p.length j) p.length pl))])[cp]? = some (.lst (p.map natD)) := by
        rw [List.getElem?_append_left (by simpa [S2] using lcp)]; exact hp2
      refine x_seq (x_app (d := natD pl) (n := cp) (e_var rfl) (e_var rfl) hp3 hp3 (by simp [most]; omega)) ?_
      rw [exec]
      simp only [List.map_append, List.map_cons, List.map_nil]
      rfl
    · unfold redStep
      simp only [hgo]
      have ne : S2.length ≠ cp := by
        have : S2.length = S.length := by simp [S2]
        omega
      refine ⟨S2.length, cp, _, _, _, _, _, _, _, _, rfl, take_set (take_push (take_set hS c1)) c2, ?_, c2, ne, ?_, ?_⟩
      · have := take_le hS
        simp [S2]; exact this
      · rw [List.getElem?_set_ne (fun z => ne z.symm)]
        simp
      · rw [List.getElem?_set_self (by simp [S2]; omega)]
end
end Ev

set_option Elab.async false
set_option linter.all false
set_option maxRecDepth 100000
set_option maxHeartbeats 4000000
set_option autoImplicit false
set_option exponentiation.threshold 10000
/-! spec: reduced, determinant_in, back_in, solve, rank_in -/
namespace Ev
open PySem
theorem red_len {r : Nat} {F : Nat → Nat → Rat} : ∀ t, ((List.range t).foldl (redStep r) (F, [], 1)).2.1.length ≤ t
  | 0 => by simp
  | t + 1 => by
    have ih := red_len (r := r) (F := F) t
    rw [List.range_succ, List.foldl_append]
    generalize (List.range t).foldl (redStep r) (F, [], 1) = s at *
    show (redStep r s t).2.1.length ≤ t + 1
    unfold redStep
    split
    · omega
    · simp; omega
def rowsW (w1 w2 : List D → D) (r w : Nat) (F : Nat → Nat → Rat) : D := w1 ((List.range r).map fun i => w2 (vrow w (F i)))
section
variable {k : Nat} (S : Store)
theorem spec_reduced (hk : 5 ≤ k) {r w size a : Nat} {F : Nat → Nat → Rat} (hr : r ≤ 20) (hw : w ≤ 1000) (hs : size ≤ w) (hsz : size < 100) (z : ∃ d, SzM a d r w F) (ha : 1 ≤ a) (hb : 2 ^ size * (a + 1) ≤ 4400) {w1 w2 : List D → D} (h1 : Rw w1) (h2 : Rw w2) :
    callF defs cs97 k i_reduced [rowsW w1 w2 r w F, natD size] S = some (.tup [.lst (rowsL r w (redN r size F).1), .lst ((redN r size F).2.1.map natD), fr (redN r size F).2.2], S) := by
  obtain ⟨k, rfl, hj⟩ := lev hk
  let S1 : Store := S ++ [C.lst (rowsL r w F)] ++ [C.lst []]
  let ρ1 : Env := [some (rowsW w1 w2 r w F), some (natD size), some (.cell S.length), some (.cell (S.length + 1)), some (fr 1), none, none, none, none, none, none, none, none]
  have i0 : InvR (rowsW w1 w2 r w F) size r w S (F, [], 1) ρ1 S1 := by
    refine ⟨S.length, S.length + 1, _, _, _, _, _, _, _, _, rfl, ?_, by omega, by omega, by omega, ?_, ?_⟩
    · exact take_push (take_push (take_self S))
    · rw [List.getElem?_append_left (by simp), get_last]
    · have := get_last (S ++ [C.lst (rowsL r w F)]) (C.lst [])
      rw [List.length_append] at this
      exact this
  obtain ⟨ρ', S', hloop, cf, cp, e5, e6, e7, e8, e9, e10, e11, e12, he, hS, c1, c2, c3, hf, hp⟩ := for_inv (body := exec (G k) _) (t := .nm 5) natD (InvR (rowsW w1 w2 r w F) size r w S) (redStep r) (List.range size) (F, [], 1) ρ1 S1 i0 fun l1 pl l2 ρ S2 e hi => by
    obtain ⟨rfl, hpl⟩ := range_split e
    have ex : 2 ^ (pl + 1) * (a + 1) ≤ 4400 := Nat.le_trans (Nat.mul_le_mul_right _ (Nat.pow_le_pow_right (by decide) (by omega))) hb
    have ex2 : 2 ^ (pl + 1) * (a + 1) = 2 * (2 ^ pl * (a + 1)) := by rw [Nat.pow_succ, Nat.mul_comm (2 ^ pl) 2, Nat.mul_assoc]
    exact red_iter (k := k) hj hr hw (by omega) (by omega) (red_len pl) (red_sz z ha pl (by omega)) (by omega) (by omega) hi
  have hd : (D.tup [.cell cf, .cell cp, fr (redN r size F).2.2]) = .tup [.cell cf, .cell cp, fr (redN r size F).2.2] := rfl
  refine call_cut t_reduced rfl rfl (S' := S') (d := .tup [.cell cf, .cell cp, fr (redN r size F).2.2]) ?_ ?_ hS
  · show exec (G k) b_reduced [some (rowsW w1 w2 r w F), some (natD size), none, none, none, none, none, none, none, none, none, none, none] S = _
    have hit : ∀ ρ : Env, ρ[0]? = some (some (rowsW w1 w2 r w F)) → ev (G k) (.it (.var 0)) ρ S = some (packG [] ((List.range r).map fun i => w2 (vrow w (F i))), S) := fun ρ h => by
      have := e_it (g := G k) (S := S) (e_var h) (seq_rw S h1 _)
      rw [show guardOf (rowsW w1 w2 r w F) = [] from grd_rw h1 _] at this
      exact this
    have rows := e_lc (g := G k) (ρ := [some (rowsW w1 w2 r w F), some (natD size), none, none, none, none, none, none, none, none, none, none, none]) (elt := .list (.var 10)) (tg := .nm 10) (own := [10]) (fun i => w2 (vrow w (F i))) (fun i => .lst (vrow w (F i))) (List.range r) (hit _ rfl) (by simp [most]; omega) fun i hi =>
      ⟨_, by simp [setT, wipeE]; rfl, e_list (e_var rfl) (seq_rw S h2 _)⟩
    refine x_seq (x_asgL (S1 := S1) (e_tupE (e_cons (e_mk rows) (e_cons (e_mk (e_lstE e_nil)) (e_cons (e_glob (show cs97[1]? = some (fr 1) from rfl)) e_nil)))) (l_tup (l_cons l_nm (l_cons l_nm (l_cons l_nm l_nil))))) ?_
    refine x_seq (ρ1 := ρ') (S1 := S') ?_ (x_seqR (x_ret ?_))
    · refine x_for (e_rng1 (e_var rfl) (by omega)) ?_
      have hl : (S ++ [C.lst (rowsL r w F)]).length = S.length + 1 := by simp
      have hρ : (([some (rowsW w1 w2 r w F), some (natD size), none, none, none, none, none, none, none, none, none, none, none] : Env).set 2 (some (D.cell S.length))).set 3 (some (D.cell (S ++ [C.lst (rowsL r w F)]).length)) = [some (rowsW w1 w2 r w F), some (natD size), some (.cell S.length), some (.cell (S.length + 1)), none, none, none, none, none, none, none, none, none] := by
        rw [hl]; rfl
      have hρ2 : ((([some (rowsW w1 w2 r w F), some (natD size), none, none, none, none, none, none, none, none, none, none, none] : Env).set 2 (some (D.cell S.length))).set 3 (some (D.cell (S ++ [C.lst (rowsL r w F)]).length))).set 4 (some (fr 1)) = ρ1 := by rw [hρ]; rfl
      refine Eq.trans ?_ hloop
      exact congrArg (fun ρ => forLp _ _ _ _ ρ S1) hρ2
    · rw [he]
      exact e_tupE (e_cons (e_var rfl) (e_cons (e_var rfl) (e_cons (e_var rfl) e_nil)))
  · have hpl : okDs S.length ((redN r size F).2.1.map natD) = true := pures_ok (pures_map fun _ _ => rfl)
    have hro : okDs S.length (rowsL r w (redN r size F).1) = true := pures_ok (pures_rowsL _ _ _)
    have hf : S'[cf]? = some (C.lst (rowsL r w (redN r size F).1)) := hf
    have hp : S'[cp]? = some (C.lst ((redN r size F).2.1.map natD)) := hp
    simp only [resD, resDs, if_neg (show ¬ cf < S.length by omega), if_neg (show ¬ cp < S.length by omega), hf, hp, hpl, hro, if_true, Option.bind_some, Option.map_some]
    have : resD S' S.length (fr (redN r size F).2.2) = some (fr (redN r size F).2.2) := pure_res (pure_fr _)
    simp [this]
theorem spec_determinant_in (hk : 6 ≤ k) {n a : Nat} {F : Nat → Nat → Rat} (hr : n ≤ 20) (z : ∃ d, SzM a d n n F) (ha : 1 ≤ a) (hb : 2 ^ n * (a + 1) ≤ 4400) :
    callF defs cs97 k i_determinant_in [tabD (mat n n F)] S = some (fr (if (redN n n F).2.1.length = n then (redN n n F).2.2 else 0), S) := by
  obtain ⟨k, rfl, hj⟩ := lev hk
  have hsp := spec_reduced S hj hr (by omega) (Nat.le_refl n) (by omega) z ha hb rw_tup rw_tup
  have ht : rowsW .tup .tup n n F = tabD (mat n n F) := (tabD_mat _ _ _).symm
  rw [ht] at hsp
  have hlen : seqOf S (tabD (mat n n F)) = some ((mat n n F).map rowD) := rfl
  refine call_ret t_determinant_in rfl rfl (S' := S) ?_ (by simp) (take_self S)
  show exec (G k) b_determinant_in [some (tabD (mat n n F)), none, none, none] S = _
  refine x_seq (x_asgL (S1 := S) (e_call (e_args2 (e_var rfl) (e_lenN (n := n) (e_var rfl) hlen)) hsp) (l_tup (l_cons l_nm (l_cons l_nm (l_cons l_nm l_nil))))) ?_
  refine x_seqR (x_ret ?_)
  have hc : ∀ ρ : Env, ρ[2]? = some (some (.lst ((redN n n F).2.1.map natD))) → ρ[0]? = some (some (tabD (mat n n F))) → ev (G k) (.cmp .eq (.len (.var 2)) (.len (.var 0))) ρ S = some ([.bl (decide ((redN n n F).2.1.length = n))], S) := fun ρ h2 h0 => by
    refine e_cmp (e_lenN (n := (redN n n F).2.1.length) (e_var h2) rfl) (e_lenN (n := n) (e_var h0) hlen) ?_
    show eqD S (.int _) (.int _) = _
    rw [eqD_int]
    by_cases c : (redN n n F).2.1.length = n
    · simp [c]
    · rw [decide_eq_false c, decide_eq_false (by omega)]
  by_cases c : (redN n n F).2.1.length = n
  · rw [if_pos c]
    rw [decide_eq_true c] at hc
    exact e_iteT (hc _ rfl rfl) (e_var rfl)
  · rw [if_neg c]
    rw [decide_eq_false c] at hc
    exact e_iteF (hc _ rfl rfl) (e_glob rfl)
theorem spec_rank_in (hk : 6 ≤ k) {n a : Nat} {F : Nat → Nat → Rat} (hr : n ≤ 20) (z : ∃ d, SzM a d n n F) (ha : 1 ≤ a) (hb : 2 ^ n * (a + 1) ≤ 4400) :
    callF defs cs97 k i_rank_in [tabD (mat n n F)] S = some (natD (redN n n F).2.1.length, S) := by
  obtain ⟨k, rfl, hj⟩ := lev hk
  have hsp := spec_reduced S hj hr (by omega) (Nat.le_refl n) (by omega) z ha hb rw_tup rw_tup
  have ht : rowsW .tup .tup n n F = tabD (mat n n F) := (tabD_mat _ _ _).symm
  rw [ht] at hsp
  have hlen : seqOf S (tabD (mat n n F)) = some ((mat n n F).map rowD) := rfl
  refine call_ret t_rank_in rfl rfl (S' := S) ?_ (by simp [pureD, natD]) (take_self S)
  show exec (G k) b_rank_in [some (tabD (mat n n F))] S = _
  refine x_seqR (x_ret (e_lenN (e_idx (i := 1) (e_call (e_args2 (e_var rfl) (e_lenN (n := n) (e_var rfl) hlen)) hsp) e_int rfl (idx_nat _ 1 (by simp))) rfl (by simp)))
/-- two tables side by side -/
def aug (n : Nat) (F G : Nat → Nat → Rat) : Nat → Nat → Rat := fun i c => if c < n then F i c else G i (c - n)
theorem vrow_aug (n m : Nat) (F G : Nat → Nat → Rat) (i : Nat) : vrow (n + m) (aug n F G i) = vrow n (F i) ++ vrow m (G i) := by
  unfold vrow
  rw [List.range_add, List.map_append, List.map_map]
  congr 1
  · refine List.map_congr_left fun c hc => ?_
    have := List.mem_range.mp hc
    simp [aug, this]
  · refine List.map_congr_left fun c hc => ?_
    simp [aug, show ¬ n + c < n by omega]
theorem vrow_drop (n m : Nat) (f : Nat → Rat) : (vrow (n + m) f).drop n = vrow m fun j => f (n + j) := by
  unfold vrow
  rw [List.range_add, List.map_append, List.drop_left' (by simp), List.map_map]
  rfl
def Ident : Nat → Nat → Rat := fun i j => if i = j then 1 else 0
theorem plainR_mat (n : Nat) : plainR n = mat n n Ident := rfl
theorem ident_sz (n : Nat) : SzM 1 1 n n Ident := ⟨by decide, by decide, fun i j _ _ => by
  unfold Ident
  split
  · exact Q.int (i := 1) (by decide)
  · exact Q.zero _ _⟩
theorem aug_sz {a d n m : Nat} {F G : Nat → Nat → Rat} (z : SzM a d n n F) (y : ∀ i j, i < n → j < m → Q a d (G i j)) : SzM a d n (n + m) (aug n F G) :=
  ⟨z.pos, z.lt, fun i j hi hj => by
    unfold aug
    split
    · exact z.q i j hi (by omega)
    · exact y i (j - n) hi (by omega)⟩
/-- 1 and 0 over any bottom -/
theorem Q.one {a d : Nat} (h : 0 < d) (hd : d < 2 ^ a) : Q a d 1 := ⟨d, by
  have : (d : Int) ≠ 0 := by omega
  rw [Rat.divInt_self' this], by rw [Int.natAbs_natCast]; exact hd⟩
theorem SzM.one {a d n m : Nat} {F : Nat → Nat → Rat} (z : SzM a d n m F) (i j : Nat) : Q a d (Ident i j) := by
  unfold Ident
  split
  · exact Q.one z.pos z.lt
  · exact Q.zero _ _
abbrev backRed (n : Nat) (F : Nat → Nat → Rat) : Red := redN n n (aug n F Ident)
theorem spec_back_in (hk : 6 ≤ k) {n a : Nat} {F : Nat → Nat → Rat} (hr : n ≤ 20) (z : ∃ d, SzM a d n n F) (ha : 1 ≤ a) (hb : 2 ^ n * (a + 1) ≤ 4400) :
    callF defs cs97 k i_back_in [tabD (mat n n F)] S = some (if (backRed n F).2.1.length = n then tabD (mat n n fun i j => (backRed n F).1 i (n + j)) else .non, S) := by
  obtain ⟨k, rfl, hj⟩ := lev hk
  have z2 : ∃ d, SzM a d n (n + n) (aug n F Ident) := by
    obtain ⟨d, z⟩ := z
    exact ⟨d, aug_sz z fun i j _ _ => z.one i j⟩
  have hsp := spec_reduced S hj hr (by omega) (show n ≤ n + n by omega) (by omega) z2 ha hb rw_lst rw_tup
  have hlen : seqOf S (tabD (mat n n F)) = some ((mat n n F).map rowD) := rfl
  refine call_ret t_back_in rfl rfl (S' := S) ?_ (by split <;> simp [pureD]) (take_self S)
  show exec (G k) b_back_in [some (tabD (mat n n F)), none, none, none, none, none, none, none] S = _
  refine x_seq (x_asg (e_lenN (n := n) (e_var rfl) hlen)) ?_
  have hit : ∀ ρ : Env, ρ[0]? = some (some (tabD (mat n n F))) → ρ[1]? = some (some (natD n)) → ev (G k) (.zip (.var 0) (.call 31 (.cons (.var 1) .nil))) ρ S = some (packG [] ((List.range n).map fun i => D.tup [.tup (vrow n (F i)), .tup (vrow n (Ident i))]), S) := fun ρ h0 h1 => by
    have := e_zip (g := G k) (e_var h0) (e_call (i := 31) (e_args1 (e_var h1)) (spec_plain_of S (k := k) (by omega) n hr)) (S := S) (xs := (List.range n).map fun i => .tup (vrow n (F i))) (ys := (List.range n).map fun i => .tup (vrow n (Ident i))) (by rw [tabD_mat]; rfl) (by rw [plainR_mat, tabD_mat]; rfl)
    rw [this, zip_rng]
    rfl
  have rows := e_lc (g := G k) (ρ := ([some (tabD (mat n n F)), none, none, none, none, none, none, none] : Env).set 1 (some (natD n))) (elt := .bin .add (.var 6) (.var 7)) (tg := .tup (.tcons (.nm 6) (.tcons (.nm 7) .tnil))) (own := [6, 7]) (fun i => D.tup [.tup (vrow n (F i)), .tup (vrow n (Ident i))]) (fun i => .tup (vrow (n + n) (aug n F Ident i))) (List.range n) (hit _ rfl rfl) (by simp [most]; omega) fun i hi => by
    refine ⟨_, by simp [setT, wipeE]; rfl, e_bin (e_var rfl) (e_var rfl) ?_⟩
    simp only [binD, vrow_len, vrow_aug]
    rw [if_pos (by unfold most; omega)]
  refine x_seq (x_asg rows) ?_
  refine x_seq (x_asgL (S1 := S) (e_call (e_args2 (e_var rfl) (e_var rfl)) hsp) (l_tup (l_cons l_nm (l_cons l_nm (l_cons l_nm l_nil))))) ?_
  refine x_seqR (x_ret ?_)
  have hc : ∀ ρ : Env, ρ[4]? = some (some (.lst ((backRed n F).2.1.map natD))) → ρ[1]? = some (some (natD n)) → ev (G k) (.cmp .eq (.len (.var 4)) (.var 1)) ρ S = some ([.bl (decide ((backRed n F).2.1.length = n))], S) := fun ρ h2 h0 => by
    refine e_cmp (e_lenN (n := (backRed n F).2.1.length) (e_var h2) rfl) (e_var h0) ?_
    show eqD S (.int _) (.int _) = _
    rw [eqD_int]
    by_cases c : (backRed n F).2.1.length = n
    · simp [c]
    · rw [decide_eq_false c, decide_eq_false (by omega)]
  by_cases c : (backRed n F).2.1.length = n
  · rw [if_pos c]
    rw [decide_eq_true c] at hc
    refine e_iteT (hc _ rfl rfl) ?_
    refine Eq.trans ?_ (congrArg (fun d => some ([d], S)) (tabD_mat n n _).symm)
    refine e_tuple (x := .lst ((List.range n).map fun i => .tup (vrow n fun j => (backRed n F).1 i (n + j)))) ?_ rfl
    refine e_lc (gd := []) (fun i => .lst (vrow (n + n) ((backRed n F).1 i))) (fun i => .tup (vrow n fun j => (backRed n F).1 i (n + j))) (List.range n) ?_ (by simp [most]; omega) fun i hi => ?_
    · have := e_it (g := G k) (S := S) (a := .var 3) (x := .lst (rowsL n (n + n) (backRed n F).1)) (ρ := ((([some (tabD (mat n n F)), some (natD n), some (.lst ((List.range n).map fun i => .tup (vrow (n + n) (aug n F Ident i)))), some (.lst (rowsL n (n + n) (backRed n F).1)), some (.lst ((backRed n F).2.1.map natD)), some (fr (backRed n F).2.2), none, none] : Env)))) (e_var rfl) rfl
      exact this
    · refine ⟨_, by simp [setT, wipeE]; rfl, e_tuple (x := .lst (vrow n fun j => (backRed n F).1 i (n + j))) ?_ rfl⟩
      have := cut_from (vrow (n + n) ((backRed n F).1 i)) n
      rw [vrow_drop] at this
      simp [ev, sg, oInt, flat, natD, this]
  · rw [if_neg c]
    rw [decide_eq_false c] at hc
    exact e_iteF (hc _ rfl rfl) e_non
end
end Ev

set_option Elab.async false
set_option linter.all false
set_option maxRecDepth 100000
set_option maxHeartbeats 4000000
set_option autoImplicit false
set_option exponentiation.threshold 10000
/-! spec: solve -/
namespace Ev
open PySem
theorem red_places {r : Nat} {F : Nat → Nat → Rat} : ∀ t, ∀ p ∈ ((List.range t).foldl (redStep r) (F, [], 1)).2.1, p < t
  | 0, p, h => by simp at h
  | t + 1, p, h => by
    have ih := red_places (r := r) (F := F) t
    rw [List.range_succ, List.foldl_append] at h
    generalize (List.range t).foldl (redStep r) (F, [], 1) = s at *
    have h : p ∈ (redStep r s t).2.1 := h
    unfold redStep at h
    split at h
    · exact Nat.lt_succ_of_lt (ih p h)
    · simp only [List.mem_append, List.mem_cons, List.not_mem_nil, or_false] at h
      rcases h with h | h
      · exact Nat.lt_succ_of_lt (ih p h)
      · omega
def ansStep (n : Nat) (F : Nat → Nat → Rat) (A : Nat → Rat) (p : Nat × Nat) : Nat → Rat := fun c => if c = p.1 then F p.2 n else A c
def ansOf (n : Nat) (F : Nat → Nat → Rat) (places : List Nat) : Nat → Rat := (places.zip (List.range n)).foldl (ansStep n F) fun _ => 0
abbrev solRed (n : Nat) (F : Nat → Nat → Rat) (v : Nat → Rat) : Red := redN n n (aug n F fun i _ => v i)
def oddOf (n : Nat) (s : Red) : List Nat := (fromTo s.2.1.length n).filter fun i => decide (s.1 i n ≠ 0)
theorem set_vrow (n p : Nat) (A : Nat → Rat) (x : Rat) : (vrow n A).set p (fr x) = vrow n fun c => if c = p then x else A c := by
  unfold vrow
  rw [set_range]
  refine List.map_congr_left fun c _ => ?_
  by_cases h : c = p <;> simp [h]
theorem rowsL_drop (r w : Nat) (F : Nat → Nat → Rat) (p : Nat) (h : p ≤ r) : (rowsL r w F).drop p = (fromTo p r).map fun i => .lst (vrow w (F i)) := by
  unfold rowsL fromTo
  rw [← List.map_drop]
  have e : r = p + (r - p) := by omega
  generalize r - p = m at *
  subst e
  rw [List.range_add, List.drop_left' (by simp)]
theorem repl_flat {α : Type} (n : Nat) (x : α) : (List.replicate n [x]).flatten = List.replicate n x := by
  induction n with
  | zero => rfl
  | succ n ih => simp [List.replicate_succ, ih]
theorem repl_vrow (n : Nat) : List.replicate n (fr 0) = vrow n fun _ => 0 := by
  unfold vrow
  rw [List.map_const']
  simp
section
variable {k : Nat} (S : Store)
theorem vrow_snoc (n : Nat) (F : Nat → Nat → Rat) (v : Nat → Rat) (i : Nat) : vrow (n + 1) (aug n F (fun i _ => v i) i) = vrow n (F i) ++ [fr (v i)] := by
  rw [vrow_aug]; rfl
theorem spec_solve (hk : 6 ≤ k) {n a : Nat} {F : Nat → Nat → Rat} {v : Nat → Rat} (hr : n ≤ 20) (z : ∃ d, SzM a d n (n + 1) (aug n F fun i _ => v i)) (ha : 1 ≤ a) (hb : 2 ^ n * (a + 1) ≤ 4400) :
    callF defs cs97 k i_solve [tabD (mat n n F), rowD (vec n v)] S = some (if oddOf n (solRed n F v) = [] then rowD (vec n (ansOf n (solRed n F v).1 (solRed n F v).2.1)) else .non, S) := by
  obtain ⟨k, rfl, hj⟩ := lev hk
  have hsp := spec_reduced S hj hr (by omega) (show n ≤ n + 1 by omega) (by omega) z ha hb rw_lst rw_tup
  have hlen : seqOf S (tabD (mat n n F)) = some ((mat n n F).map rowD) := rfl
  have hpl : ∀ p ∈ (solRed n F v).2.1, p < n := red_places n
  have hll : (solRed n F v).2.1.length ≤ n := red_len n
  have hsp : callF defs cs97 k i_reduced [rowsW .lst .tup n (n + 1) (aug n F fun i _ => v i), natD n] S = some (.tup [.lst (rowsL n (n + 1) (solRed n F v).1), .lst ((solRed n F v).2.1.map natD), fr (solRed n F v).2.2], S) := hsp
  generalize hs : solRed n F v = s at *
  have hit : ∀ ρ : Env, ρ[0]? = some (some (tabD (mat n n F))) → ρ[1]? = some (some (rowD (vec n v))) → ev (G k) (.zip (.var 0) (.var 1)) ρ S = some (packG [] ((List.range n).map fun i => D.tup [.tup (vrow n (F i)), fr (v i)]), S) := fun ρ h0 h1 => by
    have := e_zip (g := G k) (e_var h0) (e_var h1) (S := S) (xs := (List.range n).map fun i => .tup (vrow n (F i))) (ys := (List.range n).map fun i => fr (v i)) (by rw [tabD_mat]; rfl) (by rw [rowD_vec]; rfl)
    rw [this, zip_rng]
    rfl
  have rows := e_lc (g := G k) (ρ := ([some (tabD (mat n n F)), some (rowD (vec n v)), some (natD n), none, none, none, none, none, none, none] : Env)) (elt := .bin .add (.var 8) (.tupE (.cons (.var 9) .nil))) (tg := .tup (.tcons (.nm 8) (.tcons (.nm 9) .tnil))) (own := [8, 9]) (fun i => D.tup [.tup (vrow n (F i)), fr (v i)]) (fun i => .tup (vrow (n + 1) (aug n F (fun i _ => v i) i))) (List.range n) (hit _ rfl rfl) (by simp [most]; omega) fun i hi => by
    refine ⟨_, by simp [setT, wipeE]; rfl, e_bin (e_var rfl) (e_tupE (e_cons (e_var rfl) e_nil)) ?_⟩
    simp only [binD, vrow_len, vrow_snoc, List.length_cons, List.length_nil]
    rw [if_pos (by unfold most; omega)]
  let ρ6 : Env := [some (tabD (mat n n F)), some (rowD (vec n v)), some (natD n), some (.lst (rowsL n (n + 1) s.1)), some (.lst (s.2.1.map natD)), some (fr s.2.2), none, none, none, none]
  have hodd : ev (G k) (.lc (.var 8) (.nm 8) (.it (.sl (.var 3) (.len (.var 4)) .nil)) (.cmp .ne (.idx (.var 8) (.var 2)) (.glob 0)) [8]) ρ6 S = some ([.lst ((oddOf n s).map fun i => .lst (vrow (n + 1) (s.1 i)))], S) := by
    have hit : ev (G k) (.it (.sl (.var 3) (.len (.var 4)) .nil)) ρ6 S = some (packG [] ((fromTo s.2.1.length n).map fun i => .lst (vrow (n + 1) (s.1 i))), S) := by
      have hc := cut_from (rowsL n (n + 1) s.1) s.2.1.length
      rw [rowsL_drop _ _ _ _ hll] at hc
      refine e_it (x := .lst ((fromTo s.2.1.length n).map fun i => .lst (vrow (n + 1) (s.1 i)))) ?_ rfl
      have hl := e_lenN (g := G k) (n := s.2.1.length) (e_var (g := G k) (S := S) (ρ := ρ6) (n := 4) rfl) rfl
      rw [ev, e_var (show ρ6[3]? = _ from rfl)]
      simp only [Option.bind_some, sg, hl, oInt, natD, e_nil, flat, hc]
    refine e_lcIf (fun i => .lst (vrow (n + 1) (s.1 i))) _ (fun i => decide (s.1 i n ≠ 0)) (fromTo s.2.1.length n) hit (by simp [fromTo, most]; omega) fun i hi => ?_
    refine ⟨_, by simp [setT, wipeE, ρ6]; rfl, ?_, fun _ => e_var rfl⟩
    refine e_cmp (e_idx (e_var rfl) (e_var rfl) rfl (vrow_get (by omega))) (e_glob (show cs97[0]? = some (fr 0) from rfl)) ?_
    simp only [cmpD, eqD_fr, Option.map_some]
    by_cases c : s.1 i n = 0 <;> simp [c]
  have pre : ∀ {rest : Sm} {r : Option Fl}, exec (G k) rest ρ6 S = r → exec (G k) (.seq (.asg (.nm 2) (.len (.var 0))) (.seq (.asg (.tup (.tcons (.nm 3) (.tcons (.nm 4) (.tcons (.nm 5) .tnil)))) (.call 42 (.cons (.lc (.bin .add (.var 8) (.tupE (.cons (.var 9) .nil))) (.tup (.tcons (.nm 8) (.tcons (.nm 9) .tnil))) (.zip (.var 0) (.var 1)) (.bl true) [8, 9]) (.cons (.var 2) .nil)))) rest)) [some (tabD (mat n n F)), some (rowD (vec n v)), none, none, none, none, none, none, none, none] S = r := fun {rest} {r} h =>
    x_seq (x_asg (e_lenN (n := n) (e_var rfl) hlen)) (x_seq (x_asgL (S1 := S) (e_call (e_args2 rows (e_var rfl)) hsp) (l_tup (l_cons l_nm (l_cons l_nm (l_cons l_nm l_nil))))) h)
  by_cases ho : oddOf n s = []
  · rw [if_pos ho]
    refine call_ret t_solve rfl rfl (S' := S ++ [C.lst (vrow n (ansOf n s.1 s.2.1))]) ?_ (by simp) (take_app _ _)
    refine pre ?_
    refine x_seq (S1 := S) (x_iteF (S1 := S) ?_ (by rw [exec])) ?_
    · have h := hodd
      rw [ho] at h
      refine e_cmp h (e_lstE e_nil) ?_
      have := eqD_yes S (n := 1) (d := .lst []) (by decide) rfl
      simp [cmpD, this]
    have hm : ev (G k) (.bin .mul (.lstE (.cons (.glob 0) .nil)) (.var 2)) ρ6 S = some ([.lst (vrow n fun _ => 0)], S) := by
      refine e_bin (e_lstE (e_cons (e_glob (show cs97[0]? = some (fr 0) from rfl)) e_nil)) (e_var rfl) ?_
      simp only [binD, natD, List.length_cons, List.length_nil]
      rw [if_pos (by unfold most; omega), Int.toNat_natCast, repl_flat, repl_vrow]
    refine x_seq (x_asg (e_mk hm) (by simp [ρ6])) ?_
    let Inv : (Nat → Rat) → Env → Store → Prop := fun A ρ S' => S' = S ++ [C.lst (vrow n A)] ∧ ∃ e7 e8 e9, ρ = [some (tabD (mat n n F)), some (rowD (vec n v)), some (natD n), some (.lst (rowsL n (n + 1) s.1)), some (.lst (s.2.1.map natD)), some (fr s.2.2), some (.cell S.length), e7, e8, e9]
    obtain ⟨ρ', S', hl, hS', e7, e8, e9, hρ'⟩ := for_inv (body := exec (G k) (.seq (.asg (.sub (.var 6) (.var 7)) (.idx (.var 8) (.var 2))) .done)) (t := .tup (.tcons (.nm 7) (.tcons (.nm 8) .tnil))) (fun p : Nat × Nat => D.tup [natD p.1, .lst (vrow (n + 1) (s.1 p.2))]) Inv (ansStep n s.1) (s.2.1.zip (List.range n)) (fun _ => 0) (ρ6.set 6 (some (.cell S.length))) (S ++ [C.lst (vrow n fun _ => 0)]) ⟨rfl, none, none, none, rfl⟩ fun l1 p l2 ρ S' e hi => by
      obtain ⟨rfl, e7, e8, e9, rfl⟩ := hi
      have hm : p ∈ s.2.1.zip (List.range n) := by rw [e]; simp
      have h1 := hpl _ (List.of_mem_zip hm).1
      have h2 := List.mem_range.mp (List.of_mem_zip hm).2
      generalize List.foldl (ansStep n s.1) (fun _ => 0) l1 = A
      refine ⟨_, by simp [setT]; rfl, _, _, .inl (x_seq (x_asgL (e_idx (e_var rfl) (e_var rfl) rfl (vrow_get (by omega))) (l_sub (e_var rfl) (e_var rfl) (get_last S _) (by simpa using h1))) (by rw [exec])), ?_⟩
      rw [set_last, set_vrow]
      exact ⟨rfl, _, _, _, rfl⟩
    subst hS'
    refine x_seq (ρ1 := ρ') (x_for (S1 := S ++ [C.lst (vrow n fun _ => 0)]) (h := fun p : Nat × Nat => D.tup [natD p.1, .lst (vrow (n + 1) (s.1 p.2))]) (l := s.2.1.zip (List.range n)) ?_ hl) ?_
    · have := e_zip (g := G k) (a := .var 4) (b := .var 3) (ρ := ρ6.set 6 (some (.cell S.length))) (S := S ++ [C.lst (vrow n fun _ => 0)]) (e_var rfl) (e_var rfl) (xs := s.2.1.map natD) (ys := rowsL n (n + 1) s.1) rfl rfl
      refine this.trans ?_
      unfold rowsL
      rw [zip_map]
      rfl
    · rw [hρ']
      refine x_seqR (x_ret ?_)
      refine Eq.trans ?_ (congrArg (fun d => some ([d], S ++ [C.lst (vrow n (ansOf n s.1 s.2.1))])) (rowD_vec n _).symm)
      exact e_tuple (e_var rfl) (seq_cell (get_last _ _))
  · rw [if_neg ho]
    refine call_ret t_solve rfl rfl (S' := S) ?_ (by simp [pureD]) (take_self S)
    refine pre ?_
    refine x_seqR (x_iteT (S1 := S) ?_ (x_seqR (x_ret e_non)))
    have h := hodd
    refine e_cmp h (e_lstE e_nil) ?_
    have hne : ((oddOf n s).map fun i => D.lst (vrow (n + 1) (s.1 i))) ≠ [] := by simpa using ho
    have := eqD_no S (n := 3) (m := 1) (d := .lst ((oddOf n s).map fun i => D.lst (vrow (n + 1) (s.1 i)))) (e := .lst []) (by decide) (by decide) (by
      simp only [layD]
      exact lays_map fun _ _ => by simp only [layD]; exact lays_map fun _ _ => lay_fr 0 _) rfl (by simpa using hne)
    simp [cmpD, this]
end
end Ev

set_option Elab.async false
set_option linter.all false
set_option maxRecDepth 100000
set_option maxHeartbeats 4000000
set_option autoImplicit false
set_option exponentiation.threshold 10000
/-! spec: less_row, gone_through where nothing is below 0 -/
namespace Ev
open PySem
structure Gon where
  L : Nat → Nat → Rat
  M : Nat → Nat → Rat
  ws : List Rat
  cs : List (Nat → Rat)
def colF (L : Nat → Nat → Rat) (h : Nat) : Nat → Rat := fun i => if h ≤ i then L i h / L h h else 0
/-- rows behind h less so much of row h -/
def lowF (n : Nat) (L : Nat → Nat → Rat) (h : Nat) (c : Nat → Rat) : Nat → Nat → Rat := fun i j => if h < i ∧ i < n then L i j - c i * L h j else L i j
def goStep (n : Nat) (s : Gon) (h : Nat) : Gon := if s.L h h = 0 then s else ⟨lowF n s.L h (colF s.L h), lowF n s.M h (colF s.L h), s.ws ++ [s.L h h], s.cs ++ [colF s.L h]⟩
def goN (n t : Nat) (F : Nat → Nat → Rat) : Gon := (List.range t).foldl (goStep n) ⟨F, Ident, [], []⟩
/-- nothing below 0, no tie broken -/
def goOk (n : Nat) (s : Gon) (h : Nat) : Prop := 0 ≤ s.L h h ∧ (s.L h h = 0 → ∀ k, h < k → k < n → s.L h k = 0)
def updF (h : Nat) (c : Nat → Rat) (F : Nat → Nat → Rat) (k : Nat) : Nat → Nat → Rat := fun i j => if i = k then F i j - c i * F h j else F i j
theorem upd_fold (n h : Nat) (c : Nat → Rat) (F : Nat → Nat → Rat) : ∀ t, h + 1 + t ≤ n → ((List.range t).map (h + 1 + ·)).foldl (updF h c) F = lowF (h + 1 + t) F h c
  | 0, _ => by
    funext i j
    simp [lowF]
    omega
  | t + 1, ht => by
    have ih := upd_fold n h c F t (by omega)
    rw [List.range_succ, List.map_append, List.foldl_append, ih]
    funext i j
    simp only [List.map_cons, List.map_nil, List.foldl_cons, List.foldl_nil, updF, lowF]
    by_cases c1 : i = h + 1 + t
    · rw [if_pos c1, if_neg (by omega), if_neg (by omega), if_pos (by omega)]
    · rw [if_neg c1]
      by_cases c2 : h < i ∧ i < h + 1 + t
      · rw [if_pos c2, if_pos (by omega)]
      · rw [if_neg c2, if_neg (by omega)]
/-! ### sizes -/
theorem col_sz {a d n : Nat} {L : Nat → Nat → Rat} (z : SzM a d n n L) {h : Nat} (hh : h < n) (h0 : L h h ≠ 0) : ∃ e, 0 < e ∧ e < 2 ^ a ∧ ∀ i, i < n → Q a e (colF L h i) := by
  obtain ⟨P, e, hP⟩ := z.q h h hh hh
  have hP0 : P ≠ 0 := by
    intro c
    rw [c] at e
    exact h0 (by rw [e]; simp)
  refine ⟨P.natAbs, by omega, hP, fun i hi => ?_⟩
  unfold colF
  split
  · obtain ⟨R, e2, hR⟩ := z.q i h hi hh
    refine ⟨P.sign * R, ?_, by rw [Int.natAbs_mul, Int.natAbs_sign, if_neg hP0, Nat.one_mul]; exact hR⟩
    rw [e, e2, div_cross z.pos hP0, div_sign hP0]
  · exact Q.zero _ _
theorem low_sz {a b d e n h : Nat} {M : Nat → Nat → Rat} {c : Nat → Rat} (z : SzM b d n n M) (hh : h < n) (e0 : 0 < e) (he : e < 2 ^ a) (hc : ∀ i, i < n → Q a e (c i)) :
    SzM (a + b + 1) (d * e) n n (lowF n M h c) ∧ ∀ i j, i < n → j < n → Q (a + b + 1) (d * e) (c i * M h j) := by
  have prod : ∀ i j, i < n → j < n → Q (a + b) (d * e) (c i * M h j) := fun i j hi hj => ((hc i hi).mul (z.q h j hh hj)).comm
  refine ⟨⟨Nat.mul_pos z.pos e0, Nat.lt_of_lt_of_le (pow_add_lt z.lt he) (Nat.pow_le_pow_right (by decide) (by omega)), fun i j hi hj => ?_⟩, fun i j hi hj => (prod i j hi hj).mono (by omega)⟩
  have up := ((z.q i j hi hj).up e0 he).mono (show b + a ≤ a + b by omega)
  unfold lowF
  split
  · exact Q.sub (Nat.mul_pos z.pos e0) up (prod i j hi hj) (by omega)
  · exact up.mono (by omega)
structure SzG (a b n : Nat) (s : Gon) : Prop where
  l : ∃ d, SzM a d n n s.L
  m : ∃ d, SzM b d n n s.M
theorem SzM.mono {a b d n m : Nat} {F : Nat → Nat → Rat} (z : SzM a d n m F) (h : a ≤ b) : SzM b d n m F :=
  ⟨z.pos, Nat.lt_of_lt_of_le z.lt (Nat.pow_le_pow_right (by decide) h), fun i j hi hj => (z.q i j hi hj).mono h⟩
theorem go_step_sz {a b n h : Nat} {s : Gon} (z : SzG a b n s) (hh : h < n) : SzG (2 * a + 1) (a + b + 1) n (goStep n s h) := by
  obtain ⟨⟨d, zl⟩, e, zm⟩ := z
  unfold goStep
  split
  · exact ⟨⟨d, zl.mono (by omega)⟩, e, zm.mono (by omega)⟩
  · rename_i h0
    obtain ⟨g, g0, g1, hc⟩ := col_sz zl hh h0
    refine ⟨⟨d * g, ?_⟩, e * g, (low_sz zm hh g0 g1 hc).1⟩
    have := (low_sz zl hh g0 g1 hc).1
    rw [show 2 * a + 1 = a + a + 1 by omega]
    exact this
theorem go_sz {a n : Nat} {F : Nat → Nat → Rat} (h : ∃ d, SzM a d n n F) (ha : 1 ≤ a) : ∀ t, t ≤ n → SzG (2 ^ t * (a + 1) - 1) (2 ^ t * (a + 1)) n (goN n t F)
  | 0, _ => by
    refine ⟨?_, 1, (ident_sz n).mono (by omega)⟩
    rw [show 2 ^ 0 * (a + 1) - 1 = a by omega]; exact h
  | t + 1, ht => by
    have ih := go_sz h ha t (by omega)
    have st := go_step_sz ih (h := t) (by omega)
    have e : goN n (t + 1) F = goStep n (goN n t F) t := by unfold goN; rw [List.range_succ, List.foldl_append]; rfl
    rw [e]
    have hp : 0 < 2 ^ t * (a + 1) := Nat.mul_pos (Nat.two_pow_pos _) (by omega)
    have e1 : 2 ^ (t + 1) * (a + 1) = 2 * (2 ^ t * (a + 1)) := by rw [Nat.pow_succ, Nat.mul_comm (2 ^ t) 2, Nat.mul_assoc]
    generalize 2 ^ t * (a + 1) = x at *
    rw [e1]
    obtain ⟨⟨d, l⟩, e, m⟩ := st
    exact ⟨⟨d, l.mono (by omega)⟩, e, m.mono (by omega)⟩
/-! ### less_row -/
section
variable {k : Nat} (S : Store)
theorem spec_less_row (hk : 4 ≤ k) {n : Nat} (hn : n ≤ 1000) {u v : Nat → Rat} {c : Rat} (hc : ok c) (hu : ∀ i, i < n → ok (u i)) (hv : ∀ i, i < n → ok (v i) ∧ ok (c * v i)) {w1 w2 : List D → D} (h1 : Rw w1) (h2 : Rw w2) :
    callF defs cs97 k i_less_row [w1 (vrow n u), w2 (vrow n v), fr c] S = some (.lst (vrow n fun i => u i - c * v i), S) := by
  obtain ⟨k, rfl, hj⟩ := lev hk
  refine call_ret t_less_row rfl rfl (S' := S) ?_ (by simp only [pureD]; exact pures_vrow _ _) (take_self S)
  show exec (G k) b_less_row [some (w1 (vrow n u)), some (w2 (vrow n v)), some (fr c), none, none] S = _
  refine x_seqR (x_ret ?_)
  refine e_lc (gd := []) (fun i => D.tup [fr (u i), fr (v i)]) (fun i => fr (u i - c * v i)) (List.range n) ?_ (by simp [most]; omega) fun i hi => ?_
  · refine (e_zip (e_var rfl) (e_var rfl) (seq_rw S h1 _) (seq_rw S h2 _)).trans ?_
    rw [grd_rw h1, grd_rw h2]
    unfold vrow
    rw [zip_rng]
    rfl
  · have hi := List.mem_range.mp hi
    refine ⟨_, by simp [setT, wipeE]; rfl, ?_⟩
    exact e_call (e_args2 (e_var rfl) (e_call (e_args2 (e_var rfl) (e_var rfl)) (spec_multiply S (by omega) hc (hv i hi).1))) (spec_take S (by omega) (hu i hi) (hv i hi).2)
end
end Ev

set_option Elab.async false
set_option linter.all false
set_option maxRecDepth 100000
set_option maxHeartbeats 4000000
set_option autoImplicit false
set_option exponentiation.threshold 10000
/-! spec: gone_through where nothing is below 0 -/
namespace Ev
open PySem
theorem gA (S T : Store) (i : Nat) : (S ++ T)[S.length + i]? = T[i]? := by
  rw [List.getElem?_append_right (by omega), Nat.add_sub_cancel_left]
theorem sA (S T : Store) (i : Nat) (c : C) : (S ++ T).set (S.length + i) c = S ++ T.set i c := by
  rw [List.set_append_right _ _ (by omega), Nat.add_sub_cancel_left]
theorem rowsL_set (r w : Nat) (F : Nat → Nat → Rat) (k : Nat) (g : Nat → Rat) : (rowsL r w F).set k (.lst (vrow w g)) = rowsL r w fun i => if i = k then g else F i := by
  unfold rowsL
  rw [set_range]
  refine List.map_congr_left fun i _ => ?_
  by_cases h : i = k <;> simp [h]
abbrev goBody : Sm :=
    (.seq (.asg (.nm 7) (.idx (.idx (.var 2) (.var 6)) (.var 6)))
    (.seq (.ite (.cmp .lt (.idx (.var 7) (.int 0)) (.int 0))
    (.seq (.ret (.tupE (.cons .non (.cons (.call 24 (.cons (.tuple (.idx (.var 3) (.var 6))) .nil)) .nil))))
    .done)
    .done)
    (.seq (.ite (.cmp .eq (.idx (.var 7) (.int 0)) (.int 0))
    (.seq (.asg (.nm 12) (.lc (.var 9) (.nm 9) (.rng2 (.bin .add (.var 6) (.int 1)) (.var 1)) (.cmp .ne (.idx (.idx (.var 2) (.var 6)) (.var 9)) (.glob 0)) [9]))
    (.seq (.ite (.cmp .ne (.var 12) (.lstE .nil))
    (.seq (.ret (.tupE (.cons .non (.cons (.call 49 (.cons (.var 2) (.cons (.var 3) (.cons (.var 6) (.cons (.idx (.var 12) (.int 0)) .nil))))) .nil))))
    .done)
    .done)
    (.seq .cnt
    .done)))
    .done)
    (.seq (.app (.var 4) (.var 7))
    (.seq (.asg (.nm 8) (.lc (.ite (.cmp .ge (.var 9) (.var 6)) (.call 20 (.cons (.idx (.idx (.var 2) (.var 9)) (.var 6)) (.cons (.var 7) .nil))) (.glob 0)) (.nm 9) (.rng1 (.var 1)) (.bl true) [9]))
    (.seq (.app (.var 5) (.var 8))
    (.seq (.forL (.nm 9) (.rng2 (.bin .add (.var 6) (.int 1)) (.var 1))
    (.seq (.asg (.sub (.var 3) (.var 9)) (.call 47 (.cons (.idx (.var 3) (.var 9)) (.cons (.idx (.var 3) (.var 6)) (.cons (.idx (.var 8) (.var 9)) .nil)))))
    .done))
    (.seq (.asg (.nm 10) (.list (.idx (.var 2) (.var 6))))
    (.seq (.forL (.nm 9) (.rng2 (.bin .add (.var 6) (.int 1)) (.var 1))
    (.seq (.asg (.sub (.var 2) (.var 9)) (.call 47 (.cons (.idx (.var 2) (.var 9)) (.cons (.var 10) (.cons (.idx (.var 8) (.var 9)) .nil)))))
    .done))
    .done)))))))))
def csL (n : Nat) (cs : List (Nat → Rat)) : List D := cs.map fun c => .lst (vrow n c)
def stG (n : Nat) (s : Gon) : Store := [C.lst (rowsL n n s.L), C.lst (rowsL n n s.M), C.lst (s.ws.map fr), C.lst (csL n s.cs)]
def InvG (T : D) (n : Nat) (S0 : Store) (s : Gon) (ρ : Env) (S : Store) : Prop := S = S0 ++ stG n s ∧ ∃ e6 e7 e8 e9 e10 e11 e12 e13, ρ = [some T, some (natD n), some (.cell (S0.length + 0)), some (.cell (S0.length + 1)), some (.cell (S0.length + 2)), some (.cell (S0.length + 3)), e6, e7, e8, e9, e10, e11, e12, e13]
theorem x_done {g : GC} {ρ : Env} {S : Store} : exec g .done ρ S = some (.nx ρ S) := by rw [exec]
theorem x_seqCt {g : GC} {a b : Sm} {ρ ρ1 : Env} {S S1 : Store} (h : exec g a ρ S = some (.ct ρ1 S1)) : exec g (.seq a b) ρ S = some (.ct ρ1 S1) := by
  rw [exec, h]; rfl
theorem binAdd1 (S : Store) (h : Nat) : binD S .add (natD h) (.int 1) = some (natD (h + 1)) := rfl
section
variable {k : Nat}
theorem go_iter (hk : 5 ≤ k) {T : D} {n h a b : Nat} {S0 S : Store} {s : Gon} {ρ : Env} (hn : n ≤ 20) (hh : h < n) (hw : s.ws.length ≤ h) (hcs : s.cs.length ≤ h) (z : SzG a b n s) (ha : 2 * a + 1 ≤ 4400) (hb : a + b + 1 ≤ 4400) (hok : goOk n s h)
    (hi : InvG T n S0 s ρ S) : ∃ ρ1, setT (.nm 6) [natD h] ρ = some ρ1 ∧ ∃ ρ2 S2, (exec (G k) goBody ρ1 S = some (.nx ρ2 S2) ∨ exec (G k) goBody ρ1 S = some (.ct ρ2 S2)) ∧ InvG T n S0 (goStep n s h) ρ2 S2 := by
  obtain ⟨rfl, e6, e7, e8, e9, e10, e11, e12, e13, rfl⟩ := hi
  obtain ⟨L, M, ws, cs⟩ := s
  obtain ⟨⟨d, zl⟩, e, zm⟩ := z
  simp only at hw hcs zl zm
  obtain ⟨ok1, ok2⟩ := hok
  simp only at ok1 ok2
  let A := some T; let B := some (natD n); let c2 := some (D.cell (S0.length + 0)); let c3 := some (D.cell (S0.length + 1)); let c4 := some (D.cell (S0.length + 2)); let c5 := some (D.cell (S0.length + 3))
  refine ⟨[A, B, c2, c3, c4, c5, some (natD h), e7, e8, e9, e10, e11, e12, e13], by simp [setT]; exact ⟨rfl, rfl, rfl, rfl, rfl, rfl⟩, ?_⟩
  let ρ7 : Env := [A, B, c2, c3, c4, c5, some (natD h), some (fr (L h h)), e8, e9, e10, e11, e12, e13]
  let S1 := S0 ++ stG n ⟨L, M, ws, cs⟩
  have hL : S1[S0.length + 0]? = some (C.lst (rowsL n n L)) := gA _ _ _
  have a1 : ∀ e7, ev (G k) (.idx (.idx (.var 2) (.var 6)) (.var 6)) [A, B, c2, c3, c4, c5, some (natD h), e7, e8, e9, e10, e11, e12, e13] S1 = some ([fr (L h h)], S1) := fun e7 =>
    e_idx (e_idx (e_var rfl) (e_var rfl) (seq_cell hL) (rowsL_get hh)) (e_var rfl) rfl (vrow_get hh)
  have a2 : ev (G k) (.cmp .lt (.idx (.var 7) (.int 0)) (.int 0)) ρ7 S1 = some ([.bl false], S1) := by
    refine e_cmp (e_idx (i := 0) (e_var rfl) e_int rfl (idx_nat _ 0 (by simp))) e_int ?_
    have : ¬ (L h h).num < 0 := fun c => by
      have := Rat.num_nonneg.mpr ok1
      omega
    simp [cmpD, this]
  have a3 : ev (G k) (.cmp .eq (.idx (.var 7) (.int 0)) (.int 0)) ρ7 S1 = some ([.bl (decide (L h h = 0))], S1) := by
    refine e_cmp (e_idx (i := 0) (e_var rfl) e_int rfl (idx_nat _ 0 (by simp))) e_int ?_
    show eqD S1 (.int (L h h).num) (.int 0) = _
    rw [eqD_int]
    have := Rat.num_eq_zero (q := L h h)
    by_cases c : L h h = 0
    · rw [decide_eq_true c, decide_eq_true (this.mpr c)]
    · rw [decide_eq_false c, decide_eq_false (fun z => c (this.mp z))]
  have rg : ∀ ρ S, ρ[6]? = some (some (natD h)) → ρ[1]? = some (some (natD n)) → ev (G k) (.rng2 (.bin .add (.var 6) (.int 1)) (.var 1)) ρ S = some (packG [] (((List.range (n - (h + 1))).map (h + 1 + ·)).map natD), S) := fun ρ S h6 h1 => by
    refine (e_rng2 (m := h + 1) (n := n) (e_bin (e_var h6) e_int (binAdd1 S h)) (e_var h1) (by omega) (by omega)).trans ?_
    simp
    rfl
  by_cases h0 : L h h = 0
  · rw [decide_eq_true h0] at a3
    have es : goStep n ⟨L, M, ws, cs⟩ h = ⟨L, M, ws, cs⟩ := by simp [goStep, h0]
    rw [es]
    refine ⟨[A, B, c2, c3, c4, c5, some (natD h), some (fr (L h h)), e8, e9, e10, e11, some (.lst []), e13], S1, .inr ?_, rfl, _, _, _, _, _, _, _, _, rfl⟩
    refine x_seq (x_asg (a1 e7)) (x_seq (x_iteF a2 (by rw [exec])) ?_)
    have tied : ev (G k) (.lc (.var 9) (.nm 9) (.rng2 (.bin .add (.var 6) (.int 1)) (.var 1)) (.cmp .ne (.idx (.idx (.var 2) (.var 6)) (.var 9)) (.glob 0)) [9]) ρ7 S1 = some ([.lst []], S1) := by
      have := e_lcIf (g := G k) (ρ := ρ7) (S := S1) (S1 := S1) (elt := .var 9) (it := .rng2 (.bin .add (.var 6) (.int 1)) (.var 1)) (cnd := .cmp .ne (.idx (.idx (.var 2) (.var 6)) (.var 9)) (.glob 0)) (tg := .nm 9) (own := [9]) (gd := []) natD natD (fun _ => false) ((List.range (n - (h + 1))).map (h + 1 + ·)) (rg _ _ rfl rfl) (by simp [most]; omega) fun t ht => by
        obtain ⟨t', ht', rfl⟩ := List.mem_map.mp ht
        have := List.mem_range.mp ht'
        refine ⟨_, by simp [setT, wipeE, ρ7]; rfl, ?_, fun z => by cases z⟩
        refine e_cmp (e_idx (e_idx (e_var rfl) (e_var rfl) (seq_cell hL) (rowsL_get hh)) (e_var rfl) rfl (vrow_get (show h + 1 + t' < n by omega))) (e_glob (show cs97[0]? = some (fr 0) from rfl)) ?_
        simp only [cmpD, eqD_fr, Option.map_some]
        rw [ok2 h0 (h + 1 + t') (by omega) (by omega)]
        simp
      rw [List.filter_eq_nil_iff.mpr (by simp)] at this
      exact this
    have inner : exec (G k) (.ite (.cmp .eq (.idx (.var 7) (.int 0)) (.int 0)) (.seq (.asg (.nm 12) (.lc (.var 9) (.nm 9) (.rng2 (.bin .add (.var 6) (.int 1)) (.var 1)) (.cmp .ne (.idx (.idx (.var 2) (.var 6)) (.var 9)) (.glob 0)) [9]))
        (.seq (.ite (.cmp .ne (.var 12) (.lstE .nil)) (.seq (.ret (.tupE (.cons .non (.cons (.call 49 (.cons (.var 2) (.cons (.var 3) (.cons (.var 6) (.cons (.idx (.var 12) (.int 0)) .nil))))) .nil)))) .done) .done) (.seq .cnt .done))) .done) ρ7 S1 = some (.ct (ρ7.set 12 (some (.lst []))) S1) := by
      refine x_iteT a3 (x_seq (x_asg tied (by simp [ρ7])) (x_seq (x_iteF (S1 := S1) ?_ (by rw [exec])) ?_))
      · refine e_cmp (e_var rfl) (e_lstE e_nil) ?_
        have := eqD_yes S1 (n := 1) (d := .lst []) (by decide) rfl
        simp [cmpD, this]
      · rw [exec, exec]; rfl
    exact x_seqCt inner
  · rw [decide_eq_false h0] at a3
    have okh : ok (L h h) := zl.ok (by omega) hh hh
    have es : goStep n ⟨L, M, ws, cs⟩ h = ⟨lowF n L h (colF L h), lowF n M h (colF L h), ws ++ [L h h], cs ++ [colF L h]⟩ := by simp [goStep, h0]
    obtain ⟨g, g0, g1, hc⟩ := col_sz zl hh h0
    have ga : g < 2 ^ 4400 := Nat.lt_of_lt_of_le g1 (Nat.pow_le_pow_right (by decide) (by omega))
    have okc : ∀ i, i < n → ok (colF L h i) := fun i hi => (hc i hi).ok g0 ga (by omega)
    have zl2 := low_sz zl hh g0 g1 hc
    have zm2 := low_sz zm hh g0 g1 hc
    have okl : ∀ i j, i < n → j < n → ok (colF L h i * L h j) := fun i j hi hj => (zl2.2 i j hi hj).ok zl2.1.pos (Nat.lt_of_lt_of_le zl2.1.lt (Nat.pow_le_pow_right (by decide) (by omega))) (by omega)
    have okm : ∀ i j, i < n → j < n → ok (colF L h i * M h j) := fun i j hi hj => (zm2.2 i j hi hj).ok zm2.1.pos (Nat.lt_of_lt_of_le zm2.1.lt (Nat.pow_le_pow_right (by decide) (by omega))) (by omega)
    rw [es]
    generalize hcol : colF L h = col at *
    -- the store after each step
    let S2 := S0 ++ [C.lst (rowsL n n L), C.lst (rowsL n n M), C.lst ((ws ++ [L h h]).map fr), C.lst (csL n cs)]
    let S3 := S0 ++ [C.lst (rowsL n n L), C.lst (rowsL n n M), C.lst ((ws ++ [L h h]).map fr), C.lst (csL n (cs ++ [col]))]
    have x1 : exec (G k) (.app (.var 4) (.var 7)) ρ7 S1 = some (.nx ρ7 S2) := by
      have hg : S1[S0.length + 2]? = some (C.lst (ws.map fr)) := gA _ _ _
      have := x_app (g := G k) (ρ := ρ7) (S := S1) (o := .var 4) (e := .var 7) (n := S0.length + 2) (e_var rfl) (e_var rfl) hg hg (by simp [most]; omega)
      rw [this, sA]
      simp [stG, S2]
    let ρ8 : Env := [A, B, c2, c3, c4, c5, some (natD h), some (fr (L h h)), some (.lst (vrow n col)), e9, e10, e11, e12, e13]
    have hL2 : S2[S0.length + 0]? = some (C.lst (rowsL n n L)) := gA _ _ _
    have x2 : exec (G k) (.asg (.nm 8) (.lc (.ite (.cmp .ge (.var 9) (.var 6)) (.call 20 (.cons (.idx (.idx (.var 2) (.var 9)) (.var 6)) (.cons (.var 7) .nil))) (.glob 0)) (.nm 9) (.rng1 (.var 1)) (.bl true) [9])) ρ7 S2 = some (.nx ρ8 S2) := by
      refine x_asg (S1 := S2) (d := .lst (vrow n col)) ?_ (by simp [ρ7])
      refine e_lc natD (fun i => fr (col i)) (List.range n) (e_rng1 (e_var rfl) (by omega)) (by simp [most]; omega) fun i hi => ?_
      have hi := List.mem_range.mp hi
      refine ⟨_, by simp [setT, wipeE, ρ7]; rfl, ?_⟩
      by_cases c : h ≤ i
      · have e1 : col i = L i h / L h h := by rw [← hcol]; simp [colF, c]
        rw [e1]
        refine e_iteT (S1 := S2) (e_cmp (e_var rfl) (e_var rfl) (by simp [cmpD, natD]; exact c)) ?_
        exact e_call (e_args2 (e_idx (e_idx (e_var rfl) (e_var rfl) (seq_cell hL2) (rowsL_get hi)) (e_var rfl) rfl (vrow_get hh)) (e_var rfl)) (spec_divide S2 (by omega) (zl.ok (by omega) hi hh) okh h0)
      · have e1 : col i = 0 := by rw [← hcol]; simp [colF, c]
        rw [e1]
        exact e_iteF (S1 := S2) (e_cmp (e_var rfl) (e_var rfl) (by simp [cmpD, natD]; omega)) (e_glob rfl)
    have x3 : exec (G k) (.app (.var 5) (.var 8)) ρ8 S2 = some (.nx ρ8 S3) := by
      have hg : S2[S0.length + 3]? = some (C.lst (csL n cs)) := gA _ _ _
      have := x_app (g := G k) (ρ := ρ8) (S := S2) (o := .var 5) (e := .var 8) (n := S0.length + 3) (e_var rfl) (e_var rfl) hg hg (by simp [csL, most]; omega)
      rw [this, sA]
      simp [S3, csL]
    -- the loop over made_of
    let stM : (Nat → Nat → Rat) → Store := fun M' => S0 ++ [C.lst (rowsL n n L), C.lst (rowsL n n M'), C.lst ((ws ++ [L h h]).map fr), C.lst (csL n (cs ++ [col]))]
    let InvM : (Nat → Nat → Rat) → Env → Store → Prop := fun M' ρ S => S = stM M' ∧ ∃ e9, ρ = [A, B, c2, c3, c4, c5, some (natD h), some (fr (L h h)), some (.lst (vrow n col)), e9, e10, e11, e12, e13]
    have part : ∀ {l1 l2 : List Nat} {kk : Nat}, (List.range (n - (h + 1))).map (h + 1 + ·) = l1 ++ kk :: l2 → ∃ t, h + 1 + t < n ∧ kk = h + 1 + t ∧ l1 = (List.range t).map (h + 1 + ·) := fun {l1 l2 kk} e => by
      obtain ⟨a1, a2, e1, e2, e3⟩ := List.map_eq_append_iff.mp e
      obtain ⟨b1, b2, rfl, e4, e5⟩ := List.map_eq_cons_iff.mp e3
      obtain ⟨e6, e7⟩ := range_split e1
      subst e6
      exact ⟨b1, by omega, e4.symm, e2.symm⟩
    obtain ⟨ρM, SM, hlM, rfl, e9', rfl⟩ := for_inv (body := exec (G k) (.seq (.asg (.sub (.var 3) (.var 9)) (.call 47 (.cons (.idx (.var 3) (.var 9)) (.cons (.idx (.var 3) (.var 6)) (.cons (.idx (.var 8) (.var 9)) .nil))))) .done)) (t := .nm 9) natD InvM (updF h col) ((List.range (n - (h + 1))).map (h + 1 + ·)) M ρ8 S3 ⟨rfl, e9, rfl⟩ fun l1 kk l2 ρ S e hi => by
      obtain ⟨t, ht, rfl, rfl⟩ := part e
      obtain ⟨rfl, e9, rfl⟩ := hi
      rw [upd_fold n h col M t (by omega)]
      generalize hM' : lowF (h + 1 + t) M h col = M'
      have m1 : M' h = M h := by rw [← hM']; funext j; simp [lowF]
      have m2 : M' (h + 1 + t) = M (h + 1 + t) := by rw [← hM']; funext j; simp [lowF]
      have hg : (stM M')[S0.length + 1]? = some (C.lst (rowsL n n M')) := gA _ _ _
      have sp := spec_less_row (stM M') (k := k) (n := n) (u := M' (h + 1 + t)) (v := M' h) (c := col (h + 1 + t)) (by omega) (by omega) (okc _ (by omega)) (fun i hi => by rw [m2]; exact zm.ok (by omega) (by omega) hi) (fun i hi => by rw [m1]; exact ⟨zm.ok (by omega) hh hi, okm _ _ (by omega) hi⟩) rw_lst rw_lst
      refine ⟨_, by simp [setT]; rfl, _, _, .inl (x_seq (x_asgL (e_call (e_args3 (e_idx (e_var rfl) (e_var rfl) (seq_cell hg) (rowsL_get ht)) (e_idx (e_var rfl) (e_var rfl) (seq_cell hg) (rowsL_get hh)) (e_idx (e_var rfl) (e_var rfl) rfl (vrow_get ht))) sp) (l_sub (e_var rfl) (e_var rfl) hg (by simpa using ht))) (by rw [exec])), ?_, _, rfl⟩
      rw [rowsL_set, sA]
      have : (fun i => if i = h + 1 + t then fun j => M' (h + 1 + t) j - col (h + 1 + t) * M' h j else M' i) = updF h col M' (h + 1 + t) := by
        funext i j
        unfold updF
        by_cases c : i = h + 1 + t
        · subst c; simp
        · simp [c]
      rw [this]
      rfl
    rw [upd_fold n h col M _ (by omega), show h + 1 + (n - (h + 1)) = n by omega] at hlM
    -- the row on top
    let S4 := stM (lowF n M h col)
    have hL4 : S4[S0.length + 0]? = some (C.lst (rowsL n n L)) := gA _ _ _
    let ρ9 : Env := [A, B, c2, c3, c4, c5, some (natD h), some (fr (L h h)), some (.lst (vrow n col)), e9', some (.lst (vrow n (L h))), e11, e12, e13]
    have x5 : exec (G k) (.asg (.nm 10) (.list (.idx (.var 2) (.var 6)))) [A, B, c2, c3, c4, c5, some (natD h), some (fr (L h h)), some (.lst (vrow n col)), e9', e10, e11, e12, e13] S4 = some (.nx ρ9 S4) :=
      x_asg (e_list (e_idx (e_var rfl) (e_var rfl) (seq_cell hL4) (rowsL_get hh)) rfl)
    let stL : (Nat → Nat → Rat) → Store := fun L' => S0 ++ [C.lst (rowsL n n L'), C.lst (rowsL n n (lowF n M h col)), C.lst ((ws ++ [L h h]).map fr), C.lst (csL n (cs ++ [col]))]
    let InvL : (Nat → Nat → Rat) → Env → Store → Prop := fun L' ρ S => S = stL L' ∧ ∃ e9, ρ = [A, B, c2, c3, c4, c5, some (natD h), some (fr (L h h)), some (.lst (vrow n col)), e9, some (.lst (vrow n (L h))), e11, e12, e13]
    obtain ⟨ρL, SL, hlL, rfl, e9'', rfl⟩ := for_inv (body := exec (G k) (.seq (.asg (.sub (.var 2) (.var 9)) (.call 47 (.cons (.idx (.var 2) (.var 9)) (.cons (.var 10) (.cons (.idx (.var 8) (.var 9)) .nil))))) .done)) (t := .nm 9) natD InvL (updF h col) ((List.range (n - (h + 1))).map (h + 1 + ·)) L ρ9 S4 ⟨rfl, e9', rfl⟩ fun l1 kk l2 ρ S e hi => by
      obtain ⟨t, ht, rfl, rfl⟩ := part e
      obtain ⟨rfl, e9, rfl⟩ := hi
      rw [upd_fold n h col L t (by omega)]
      generalize hM' : lowF (h + 1 + t) L h col = L'
      have m1 : L' h = L h := by rw [← hM']; funext j; simp [lowF]
      have m2 : L' (h + 1 + t) = L (h + 1 + t) := by rw [← hM']; funext j; simp [lowF]
      have hg : (stL L')[S0.length + 0]? = some (C.lst (rowsL n n L')) := gA _ _ _
      have sp := spec_less_row (stL L') (k := k) (n := n) (u := L' (h + 1 + t)) (v := L h) (c := col (h + 1 + t)) (by omega) (by omega) (okc _ (by omega)) (fun i hi => by rw [m2]; exact zl.ok (by omega) (by omega) hi) (fun i hi => ⟨zl.ok (by omega) hh hi, okl _ _ (by omega) hi⟩) rw_lst rw_lst
      refine ⟨_, by simp [setT]; rfl, _, _, .inl (x_seq (x_asgL (e_call (e_args3 (e_idx (e_var rfl) (e_var rfl) (seq_cell hg) (rowsL_get ht)) (e_var rfl) (e_idx (e_var rfl) (e_var rfl) rfl (vrow_get ht))) sp) (l_sub (e_var rfl) (e_var rfl) hg (by simpa using ht))) (by rw [exec])), ?_, _, rfl⟩
      rw [rowsL_set, sA]
      have : (fun i => if i = h + 1 + t then fun j => L' (h + 1 + t) j - col (h + 1 + t) * L h j else L' i) = updF h col L' (h + 1 + t) := by
        funext i j
        unfold updF
        by_cases c : i = h + 1 + t
        · subst c; simp [m1]
        · simp [c]
      rw [this]
      rfl
    rw [upd_fold n h col L _ (by omega), show h + 1 + (n - (h + 1)) = n by omega] at hlL
    refine ⟨[A, B, c2, c3, c4, c5, some (natD h), some (fr (L h h)), some (.lst (vrow n col)), e9'', some (.lst (vrow n (L h))), e11, e12, e13], stL (lowF n L h col), .inl ?_, rfl, some (natD h), some (fr (L h h)), some (.lst (vrow n col)), e9'', some (.lst (vrow n (L h))), e11, e12, e13, rfl⟩
    refine x_seq (x_asg (a1 e7)) (x_seq (x_iteF a2 x_done) (x_seq (x_iteF a3 x_done) (x_seq x1 (x_seq x2 (x_seq x3 ?_)))))
    exact x_seq (x_for (rg _ _ rfl rfl) hlM) (x_seq x5 (x_seq (x_for (rg _ _ rfl rfl) hlL) (by rw [exec])))
end
end Ev

set_option Elab.async false
set_option linter.all false
set_option maxRecDepth 100000
set_option maxHeartbeats 4000000
set_option autoImplicit false
set_option exponentiation.threshold 10000
/-! spec: gone_through, never_below and what leans on them -/
namespace Ev
open PySem
theorem go_lens {n : Nat} {F : Nat → Nat → Rat} : ∀ t, (goN n t F).ws.length ≤ t ∧ (goN n t F).cs.length ≤ t
  | 0 => by simp [goN]
  | t + 1 => by
    have ih := go_lens (n := n) (F := F) t
    have e : goN n (t + 1) F = goStep n (goN n t F) t := by unfold goN; rw [List.range_succ, List.foldl_append]; rfl
    rw [e]
    unfold goStep
    split
    · omega
    · simp; omega
/-- the whole way through finds nothing below 0 -/
def goAll (n : Nat) (F : Nat → Nat → Rat) : Prop := ∀ h, h < n → goOk n (goN n h F) h
section
variable {k : Nat} (S : Store)
theorem spec_gone_through (hk : 6 ≤ k) {n a : Nat} {F : Nat → Nat → Rat} (hn : n ≤ 20) (z : ∃ d, SzM a d n n F) (ha : 1 ≤ a) (hb : 2 ^ n * (a + 1) ≤ 4400) (hok : goAll n F) :
    callF defs cs97 k i_gone_through [tabD (mat n n F)] S = some (.tup [.tup [.tup ((goN n n F).ws.map fr), .tup ((List.range n).map fun i => .tup ((goN n n F).cs.map fun c => fr (c i)))], .non], S) := by
  obtain ⟨k, rfl, hj⟩ := lev hk
  have hlen : seqOf S (tabD (mat n n F)) = some ((mat n n F).map rowD) := rfl
  let T := tabD (mat n n F)
  let N : Option D := none
  let s0 : Gon := ⟨F, Ident, [], []⟩
  let ρ1 : Env := [some T, some (natD n), some (.cell (S.length + 0)), some (.cell (S.length + 1)), some (.cell (S.length + 2)), some (.cell (S.length + 3)), N, N, N, N, N, N, N, N]
  obtain ⟨ρ', S', hloop, hS', e6, e7, e8, e9, e10, e11, e12, e13, he⟩ := for_inv (body := exec (G k) goBody) (t := .nm 6) natD (InvG T n S) (goStep n) (List.range n) s0 ρ1 (S ++ stG n s0) ⟨rfl, N, N, N, N, N, N, N, N, rfl⟩ fun l1 h l2 ρ S2 e hi => by
    obtain ⟨rfl, hpl⟩ := range_split e
    have ex : 2 ^ (h + 1) * (a + 1) ≤ 4400 := Nat.le_trans (Nat.mul_le_mul_right _ (Nat.pow_le_pow_right (by decide) (by omega))) hb
    have ex2 : 2 ^ (h + 1) * (a + 1) = 2 * (2 ^ h * (a + 1)) := by rw [Nat.pow_succ, Nat.mul_comm (2 ^ h) 2, Nat.mul_assoc]
    have lens := go_lens (n := n) (F := F) h
    exact go_iter (k := k) hj hn hpl lens.1 lens.2 (go_sz z ha h (by omega)) (by omega) (by omega) (hok h hpl) hi
  have hfin : List.foldl (goStep n) s0 (List.range n) = goN n n F := rfl
  rw [hfin] at hS'
  have hll := go_lens (n := n) (F := F) n
  generalize goN n n F = s at *
  subst hS'
  have pcol : pureD (.tup ((List.range n).map fun i => .tup (s.cs.map fun c => fr (c i)))) = true := by
    simp only [pureD]; exact pures_map fun _ _ => by simp only [pureD]; exact pures_map fun _ _ => rfl
  have pws : pureD (.tup (s.ws.map fr)) = true := by simp only [pureD]; exact pures_map fun _ _ => rfl
  refine call_ret t_gone_through rfl rfl (S' := S ++ stG n s) ?_ (by simp [pureD, pureDs] at pcol pws ⊢; exact ⟨pws, pcol⟩) (take_app _ _)
  show exec (G k) b_gone_through [some T, N, N, N, N, N, N, N, N, N, N, N, N, N] S = _
  refine x_seq (x_asg (e_lenN (n := n) (e_var rfl) hlen) (by simp)) ?_
  let ρa : Env := [some T, some (natD n), N, N, N, N, N, N, N, N, N, N, N, N]
  have rows1 : ev (G k) (.lc (.list (.var 11)) (.nm 11) (.it (.var 0)) (.bl true) [11]) ρa S = some ([.lst (rowsL n n F)], S) := by
    refine e_lc (gd := []) (fun i => .tup (vrow n (F i))) (fun i => .lst (vrow n (F i))) (List.range n) ?_ (by simp [most]; omega) fun i hi => ⟨_, by simp [setT, wipeE, ρa]; rfl, e_list (e_var rfl) rfl⟩
    refine (e_it (e_var rfl) (xs := (List.range n).map fun i => .tup (vrow n (F i))) ?_).trans rfl
    show seqOf S (tabD (mat n n F)) = _
    rw [tabD_mat]; rfl
  refine x_seq (x_asg (e_mk rows1) (by simp)) ?_
  let Sb := S ++ [C.lst (rowsL n n F)]
  let ρb : Env := [some T, some (natD n), some (.cell S.length), N, N, N, N, N, N, N, N, N, N, N]
  have rows2 : ev (G k) (.lc (.lc (.ite (.cmp .eq (.var 9) (.var 13)) (.glob 1) (.glob 0)) (.nm 13) (.rng1 (.var 1)) (.bl true) [13]) (.nm 9) (.rng1 (.var 1)) (.bl true) [9]) ρb Sb = some ([.lst (rowsL n n Ident)], Sb) := by
    refine e_lc natD (fun i => .lst (vrow n (Ident i))) (List.range n) (e_rng1 (e_var rfl) (by omega)) (by simp [most]; omega) fun i hi => ⟨_, by simp [setT, wipeE, ρb]; rfl, ?_⟩
    refine e_lc natD (fun j => fr (Ident i j)) (List.range n) (e_rng1 (e_var rfl) (by omega)) (by simp [most]; omega) fun j hj => ⟨_, by simp [setT, wipeE]; rfl, ?_⟩
    by_cases c : i = j
    · rw [show Ident i j = 1 by simp [Ident, c]]
      exact e_iteT (S1 := Sb) (e_cmp (e_var rfl) (e_var rfl) (by simp [cmpD, natD, eqD_int, c])) (e_glob rfl)
    · rw [show Ident i j = 0 by simp [Ident, c]]
      exact e_iteF (S1 := Sb) (e_cmp (e_var rfl) (e_var rfl) (by simp [cmpD, natD, eqD_int]; omega)) (e_glob rfl)
  refine x_seq (x_asg (e_mk rows2) (by simp)) ?_
  refine x_seq (x_asgL (e_tupE (e_cons (e_mk (e_lstE e_nil)) (e_cons (e_mk (e_lstE e_nil)) e_nil))) (l_tup (l_cons l_nm (l_cons l_nm l_nil)))) ?_
  have hS0 : ((Sb ++ [C.lst (rowsL n n Ident)]) ++ [C.lst []]) ++ [C.lst []] = S ++ stG n s0 := by simp [Sb, stG, s0, csL]
  have l1 : Sb.length = S.length + 1 := by simp [Sb]
  have l2 : (Sb ++ [C.lst (rowsL n n Ident)]).length = S.length + 2 := by simp [Sb]
  have l3 : ((Sb ++ [C.lst (rowsL n n Ident)]) ++ [C.lst []]).length = S.length + 3 := by simp [Sb]
  show exec (G k) _ (List.set (List.set (List.set (List.set (List.set _ 1 _) 2 _) 3 (some (.cell Sb.length))) 4 (some (.cell (Sb ++ [C.lst (rowsL n n Ident)]).length))) 5 (some (.cell ((Sb ++ [C.lst (rowsL n n Ident)]) ++ [C.lst []]).length))) (((Sb ++ [C.lst (rowsL n n Ident)]) ++ [C.lst []]) ++ [C.lst []]) = _
  rw [hS0, l1, l2, l3]
  show exec (G k) _ ρ1 (S ++ stG n s0) = _
  refine x_seq (x_for (e_rng1 (e_var rfl) (by omega)) hloop) ?_
  rw [he]
  have hw : (S ++ stG n s)[S.length + 2]? = some (C.lst (s.ws.map fr)) := gA _ _ _
  have hc : (S ++ stG n s)[S.length + 3]? = some (C.lst (csL n s.cs)) := gA _ _ _
  refine x_seqR (x_ret (e_tupE (e_cons (e_tupE (e_cons (e_tuple (e_var rfl) (seq_cell hw)) (e_cons (e_tuple (x := .lst ((List.range n).map fun i => .tup (s.cs.map fun c => fr (c i)))) ?_ rfl) e_nil))) (e_cons e_non e_nil))))
  refine e_lc (gd := []) natD (fun i : Nat => D.tup (s.cs.map fun c => fr (c i))) (List.range n) ?_ (by simp [most]; omega) fun i hi => ?_
  · exact e_rng1 (e_var rfl) (by omega)
  have hi := List.mem_range.mp hi
  refine ⟨_, by simp [setT, wipeE]; rfl, ?_⟩
  refine e_tuple (x := .lst (s.cs.map fun c => fr (c i))) ?_ rfl
  refine e_lc (gd := [S.length + 3]) (fun c => .lst (vrow n c)) (fun c => fr (c i)) s.cs ?_ (by simp [most]; omega) fun c _ => ?_
  · exact (e_it (e_var rfl) (seq_cell hc)).trans rfl
  · exact ⟨_, by simp [setT, wipeE]; rfl, e_idx (e_var rfl) (e_var rfl) rfl (vrow_get hi)⟩
end
end Ev

set_option Elab.async false
set_option linter.all false
set_option maxRecDepth 100000
set_option maxHeartbeats 4000000
set_option autoImplicit false
/-! sums, forms (no program) -/
namespace Ev
theorem sq_nonneg (a : Rat) : 0 ≤ a * a := by
  rcases (Rat.le_total (a := 0) (b := a)) with h | h
  · exact Rat.mul_nonneg h h
  · have h2 : 0 ≤ -a := by grind
    have := Rat.mul_nonneg h2 h2
    grind
theorem mul_pos' {a b : Rat} (h : 0 < a) (h2 : 0 < b) : 0 < a * b := (Rat.mul_pos_iff_of_pos_left h).mpr h2
theorem div_pos' {a b : Rat} (h : 0 < a) (h2 : 0 < b) : 0 < a / b := by
  rw [Rat.div_def]; exact mul_pos' h (Rat.inv_pos.mpr h2)
theorem div_nonneg' {a b : Rat} (h : 0 ≤ a) (h2 : 0 < b) : 0 ≤ a / b := by
  rw [Rat.div_def]; exact Rat.mul_nonneg h (Rat.le_of_lt (Rat.inv_pos.mpr h2))
theorem sq_pos {a : Rat} (h : a ≠ 0) : 0 < a * a := by
  have := sq_nonneg a
  have h2 : a * a ≠ 0 := fun z => by
    rcases Rat.mul_eq_zero.mp z with z | z <;> exact h z
  grind
theorem sum_congr {n : Nat} {f g : Nat → Rat} (h : ∀ i, i < n → f i = g i) : sum n f = sum n g := by
  induction n with
  | zero => rfl
  | succ n ih => rw [sum, sum, ih fun i hi => h i (by omega), h n (by omega)]
theorem sum_add (n : Nat) (f g : Nat → Rat) : sum n (fun i => f i + g i) = sum n f + sum n g := by
  induction n with
  | zero => simp only [sum]; grind
  | succ n ih => simp only [sum, ih]; grind
theorem sum_sub (n : Nat) (f g : Nat → Rat) : sum n (fun i => f i - g i) = sum n f - sum n g := by
  induction n with
  | zero => simp only [sum]; grind
  | succ n ih => simp only [sum, ih]; grind
theorem sum_mul (n : Nat) (c : Rat) (f : Nat → Rat) : sum n (fun i => c * f i) = c * sum n f := by
  induction n with
  | zero => simp only [sum]; grind
  | succ n ih => simp only [sum, ih]; grind
theorem sum_mulr (n : Nat) (c : Rat) (f : Nat → Rat) : sum n (fun i => f i * c) = sum n f * c := by
  induction n with
  | zero => simp only [sum]; grind
  | succ n ih => simp only [sum, ih]; grind
theorem sum_zero (n : Nat) : sum n (fun _ => 0) = 0 := by
  induction n with
  | zero => rfl
  | succ n ih => simp only [sum, ih]; grind
theorem sum_zero' {n : Nat} {f : Nat → Rat} (h : ∀ i, i < n → f i = 0) : sum n f = 0 := by rw [sum_congr h, sum_zero]
theorem sum_comm (n m : Nat) (f : Nat → Nat → Rat) : sum n (fun i => sum m (f i)) = sum m fun j => sum n fun i => f i j := by
  induction n with
  | zero => simp only [sum]; rw [sum_zero]
  | succ n ih => simp only [sum, ih, sum_add]
theorem sum_one {n k : Nat} (h : k < n) {f : Nat → Rat} (h0 : ∀ i, i < n → i ≠ k → f i = 0) : sum n f = f k := by
  induction n with
  | zero => omega
  | succ n ih =>
    rw [sum]
    by_cases c : k = n
    · subst c
      rw [sum_zero' fun i hi => h0 i (by omega) (by omega)]; grind
    · rw [ih (by omega) fun i hi => h0 i (by omega), h0 n (by omega) (fun z => c z.symm)]; grind
theorem sum_nonneg {n : Nat} {f : Nat → Rat} (h : ∀ i, i < n → 0 ≤ f i) : 0 ≤ sum n f := by
  induction n with
  | zero => simp [sum]
  | succ n ih =>
    have h1 := ih fun i hi => h i (by omega)
    have h2 := h n (by omega)
    rw [sum]; grind
theorem sum_split (n m : Nat) (f : Nat → Rat) : sum (n + m) f = sum n f + sum m fun i => f (n + i) := by
  induction m with
  | zero => simp only [sum, Nat.add_zero]; grind
  | succ m ih => rw [← Nat.add_assoc, sum, sum, ih]; grind
/-- place by place -/
def dotF (n : Nat) (x y : Nat → Rat) : Rat := sum n fun i => x i * y i
def app (n : Nat) (F : Nat → Nat → Rat) (x : Nat → Rat) : Nat → Rat := fun i => sum n fun j => F i j * x j
def bil (n : Nat) (F : Nat → Nat → Rat) (x y : Nat → Rat) : Rat := dotF n x (app n F y)
abbrev quad (n : Nat) (F : Nat → Nat → Rat) (x : Nat → Rat) : Rat := bil n F x x
def Sym (n : Nat) (F : Nat → Nat → Rat) : Prop := ∀ i j, i < n → j < n → F i j = F j i
def psd (n : Nat) (F : Nat → Nat → Rat) : Prop := ∀ x, 0 ≤ quad n F x
def Pd (n : Nat) (F : Nat → Nat → Rat) : Prop := ∀ x, (∃ i, i < n ∧ x i ≠ 0) → 0 < quad n F x
section
variable {n : Nat} {F G : Nat → Nat → Rat} {x y z : Nat → Rat}
theorem dot_congr {x' y' : Nat → Rat} (h : ∀ i, i < n → x i = x' i) (h2 : ∀ i, i < n → y i = y' i) : dotF n x y = dotF n x' y' := sum_congr fun i hi => by rw [h i hi, h2 i hi]
theorem app_congr {x' : Nat → Rat} (h : ∀ i, i < n → x i = x' i) : app n F x = app n F x' := funext fun i => sum_congr fun j hj => by rw [h j hj]
theorem app_congrF {i : Nat} (h : ∀ j, j < n → F i j = G i j) : app n F x i = app n G x i := sum_congr fun j hj => by rw [h j hj]
theorem bil_congr {x' y' : Nat → Rat} (h : ∀ i, i < n → x i = x' i) (h2 : ∀ i, i < n → y i = y' i) : bil n F x y = bil n F x' y' := by
  unfold bil; rw [app_congr h2]; exact dot_congr h fun _ _ => rfl
theorem bil_congrF (h : ∀ i j, i < n → j < n → F i j = G i j) : bil n F x y = bil n G x y := dot_congr (fun _ _ => rfl) fun i hi => app_congrF fun j hj => h i j hi hj
theorem dot_comm : dotF n x y = dotF n y x := sum_congr fun i _ => Rat.mul_comm ..
theorem dot_add : dotF n x (fun i => y i + z i) = dotF n x y + dotF n x z := by
  unfold dotF; rw [← sum_add]; exact sum_congr fun i _ => by grind
theorem dot_sub : dotF n x (fun i => y i - z i) = dotF n x y - dotF n x z := by
  unfold dotF; rw [← sum_sub]; exact sum_congr fun i _ => by grind
theorem dot_mul {c : Rat} : dotF n x (fun i => c * y i) = c * dotF n x y := by
  unfold dotF; rw [← sum_mul]; exact sum_congr fun i _ => by grind
theorem app_add : app n F (fun i => x i + y i) = fun i => app n F x i + app n F y i := funext fun i => dot_add (x := F i)
theorem app_sub : app n F (fun i => x i - y i) = fun i => app n F x i - app n F y i := funext fun i => dot_sub (x := F i)
theorem app_mul {c : Rat} : app n F (fun i => c * x i) = fun i => c * app n F x i := funext fun i => dot_mul (x := F i)
theorem bil_comm (h : Sym n F) : bil n F x y = bil n F y x := by
  unfold bil dotF app
  have e1 : (fun i => x i * sum n fun j => F i j * y j) = fun i => sum n fun j => x i * (F i j * y j) := funext fun i => (sum_mul ..).symm
  have e2 : (fun i => y i * sum n fun j => F i j * x j) = fun i => sum n fun j => y i * (F i j * x j) := funext fun i => (sum_mul ..).symm
  rw [e1, e2, sum_comm]
  exact sum_congr fun j hj => sum_congr fun i hi => by rw [h i j hi hj]; grind
theorem bil_addr : bil n F x (fun i => y i + z i) = bil n F x y + bil n F x z := by unfold bil; rw [app_add]; exact dot_add
theorem bil_subr : bil n F x (fun i => y i - z i) = bil n F x y - bil n F x z := by unfold bil; rw [app_sub]; exact dot_sub
theorem bil_mulr {c : Rat} : bil n F x (fun i => c * y i) = c * bil n F x y := by unfold bil; rw [app_mul]; exact dot_mul
theorem dot_addl : dotF n (fun i => y i + z i) x = dotF n y x + dotF n z x := by rw [dot_comm, dot_add, dot_comm, dot_comm (x := x) (y := z)]
theorem dot_subl : dotF n (fun i => y i - z i) x = dotF n y x - dotF n z x := by rw [dot_comm, dot_sub, dot_comm, dot_comm (x := x) (y := z)]
theorem dot_mull {c : Rat} : dotF n (fun i => c * y i) x = c * dotF n y x := by rw [dot_comm, dot_mul, dot_comm]
theorem bil_addl : bil n F (fun i => y i + z i) x = bil n F y x + bil n F z x := dot_addl
theorem bil_subl : bil n F (fun i => y i - z i) x = bil n F y x - bil n F z x := dot_subl
theorem bil_mull {c : Rat} : bil n F (fun i => c * y i) x = c * bil n F y x := dot_mull
theorem appF_add {i : Nat} : app n (fun i j => F i j + G i j) x i = app n F x i + app n G x i := by
  unfold app; rw [← sum_add]; exact sum_congr fun i _ => by grind
theorem appF_mul {c : Rat} {i : Nat} : app n (fun i j => c * F i j) x i = c * app n F x i := by
  unfold app; rw [← sum_mul]; exact sum_congr fun i _ => by grind
theorem bilF_add : bil n (fun i j => F i j + G i j) x y = bil n F x y + bil n G x y := by
  unfold bil; rw [← dot_add]; exact dot_congr (fun _ _ => rfl) fun i _ => appF_add
theorem bilF_mul {c : Rat} : bil n (fun i j => c * F i j) x y = c * bil n F x y := by
  unfold bil; rw [← dot_mul]; exact dot_congr (fun _ _ => rfl) fun i _ => appF_mul
/-- a unit -/
def uni (k : Nat) : Nat → Rat := fun i => if i = k then 1 else 0
theorem dot_uni {k : Nat} (h : k < n) : dotF n (uni k) x = x k := by
  unfold dotF
  rw [sum_one h fun i _ c => by simp [uni, c]]
  simp [uni]
theorem app_uni {k : Nat} (h : k < n) {i : Nat} : app n F (uni k) i = F i k := by
  unfold app
  rw [sum_one h fun i _ c => by simp [uni, c]]
  simp [uni]
theorem bil_uni {i j : Nat} (hi : i < n) (hj : j < n) : bil n F (uni i) (uni j) = F i j := by
  unfold bil; rw [dot_uni hi, app_uni hj]
theorem quad_add (h : Sym n F) : quad n F (fun i => x i + y i) = quad n F x + 2 * bil n F x y + quad n F y := by
  unfold quad
  rw [bil_addl, bil_addr, bil_addr, bil_comm h (x := y) (y := x)]
  grind
theorem quad_mul {c : Rat} : quad n F (fun i => c * x i) = c * c * quad n F x := by
  unfold quad
  rw [bil_mull, bil_mulr]
  grind
/-- where nothing is below 0: no row behind a 0 -/
theorem psd_zero (h : psd n F) (hs : Sym n F) {i j : Nat} (hi : i < n) (hj : j < n) (h0 : F i i = 0) : F i j = 0 := by
  have q : ∀ t : Rat, 0 ≤ 2 * t * F i j + t * t * 0 + F j j := fun t => by
    have := h fun k => t * uni i k + uni j k
    rw [quad_add hs (x := fun k => t * uni i k) (y := uni j), quad_mul, bil_mull, quad, bil_uni hi hi, bil_uni hi hj, quad, bil_uni hj hj, h0] at this
    grind
  by_cases c : F i j = 0
  · exact c
  · exfalso
    have := q (-(F j j + 1) / (2 * F i j))
    have e : 2 * (-(F j j + 1) / (2 * F i j)) * F i j = -(F j j + 1) := by grind
    rw [e] at this
    grind
end
end Ev

set_option Elab.async false
set_option linter.all false
set_option maxRecDepth 100000
set_option maxHeartbeats 4000000
set_option autoImplicit false
/-! the reduction (no program): what it keeps -/
namespace Ev
def appW (w : Nat) (F : Nat → Nat → Rat) (x : Nat → Rat) (i : Nat) : Rat := sum w fun c => F i c * x c
def Ker (r w : Nat) (F : Nat → Nat → Rat) (x : Nat → Rat) : Prop := ∀ i, i < r → appW w F x i = 0
theorem ker_swap {r w : Nat} {F : Nat → Nat → Rat} {x : Nat → Rat} {h k : Nat} (hh : h < r) (hk : k < r) : Ker r w (swapF F h k) x ↔ Ker r w F x := by
  have e : ∀ i, appW w (swapF F h k) x i = if i = h then appW w F x k else if i = k then appW w F x h else appW w F x i := fun i => by
    unfold appW swapF
    by_cases c : i = h
    · simp only [if_pos c]
    · by_cases c2 : i = k
      · simp only [if_neg c, if_pos c2]
      · simp only [if_neg c, if_neg c2]
  constructor
  · intro a i hi
    by_cases c : i = h
    · have := a k hk
      rw [e] at this
      by_cases c2 : k = h
      · rw [if_pos c2] at this; rw [c, ← c2]; exact this
      · rw [if_neg c2, if_pos rfl] at this; rw [c]; exact this
    · by_cases c2 : i = k
      · have := a h hh
        rw [e, if_pos rfl] at this; rw [c2]; exact this
      · have := a i hi
        rw [e, if_neg c, if_neg c2] at this; exact this
  · intro a i hi
    rw [e]
    by_cases c : i = h
    · rw [if_pos c]; exact a k hk
    · rw [if_neg c]
      by_cases c2 : i = k
      · rw [if_pos c2]; exact a h hh
      · rw [if_neg c2]; exact a i hi
theorem ker_clear {r w : Nat} {F : Nat → Nat → Rat} {x : Nat → Rat} {h pl : Nat} (hh : h < r) (h0 : F h pl ≠ 0) : Ker r w (clearF F h pl) x ↔ Ker r w F x := by
  have e1 : appW w (clearF F h pl) x h = appW w F x h / F h pl := by
    unfold appW clearF
    simp only [if_true]
    have : ∀ c, F h c / F h pl * x c = (F h pl)⁻¹ * (F h c * x c) := fun c => by grind
    simp only [this, sum_mul]
    grind
  have e2 : ∀ i, i ≠ h → appW w (clearF F h pl) x i = appW w F x i - F i pl * (appW w F x h / F h pl) := fun i hi => by
    rw [← e1]
    unfold appW
    rw [← sum_mul, ← sum_sub]
    refine sum_congr fun c _ => ?_
    unfold clearF
    rw [if_neg hi]
    simp only [if_true]
    grind
  constructor
  · intro a i hi
    have ah := a h hh
    rw [e1] at ah
    have a0 : appW w F x h = 0 := by
      have : appW w F x h = appW w F x h / F h pl * F h pl := by grind
      rw [this, ah]; grind
    by_cases c : i = h
    · rw [c]; exact a0
    · have := a i hi
      rw [e2 i c, ah] at this
      grind
  · intro a i hi
    have ah := a h hh
    by_cases c : i = h
    · rw [c, e1, ah]; grind
    · rw [e2 i c, ah, a i hi]; grind
theorem ker_step {r w : Nat} {s : Red} {x : Nat → Rat} {pl : Nat} : Ker r w (redStep r s pl).1 x ↔ Ker r w s.1 x := by
  unfold redStep
  cases hg : goodsOf r s.1 s.2.1.length pl with
  | nil => exact Iff.rfl
  | cons k ks =>
    obtain ⟨h1, h2, h3⟩ := mem_goods (k := k) (by rw [hg]; exact List.mem_cons_self ..)
    rw [ker_clear (by omega) (by simpa [swapF] using h3), ker_swap (by omega) h2]
/-- up to t all places have been found -/
structure Full (r t : Nat) (s : Red) : Prop where
  p : s.2.1 = List.range t
  d : ∀ j c, j < r → c < t → s.1 j c = if j = c then 1 else 0
theorem full_step {r w t : Nat} {s : Red} (f : Full r t s) (ht : t < r) (hw : r ≤ w) (hk : ∀ x : Nat → Rat, (∀ c, r ≤ c → x c = 0) → Ker r w s.1 x → ∀ c, c < r → x c = 0) :
    ∃ k, t ≤ k ∧ k < r ∧ s.1 k t ≠ 0 ∧ redStep r s t = (clearF (swapF s.1 t k) t t, List.range (t + 1), s.2.2 * (if k = t then s.1 k t else -(s.1 k t))) ∧ Full r (t + 1) (redStep r s t) := by
  obtain ⟨F, p, q⟩ := s
  obtain ⟨hp, hd⟩ := f
  simp only at hp hd hk
  have hpl : p.length = t := by rw [hp]; simp
  cases hg : goodsOf r F p.length t with
  | nil =>
    exfalso
    have hz : ∀ j, t ≤ j → j < r → F j t = 0 := fun j h1 h2 => by
      by_cases c : F j t = 0
      · exact c
      · exfalso
        have : j ∈ goodsOf r F p.length t := by
          unfold goodsOf fromTo
          rw [List.mem_filter]
          refine ⟨List.mem_map.mpr ⟨j - t, List.mem_range.mpr (by omega), by omega⟩, by simpa using c⟩
        rw [hg] at this
        cases this
    have := hk (fun c => if c = t then 1 else if c < t then -(F c t) else 0) (fun c hc => by
      show (if c = t then (1 : Rat) else if c < t then -(F c t) else 0) = 0
      rw [if_neg (by omega), if_neg (by omega)]) (fun j hj => by
        unfold appW
        have e : w = (t + 1) + (w - (t + 1)) := by omega
        rw [e, sum_split, sum]
        rw [sum_zero' (n := w - (t + 1)) fun i _ => by
          show F j (t + 1 + i) * (if t + 1 + i = t then (1 : Rat) else if t + 1 + i < t then _ else 0) = 0
          rw [if_neg (by omega), if_neg (by omega)]; grind]
        have e2 : sum t (fun c => F j c * (if c = t then (1 : Rat) else if c < t then -(F c t) else 0)) = if j < t then -(F j t) else 0 := by
          by_cases c : j < t
          · rw [if_pos c]
            rw [sum_one c fun i hi hij => by rw [hd j i hj hi, if_neg (fun z => hij z.symm)]; grind]
            rw [hd j j hj c, if_pos rfl, if_neg (by omega), if_pos c]; grind
          · rw [if_neg c]
            exact sum_zero' fun i hi => by rw [hd j i hj hi, if_neg (by omega)]; grind
        rw [e2]
        simp only [if_true]
        by_cases c : j < t
        · rw [if_pos c]; grind
        · rw [if_neg c, hz j (by omega) hj]; grind) t ht
    simp at this
  | cons k ks =>
    obtain ⟨h1, h2, h3⟩ := mem_goods (k := k) (by rw [hg]; exact List.mem_cons_self ..)
    rw [hpl] at h1
    have e : redStep r (F, p, q) t = (clearF (swapF F t k) t t, List.range (t + 1), q * (if k = t then F k t else -(F k t))) := by
      unfold redStep
      simp only [hg]
      rw [hpl, hp, List.range_succ]
    refine ⟨k, h1, h2, h3, e, ?_⟩
    rw [e]
    refine ⟨rfl, fun j c hj hc => ?_⟩
    show clearF (swapF F t k) t t j c = _
    have sh : ∀ c, swapF F t k t c = F k c := fun c => by simp [swapF]
    have sz : ∀ c, c < t → swapF F t k t c = 0 := fun c hc => by rw [sh, hd k c h2 hc, if_neg (by omega)]
    have so : ∀ c, c < t → swapF F t k j c = if j = c then 1 else 0 := fun c hc => by
      unfold swapF
      by_cases c1 : j = t
      · rw [if_pos c1, hd k c h2 hc, if_neg (by omega), if_neg (by omega)]
      · rw [if_neg c1]
        by_cases c2 : j = k
        · rw [if_pos c2, hd t c ht hc, if_neg (by omega), if_neg (by omega)]
        · rw [if_neg c2, hd j c hj hc]
    unfold clearF
    by_cases c1 : j = t
    · rw [if_pos c1]
      by_cases c2 : c < t
      · rw [sz c c2, if_neg (by omega)]; grind
      · have : c = t := by omega
        rw [this, sh, if_pos c1]; grind
    · rw [if_neg c1]
      by_cases c2 : c < t
      · rw [sz c c2, so c c2]; grind
      · have : c = t := by omega
        rw [this, sh, if_neg c1]; grind
theorem red_full {n w : Nat} {F : Nat → Nat → Rat} (hw : n ≤ w) (hk : ∀ x : Nat → Rat, (∀ c, n ≤ c → x c = 0) → Ker n w F x → ∀ c, c < n → x c = 0) : ∀ t, t ≤ n →
    Full n t ((List.range t).foldl (redStep n) (F, [], 1)) ∧ ∀ x, Ker n w ((List.range t).foldl (redStep n) (F, [], 1)).1 x ↔ Ker n w F x
  | 0, _ => ⟨⟨rfl, fun j c _ hc => by omega⟩, fun x => Iff.rfl⟩
  | t + 1, ht => by
    obtain ⟨f, hx⟩ := red_full hw hk t (by omega)
    have e : (List.range (t + 1)).foldl (redStep n) (F, [], 1) = redStep n ((List.range t).foldl (redStep n) (F, [], 1)) t := by rw [List.range_succ, List.foldl_append]; rfl
    rw [e]
    obtain ⟨k, _, _, _, _, f2⟩ := full_step f (by omega) hw fun x h0 h1 => hk x h0 ((hx x).mp h1)
    exact ⟨f2, fun x => ker_step.trans (hx x)⟩
/-- both ways round -/
structure IsInv (n : Nat) (F G : Nat → Nat → Rat) : Prop where
  r : ∀ x i, i < n → app n F (app n G x) i = x i
  l : ∀ x i, i < n → app n G (app n F x) i = x i
def Inj (n : Nat) (F : Nat → Nat → Rat) : Prop := ∀ x, (∀ i, i < n → app n F x i = 0) → ∀ i, i < n → x i = 0
theorem appW_aug {n m : Nat} {F G : Nat → Nat → Rat} {x : Nat → Rat} {i : Nat} : appW (n + m) (aug n F G) x i = app n F x i + app m G (fun c => x (n + c)) i := by
  unfold appW
  rw [sum_split]
  congr 1
  · exact sum_congr fun c hc => by simp [aug, hc]
  · exact sum_congr fun c hc => by simp [aug, show ¬ n + c < n by omega]
theorem appW_full {n m : Nat} {s : Red} (f : Full n n s) {x : Nat → Rat} {i : Nat} (hi : i < n) : appW (n + m) s.1 x i = x i + sum m fun c => s.1 i (n + c) * x (n + c) := by
  unfold appW
  rw [sum_split]
  congr 1
  rw [sum_one hi fun c hc hci => by rw [f.d i c hi hc, if_neg (fun z => hci z.symm)]; grind]
  rw [f.d i i hi hi, if_pos rfl]; grind
theorem ker_inj {n m : Nat} {F G : Nat → Nat → Rat} (h : Inj n F) : ∀ x : Nat → Rat, (∀ c, n ≤ c → x c = 0) → Ker n (n + m) (aug n F G) x → ∀ c, c < n → x c = 0 := fun x h0 hk => h x fun i hi => by
  have := hk i hi
  rw [appW_aug] at this
  have e : app m G (fun c => x (n + c)) i = 0 := sum_zero' fun c _ => by
    show G i c * x (n + c) = 0
    rw [h0 (n + c) (by omega)]; grind
  rw [e] at this
  grind
theorem back_full {n : Nat} {F : Nat → Nat → Rat} (h : Inj n F) : (backRed n F).2.1.length = n ∧ IsInv n F fun i j => (backRed n F).1 i (n + j) := by
  obtain ⟨f, hx⟩ := red_full (w := n + n) (by omega) (ker_inj (m := n) (G := Ident) h) n (Nat.le_refl n)
  have f : Full n n (backRed n F) := f
  have hx : ∀ x, Ker n (n + n) (backRed n F).1 x ↔ Ker n (n + n) (aug n F Ident) x := hx
  generalize backRed n F = s at *
  refine ⟨by rw [f.p]; simp, ?_⟩
  -- the vectors x with y behind them
  have key : ∀ x y : Nat → Rat, (∀ i, i < n → app n F x i + y i = 0) ↔ ∀ i, i < n → x i + app n (fun i j => s.1 i (n + j)) y i = 0 := fun x y => by
    have h1 := hx fun c => if c < n then x c else y (c - n)
    have a1 : ∀ i, i < n → appW (n + n) (aug n F Ident) (fun c => if c < n then x c else y (c - n)) i = app n F x i + y i := fun i hi => by
      rw [appW_aug]
      congr 1
      · exact sum_congr fun c hc => by simp [hc]
      · unfold app
        rw [sum_one hi fun c hc hci => by simp [Ident, show ¬ i = c from fun z => hci z.symm]]
        simp [Ident, show ¬ n + i < n by omega]
    have a2 : ∀ i, i < n → appW (n + n) s.1 (fun c => if c < n then x c else y (c - n)) i = x i + app n (fun i j => s.1 i (n + j)) y i := fun i hi => by
      rw [appW_full f hi]
      congr 1
      · simp [hi]
      · exact sum_congr fun c hc => by simp [show ¬ n + c < n by omega]
    constructor
    · intro a i hi
      have := h1.mpr (fun i hi => by rw [a1 i hi]; exact a i hi) i hi
      rw [a2 i hi] at this; exact this
    · intro a i hi
      have := h1.mp (fun i hi => by rw [a2 i hi]; exact a i hi) i hi
      rw [a1 i hi] at this; exact this
  constructor
  · intro y i hi
    have := (key (app n (fun i j => s.1 i (n + j)) y) (fun i => -(y i))).mpr (fun i hi => by
      have : app n (fun i j => s.1 i (n + j)) (fun i => -(y i)) i = -(app n (fun i j => s.1 i (n + j)) y i) := by
        have e : (fun i => -(y i)) = fun i => (-1) * y i := funext fun i => by grind
        rw [e, app_mul]; grind
      rw [this]; grind) i hi
    grind
  · intro x i hi
    have := (key x (fun i => -(app n F x i))).mp (fun i hi => by grind) i hi
    have e : app n (fun i j => s.1 i (n + j)) (fun i => -(app n F x i)) i = -(app n (fun i j => s.1 i (n + j)) (app n F x) i) := by
      have e : (fun i => -(app n F x i)) = fun i => (-1) * app n F x i := funext fun i => by grind
      rw [e, app_mul]; grind
    rw [e] at this
    grind
theorem ans_range {n : Nat} {F : Nat → Nat → Rat} : ∀ i, i < n → ansOf n F (List.range n) i = F i n := by
  have gen : ∀ t, ∀ i, ((List.range t).zip (List.range t)).foldl (ansStep n F) (fun _ => 0) i = if i < t then F i n else 0 := by
    intro t
    induction t with
    | zero => intro i; simp
    | succ t ih =>
      intro i
      rw [List.range_succ, List.zip_append (by simp), List.foldl_append]
      simp only [List.zip_cons_cons, List.zip_nil_right, List.foldl_cons, List.foldl_nil, ansStep]
      by_cases c : i = t
      · rw [if_pos c, if_pos (by omega), c]
      · rw [if_neg c, ih]
        by_cases c2 : i < t
        · rw [if_pos c2, if_pos (by omega)]
        · rw [if_neg c2, if_neg (by omega)]
  intro i hi
  unfold ansOf
  rw [gen n i, if_pos hi]
theorem solve_full {n : Nat} {F : Nat → Nat → Rat} {v : Nat → Rat} (h : Inj n F) : oddOf n (solRed n F v) = [] ∧ ∀ i, i < n → app n F (ansOf n (solRed n F v).1 (solRed n F v).2.1) i = v i := by
  obtain ⟨f, hx⟩ := red_full (w := n + 1) (by omega) (ker_inj (m := 1) (G := fun i _ => v i) h) n (Nat.le_refl n)
  have f : Full n n (solRed n F v) := f
  have hx : ∀ x, Ker n (n + 1) (solRed n F v).1 x ↔ Ker n (n + 1) (aug n F fun i _ => v i) x := hx
  generalize solRed n F v = s at *
  refine ⟨?_, ?_⟩
  · unfold oddOf fromTo
    rw [f.p]; simp
  · intro i hi
    rw [f.p]
    have hA : ∀ c, c < n → ansOf n s.1 (List.range n) c = s.1 c n := ans_range
    have h1 := (hx fun c => if c < n then ansOf n s.1 (List.range n) c else -1).mp (fun j hj => by
      rw [appW_full f hj]
      simp only [sum, if_pos hj, hA j hj]
      rw [if_neg (by omega)]
      grind) i hi
    rw [appW_aug] at h1
    have e1 : app n F (fun c => if c < n then ansOf n s.1 (List.range n) c else -1) i = app n F (ansOf n s.1 (List.range n)) i := sum_congr fun c hc => by simp [hc]
    rw [e1] at h1
    simp only [app, sum] at h1 ⊢
    rw [if_neg (by omega)] at h1
    grind
theorem rank_full {n : Nat} {F : Nat → Nat → Rat} (h : Inj n F) : (redN n n F).2.1.length = n := by
  have h' : ∀ x : Nat → Rat, (∀ c, n ≤ c → x c = 0) → Ker n n F x → ∀ c, c < n → x c = 0 := fun x _ hk => h x fun i hi => hk i hi
  obtain ⟨f, _⟩ := red_full (w := n) (Nat.le_refl n) h' n (Nat.le_refl n)
  have f : Full n n (redN n n F) := f
  rw [f.p]; simp
end Ev

set_option Elab.async false
set_option linter.all false
set_option maxRecDepth 100000
set_option maxHeartbeats 4000000
set_option autoImplicit false
/-! tables that are never below 0; backs; two tables beside each other (no program) -/
namespace Ev
section
variable {n : Nat} {A B F G : Nat → Nat → Rat} {x y z u v : Nat → Rat}
theorem bil_rank1 : bil n (fun i j => u i * v j) x y = dotF n x u * dotF n v y := by
  have : ∀ i, app n (fun i j => u i * v j) y i = u i * dotF n v y := fun i => by
    unfold app dotF; rw [← sum_mul]; exact sum_congr fun j _ => by grind
  unfold bil
  rw [show app n (fun i j => u i * v j) y = fun i => u i * dotF n v y from funext this]
  unfold dotF
  rw [← sum_mulr]
  exact sum_congr fun j _ => by grind
theorem app_row {h : Nat} (hs : Sym n A) (hh : h < n) : dotF n x (fun i => A i h) = app n A x h :=
  sum_congr fun i hi => by show x i * A i h = A h i * x i; rw [hs i h hi hh]; grind
def schur (A : Nat → Nat → Rat) (h : Nat) : Nat → Nat → Rat := fun i j => A i j - A i h * A h j / A h h
theorem schur_psd (p : psd n A) (hs : Sym n A) {h : Nat} (hh : h < n) (h0 : A h h ≠ 0) : psd n (schur A h) := by
  intro x
  let t := -(app n A x h / A h h)
  have e : quad n (schur A h) x = quad n A fun i => x i + t * uni h i := by
    have e1 : schur A h = fun i j => A i j + (-(A h h)⁻¹) * (A i h * A h j) := by funext i j; unfold schur; grind
    rw [e1, quad, bilF_add, bilF_mul, bil_rank1 (u := fun i => A i h) (v := fun j => A h j), app_row hs hh]
    rw [quad_add hs (x := x) (y := fun i => t * uni h i), quad_mul, bil_mulr, bil_comm hs (y := uni h)]
    have e2 : bil n A (uni h) x = app n A x h := dot_uni hh
    rw [e2, show quad n A (uni h) = A h h from bil_uni hh hh]
    have e3 : dotF n (fun j => A h j) x = app n A x h := rfl
    rw [e3]
    grind
  rw [e]; exact p _
theorem schur_sym (hs : Sym n A) {h : Nat} (hh : h < n) : Sym n (schur A h) := fun i j hi hj => by
  unfold schur; rw [hs i j hi hj, hs i h hi hh, hs h j hh hj]; grind
theorem schur_row {h i : Nat} (h0 : A h h ≠ 0) : schur A h h i = 0 := by unfold schur; grind
theorem schur_col {h i : Nat} (h0 : A h h ≠ 0) : schur A h i h = 0 := by unfold schur; grind
theorem psd_diag (p : psd n A) {i : Nat} (hi : i < n) : 0 ≤ A i i := by
  have := p (uni i)
  rwa [quad, bil_uni hi hi] at this
def msk (h : Nat) (L : Nat → Nat → Rat) : Nat → Nat → Rat := fun i j => if h ≤ i ∧ h ≤ j then L i j else 0
theorem psd_congr (h : ∀ i j, i < n → j < n → F i j = G i j) (p : psd n F) : psd n G := fun x => by
  rw [quad, ← bil_congrF h]; exact p x
theorem go_inv (p : psd n F) (hs : Sym n F) : ∀ h, h ≤ n → psd n (msk h (goN n h F).L) ∧ Sym n (msk h (goN n h F).L)
  | 0, _ => by
    have e : msk 0 (goN n 0 F).L = F := by funext i j; simp [msk, goN]
    rw [e]; exact ⟨p, hs⟩
  | h + 1, hh => by
    obtain ⟨q, hq⟩ := go_inv p hs h (by omega)
    have e : goN n (h + 1) F = goStep n (goN n h F) h := by unfold goN; rw [List.range_succ, List.foldl_append]; rfl
    rw [e]
    generalize goN n h F = s at *
    have hhh : msk h s.L h h = s.L h h := by simp [msk]
    by_cases c : s.L h h = 0
    · have es : goStep n s h = s := by simp [goStep, c]
      rw [es]
      have e2 : ∀ i j, i < n → j < n → msk h s.L i j = msk (h + 1) s.L i j := fun i j hi hj => by
        by_cases c1 : i = h
        · rw [show msk h s.L i j = 0 by rw [c1]; exact psd_zero q hq (by omega) hj (by rw [hhh]; exact c)]
          simp [msk]; omega
        · by_cases c2 : j = h
          · rw [hq i j hi hj, show msk h s.L j i = 0 by rw [c2]; exact psd_zero q hq (by omega) hi (by rw [hhh]; exact c)]
            simp [msk]; omega
          · unfold msk
            by_cases c3 : h ≤ i ∧ h ≤ j
            · rw [if_pos c3, if_pos (by omega)]
            · rw [if_neg c3, if_neg (by omega)]
      exact ⟨psd_congr e2 q, fun i j hi hj => by rw [← e2 i j hi hj, ← e2 j i hj hi]; exact hq i j hi hj⟩
    · have es : (goStep n s h).L = lowF n s.L h (colF s.L h) := by simp [goStep, c]
      rw [es]
      have c' : msk h s.L h h ≠ 0 := by rw [hhh]; exact c
      have e2 : ∀ i j, i < n → j < n → schur (msk h s.L) h i j = msk (h + 1) (lowF n s.L h (colF s.L h)) i j := fun i j hi hj => by
        by_cases c1 : i = h
        · rw [c1, schur_row c']
          simp [msk]; omega
        · by_cases c2 : j = h
          · rw [c2, schur_col c']
            unfold msk
            rw [if_neg (by omega)]
          · unfold schur
            rw [hhh]
            by_cases c3 : h ≤ i ∧ h ≤ j
            · unfold msk
              rw [if_pos c3, if_pos (by omega), if_pos (by omega), if_pos (by omega)]
              unfold lowF colF
              rw [if_pos (by omega), if_pos (by omega)]
              grind
            · have z1 : msk (h + 1) (lowF n s.L h (colF s.L h)) i j = 0 := by unfold msk; rw [if_neg (by omega)]
              have z2 : msk h s.L i j = 0 := by unfold msk; rw [if_neg c3]
              have z3 : msk h s.L i h * msk h s.L h j = 0 := by
                by_cases c4 : h ≤ i
                · rw [show msk h s.L h j = 0 by unfold msk; rw [if_neg (by omega)]]; grind
                · rw [show msk h s.L i h = 0 by unfold msk; rw [if_neg (by omega)]]; grind
              rw [z1, z2, z3]; grind
      have q2 := schur_psd q hq (show h < n by omega) c'
      have s2 := schur_sym hq (show h < n by omega) (A := msk h s.L)
      exact ⟨psd_congr e2 q2, fun i j hi hj => by rw [← e2 i j hi hj, ← e2 j i hj hi]; exact s2 i j hi hj⟩
theorem psd_go (p : psd n F) (hs : Sym n F) : goAll n F := fun h hh => by
  obtain ⟨q, hq⟩ := go_inv p hs h (by omega)
  generalize goN n h F = s at *
  have hhh : msk h s.L h h = s.L h h := by simp [msk]
  refine ⟨by rw [← hhh]; exact psd_diag q hh, fun c k hk hkn => ?_⟩
  have := psd_zero q hq hh hkn (by rw [hhh]; exact c)
  rw [show msk h s.L h k = s.L h k by unfold msk; rw [if_pos (by omega)]] at this
  exact this
/-! ### backs -/
theorem Pd.psd (p : Pd n F) : psd n F := fun x => by
  by_cases c : ∃ i, i < n ∧ x i ≠ 0
  · exact Rat.le_of_lt (p x c)
  · have hz : ∀ i, i < n → x i = 0 := fun i hi => by
      by_cases d : x i = 0
      · exact d
      · exact absurd ⟨i, hi, d⟩ c
    have : quad n F x = 0 := sum_zero' fun i hi => by rw [hz i hi]; grind
    rw [this]
    grind
theorem Pd.inj (p : Pd n F) : Inj n F := fun x h i hi => by
  by_cases c : x i = 0
  · exact c
  · exfalso
    have := p x ⟨i, hi, c⟩
    have e : quad n F x = 0 := sum_zero' fun i hi => by rw [h i hi]; grind
    rw [e] at this
    grind
theorem Pd.congr (h : ∀ i j, i < n → j < n → F i j = G i j) (p : Pd n F) : Pd n G := fun x hx => by
  rw [quad, ← bil_congrF h]; exact p x hx
theorem Sym.congr (h : ∀ i j, i < n → j < n → F i j = G i j) (p : Sym n F) : Sym n G := fun i j hi hj => by rw [← h i j hi hj, ← h j i hj hi]; exact p i j hi hj
theorem IsInv.congr (h : ∀ i j, i < n → j < n → F i j = A i j) (h2 : ∀ i j, i < n → j < n → G i j = B i j) (p : IsInv n F G) : IsInv n A B := by
  have e1 : ∀ x i, i < n → app n A x i = app n F x i := fun x i hi => (app_congrF fun j hj => h i j hi hj).symm
  have e2 : ∀ x i, i < n → app n B x i = app n G x i := fun x i hi => (app_congrF fun j hj => h2 i j hi hj).symm
  constructor
  · intro x i hi
    rw [e1 _ i hi, app_congr (x' := app n G x) fun j hj => e2 x j hj]; exact p.r x i hi
  · intro x i hi
    rw [e2 _ i hi, app_congr (x' := app n F x) fun j hj => e1 x j hj]; exact p.l x i hi
theorem IsInv.symm (p : IsInv n F G) : IsInv n G F := ⟨p.l, p.r⟩
theorem IsInv.inj (p : IsInv n F G) : Inj n F := fun x h i hi => by
  rw [← p.l x i hi]
  exact sum_zero' fun j hj => by rw [h j hj]; grind
theorem dot_app (hs : Sym n F) : dotF n x (app n F y) = dotF n (app n F x) y := by
  have := bil_comm (x := x) (y := y) hs
  unfold bil at this
  rw [this, dot_comm]
theorem IsInv.sym (p : IsInv n F G) (hs : Sym n F) : Sym n G := fun i j hi hj => by
  have e : ∀ x y, bil n G x y = bil n G y x := fun x y => by
    unfold bil
    rw [dot_congr (x' := app n F (app n G x)) (y' := app n G y) (fun i hi => (p.r x i hi).symm) fun _ _ => rfl]
    rw [← dot_app hs, dot_congr (y' := y) (fun _ _ => rfl) fun i hi => p.r y i hi, dot_comm]
  rw [← bil_uni (F := G) hi hj, e, bil_uni hj hi]
theorem IsInv.uniq {G' : Nat → Nat → Rat} (p : IsInv n F G) (q : IsInv n F G') : ∀ i j, i < n → j < n → G i j = G' i j := fun i j hi hj => by
  have : app n G (uni j) i = app n G' (uni j) i := by
    rw [← p.l (app n G' (uni j)) i hi]
    exact (app_congr (x' := app n F (app n G' (uni j))) fun k hk => (q.r (uni j) k hk).symm) ▸ rfl
  rwa [app_uni hj, app_uni hj] at this
theorem IsInv.quad (p : IsInv n F G) : quad n F (app n G x) = quad n G x := by
  unfold Ev.quad bil
  rw [dot_congr (y' := x) (fun _ _ => rfl) fun i hi => p.r x i hi, dot_comm]
theorem IsInv.pd (p : IsInv n F G) (h : Pd n F) : Pd n G := fun x hx => by
  rw [← p.quad]
  refine h _ ?_
  obtain ⟨i, hi, c⟩ := hx
  refine Classical.byContradiction fun z => c ?_
  rw [← p.r x i hi]
  exact sum_zero' fun j hj => by
    have : app n G x j = 0 := Classical.byContradiction fun d => z ⟨j, hj, d⟩
    rw [this]; grind
theorem Pd.add (p : Pd n F) (q : Ev.psd n G) : Pd n fun i j => F i j + G i j := fun x hx => by
  have h1 := p x hx
  have h2 := q x
  rw [Ev.quad, bilF_add]
  grind
theorem Sym.add (p : Sym n F) (q : Sym n G) : Sym n fun i j => F i j + G i j := fun i j hi hj => by show F i j + G i j = F j i + G j i; rw [p i j hi hj, q i j hi hj]
theorem pd_back (p : Pd n F) : (backRed n F).2.1.length = n ∧ IsInv n F fun i j => (backRed n F).1 i (n + j) := back_full p.inj
/-- W is of A and B beside each other -/
structure Beside (n : Nat) (A B W : Nat → Nat → Rat) : Prop where
  ex : ∃ N M, IsInv n A N ∧ IsInv n B M ∧ IsInv n (fun i j => N i j + M i j) W
theorem beside_le (ha : Pd n A) (hb : Pd n B) (sa : Sym n A) (sb : Sym n B) {W : Nat → Nat → Rat} (w : Beside n A B W) (u v : Nat → Rat) : quad n W (fun i => u i + v i) ≤ quad n A u + quad n B v := by
  obtain ⟨N, M, hN, hM, hW⟩ := w
  let x : Nat → Rat := fun i => u i + v i
  let p := app n W x
  let u0 := app n N p
  let v0 := app n M p
  have s0 : ∀ i, i < n → u0 i + v0 i = x i := fun i hi => by
    rw [← hW.r x i hi, appF_add]
  have ua : ∀ i, i < n → app n A u0 i = p i := fun i hi => hN.r p i hi
  have vb : ∀ i, i < n → app n B v0 i = p i := fun i hi => hM.r p i hi
  let d : Nat → Rat := fun i => u i - u0 i
  have qa : quad n A u = quad n A u0 + 2 * dotF n d p + quad n A d := by
    have e : quad n A u = quad n A fun i => u0 i + d i := bil_congr (fun i _ => by show u i = u0 i + (u i - u0 i); grind) fun i _ => by show u i = u0 i + (u i - u0 i); grind
    rw [e, quad_add sa, bil_comm sa (x := u0)]
    rw [show bil n A d u0 = dotF n d p from dot_congr (fun _ _ => rfl) fun i hi => ua i hi]
  have qb : quad n B v = quad n B v0 - 2 * dotF n d p + quad n B d := by
    have ev : ∀ i, i < n → v i = v0 i + (-1) * d i := fun i hi => by
      have := s0 i hi
      show v i = v0 i + (-1) * (u i - u0 i)
      have e : x i = u i + v i := rfl
      grind
    have e : quad n B v = quad n B fun i => v0 i + (-1) * d i := bil_congr ev ev
    rw [e, quad_add sb (x := v0) (y := fun i => (-1) * d i), bil_mulr, bil_comm sb (x := v0), quad_mul]
    rw [show bil n B d v0 = dotF n d p from dot_congr (fun _ _ => rfl) fun i hi => vb i hi]
    grind
  have q0 : quad n A u0 + quad n B v0 = quad n W x := by
    have e1 : quad n A u0 = dotF n u0 p := dot_congr (fun _ _ => rfl) fun i hi => ua i hi
    have e2 : quad n B v0 = dotF n v0 p := dot_congr (fun _ _ => rfl) fun i hi => vb i hi
    rw [e1, e2, ← dot_addl]
    exact dot_congr s0 fun _ _ => rfl
  have n1 := ha.psd d
  have n2 := hb.psd d
  show quad n W x ≤ _
  grind
theorem Beside.pd (ha : Pd n A) (hb : Pd n B) {W : Nat → Nat → Rat} (w : Beside n A B W) : Pd n W := by
  obtain ⟨N, M, hN, hM, hW⟩ := w
  exact hW.pd ((hN.pd ha).add (hM.pd hb).psd)
theorem Beside.sym (sa : Sym n A) (sb : Sym n B) {W : Nat → Nat → Rat} (w : Beside n A B W) : Sym n W := by
  obtain ⟨N, M, hN, hM, hW⟩ := w
  exact hW.sym ((hN.sym sa).add (hM.sym sb))
/-- Cauchy -/
theorem cauchy (p : psd n F) (hs : Sym n F) : bil n F x y * bil n F x y ≤ quad n F x * quad n F y := by
  have h : ∀ t, 0 ≤ t * t * quad n F x + 2 * t * bil n F x y + quad n F y := fun t => by
    have := p fun i => t * x i + y i
    rw [quad_add hs (x := fun i => t * x i), quad_mul, bil_mull] at this
    grind
  by_cases c : quad n F x = 0
  · have : bil n F x y = 0 := by
      refine Classical.byContradiction fun b0 => ?_
      have := h (-(quad n F y + 1) / (2 * bil n F x y))
      rw [c] at this
      have e : 2 * (-(quad n F y + 1) / (2 * bil n F x y)) * bil n F x y = -(quad n F y + 1) := by grind
      rw [e] at this
      grind
    rw [c, this]; grind
  · have qp : 0 < quad n F x := by have := p x; grind
    have := h (-(bil n F x y / quad n F x))
    have := Rat.mul_nonneg this (Rat.le_of_lt qp)
    have e : (-(bil n F x y / quad n F x) * -(bil n F x y / quad n F x) * quad n F x + 2 * -(bil n F x y / quad n F x) * bil n F x y + quad n F y) * quad n F x = quad n F x * quad n F y - bil n F x y * bil n F x y := by grind
    rw [e] at this
    grind
/-- place by place times: never below 0 -/
theorem times_psd (pb : psd n B) : ∀ (k : Nat) (A : Nat → Nat → Rat), psd n A → Sym n A → (∀ i j, i < n → j < n → (i + k < n ∨ j + k < n) → A i j = 0) → psd n fun i j => A i j * B i j
  | 0, A, pa, sa, hz => by
    intro x
    have e : ∀ i j, i < n → j < n → A i j * B i j = 0 := fun i j hi hj => by rw [hz i j hi hj (.inl (by omega))]; grind
    rw [quad, bil_congrF (G := fun _ _ => 0) e]
    have : bil n (fun _ _ => (0 : Rat)) x x = 0 := sum_zero' fun i _ => by
      rw [show app n (fun _ _ => (0 : Rat)) x i = 0 from sum_zero' fun j _ => by grind]; grind
    rw [this]; grind
  | k + 1, A, pa, sa, hz => by
    by_cases hk : n < k + 1
    · exact times_psd pb k A pa sa fun i j hi hj h => hz i j hi hj (by omega)
    let h := n - (k + 1)
    have hh : h < n := by omega
    by_cases c : A h h = 0
    · refine times_psd pb k A pa sa fun i j hi hj hx => ?_
      by_cases c1 : i = h
      · rw [c1]; exact psd_zero pa sa hh hj c
      · by_cases c2 : j = h
        · rw [sa i j hi hj, c2]; exact psd_zero pa sa hh hi c
        · exact hz i j hi hj (by omega)
    · have hp : 0 < A h h := by have := psd_diag pa hh; grind
      have ih := times_psd pb k (schur A h) (schur_psd pa sa hh c) (schur_sym sa hh) fun i j hi hj hx => by
        by_cases c1 : i = h
        · rw [c1]; exact schur_row c
        · by_cases c2 : j = h
          · rw [c2]; exact schur_col c
          · unfold schur
            rw [hz i j hi hj (by omega)]
            have : A i h * A h j = 0 := by
              rcases hx with hx | hx
              · rw [hz i h hi hh (.inl (by omega))]; grind
              · rw [hz h j hh hj (.inr (by omega))]; grind
            rw [this]; grind
      intro x
      have e : ∀ i j, i < n → j < n → A i j * B i j = schur A h i j * B i j + (A h h)⁻¹ * ((A i h * A h j) * B i j) := fun i j hi hj => by unfold schur; grind
      rw [quad, bil_congrF e, bilF_add, bilF_mul]
      have h1 := ih x
      have h2 := pb fun i => A i h * x i
      have e2 : bil n (fun i j => (A i h * A h j) * B i j) x x = quad n B fun i => A i h * x i := by
        unfold quad bil dotF app
        refine sum_congr fun i hi => ?_
        rw [← sum_mul, ← sum_mul]
        exact sum_congr fun j hj => by
          show x i * ((A i h * A h j * B i j) * x j) = A i h * x i * (B i j * (A j h * x j))
          rw [sa h j hh hj]; grind
      rw [e2]
      have h3 := Rat.mul_nonneg (Rat.le_of_lt (Rat.inv_pos.mpr hp)) h2
      have h1 : 0 ≤ bil n (fun i j => schur A h i j * B i j) x x := h1
      grind
end
end Ev

set_option Elab.async false
set_option linter.all false
set_option maxRecDepth 100000
set_option maxHeartbeats 4000000
set_option autoImplicit false
set_option exponentiation.threshold 10000
/-! specs: never below, over, mixed -/
namespace Ev
open PySem
/-- sizes, whatever the bottom -/
def Sz (a n m : Nat) (F : Nat → Nat → Rat) : Prop := ∃ d, SzM a d n m F
def QQ (a : Nat) (x : Rat) : Prop := ∃ d, 0 < d ∧ d < 2 ^ a ∧ Q a d x
theorem QQ.ok {a : Nat} {x : Rat} (h : QQ a x) (ha : a ≤ 4400) : ok x := by
  obtain ⟨d, h0, h1, h2⟩ := h
  exact h2.ok h0 (Nat.lt_of_lt_of_le h1 (Nat.pow_le_pow_right (by decide) ha)) ha
theorem Q.qq {a d : Nat} {x : Rat} (h : Q a d x) (h0 : 0 < d) (h1 : d < 2 ^ a) : QQ a x := ⟨d, h0, h1, h⟩
theorem QQ.mono {a b : Nat} {x : Rat} (h : QQ a x) (hb : a ≤ b) : QQ b x := by
  obtain ⟨d, h0, h1, h2⟩ := h
  exact ⟨d, h0, Nat.lt_of_lt_of_le h1 (Nat.pow_le_pow_right (by decide) hb), h2.mono hb⟩
theorem QQ.mul {a b : Nat} {x y : Rat} (h : QQ a x) (g : QQ b y) : QQ (a + b) (x * y) := by
  obtain ⟨d, h0, h1, h2⟩ := h
  obtain ⟨e, g0, g1, g2⟩ := g
  exact ⟨d * e, Nat.mul_pos h0 g0, pow_add_lt h1 g1, h2.mul g2⟩
theorem QQ.add {a b : Nat} {x y : Rat} (h : QQ a x) (g : QQ b y) : QQ (a + b + 1) (x + y) := by
  obtain ⟨d, h0, h1, h2⟩ := h
  obtain ⟨e, g0, g1, g2⟩ := g
  refine ⟨d * e, Nat.mul_pos h0 g0, Nat.lt_of_lt_of_le (pow_add_lt h1 g1) (Nat.pow_le_pow_right (by decide) (by omega)), ?_⟩
  exact Q.add (a := a + b) (Nat.mul_pos h0 g0) (h2.up g0 g1) ((((g2.up h0 h1)).comm).mono (by omega)) (by omega)
theorem QQ.int {a : Nat} {i : Int} (h : i.natAbs < 2 ^ a) (h1 : 1 ≤ a) : QQ a (i : Rat) := ⟨1, by decide, Nat.one_lt_two_pow (by omega), Q.int h⟩
theorem QQ.neg {a : Nat} {x : Rat} (h : QQ a x) : QQ a (-x) := by
  obtain ⟨d, h0, h1, h2⟩ := h
  exact ⟨d, h0, h1, h2.neg⟩
theorem QQ.inv {a : Nat} {x : Rat} (h : QQ a x) (hx : x ≠ 0) : QQ a x⁻¹ := by
  obtain ⟨d, h0, h1, P, e, hP⟩ := h
  have hP0 : P ≠ 0 := by
    intro c
    rw [c] at e
    exact hx (by rw [e]; simp)
  refine ⟨P.natAbs, by omega, hP, P.sign * d, ?_, by rw [Int.natAbs_mul, Int.natAbs_sign, if_neg hP0, Nat.one_mul, Int.natAbs_natCast]; exact h1⟩
  rw [e, Rat.inv_divInt, div_sign hP0]
theorem q_one : QQ 1 1 := ⟨1, by decide, by decide, Q.int (i := 1) (by decide)⟩
theorem q_less : QQ 1 (-1) := q_one.neg
theorem Sz.mono {a b n m : Nat} {F : Nat → Nat → Rat} (h : Sz a n m F) (hb : a ≤ b) : Sz b n m F := by
  obtain ⟨d, h⟩ := h
  exact ⟨d, h.mono hb⟩
theorem Sz.congr {a n m : Nat} {F G : Nat → Nat → Rat} (h : Sz a n m F) (e : ∀ i j, i < n → j < m → F i j = G i j) : Sz a n m G := by
  obtain ⟨d, h0, h1, h2⟩ := h
  exact ⟨d, h0, h1, fun i j hi hj => by rw [← e i j hi hj]; exact h2 i j hi hj⟩
theorem Sz.ok {a n m : Nat} {F : Nat → Nat → Rat} (h : Sz a n m F) (ha : a ≤ 4400) {i j : Nat} (hi : i < n) (hj : j < m) : Ev.ok (F i j) := by
  obtain ⟨d, h⟩ := h
  exact h.ok ha hi hj
theorem Sz.q {a n m : Nat} {F : Nat → Nat → Rat} (h : Sz a n m F) {i j : Nat} (hi : i < n) (hj : j < m) : QQ a (F i j) := by
  obtain ⟨d, h0, h1, h2⟩ := h
  exact ⟨d, h0, h1, h2 i j hi hj⟩
theorem Sz.mul {a b n m : Nat} {F : Nat → Nat → Rat} {c : Rat} (h : Sz a n m F) (hc : QQ b c) : Sz (a + b) n m fun i j => c * F i j := by
  obtain ⟨d, h0, h1, h2⟩ := h
  obtain ⟨e, g0, g1, g2⟩ := hc
  exact ⟨d * e, Nat.mul_pos h0 g0, pow_add_lt h1 g1, fun i j hi hj => by
    have := ((g2.mul (h2 i j hi hj)).comm)
    rwa [Nat.add_comm] at this⟩
theorem Sz.add {a b n m : Nat} {F G : Nat → Nat → Rat} (h : Sz a n m F) (g : Sz b n m G) : Sz (a + b + 1) n m fun i j => F i j + G i j := by
  obtain ⟨d, h0, h1, h2⟩ := h
  obtain ⟨e, g0, g1, g2⟩ := g
  refine ⟨d * e, Nat.mul_pos h0 g0, Nat.lt_of_lt_of_le (pow_add_lt h1 g1) (Nat.pow_le_pow_right (by decide) (by omega)), fun i j hi hj => ?_⟩
  exact Q.add (a := a + b) (Nat.mul_pos h0 g0) ((h2 i j hi hj).up g0 g1) (((((g2 i j hi hj)).up h0 h1).comm).mono (by omega)) (by omega)
theorem Sz.mix {a b c1 n m : Nat} {F G : Nat → Nat → Rat} {c : Rat} (h : Sz a n m F) (g : Sz b n m G) (hc : QQ c1 c) : Sz (a + (b + c1) + 1) n m fun i j => F i j + c * G i j := h.add (g.mul hc)
theorem mix_ok {a b c1 n m : Nat} {F G : Nat → Nat → Rat} {c : Rat} (h : Sz a n m F) (g : Sz b n m G) (hc : QQ c1 c) (ha : a + b + c1 ≤ 4400) : okMix (mat n m F) (mat n m G) c := by
  refine ⟨hc.ok (by omega), fun r hr x hx => ?_, fun r hr x hx => ?_⟩
  · obtain ⟨i, hi, rfl⟩ := mem_mat hr
    obtain ⟨j, hj, rfl⟩ := mem_vec hx
    exact h.ok (by omega) hi hj
  · obtain ⟨i, hi, rfl⟩ := mem_mat hr
    obtain ⟨j, hj, rfl⟩ := mem_vec hx
    exact ⟨g.ok (by omega) hi hj, (g.mul hc).ok (by omega) hi hj⟩
/-- a table with sizes that the reduction bears -/
structure Okt (a n : Nat) (F : Nat → Nat → Rat) : Prop where
  pos : 0 < n
  le : n ≤ 20
  a1 : 1 ≤ a
  ab : 2 ^ n * (a + 1) ≤ 4400
  sz : Sz a n n F
  sym : Sym n F
theorem Okt.tab {a n : Nat} {F : Nat → Nat → Rat} (h : Okt a n F) : Tab n (mat n n F) := tab_mat h.pos h.le F h.sym
theorem Okt.al {a n : Nat} {F : Nat → Nat → Rat} (h : Okt a n F) : a < 4400 := by
  have := h.ab
  have h2 : 1 * (a + 1) ≤ 2 ^ n * (a + 1) := Nat.mul_le_mul_right _ (Nat.two_pow_pos n)
  omega
theorem mat_ml {n m : Nat} {F : Nat → Nat → Rat} (h : n ≤ 1000) : (mat n m F).length ≤ most := by simp [most]; omega
theorem mat_rl {n m : Nat} {F : Nat → Nat → Rat} (h : m ≤ 1000) : ∀ r ∈ mat n m F, r.length ≤ most := fun r hr => by
  obtain ⟨i, _, rfl⟩ := mem_mat hr
  simp [most]; omega
section
variable {k : Nat} (S : Store)
theorem s_never_below (hk : 7 ≤ k) {a n : Nat} {F : Nat → Nat → Rat} (o : Okt a n F) (p : psd n F) : callF defs cs97 k i_never_below [tabD (mat n n F)] S = some (.bl true, S) := by
  obtain ⟨k, rfl, hj⟩ := lev hk
  refine call_ret t_never_below rfl rfl (S' := S) ?_ rfl (take_self S)
  show exec (G k) b_never_below [some (tabD (mat n n F))] S = _
  exact x_seqR (x_ret (e_cmp (e_idx (i := 1) (e_call (e_args1 (e_var rfl)) (spec_gone_through S hj o.le o.sz o.a1 o.ab (psd_go p o.sym))) e_int rfl (idx_nat _ 1 (by simp))) e_non rfl))
theorem s_is_never_below (hk : 8 ≤ k) {a n : Nat} {F : Nat → Nat → Rat} (o : Okt a n F) (p : psd n F) {w1 w2 w3 : List D → D} (h1 : Rw w1) (h2 : Rw w2) (h3 : Rw w3) : callF defs cs97 k i_is_never_below [formD w1 w2 w3 (mat n n F)] S = some (.bl true, S) := by
  obtain ⟨k, rfl, hj⟩ := lev hk
  refine call_ret t_is_never_below rfl rfl (S' := S) ?_ rfl (take_self S)
  show exec (G k) b_is_never_below [some (formD w1 w2 w3 (mat n n F))] S = _
  exact x_seqR (x_ret (e_call (e_args1 (e_call (e_args1 (e_var rfl)) (sure_table_tab S hj o.tab h1 h2 h3))) (s_never_below S hj o p)))
theorem s_sure_never_below (hk : 8 ≤ k) {a n : Nat} {F : Nat → Nat → Rat} (o : Okt a n F) (p : psd n F) {w1 w2 w3 : List D → D} (h1 : Rw w1) (h2 : Rw w2) (h3 : Rw w3) : callF defs cs97 k i_sure_never_below [formD w1 w2 w3 (mat n n F)] S = some (tabD (mat n n F), S) := by
  obtain ⟨k, rfl, hj⟩ := lev hk
  refine call_ret t_sure_never_below rfl rfl (S' := S) ?_ (by simp) (take_self S)
  show exec (G k) b_sure_never_below [some (formD w1 w2 w3 (mat n n F)), none] S = _
  exact x_seq (x_asg (e_call (e_args1 (e_var rfl)) (sure_table_tab S hj o.tab h1 h2 h3))) (x_seq (x_iteF (S1 := S) (e_nt (b := true) (e_call (e_args1 (e_var rfl)) (s_never_below S hj o p))) x_done) (x_seqR (x_ret (e_var rfl))))
theorem s_is_over_in (hk : 8 ≤ k) {a b c n : Nat} {F H : Nat → Nat → Rat} (zF : Sz a n n F) (zH : Sz b n n H) (hab : a + b + 1 ≤ 4400) (o : Okt c n fun i j => F i j + (-1) * H i j) (p : psd n fun i j => F i j + (-1) * H i j) : callF defs cs97 k i_is_over_in [tabD (mat n n F), tabD (mat n n H)] S = some (.bl true, S) := by
  obtain ⟨k, rfl, hj⟩ := lev hk
  have hl := o.le
  refine call_ret t_is_over_in rfl rfl (S' := S) ?_ rfl (take_self S)
  show exec (G k) b_is_over_in [some (tabD (mat n n F)), some (tabD (mat n n H))] S = _
  have hm := spec_mixed S (k := k) (by omega) (mat n n F) (mat n n H) (-1) (mix_ok zF zH q_less hab) (mat_ml (by omega)) (mat_rl (by omega))
  rw [mixR_mat] at hm
  exact x_seqR (x_ret (e_call (e_args1 (e_call (e_args3 (e_var rfl) (e_var rfl) (e_glob rfl)) hm)) (s_never_below S hj o p)))
theorem s_is_over (hk : 9 ≤ k) {a b c n : Nat} {F H : Nat → Nat → Rat} (zF : Sz a n n F) (zH : Sz b n n H) (sF : Sym n F) (sH : Sym n H) (hab : a + b + 1 ≤ 4400) (o : Okt c n fun i j => F i j + (-1) * H i j) (p : psd n fun i j => F i j + (-1) * H i j) {w1 w2 w3 v1 v2 v3 : List D → D} (h1 : Rw w1) (h2 : Rw w2) (h3 : Rw w3) (g1 : Rw v1) (g2 : Rw v2) (g3 : Rw v3) :
    callF defs cs97 k i_is_over [formD w1 w2 w3 (mat n n F), formD v1 v2 v3 (mat n n H)] S = some (.bl true, S) := by
  obtain ⟨k, rfl, hj⟩ := lev hk
  refine call_ret t_is_over rfl rfl (S' := S) ?_ rfl (take_self S)
  show exec (G k) b_is_over [some (formD w1 w2 w3 (mat n n F)), some (formD v1 v2 v3 (mat n n H)), none, none] S = _
  exact x_seq (x_tup2 (e_call (e_args2 (e_var rfl) (e_var rfl)) (sure_tables_tab S hj (tab_mat o.pos o.le F sF) (tab_mat o.pos o.le H sH) h1 h2 h3 g1 g2 g3))) (x_seqR (x_ret (e_call (e_args2 (e_var rfl) (e_var rfl)) (s_is_over_in S hj zF zH hab o p))))
theorem s_mixed_table (hk : 9 ≤ k) {a b c n : Nat} {F H : Nat → Nat → Rat} {q : Rat} (n0 : 0 < n) (hn : n ≤ 20) (zF : Sz a n n F) (zH : Sz b n n H) (sF : Sym n F) (sH : Sym n H) (hq : QQ c q) (hab : a + (b + (a + 1) + 1) + c ≤ 4400) {w1 w2 w3 v1 v2 v3 : List D → D} (h1 : Rw w1) (h2 : Rw w2) (h3 : Rw w3) (g1 : Rw v1) (g2 : Rw v2) (g3 : Rw v3) :
    callF defs cs97 k i_mixed_table [formD w1 w2 w3 (mat n n F), formD v1 v2 v3 (mat n n H), fr q] S = some (tabD (mat n n fun i j => F i j + q * (H i j + (-1) * F i j)), S) := by
  obtain ⟨k, rfl, hj⟩ := lev hk
  refine call_ret t_mixed_table rfl rfl (S' := S) ?_ (by simp) (take_self S)
  show exec (G k) b_mixed_table [some (formD w1 w2 w3 (mat n n F)), some (formD v1 v2 v3 (mat n n H)), some (fr q), none, none, none] S = _
  have m1 := spec_mixed S (k := k) (by omega) (mat n n H) (mat n n F) (-1) (mix_ok zH zF q_less (by omega)) (mat_ml (by omega)) (mat_rl (by omega))
  rw [mixR_mat] at m1
  have m2 := spec_mixed S (k := k) (by omega) (mat n n F) (mat n n fun i j => H i j + (-1) * F i j) q (mix_ok zF (zH.mix zF q_less) hq (by omega)) (mat_ml (by omega)) (mat_rl (by omega))
  rw [mixR_mat] at m2
  refine x_seq (x_tup2 (e_call (e_args2 (e_var rfl) (e_var rfl)) (sure_tables_tab S hj (tab_mat n0 hn F sF) (tab_mat n0 hn H sH) h1 h2 h3 g1 g2 g3))) ?_
  refine x_seq (x_asg (e_call (e_args1 (e_var rfl)) (sure_fraction_fr S (by omega) q rw_tup))) ?_
  exact x_seqR (x_ret (e_call (e_args3 (e_var rfl) (e_call (e_args3 (e_var rfl) (e_var rfl) (e_glob rfl)) m1) (e_var rfl)) m2))
/-! ### 0 is not in -/
theorem zero_notIn (l : List Rat) (h : ∀ q ∈ l, q ≠ 0) : inD S (fr 0) (.tup (l.map fr)) = some false := by
  obtain ⟨x, a1, a2, a3⟩ := lay_py (lay_row 0 l)
  have e : toPy (rowD l) = some (.tuple (l.map pyFr)) := by simp [rowD, toPy, toPys_fr]
  rw [e] at a1
  cases a1
  have s1 : SeqAt.shaped (.list (l.map pyFr)) = true := by
    have hd : (PyData.list (l.map pyFr)).depth ≤ 64 := by
      simp only [PyData.depth] at a3 ⊢
      omega
    have hc : (PyData.list (l.map pyFr)).canLay0 = true := by
      simp only [PyData.canLay0] at a2 ⊢
      exact a2
    unfold SeqAt.shaped
    rw [hc, decide_eq_true hd]; rfl
  have s0 : SeqAt.shaped (pyFr 0) = true := rfl
  have an : ((l.map pyFr).any fun z => PyData.eqv z (pyFr 0)) = false := by
    rw [List.any_eq_false]
    intro z hz
    obtain ⟨q, hq, rfl⟩ := List.mem_map.mp hz
    have := eqv_iff (lay_fr 0 q) (lay_fr 0 0) (toPy_fr q) (toPy_fr 0)
    intro c
    exact h q hq (fr_inj (this.mp c))
  have f0 : flat S (fr 0) = fr 0 := rfl
  unfold inD
  rw [f0, toPy_fr]
  simp only [flat, Option.bind_some, toPys_fr]
  rw [show PyData.tuple [.int (0 : Rat).num, .int ((0 : Rat).den : Nat)] = pyFr 0 from rfl, s0, s1, an]
  rfl
end
end Ev

set_option Elab.async false
set_option linter.all false
set_option maxRecDepth 100000
set_option maxHeartbeats 4000000
set_option autoImplicit false
set_option exponentiation.threshold 10000
/-! determinants of at most 3 rows; sizes of backs (no program) -/
namespace Ev
theorem red_prod {n : Nat} {F : Nat → Nat → Rat} (h : Inj n F) : (redN n n F).2.2 ≠ 0 := by
  have h' : ∀ x : Nat → Rat, (∀ c, n ≤ c → x c = 0) → Ker n n F x → ∀ c, c < n → x c = 0 := fun x _ hk => h x fun i hi => hk i hi
  have gen : ∀ t, t ≤ n → ((List.range t).foldl (redStep n) (F, [], 1)).2.2 ≠ 0 := by
    intro t
    induction t with
    | zero => intro _; simp
    | succ t ih =>
      intro ht
      obtain ⟨f, hx⟩ := red_full (w := n) (Nat.le_refl n) h' t (by omega)
      have e : (List.range (t + 1)).foldl (redStep n) (F, [], 1) = redStep n ((List.range t).foldl (redStep n) (F, [], 1)) t := by rw [List.range_succ, List.foldl_append]; rfl
      rw [e]
      obtain ⟨k, _, _, h3, e2, _⟩ := full_step f (by omega) (Nat.le_refl n) fun x h0 h1 => h' x h0 ((hx x).mp h1)
      rw [e2]
      show _ * (if k = t then _ else _) ≠ 0
      intro z
      rcases Rat.mul_eq_zero.mp z with z | z
      · exact ih (by omega) z
      · split at z
        · exact h3 z
        · exact h3 (by grind)
  exact gen n (Nat.le_refl n)
structure DetLike (n : Nat) (dt : (Nat → Nat → Rat) → Rat) : Prop where
  congr : ∀ F G, (∀ i j, i < n → j < n → F i j = G i j) → dt F = dt G
  swap : ∀ F h k, h < n → k < n → h ≠ k → dt (swapF F h k) = -dt F
  clear : ∀ F h pl, h < n → pl < n → F h pl ≠ 0 → dt (clearF F h pl) = dt F / F h pl
  one : dt Ident = 1
theorem red_det {n : Nat} {F : Nat → Nat → Rat} {dt : (Nat → Nat → Rat) → Rat} (l : DetLike n dt) (h : Inj n F) : (redN n n F).2.2 = dt F := by
  have h' : ∀ x : Nat → Rat, (∀ c, n ≤ c → x c = 0) → Ker n n F x → ∀ c, c < n → x c = 0 := fun x _ hk => h x fun i hi => hk i hi
  have gen : ∀ t, t ≤ n → ((List.range t).foldl (redStep n) (F, [], 1)).2.2 * dt ((List.range t).foldl (redStep n) (F, [], 1)).1 = dt F := by
    intro t
    induction t with
    | zero => intro _; show 1 * dt F = dt F; grind
    | succ t ih =>
      intro ht
      have ih := ih (by omega)
      obtain ⟨f, hx⟩ := red_full (w := n) (Nat.le_refl n) h' t (by omega)
      have e : (List.range (t + 1)).foldl (redStep n) (F, [], 1) = redStep n ((List.range t).foldl (redStep n) (F, [], 1)) t := by rw [List.range_succ, List.foldl_append]; rfl
      rw [e]
      obtain ⟨k, h1, h2, h3, e2, _⟩ := full_step f (by omega) (Nat.le_refl n) fun x h0 h1 => h' x h0 ((hx x).mp h1)
      rw [e2]
      generalize (List.range t).foldl (redStep n) (F, [], 1) = s at *
      show s.2.2 * (if k = t then s.1 k t else -(s.1 k t)) * dt (clearF (swapF s.1 t k) t t) = dt F
      have sk : swapF s.1 t k t t = s.1 k t := by simp [swapF]
      rw [l.clear _ _ _ (by omega) (by omega) (by rw [sk]; exact h3), sk, ← ih]
      by_cases c : k = t
      · rw [if_pos c]
        have : dt (swapF s.1 t k) = dt s.1 := l.congr _ _ fun i j _ _ => by
          unfold swapF
          by_cases d : i = t
          · rw [if_pos d, c, d]
          · rw [if_neg d, c, if_neg d]
        rw [this]; grind
      · rw [if_neg c, l.swap _ _ _ (by omega) h2 (fun z => c z.symm)]
        grind
  have := gen n (Nat.le_refl n)
  obtain ⟨f, _⟩ := red_full (w := n) (Nat.le_refl n) h' n (Nat.le_refl n)
  have e1 : dt ((List.range n).foldl (redStep n) (F, [], 1)).1 = 1 := by
    rw [l.congr _ Ident fun i j hi hj => f.d i j hi hj]; exact l.one
  rw [e1] at this
  have e2 : (redN n n F).2.2 = ((List.range n).foldl (redStep n) (F, [], 1)).2.2 := rfl
  rw [e2]
  grind
def dt1 (F : Nat → Nat → Rat) : Rat := F 0 0
def dt2 (F : Nat → Nat → Rat) : Rat := F 0 0 * F 1 1 - F 0 1 * F 1 0
def dt3 (F : Nat → Nat → Rat) : Rat := F 0 0 * (F 1 1 * F 2 2 - F 1 2 * F 2 1) - F 0 1 * (F 1 0 * F 2 2 - F 1 2 * F 2 0) + F 0 2 * (F 1 0 * F 2 1 - F 1 1 * F 2 0)
theorem lt3 {i : Nat} (h : i < 3) : i = 0 ∨ i = 1 ∨ i = 2 := by omega
theorem lt2 {i : Nat} (h : i < 2) : i = 0 ∨ i = 1 := by omega
theorem lt1 {i : Nat} (h : i < 1) : i = 0 := by omega
theorem like1 : DetLike 1 dt1 where
  congr := fun F G h => h 0 0 (by omega) (by omega)
  swap := fun F h k hh hk c => by omega
  clear := fun F h pl hh hp h0 => by
    have := lt1 hh; have := lt1 hp; subst h; subst pl
    simp [dt1, clearF]
  one := by simp [dt1, Ident]
theorem like2 : DetLike 2 dt2 where
  congr := fun F G h => by simp only [dt2, h 0 0 (by omega) (by omega), h 0 1 (by omega) (by omega), h 1 0 (by omega) (by omega), h 1 1 (by omega) (by omega)]
  swap := fun F h k hh hk c => by
    rcases lt2 hh with rfl | rfl <;> rcases lt2 hk with rfl | rfl <;> first | exact absurd rfl c | (simp [dt2, swapF]; grind)
  clear := fun F h pl hh hp h0 => by
    rcases lt2 hh with rfl | rfl <;> rcases lt2 hp with rfl | rfl <;> (simp [dt2, clearF]; grind)
  one := by simp [dt2, Ident]; grind
theorem like3 : DetLike 3 dt3 where
  congr := fun F G h => by simp only [dt3, h 0 0 (by omega) (by omega), h 0 1 (by omega) (by omega), h 0 2 (by omega) (by omega), h 1 0 (by omega) (by omega), h 1 1 (by omega) (by omega), h 1 2 (by omega) (by omega), h 2 0 (by omega) (by omega), h 2 1 (by omega) (by omega), h 2 2 (by omega) (by omega)]
  swap := fun F h k hh hk c => by
    rcases lt3 hh with rfl | rfl | rfl <;> rcases lt3 hk with rfl | rfl | rfl <;> first | exact absurd rfl c | (simp [dt3, swapF]; grind)
  clear := fun F h pl hh hp h0 => by
    rcases lt3 hh with rfl | rfl | rfl <;> rcases lt3 hp with rfl | rfl | rfl <;> (simp [dt3, clearF]; grind)
  one := by simp [dt3, Ident]; try grind
end Ev

set_option Elab.async false
set_option linter.all false
set_option maxRecDepth 100000
set_option maxHeartbeats 4000000
set_option autoImplicit false
set_option exponentiation.threshold 10000
/-! backs of at most 3 rows by determinants; their sizes (no program) -/
namespace Ev
theorem isInv_of {n : Nat} {F N : Nat → Nat → Rat} (h1 : ∀ i j, i < n → j < n → sum n (fun k => F i k * N k j) = Ident i j) (h2 : ∀ i j, i < n → j < n → sum n (fun k => N i k * F k j) = Ident i j) : IsInv n F N := by
  have gen : ∀ (A B : Nat → Nat → Rat), (∀ i j, i < n → j < n → sum n (fun k => A i k * B k j) = Ident i j) → ∀ x i, i < n → app n A (app n B x) i = x i := fun A B h x i hi => by
    unfold app
    have e1 : ∀ j, A i j * sum n (fun k => B j k * x k) = sum n fun k => A i j * (B j k * x k) := fun j => (sum_mul ..).symm
    rw [show (fun j => A i j * sum n fun k => B j k * x k) = fun j => sum n fun k => A i j * (B j k * x k) from funext e1, sum_comm]
    have e2 : ∀ k, k < n → sum n (fun j => A i j * (B j k * x k)) = Ident i k * x k := fun k hk => by
      rw [← h i k hi hk, ← sum_mulr]
      exact sum_congr fun j _ => by grind
    rw [sum_congr e2, sum_one hi fun k _ c => by simp [Ident, show ¬ i = k from fun z => c z.symm]]
    simp [Ident]
  exact ⟨gen F N h1, gen N F h2⟩
def dtN (n : Nat) (F : Nat → Nat → Rat) : Rat := match n with
  | 0 => 1
  | 1 => dt1 F
  | 2 => dt2 F
  | _ => dt3 F
/-- row i, column j left out -/
def cutF (F : Nat → Nat → Rat) (i j : Nat) : Nat → Nat → Rat := fun a b => F (if a < i then a else a + 1) (if b < j then b else b + 1)
def adjN (n : Nat) (F : Nat → Nat → Rat) (i j : Nat) : Rat := if (i + j) % 2 = 0 then dtN (n - 1) (cutF F j i) else -dtN (n - 1) (cutF F j i)
def lawBk (n : Nat) (F : Nat → Nat → Rat) (i j : Nat) : Rat := adjN n F i j * (dtN n F)⁻¹
theorem likeN {n : Nat} (h0 : 0 < n) (h : n ≤ 3) : DetLike n (dtN n) := by
  have : n = 1 ∨ n = 2 ∨ n = 3 := by omega
  rcases this with rfl | rfl | rfl
  · exact like1
  · exact like2
  · exact like3
theorem lawBk_inv {n : Nat} {F : Nat → Nat → Rat} (h0 : 0 < n) (h : n ≤ 3) (hd : dtN n F ≠ 0) : IsInv n F (lawBk n F) := by
  have : n = 1 ∨ n = 2 ∨ n = 3 := by omega
  rcases this with rfl | rfl | rfl
  · have hd : F 0 0 ≠ 0 := hd
    refine isInv_of (fun i j hi hj => ?_) fun i j hi hj => ?_ <;>
    · have := lt1 hi; have := lt1 hj; subst i; subst j
      simp [sum, lawBk, adjN, dtN, dt1, Ident]; grind
  · have hd : F 0 0 * F 1 1 - F 0 1 * F 1 0 ≠ 0 := hd
    refine isInv_of (fun i j hi hj => ?_) fun i j hi hj => ?_ <;>
    · rcases lt2 hi with rfl | rfl <;> rcases lt2 hj with rfl | rfl <;> (simp [sum, lawBk, adjN, dtN, dt1, dt2, cutF, Ident]; grind)
  · have hd : dt3 F ≠ 0 := hd
    have e : (dt3 F)⁻¹ * dt3 F = 1 := Rat.inv_mul_cancel _ hd
    unfold dt3 at e
    refine isInv_of (fun i j hi hj => ?_) fun i j hi hj => ?_ <;>
    · rcases lt3 hi with rfl | rfl | rfl <;> rcases lt3 hj with rfl | rfl | rfl <;> (simp [sum, lawBk, adjN, dtN, dt2, dt3, cutF, Ident]; grind)
theorem dt_ne {n : Nat} {F : Nat → Nat → Rat} (h0 : 0 < n) (h : n ≤ 3) (hi : Inj n F) : dtN n F ≠ 0 := by
  rw [← red_det (likeN h0 h) hi]; exact red_prod hi
/-! sizes -/
theorem Q.over {a b c e d : Nat} {x y : Rat} {R : Int} (hy : y = Rat.divInt R (e * d : Nat)) (he : 0 < e) (hd : 0 < d) (hR : R ≠ 0) (hc : d < 2 ^ c) (hx : Q a e x) : Q (a + c) R.natAbs (x * y⁻¹) := by
  obtain ⟨X, rfl, hX⟩ := hx
  refine ⟨R.sign * (X * d), ?_, ?_⟩
  · rw [← div_sign hR, hy, Rat.inv_divInt, Rat.divInt_mul_divInt]
    have : (e : Int) ≠ 0 := by omega
    rw [Int.natCast_mul, show X * ((e : Int) * d) = e * (X * d) by rw [Int.mul_comm X, Int.mul_assoc, Int.mul_comm (d : Int)]]
    exact Rat.divInt_mul_left this
  · rw [Int.natAbs_mul, Int.natAbs_sign, if_neg hR, Nat.one_mul]
    exact nm hX (by rw [Int.natAbs_natCast]; exact hc)
theorem dtN_q {a d n : Nat} {F : Nat → Nat → Rat} (h0 : 0 < n) (hn : n ≤ 3) (h : ∀ i j, i < n → j < n → Q a d (F i j)) (hd : 0 < d) : Q (n * a + n) (d ^ n) (dtN n F) := by
  have : n = 1 ∨ n = 2 ∨ n = 3 := by omega
  have d2 : 0 < d * d := Nat.mul_pos hd hd
  have d3 : 0 < d * d * d := Nat.mul_pos d2 hd
  have two : ∀ {p q r s : Rat}, Q a d p → Q a d q → Q a d r → Q a d s → Q (2 * a + 1) (d * d) (p * q - r * s) := fun h1 h2 h3 h4 =>
    Q.sub (a := 2 * a) d2 ((h1.mul h2).mono (by omega)) ((h3.mul h4).mono (by omega)) (by omega)
  rcases this with rfl | rfl | rfl
  · simp only [dtN, dt1, Nat.pow_one]
    exact (h 0 0 (by omega) (by omega)).mono (by omega)
  · rw [show d ^ 2 = d * d by rw [Nat.pow_succ, Nat.pow_one]]
    simp only [dtN, dt2]
    exact (two (h 0 0 (by omega) (by omega)) (h 1 1 (by omega) (by omega)) (h 0 1 (by omega) (by omega)) (h 1 0 (by omega) (by omega))).mono (by omega)
  · rw [show d ^ 3 = d * (d * d) by rw [Nat.pow_succ, Nat.pow_succ, Nat.pow_one, Nat.mul_assoc]]
    have d3 : 0 < d * (d * d) := Nat.mul_pos hd d2
    have e := fun i j (hi : i < 3) (hj : j < 3) => h i j hi hj
    simp only [dtN, dt3]
    have t1 := (e 0 0 (by omega) (by omega)).mul (two (e 1 1 (by omega) (by omega)) (e 2 2 (by omega) (by omega)) (e 1 2 (by omega) (by omega)) (e 2 1 (by omega) (by omega)))
    have t2 := (e 0 1 (by omega) (by omega)).mul (two (e 1 0 (by omega) (by omega)) (e 2 2 (by omega) (by omega)) (e 1 2 (by omega) (by omega)) (e 2 0 (by omega) (by omega)))
    have t3 := (e 0 2 (by omega) (by omega)).mul (two (e 1 0 (by omega) (by omega)) (e 2 1 (by omega) (by omega)) (e 1 1 (by omega) (by omega)) (e 2 0 (by omega) (by omega)))
    exact Q.add (a := 3 * a + 2) d3 (Q.sub (a := 3 * a + 1) d3 (t1.mono (by omega)) (t2.mono (by omega)) (by omega)) (t3.mono (by omega)) (by omega)
theorem adjN_q {a d n : Nat} {F : Nat → Nat → Rat} (h0 : 0 < n) (hn : n ≤ 3) (h : ∀ i j, i < n → j < n → Q a d (F i j)) (hd : 0 < d) {i j : Nat} (hi : i < n) (hj : j < n) : Q ((n - 1) * a + n) (d ^ (n - 1)) (adjN n F i j) := by
  by_cases n1 : n = 1
  · subst n1
    have e : adjN 1 F i j = 1 := by
      have := lt1 hi; have := lt1 hj; subst i; subst j
      simp [adjN, dtN]
    rw [e]
    exact (Q.int (a := 1) (i := 1) (by decide)).mono (by omega)
  have := dtN_q (F := cutF F j i) (n := n - 1) (by omega) (by omega) (fun p q hp hq => h _ _ (by split <;> omega) (by split <;> omega)) hd
  unfold adjN
  split
  · exact this.mono (by omega)
  · exact (this.mono (by omega)).neg
/-- the sizes of a back -/
theorem back_sz {a n : Nat} {F N : Nat → Nat → Rat} (h0 : 0 < n) (hn : n ≤ 3) (z : Sz a n n F) (hi : IsInv n F N) : Sz (3 * a + 3) n n N := by
  have hd := dt_ne h0 hn hi.inj
  obtain ⟨d, d0, d1, q⟩ := z
  refine Sz.congr (F := lawBk n F) ?_ fun i j hi2 hj => (lawBk_inv h0 hn hd).uniq hi i j hi2 hj
  obtain ⟨R, e, hR⟩ := dtN_q h0 hn q d0
  have hR0 : R ≠ 0 := by
    intro c
    rw [c] at e
    exact hd (by rw [e]; simp)
  have hp : d ^ n = d ^ (n - 1) * d := by rw [← Nat.pow_succ]; congr 1; omega
  rw [hp] at e
  have n1 : n * a + n ≤ 3 * a + 3 := by
    have : n * a ≤ 3 * a := Nat.mul_le_mul_right _ hn
    omega
  have n2 : (n - 1) * a + n + a ≤ 3 * a + 3 := by
    have : (n - 1) * a ≤ 2 * a := Nat.mul_le_mul_right _ (by omega)
    omega
  refine ⟨R.natAbs, by omega, Nat.lt_of_lt_of_le hR (Nat.pow_le_pow_right (by decide) n1), fun i j hi2 hj => ?_⟩
  exact (Q.over (b := 0) e (Nat.pos_of_ne_zero (by have := Nat.pow_pos (n := n - 1) d0; omega)) d0 hR0 d1 (adjN_q h0 hn q d0 hi2 hj)).mono n2
end Ev

set_option Elab.async false
set_option linter.all false
set_option maxRecDepth 100000
set_option maxHeartbeats 4000000
set_option autoImplicit false
set_option exponentiation.threshold 10000
/-! specs: backs, beside each other -/
namespace Ev
open PySem
/-- a table without ties and its back -/
structure Tbl (a b n : Nat) (F N : Nat → Nat → Rat) : Prop where
  o : Okt a n F
  p : Pd n F
  i : IsInv n F N
  z : Sz b n n N
section
variable {k : Nat} (S : Store)
theorem s_back_in (hk : 6 ≤ k) {a n : Nat} {F N : Nat → Nat → Rat} (o : Okt a n F) (h : IsInv n F N) : callF defs cs97 k i_back_in [tabD (mat n n F)] S = some (tabD (mat n n N), S) := by
  obtain ⟨h1, h2⟩ := back_full h.inj
  have := spec_back_in S hk o.le o.sz o.a1 o.ab
  rw [if_pos h1, mat_congr (h2.uniq h)] at this
  exact this
theorem s_back_table (hk : 8 ≤ k) {a n : Nat} {F N : Nat → Nat → Rat} (o : Okt a n F) (h : IsInv n F N) {w1 w2 w3 : List D → D} (h1 : Rw w1) (h2 : Rw w2) (h3 : Rw w3) : callF defs cs97 k i_back_table [formD w1 w2 w3 (mat n n F)] S = some (tabD (mat n n N), S) := by
  obtain ⟨k, rfl, hj⟩ := lev hk
  refine call_ret t_back_table rfl rfl (S' := S) ?_ (by simp) (take_self S)
  show exec (G k) b_back_table [some (formD w1 w2 w3 (mat n n F)), none] S = _
  exact x_seq (x_asg (e_call (e_args1 (e_call (e_args1 (e_var rfl)) (sure_table_tab S hj o.tab h1 h2 h3))) (s_back_in S (by omega) o h))) (x_seq (x_iteF (S1 := S) (e_cmp (e_var rfl) e_non rfl) x_done) (x_seqR (x_ret (e_var rfl))))
theorem s_determinant_in (hk : 6 ≤ k) {a n : Nat} {F : Nat → Nat → Rat} (o : Okt a n F) (h : Inj n F) {dt : (Nat → Nat → Rat) → Rat} (l : DetLike n dt) : callF defs cs97 k i_determinant_in [tabD (mat n n F)] S = some (fr (dt F), S) := by
  have := spec_determinant_in S hk o.le o.sz o.a1 o.ab
  rw [if_pos (rank_full h), red_det l h] at this
  exact this
theorem s_determinant (hk : 8 ≤ k) {a n : Nat} {F : Nat → Nat → Rat} (o : Okt a n F) (h : Inj n F) {dt : (Nat → Nat → Rat) → Rat} (l : DetLike n dt) {w1 w2 w3 : List D → D} (h1 : Rw w1) (h2 : Rw w2) (h3 : Rw w3) : callF defs cs97 k i_determinant [formD w1 w2 w3 (mat n n F)] S = some (fr (dt F), S) := by
  obtain ⟨k, rfl, hj⟩ := lev hk
  refine call_ret t_determinant rfl rfl (S' := S) ?_ (by simp) (take_self S)
  show exec (G k) b_determinant [some (formD w1 w2 w3 (mat n n F))] S = _
  exact x_seqR (x_ret (e_call (e_args1 (e_call (e_args1 (e_var rfl)) (sure_table_tab S hj o.tab h1 h2 h3))) (s_determinant_in S (by omega) o h l)))
theorem s_det_ne (hk : 6 ≤ k) {a n : Nat} {F : Nat → Nat → Rat} (o : Okt a n F) (h : Inj n F) : ∃ q, q ≠ 0 ∧ callF defs cs97 k i_determinant_in [tabD (mat n n F)] S = some (fr q, S) := by
  have := spec_determinant_in S hk o.le o.sz o.a1 o.ab
  rw [if_pos (rank_full h)] at this
  exact ⟨_, red_prod h, this⟩
theorem s_sure_without_ties (hk : 9 ≤ k) {a b n : Nat} {F H : Nat → Nat → Rat} (o : Okt a n F) (o' : Okt b n H) (p : Pd n F) (p' : Pd n H) {w1 w2 w3 v1 v2 v3 : List D → D} (h1 : Rw w1) (h2 : Rw w2) (h3 : Rw w3) (g1 : Rw v1) (g2 : Rw v2) (g3 : Rw v3) :
    callF defs cs97 k i_sure_without_ties [formD w1 w2 w3 (mat n n F), formD v1 v2 v3 (mat n n H)] S = some (.tup [tabD (mat n n F), tabD (mat n n H)], S) := by
  obtain ⟨k, rfl, hj⟩ := lev hk
  refine call_ret t_sure_without_ties rfl rfl (S' := S) ?_ (by simp [pureD, pureDs]) (take_self S)
  show exec (G k) b_sure_without_ties [some (formD w1 w2 w3 (mat n n F)), some (formD v1 v2 v3 (mat n n H)), none, none] S = _
  refine x_seq (x_tup2 (e_call (e_args2 (e_var rfl) (e_var rfl)) (sure_tables_tab S hj o.tab o'.tab h1 h2 h3 g1 g2 g3))) ?_
  obtain ⟨q, q0, hq⟩ := s_det_ne S (k := k) (by omega) o p.inj
  obtain ⟨q', q0', hq'⟩ := s_det_ne S (k := k) (by omega) o' p'.inj
  have hin := zero_notIn S [q, q'] (by simp [q0, q0'])
  refine x_seq (x_iteF (S1 := S) (e_orF (S1 := S) (e_nt (b := true) (e_call (e_args1 (e_var rfl)) (s_never_below S (by omega) o p.psd))) (e_orF (S1 := S) (e_nt (b := true) (e_call (e_args1 (e_var rfl)) (s_never_below S (by omega) o' p'.psd))) ?_)) x_done) (x_seqR (x_ret (e_tupE (e_args2 (e_var rfl) (e_var rfl)))))
  exact e_cmp (e_glob (show cs97[0]? = some (fr 0) from rfl)) (e_tupE (e_args2 (e_call (e_args1 (e_var rfl)) hq) (e_call (e_args1 (e_var rfl)) hq'))) hin
/-- both backs added -/
def addF (N M : Nat → Nat → Rat) : Nat → Nat → Rat := fun i j => N i j + M i j
theorem s_mix_one (hk : 4 ≤ k) {a b n m : Nat} {F H : Nat → Nat → Rat} (hn : n ≤ 1000) (hm : m ≤ 1000) (zF : Sz a n m F) (zH : Sz b n m H) (hab : a + b + 1 ≤ 4400) : callF defs cs97 k i_mixed [tabD (mat n m F), tabD (mat n m H), fr 1] S = some (tabD (mat n m (addF F H)), S) := by
  have h := spec_mixed S hk (mat n m F) (mat n m H) 1 (mix_ok zF zH q_one hab) (mat_ml hn) (mat_rl hm)
  have e : mat n m (fun i j => F i j + 1 * H i j) = mat n m (addF F H) := mat_congr fun i j _ _ => by unfold addF; rw [Rat.one_mul]
  rw [mixR_mat, e] at h
  exact h
theorem s_beside (hk : 10 ≤ k) {a b a' b' c n : Nat} {F N H M W : Nat → Nat → Rat} (t : Tbl a b n F N) (t' : Tbl a' b' n H M) (hab : b + b' + 1 ≤ 4400) (o : Okt c n (addF N M)) (hw : IsInv n (addF N M) W) {w1 w2 w3 v1 v2 v3 : List D → D} (h1 : Rw w1) (h2 : Rw w2) (h3 : Rw w3) (g1 : Rw v1) (g2 : Rw v2) (g3 : Rw v3) :
    callF defs cs97 k i_beside_each_other [formD w1 w2 w3 (mat n n F), formD v1 v2 v3 (mat n n H)] S = some (tabD (mat n n W), S) := by
  obtain ⟨k, rfl, hj⟩ := lev hk
  have hl := o.le
  refine call_ret t_beside_each_other rfl rfl (S' := S) ?_ (by simp) (take_self S)
  show exec (G k) b_beside_each_other [some (formD w1 w2 w3 (mat n n F)), some (formD v1 v2 v3 (mat n n H)), none, none] S = _
  refine x_seq (x_tup2 (e_call (e_args2 (e_var rfl) (e_var rfl)) (s_sure_without_ties S hj t.o t'.o t.p t'.p h1 h2 h3 g1 g2 g3))) ?_
  exact x_seqR (x_ret (e_call (e_args1 (e_call (e_args3 (e_call (e_args1 (e_var rfl)) (s_back_in S (by omega) t.o t.i)) (e_call (e_args1 (e_var rfl)) (s_back_in S (by omega) t'.o t'.i)) (e_glob rfl)) (s_mix_one S (by omega) (by omega) (by omega) t.z t'.z hab))) (s_back_in S (by omega) o hw)))
theorem s_backs_over (hk : 10 ≤ k) {a b a' b' c n : Nat} {F N H M : Nat → Nat → Rat} (t : Tbl a b n F N) (t' : Tbl a' b' n H M) (hab : b' + b + 1 ≤ 4400) (o : Okt c n fun i j => M i j + (-1) * N i j) (p : psd n fun i j => M i j + (-1) * N i j) {w1 w2 w3 v1 v2 v3 : List D → D} (h1 : Rw w1) (h2 : Rw w2) (h3 : Rw w3) (g1 : Rw v1) (g2 : Rw v2) (g3 : Rw v3) :
    callF defs cs97 k i_backs_over [formD w1 w2 w3 (mat n n F), formD v1 v2 v3 (mat n n H)] S = some (.bl true, S) := by
  obtain ⟨k, rfl, hj⟩ := lev hk
  refine call_ret t_backs_over rfl rfl (S' := S) ?_ rfl (take_self S)
  show exec (G k) b_backs_over [some (formD w1 w2 w3 (mat n n F)), some (formD v1 v2 v3 (mat n n H)), none, none] S = _
  refine x_seq (x_tup2 (e_call (e_args2 (e_var rfl) (e_var rfl)) (s_sure_without_ties S hj t.o t'.o t.p t'.p h1 h2 h3 g1 g2 g3))) ?_
  exact x_seqR (x_ret (e_call (e_args2 (e_call (e_args1 (e_var rfl)) (s_back_in S (by omega) t'.o t'.i)) (e_call (e_args1 (e_var rfl)) (s_back_in S (by omega) t.o t.i))) (s_is_over_in S (by omega) t'.z t.z hab o p)))
theorem s_is_tieless (hk : 8 ≤ k) {a n : Nat} {F : Nat → Nat → Rat} (o : Okt a n F) (p : Pd n F) : callF defs cs97 k i_is_tieless [tabD (mat n n F)] S = some (.bl true, S) := by
  obtain ⟨k, rfl, hj⟩ := lev hk
  refine call_ret t_is_tieless rfl rfl (S' := S) ?_ rfl (take_self S)
  show exec (G k) b_is_tieless [some (tabD (mat n n F))] S = _
  have hr := spec_rank_in S (k := k) (by omega) o.le o.sz o.a1 o.ab
  rw [rank_full p.inj] at hr
  refine x_seqR (x_ret (e_andT (e_call (e_args1 (e_var rfl)) (s_never_below S hj o p.psd)) (e_cmp (e_call (e_args1 (e_var rfl)) hr) (e_lenN (n := n) (e_var rfl) (xs := (mat n n F).map rowD) rfl) ?_)))
  show eqD S (.int n) (.int n) = _
  rw [eqD_int, decide_eq_true rfl]
theorem s_is_without_ties (hk : 9 ≤ k) {a n : Nat} {F : Nat → Nat → Rat} (o : Okt a n F) (p : Pd n F) {w1 w2 w3 : List D → D} (h1 : Rw w1) (h2 : Rw w2) (h3 : Rw w3) : callF defs cs97 k i_is_without_ties [formD w1 w2 w3 (mat n n F)] S = some (.bl true, S) := by
  obtain ⟨k, rfl, hj⟩ := lev hk
  refine call_ret t_is_without_ties rfl rfl (S' := S) ?_ rfl (take_self S)
  show exec (G k) b_is_without_ties [some (formD w1 w2 w3 (mat n n F))] S = _
  exact x_seqR (x_ret (e_call (e_args1 (e_call (e_args1 (e_var rfl)) (sure_table_tab S (by omega) o.tab h1 h2 h3))) (s_is_tieless S hj o p)))
end
end Ev

set_option Elab.async false
set_option linter.all false
set_option maxRecDepth 100000
set_option maxHeartbeats 4000000
set_option autoImplicit false
set_option exponentiation.threshold 10000
/-! specs: rows, sums, shares -/
namespace Ev
open PySem
/-- a row over one bottom -/
abbrev Sv (a n : Nat) (v : Nat → Rat) : Prop := Sz a 1 n fun _ => v
theorem Sv.ok {a n : Nat} {v : Nat → Rat} (h : Sv a n v) (ha : a ≤ 4400) {i : Nat} (hi : i < n) : Ev.ok (v i) := Sz.ok h ha (i := 0) (by decide) hi
theorem Sv.congr {a n : Nat} {v w : Nat → Rat} (h : Sv a n v) (e : ∀ i, i < n → v i = w i) : Sv a n w := Sz.congr h fun _ j _ hj => e j hj
theorem sv_sum {a b n m : Nat} {F : Nat → Nat → Rat} {v : Nat → Rat} (hF : Sz a n m F) (hv : Sv b m v) : ∃ d, 0 < d ∧ d < 2 ^ (a + b) ∧ ∀ i, i < n → (∀ j, j < m → Q (a + b) d (F i j * v j)) ∧ ∀ t, t ≤ m → Q (a + b + t) d (sum t fun j => F i j * v j) := by
  obtain ⟨d, d0, d1, q⟩ := hF
  obtain ⟨e, e0, e1, p⟩ := hv
  have hp : ∀ i, i < n → ∀ j, j < m → Q (a + b) (d * e) (F i j * v j) := fun i hi j hj => (q i j hi hj).mul (p 0 j (by decide) hj)
  exact ⟨d * e, Nat.mul_pos d0 e0, pow_add_lt d1 e1, fun i hi => ⟨hp i hi, fun t ht => Q.sum (Nat.mul_pos d0 e0) t (fun j hj => hp i hi j (by omega)) (Nat.le_refl _)⟩⟩
theorem Sv.app {a b n m : Nat} {F : Nat → Nat → Rat} {v : Nat → Rat} (hF : Sz a n m F) (hv : Sv b m v) : Sv (a + b + m) n (Ev.app m F v) := by
  obtain ⟨d, d0, d1, q⟩ := sv_sum hF hv
  exact ⟨d, d0, Nat.lt_of_lt_of_le d1 (Nat.pow_le_pow_right (by decide) (by omega)), fun _ i _ hi => (q i hi).2 m (Nat.le_refl m)⟩
theorem dot_q {a b n : Nat} {u v : Nat → Rat} (hu : Sv a n u) (hv : Sv b n v) : QQ (a + b + n) (dotF n u v) := by
  obtain ⟨d, d0, d1, q⟩ := sv_sum hu hv
  exact ⟨d, d0, Nat.lt_of_lt_of_le d1 (Nat.pow_le_pow_right (by decide) (by omega)), (q 0 (by decide)).2 n (Nat.le_refl n)⟩
theorem vec_take {n t : Nat} {f : Nat → Rat} {l1 l2 : List Rat} (h : vec n f = l1 ++ l2) (ht : l1.length = t) : t ≤ n ∧ l1 = vec t f := by
  have hl : l1.length ≤ n := by
    have := congrArg List.length h
    simp at this
    omega
  refine ⟨by omega, ?_⟩
  have := congrArg (List.take l1.length) h
  rw [List.take_left] at this
  rw [← this, ht]
  unfold vec
  rw [← List.map_take, List.take_range, Nat.min_eq_left (by omega)]
theorem okSum_vec {a d n : Nat} {f : Nat → Rat} (d0 : 0 < d) (d1 : d < 2 ^ a) (h : ∀ j, j < n → Q a d (f j)) (ha : a + n ≤ 4400) : okSum (vec n f) := by
  have hd : d < 2 ^ 4400 := Nat.lt_of_lt_of_le d1 (Nat.pow_le_pow_right (by decide) (by omega))
  refine ⟨fun x hx => ?_, fun l1 l2 e => ?_⟩
  · obtain ⟨j, hj, rfl⟩ := mem_vec hx
    exact (h j hj).ok d0 hd (by omega)
  · obtain ⟨h1, h2⟩ := vec_take e rfl
    rw [h2, sumR_vec]
    exact (Q.sum d0 l1.length (fun j hj => h j (by omega)) (Nat.le_refl _)).ok d0 hd (by omega)
theorem dot_ok {a b n : Nat} {u v : Nat → Rat} (hu : Sv a n u) (hv : Sv b n v) (h : a + b + n ≤ 4400) : okSum (mulR (vec n u) (vec n v)) := by
  obtain ⟨d, d0, d1, q⟩ := sv_sum hu hv
  rw [mulR_vec]
  exact okSum_vec d0 d1 (q 0 (by decide)).1 h
theorem led_ok {a b n m : Nat} {F : Nat → Nat → Rat} {v : Nat → Rat} (hF : Sz a n m F) (hv : Sv b m v) (h : a + b + m ≤ 4400) : okLed (mat n m F) (vec m v) := by
  refine ⟨fun x hx => ?_, fun r hr => ?_⟩
  · obtain ⟨j, hj, rfl⟩ := mem_vec hx
    exact hv.ok (by omega) hj
  · obtain ⟨i, hi, rfl⟩ := mem_mat hr
    obtain ⟨d, d0, d1, q⟩ := sv_sum hF hv
    refine ⟨fun x hx => ?_, ?_⟩
    · obtain ⟨j, hj, rfl⟩ := mem_vec hx
      exact hF.ok (by omega) hi hj
    · rw [mulR_vec]
      exact okSum_vec d0 d1 (q i hi).1 h
theorem aug_v {a b n : Nat} {F : Nat → Nat → Rat} {v : Nat → Rat} (hF : Sz a n n F) (hv : Sv b n v) : ∃ d, SzM (a + b) d n (n + 1) (aug n F fun i _ => v i) := by
  obtain ⟨d, d0, d1, q⟩ := hF
  obtain ⟨e, e0, e1, p⟩ := hv
  refine ⟨d * e, Nat.mul_pos d0 e0, pow_add_lt d1 e1, fun i j hi hj => ?_⟩
  unfold aug
  split
  · exact (q i j hi (by omega)).up e0 e1
  · exact (((p 0 i (by decide) hi).up d0 d1).comm).mono (by omega)
theorem vec_ne {n : Nat} {v : Nat → Rat} (h : 0 < n) : vec n v ≠ [] := fun z => by
  have := congrArg List.length z
  simp at this
  omega
section
variable {k : Nat} (S : Store)
theorem s_sure_row (hk : 5 ≤ k) {n : Nat} {v : Nat → Rat} (h0 : 0 < n) (hn : n ≤ 20) {w : List D → D} (hw : Rw w) : callF defs cs97 k i_sure_row [w ((vec n v).map fr)] S = some (rowD (vec n v), S) :=
  sure_row_row S hk (vec n v) (vec_ne h0) (by simp [most]; omega) hw rw_tup
theorem s_solve (hk : 6 ≤ k) {a b n : Nat} {F N : Nat → Nat → Rat} {v : Nat → Rat} (hn : n ≤ 20) (hF : Sz a n n F) (hv : Sv b n v) (ha : 1 ≤ a) (hab : 2 ^ n * (a + b + 1) ≤ 4400) (i : IsInv n F N) : callF defs cs97 k i_solve [tabD (mat n n F), rowD (vec n v)] S = some (rowD (vec n (app n N v)), S) := by
  obtain ⟨h1, h2⟩ := solve_full (v := v) i.inj
  have := spec_solve S hk hn (aug_v hF hv) (by omega) hab
  rw [if_pos h1] at this
  rw [this]
  have e : vec n (ansOf n (solRed n F v).1 (solRed n F v).2.1) = vec n (app n N v) := vec_congr fun j hj => by
    rw [← i.l (ansOf n (solRed n F v).1 (solRed n F v).2.1) j hj]
    exact congrFun (app_congr h2) j
  rw [e]
theorem s_both (hk : 5 ≤ k) {a b n : Nat} {u v : Nat → Rat} (hu : Sv a n u) (hv : Sv b n v) (h : a + b + n ≤ 4400) (hn : n ≤ 1000) : callF defs cs97 k i_both [rowD (vec n u), rowD (vec n v)] S = some (fr (dotF n u v), S) := by
  have := spec_both S hk (vec n u) (vec n v) (fun x hx => by obtain ⟨j, hj, rfl⟩ := mem_vec hx; exact hu.ok (by omega) hj) (fun x hx => by obtain ⟨j, hj, rfl⟩ := mem_vec hx; exact hv.ok (by omega) hj) (dot_ok hu hv h) (by simp [most]; omega) rw_tup rw_tup
  rw [dot_vec] at this
  exact this
theorem s_lboth (hk : 5 ≤ k) {a b n : Nat} {u v : Nat → Rat} (hu : Sv a n u) (hv : Sv b n v) (h : a + b + n ≤ 4400) (hn : n ≤ 1000) {w w' : List D → D} (hw : Rw w) (hw' : Rw w') : callF defs cs97 k i__law_both [w (vrow n u), w' (vrow n v)] S = some (fr (dotF n u v), S) := by
  have := spec_lboth S hk (vec n u) (vec n v) (fun x hx => by obtain ⟨j, hj, rfl⟩ := mem_vec hx; exact hu.ok (by omega) hj) (fun x hx => by obtain ⟨j, hj, rfl⟩ := mem_vec hx; exact hv.ok (by omega) hj) (dot_ok hu hv h) (by simp [most]; omega) hw hw'
  rw [dot_vec, map_vec, map_vec] at this
  exact this
theorem s_times_numbers (hk : 6 ≤ k) {a b n : Nat} {F : Nat → Nat → Rat} {v : Nat → Rat} (hF : Sz a n n F) (hv : Sv b n v) (h : a + b + n ≤ 4400) (hn : n ≤ 1000) : callF defs cs97 k i_times_numbers [tabD (mat n n F), rowD (vec n v)] S = some (rowD (vec n (app n F v)), S) := by
  have := spec_times_numbers S hk (mat n n F) (vec n v) (led_ok hF hv h) (mat_ml hn) (mat_rl hn) rw_tup
  rw [ledR_mat] at this
  exact this
theorem row_len (n : Nat) (v : Nat → Rat) : seqOf S (rowD (vec n v)) = some ((vec n v).map fr) := rfl
theorem tab_len (n : Nat) (F : Nat → Nat → Rat) : seqOf S (tabD (mat n n F)) = some ((mat n n F).map rowD) := rfl
theorem ne_same {g : GC} {ρ : Env} {a b : Ex} {n : Nat} (h1 : ev g a ρ S = some ([natD n], S)) (h2 : ev g b ρ S = some ([natD n], S)) : ev g (.cmp .ne a b) ρ S = some ([.bl false], S) := by
  refine e_cmp h1 h2 ?_
  simp [cmpD, natD, eqD_int]
theorem s_sure_row_for (hk : 6 ≤ k) {n : Nat} {F : Nat → Nat → Rat} {v : Nat → Rat} (h0 : 0 < n) (hn : n ≤ 20) {w : List D → D} (hw : Rw w) : callF defs cs97 k i_sure_row_for [tabD (mat n n F), w ((vec n v).map fr)] S = some (rowD (vec n v), S) := by
  obtain ⟨k, rfl, hj⟩ := lev hk
  refine call_ret t_sure_row_for rfl rfl (S' := S) ?_ (by simp) (take_self S)
  show exec (G k) b_sure_row_for [some (tabD (mat n n F)), some (w ((vec n v).map fr)), none] S = _
  exact x_seq (x_asg (e_call (e_args1 (e_var rfl)) (s_sure_row S hj h0 hn hw))) (x_seq (x_iteF (ne_same S (e_lenN (n := n) (e_var rfl) (row_len S n v)) (e_lenN (n := n) (e_var rfl) (tab_len S n F))) x_done) (x_seqR (x_ret (e_var rfl))))
theorem s_sure_products (hk : 6 ≤ k) {n : Nat} {F : Nat → Nat → Rat} {v : Nat → Rat} (h0 : 0 < n) (hn : n ≤ 20) {w : List D → D} (hw : Rw w) : callF defs cs97 k i_sure_products [tabD (mat n n F), w ((vec n v).map fr)] S = some (rowD (vec n v), S) := by
  obtain ⟨k, rfl, hj⟩ := lev hk
  refine call_ret t_sure_products rfl rfl (S' := S) ?_ (by simp) (take_self S)
  show exec (G k) b_sure_products [some (tabD (mat n n F)), some (w ((vec n v).map fr)), none] S = _
  exact x_seq (x_asg (e_call (e_args1 (e_var rfl)) (s_sure_row S hj h0 hn hw))) (x_seq (x_iteF (ne_same S (e_lenN (n := n) (e_var rfl) (row_len S n v)) (e_lenN (n := n) (e_var rfl) (tab_len S n F))) x_done) (x_seqR (x_ret (e_var rfl))))
theorem s_sure_sum (hk : 6 ≤ k) {n : Nat} {F : Nat → Nat → Rat} {v : Nat → Rat} (h0 : 0 < n) (hn : n ≤ 20) {w : List D → D} (hw : Rw w) : callF defs cs97 k i_sure_sum [tabD (mat n n F), w ((vec n v).map fr)] S = some (rowD (vec n v), S) := by
  obtain ⟨k, rfl, hj⟩ := lev hk
  refine call_ret t_sure_sum rfl rfl (S' := S) ?_ (by simp) (take_self S)
  show exec (G k) b_sure_sum [some (tabD (mat n n F)), some (w ((vec n v).map fr)), none] S = _
  exact x_seq (x_asg (e_call (e_args1 (e_var rfl)) (s_sure_row S hj h0 hn hw))) (x_seq (x_iteF (ne_same S (e_lenN (n := n) (e_var rfl) (row_len S n v)) (e_lenN (n := n) (e_var rfl) (tab_len S n F))) x_done) (x_seqR (x_ret (e_var rfl))))
theorem s_row_led (hk : 8 ≤ k) {a b n : Nat} {F : Nat → Nat → Rat} {v : Nat → Rat} (o : Okt a n F) (hv : Sv b n v) (h : a + b + n ≤ 4400) : callF defs cs97 k i_row_led [tabD (mat n n F), rowD (vec n v)] S = some (rowD (vec n (app n F v)), S) := by
  obtain ⟨k, rfl, hj⟩ := lev hk
  have hn := o.le
  refine call_ret t_row_led rfl rfl (S' := S) ?_ (by simp) (take_self S)
  show exec (G k) b_row_led [some (tabD (mat n n F)), some (rowD (vec n v)), none, none] S = _
  exact x_seq (x_par2 (e_args2 (e_call (e_args1 (e_var rfl)) (sure_table_tab S hj o.tab rw_tup rw_tup rw_tup)) (e_call (e_args1 (e_var rfl)) (s_sure_row S (by omega) o.pos o.le rw_tup)))) (x_seq (x_iteF (ne_same S (e_lenN (n := n) (e_var rfl) (row_len S n v)) (e_lenN (n := n) (e_var rfl) (tab_len S n F))) x_done) (x_seqR (x_ret (e_call (e_args2 (e_var rfl) (e_var rfl)) (s_times_numbers S (by omega) o.sz hv h (by omega))))))
theorem s_product_of_sums (hk : 7 ≤ k) {a b n : Nat} {F : Nat → Nat → Rat} {v : Nat → Rat} (hn : n ≤ 20) (hF : Sz a n n F) (hv : Sv b n v) (h : b + (a + b + n) + n ≤ 4400) : callF defs cs97 k i_product_of_sums [tabD (mat n n F), rowD (vec n v), rowD (vec n v)] S = some (fr (quad n F v), S) := by
  obtain ⟨k, rfl, hj⟩ := lev hk
  refine call_ret t_product_of_sums rfl rfl (S' := S) ?_ (by simp) (take_self S)
  show exec (G k) b_product_of_sums [some (tabD (mat n n F)), some (rowD (vec n v)), some (rowD (vec n v))] S = _
  exact x_seqR (x_ret (e_call (e_args2 (e_var rfl) (e_call (e_args2 (e_var rfl) (e_var rfl)) (s_times_numbers S hj hF hv (by omega) (by omega)))) (s_both S (by omega) hv (hv.app hF) h (by omega))))
theorem s_sum_own (hk : 10 ≤ k) {a b n : Nat} {F : Nat → Nat → Rat} {v : Nat → Rat} (o : Okt a n F) (p : psd n F) (hv : Sv b n v) (h : b + (a + b + n) + n ≤ 4400) {w : List D → D} (hw : Rw w) : callF defs cs97 k i_sum_own [tabD (mat n n F), w ((vec n v).map fr)] S = some (fr (quad n F v), S) := by
  obtain ⟨k, rfl, hj⟩ := lev hk
  obtain ⟨k, rfl, hj⟩ := lev hj
  have hn := o.le
  have inner : callF defs cs97 (k + 1) i_sums_product [tabD (mat n n F), w ((vec n v).map fr), w ((vec n v).map fr)] S = some (fr (quad n F v), S) := by
    refine call_ret t_sums_product rfl rfl (S' := S) ?_ (by simp) (take_self S)
    show exec (G k) b_sums_product [some (tabD (mat n n F)), some (w ((vec n v).map fr)), some (w ((vec n v).map fr)), none, none, none] S = _
    exact x_seq (x_asg (e_call (e_args1 (e_var rfl)) (s_sure_never_below S (by omega) o p rw_tup rw_tup rw_tup))) (x_seq (x_par2 (e_args2 (e_call (e_args2 (e_var rfl) (e_var rfl)) (s_sure_sum S (by omega) o.pos o.le hw)) (e_call (e_args2 (e_var rfl) (e_var rfl)) (s_sure_sum S (by omega) o.pos o.le hw)))) (x_seqR (x_ret (e_call (e_args3 (e_var rfl) (e_var rfl) (e_var rfl)) (s_product_of_sums S (by omega) o.le o.sz hv h)))))
  refine call_ret t_sum_own rfl rfl (S' := S) ?_ (by simp) (take_self S)
  show exec (G (k + 1)) b_sum_own [some (tabD (mat n n F)), some (w ((vec n v).map fr))] S = _
  exact x_seqR (x_ret (e_call (e_args3 (e_var rfl) (e_var rfl) (e_var rfl)) inner))
theorem s_sure_more (hk : 9 ≤ k) {a n : Nat} {F : Nat → Nat → Rat} {v : Nat → Rat} (o : Okt a n F) (p : psd n F) {w : List D → D} (hw : Rw w) : callF defs cs97 k i_sure_more [tabD (mat n n F), w ((vec n v).map fr)] S = some (.tup [tabD (mat n n F), rowD (vec n v)], S) := by
  obtain ⟨k, rfl, hj⟩ := lev hk
  refine call_ret t_sure_more rfl rfl (S' := S) ?_ (by simp [pureD, pureDs]) (take_self S)
  show exec (G k) b_sure_more [some (tabD (mat n n F)), some (w ((vec n v).map fr)), none] S = _
  exact x_seq (x_asg (e_call (e_args1 (e_var rfl)) (s_sure_never_below S hj o p rw_tup rw_tup rw_tup))) (x_seqR (x_ret (e_tupE (e_args2 (e_var rfl) (e_call (e_args2 (e_var rfl) (e_var rfl)) (s_sure_products S (by omega) o.pos o.le hw))))))
theorem s_least_own (hk : 11 ≤ k) {a b c n : Nat} {F N : Nat → Nat → Rat} {v : Nat → Rat} (o : Okt a n F) (p : Pd n F) (i : IsInv n F N) (zN : Sz c n n N) (hv : Sv b n v) (h1 : 2 ^ n * (a + b + 1) ≤ 4400) (h2 : b + (c + b + n) + n ≤ 4400) {w : List D → D} (hw : Rw w) : callF defs cs97 k i_least_own [tabD (mat n n F), w ((vec n v).map fr)] S = some (fr (quad n N v), S) := by
  obtain ⟨k, rfl, hj⟩ := lev hk
  have hn := o.le
  have inner : callF defs cs97 k i_sum_for_row [tabD (mat n n F), rowD (vec n v)] S = some (rowD (vec n (app n N v)), S) := by
    obtain ⟨k, rfl, hj⟩ := lev hj
    refine call_ret t_sum_for_row rfl rfl (S' := S) ?_ (by simp) (take_self S)
    show exec (G k) b_sum_for_row [some (tabD (mat n n F)), some (rowD (vec n v)), none, none, none] S = _
    refine x_seq (x_tup2 (e_call (e_args2 (e_var rfl) (e_var rfl)) (s_sure_more S (by omega) o p.psd rw_tup))) ?_
    exact x_seq (x_asg (e_call (e_args2 (e_var rfl) (e_var rfl)) (s_solve S (by omega) o.le o.sz hv o.a1 h1 i))) (x_seq (x_iteF (S1 := S) (e_cmp (e_var rfl) e_non rfl) x_done) (x_seqR (x_ret (e_var rfl))))
  refine call_ret t_least_own rfl rfl (S' := S) ?_ (by simp) (take_self S)
  show exec (G k) b_least_own [some (tabD (mat n n F)), some (w ((vec n v).map fr)), none, none] S = _
  refine x_seq (x_tup2 (e_call (e_args2 (e_var rfl) (e_var rfl)) (s_sure_more S (by omega) o p.psd hw))) ?_
  exact x_seqR (x_ret (e_call (e_args2 (e_var rfl) (e_call (e_args2 (e_var rfl) (e_var rfl)) inner)) (s_both S (by omega) hv (hv.app zN) h2 (by omega))))
theorem s_greatest (hk : 9 ≤ k) {a b c n : Nat} {F N : Nat → Nat → Rat} {v : Nat → Rat} (o : Okt a n F) (p : Pd n F) (i : IsInv n F N) (zN : Sz c n n N) (hv : Sv b n v) (h1 : 2 ^ n * (a + b + 1) ≤ 4400) (h2 : b + (c + b + n) + n ≤ 4400) (hnz : ∃ i, i < n ∧ v i ≠ 0) {w : List D → D} (hw : Rw w) : callF defs cs97 k i_greatest_of_row [tabD (mat n n F), w ((vec n v).map fr)] S = some (fr (1 / quad n N v), S) := by
  obtain ⟨k, rfl, hj⟩ := lev hk
  have hn := o.le
  refine call_ret t_greatest_of_row rfl rfl (S' := S) ?_ (by simp) (take_self S)
  show exec (G k) b_greatest_of_row [some (tabD (mat n n F)), some (w ((vec n v).map fr)), none, none, none] S = _
  refine x_seq (x_asg (e_call (e_args1 (e_var rfl)) (s_sure_never_below S hj o p.psd rw_tup rw_tup rw_tup))) ?_
  refine x_seq (x_asg (e_call (e_args2 (e_var rfl) (e_var rfl)) (s_sure_row_for S (by omega) o.pos o.le hw))) ?_
  have hz : binD S .mul (.tup [fr 0]) (natD n) = some (rowD (vec n fun _ => 0)) := by
    have h0 := o.pos
    simp only [binD, natD, List.length_cons, List.length_nil]
    rw [if_pos ⟨by simp, by omega, by omega, by unfold most; omega⟩, Int.toNat_natCast, repl_flat, repl_vrow, rowD_vec]
  have hq : 0 < quad n N v := (i.pd p) v hnz
  refine x_seq (x_iteF (S1 := S) (e_cmp (e_var rfl) (e_bin (e_tupE (e_args1 (e_glob (show cs97[0]? = some (fr 0) from rfl)))) (e_lenN (n := n) (e_var rfl) (tab_len S n F)) hz) ?_) x_done) ?_
  · refine eqD_no S (n := 2) (m := 2) (by decide) (by decide) (lay_row 0 _) (lay_row 0 _) fun z => ?_
    obtain ⟨j, hj, hc⟩ := hnz
    exact hc (vec_inj (row_inj z) j hj)
  refine x_seq (x_asg (e_call (e_args2 (e_var rfl) (e_var rfl)) (s_solve S (by omega) o.le o.sz hv o.a1 h1 i))) ?_
  have ho : ok 1 := q_one.ok (by decide)
  have hqq : QQ (b + (c + b + n) + n) (quad n N v) := dot_q hv (hv.app zN)
  exact x_seqR (x_ret (e_iteF (S1 := S) (e_cmp (e_var rfl) e_non rfl) (e_call (e_args2 (e_glob (show cs97[1]? = some (fr 1) from rfl)) (e_call (e_args2 (e_var rfl) (e_var rfl)) (s_both S (by omega) hv (hv.app zN) h2 (by omega)))) (spec_divide S (by omega) ho (hqq.ok h2) (by
    intro z
    have z : quad n N v = 0 := z
    rw [z] at hq
    exact absurd hq (by decide))))))
end
end Ev

set_option Elab.async false
set_option linter.all false
set_option maxRecDepth 100000
set_option maxHeartbeats 4000000
set_option autoImplicit false
set_option exponentiation.threshold 10000
/-! specs: own tables, times, plain, parts, what lies beyond -/
namespace Ev
open PySem
/-- numbers behind an index -/
def at1 (l : List Nat) (a : Nat) : Nat := l.getD a 0
theorem map_at1 {α : Type} (l : List Nat) (f : Nat → α) : l.map f = (List.range l.length).map fun a => f (at1 l a) := by
  apply List.ext_getElem
  · simp
  · intro i h1 h2
    simp at h1
    simp [at1, h1]
theorem at1_mem {l : List Nat} {a : Nat} (h : a < l.length) : at1 l a ∈ l := by
  unfold at1
  rw [List.getD_eq_getElem?_getD, List.getElem?_eq_getElem h]
  exact List.getElem_mem h
theorem at1_lt {n : Nat} {l : List Nat} (h : Lot n l) {a : Nat} (ha : a < l.length) : at1 l a < n := h.lt _ (at1_mem ha)
theorem at1_inj {l : List Nat} (h : l.Nodup) {a b : Nat} (ha : a < l.length) (hb : b < l.length) (e : at1 l a = at1 l b) : a = b := by
  unfold at1 at e
  simp only [List.getD_eq_getElem?_getD, List.getElem?_eq_getElem ha, List.getElem?_eq_getElem hb, Option.getD_some] at e
  have hp := List.pairwise_iff_getElem.mp h
  rcases Nat.lt_trichotomy a b with c | c | c
  · exact absurd e (hp a b ha hb c)
  · exact c
  · exact absurd e.symm (hp b a hb ha c)
theorem Lot.nodup {n : Nat} {l : List Nat} (h : Lot n l) : l.Nodup := h.up.imp (fun h => Nat.ne_of_lt h)
def partF (F : Nat → Nat → Rat) (l : List Nat) : Nat → Nat → Rat := fun a b => F (at1 l a) (at1 l b)
theorem partR_mat {n : Nat} {F : Nat → Nat → Rat} {l : List Nat} (h : ∀ i ∈ l, i < n) : partR (mat n n F) l = mat l.length l.length (partF F l) := by
  unfold partR mat vec
  rw [map_at1 l]
  refine List.map_congr_left fun a ha => ?_
  have ha := List.mem_range.mp ha
  rw [map_at1 l]
  refine List.map_congr_left fun b hb => ?_
  have hb := List.mem_range.mp hb
  exact at_mat (h _ (at1_mem ha)) (h _ (at1_mem hb))
theorem Sz.part {a n : Nat} {F : Nat → Nat → Rat} {l : List Nat} (z : Sz a n n F) (h : ∀ i ∈ l, i < n) : Sz a l.length l.length (partF F l) := by
  obtain ⟨d, d0, d1, q⟩ := z
  exact ⟨d, d0, d1, fun i j hi hj => q _ _ (h _ (at1_mem hi)) (h _ (at1_mem hj))⟩
section
variable {k : Nat} (S : Store)
theorem s_row_square (hk : 5 ≤ k) {a n : Nat} {v : Nat → Rat} (hn : n ≤ 20) (hv : Sv a n v) (h : a ≤ 4400) : callF defs cs97 k i_row_square [rowD (vec n v)] S = some (tabD (mat n n fun i j => v i * v j), S) := by
  obtain ⟨k, rfl, hj⟩ := lev hk
  refine call_ret t_row_square rfl rfl (S' := S) ?_ (by simp) (take_self S)
  show exec (G k) b_row_square [some (rowD (vec n v)), none, none] S = _
  have it : ∀ ρ : Env, ρ[0]? = some (some (rowD (vec n v))) → ev (G k) (.it (.var 0)) ρ S = some (packG [] ((List.range n).map fun i => fr (v i)), S) := fun ρ h => by
    refine (e_it (e_var h) (xs := vrow n v) ?_).trans rfl
    rw [rowD_vec]; rfl
  refine x_seqR (x_ret (Eq.trans ?_ (congrArg (fun d => some ([d], S)) (tabD_mat n n _).symm)))
  refine e_tuple (x := .lst ((List.range n).map fun i => .tup (vrow n fun j => v i * v j))) ?_ rfl
  refine e_lc (gd := []) (fun i : Nat => fr (v i)) (fun i : Nat => D.tup (vrow n fun j => v i * v j)) (List.range n) (it _ rfl) (by simp [most]; omega) fun i hi => ?_
  have hi := List.mem_range.mp hi
  refine ⟨_, by simp [setT, wipeE]; rfl, ?_⟩
  refine e_tuple (x := .lst (vrow n fun j => v i * v j)) ?_ rfl
  refine e_lc (gd := []) (fun j : Nat => fr (v j)) (fun j : Nat => fr (v i * v j)) (List.range n) (it _ rfl) (by simp [most]; omega) fun j hj2 => ?_
  have hj2 := List.mem_range.mp hj2
  exact ⟨_, by simp [setT, wipeE]; rfl, e_call (e_args2 (e_var rfl) (e_var rfl)) (spec_multiply S (by omega) (hv.ok h hi) (hv.ok h hj2))⟩
theorem s_own_table (hk : 6 ≤ k) {a n : Nat} {v : Nat → Rat} (h0 : 0 < n) (hn : n ≤ 20) (hv : Sv a n v) (h : a ≤ 4400) {w : List D → D} (hw : Rw w) : callF defs cs97 k i_own_table [w ((vec n v).map fr)] S = some (tabD (mat n n fun i j => v i * v j), S) := by
  obtain ⟨k, rfl, hj⟩ := lev hk
  refine call_ret t_own_table rfl rfl (S' := S) ?_ (by simp) (take_self S)
  show exec (G k) b_own_table [some (w ((vec n v).map fr))] S = _
  exact x_seqR (x_ret (e_call (e_args1 (e_call (e_args1 (e_var rfl)) (s_sure_row S hj h0 hn hw))) (s_row_square S hj hn hv h)))
theorem s_times_table (hk : 8 ≤ k) {a b n : Nat} {F : Nat → Nat → Rat} {c : Rat} (n0 : 0 < n) (hn : n ≤ 20) (sF : Sym n F) (zF : Sz a n n F) (hc : QQ b c) (ha : a ≤ 4400) (hb : b ≤ 4400) : callF defs cs97 k i_times_table [tabD (mat n n F), fr c] S = some (tabD (mat n n fun i j => c * F i j), S) := by
  have := spec_times S hk (tab_mat n0 hn F sF) c (hc.ok hb) (fun r hr x hx => by
    obtain ⟨i, hi, rfl⟩ := mem_mat hr
    obtain ⟨j, hj, rfl⟩ := mem_vec hx
    exact zF.ok ha hi hj) rw_tup rw_tup rw_tup
  rw [timesR_mat] at this
  exact this
theorem s_plus (hk : 9 ≤ k) {a b n : Nat} {F H : Nat → Nat → Rat} (n0 : 0 < n) (hn : n ≤ 20) (sF : Sym n F) (sH : Sym n H) (zF : Sz a n n F) (zH : Sz b n n H) (hab : a + b + 1 ≤ 4400) : callF defs cs97 k i_plus_tables [tabD (mat n n F), tabD (mat n n H)] S = some (tabD (mat n n (addF F H)), S) := by
  have h := spec_plus S hk (tab_mat n0 hn F sF) (tab_mat n0 hn H sH) (mix_ok zF zH q_one hab) rw_tup rw_tup rw_tup rw_tup rw_tup rw_tup
  have e : mat n n (fun i j => F i j + 1 * H i j) = mat n n (addF F H) := mat_congr fun i j _ _ => by unfold addF; rw [Rat.one_mul]
  rw [mixR_mat, e] at h
  exact h
theorem s_less (hk : 9 ≤ k) {a b n : Nat} {F H : Nat → Nat → Rat} (n0 : 0 < n) (hn : n ≤ 20) (sF : Sym n F) (sH : Sym n H) (zF : Sz a n n F) (zH : Sz b n n H) (hab : a + b + 1 ≤ 4400) : callF defs cs97 k i_less_tables [tabD (mat n n F), tabD (mat n n H)] S = some (tabD (mat n n fun i j => F i j + (-1) * H i j), S) := by
  have h := spec_less S hk (tab_mat n0 hn F sF) (tab_mat n0 hn H sH) (mix_ok zF zH q_less hab) rw_tup rw_tup rw_tup rw_tup rw_tup rw_tup
  rw [mixR_mat] at h
  exact h
theorem s_plain_table (hk : 3 ≤ k) {n : Nat} (n0 : 0 < n) (hn : n ≤ 20) : callF defs cs97 k i_plain_table [natD n] S = some (tabD (mat n n Ident), S) := by
  obtain ⟨k, rfl, hj⟩ := lev hk
  refine call_ret t_plain_table rfl rfl (S' := S) ?_ (by simp) (take_self S)
  show exec (G k) b_plain_table [some (natD n)] S = _
  have hs : callF defs cs97 k i_sure_number [natD n] S = some (natD n, S) := by
    obtain ⟨k, rfl, hj⟩ := lev hj
    refine call_ret t_sure_number rfl rfl (S' := S) ?_ (by simp [pureD, natD]) (take_self S)
    show exec (G k) b_sure_number [some (natD n)] S = _
    exact x_seq (x_iteF (S1 := S) (e_nt (b := true) (e_call (e_args1 (e_var rfl)) (is_number_int S (by omega) n))) x_done) (x_seqR (x_ret (e_var rfl)))
  refine x_seq (x_iteF (S1 := S) (e_cmp (e_call (e_args1 (e_var rfl)) hs) e_int ?_) x_done) (x_seqR (x_ret (e_call (e_args1 (e_var rfl)) (spec_plain_of S (by omega) n hn))))
  simp [cmpD, natD]; omega
theorem s_times_places (hk : 9 ≤ k) {a b n : Nat} {F H : Nat → Nat → Rat} (n0 : 0 < n) (hn : n ≤ 20) (sF : Sym n F) (sH : Sym n H) (zF : Sz a n n F) (zH : Sz b n n H) (ha : a ≤ 4400) (hb : b ≤ 4400) : callF defs cs97 k i_times_places [tabD (mat n n F), tabD (mat n n H)] S = some (tabD (mat n n fun i j => F i j * H i j), S) := by
  obtain ⟨k, rfl, hj⟩ := lev hk
  refine call_ret t_times_places rfl rfl (S' := S) ?_ (by simp) (take_self S)
  show exec (G k) b_times_places [some (tabD (mat n n F)), some (tabD (mat n n H)), none, none, none, none, none, none, none] S = _
  refine x_seq (x_tup2 (e_call (e_args2 (e_var rfl) (e_var rfl)) (sure_tables_tab S hj (tab_mat n0 hn F sF) (tab_mat n0 hn H sH) rw_tup rw_tup rw_tup rw_tup rw_tup rw_tup))) ?_
  refine x_seqR (x_ret (Eq.trans ?_ (congrArg (fun d => some ([d], S)) (tabD_mat n n _).symm)))
  refine e_tuple (x := .lst ((List.range n).map fun i => .tup (vrow n fun j => F i j * H i j))) ?_ rfl
  refine e_lc (gd := []) (fun i : Nat => D.tup [.tup (vrow n (F i)), .tup (vrow n (H i))]) (fun i : Nat => D.tup (vrow n fun j => F i j * H i j)) (List.range n) ?_ (by simp [most]; omega) fun i hi => ?_
  · refine (e_zip (e_var rfl) (e_var rfl) (xs := (List.range n).map fun i => .tup (vrow n (F i))) (ys := (List.range n).map fun i => .tup (vrow n (H i))) (by rw [tabD_mat]; rfl) (by rw [tabD_mat]; rfl)).trans ?_
    rw [zip_rng]; rfl
  have hi := List.mem_range.mp hi
  refine ⟨_, by simp [setT, wipeE]; rfl, ?_⟩
  refine e_tuple (x := .lst (vrow n fun j => F i j * H i j)) ?_ rfl
  refine e_lc (gd := []) (fun j : Nat => D.tup [fr (F i j), fr (H i j)]) (fun j : Nat => fr (F i j * H i j)) (List.range n) ?_ (by simp [most]; omega) fun j hj2 => ?_
  · refine (e_zip (e_var rfl) (e_var rfl) (xs := vrow n (F i)) (ys := vrow n (H i)) rfl rfl).trans ?_
    unfold vrow
    rw [zip_rng]; rfl
  have hj2 := List.mem_range.mp hj2
  exact ⟨_, by simp [setT, wipeE]; rfl, e_call (e_args2 (e_var rfl) (e_var rfl)) (spec_multiply S (by omega) (zF.ok ha hi hj2) (zH.ok hb hi hj2))⟩
def lotD (l : List Nat) : D := .tup (l.map natD)
theorem pure_lot (l : List Nat) : pureD (lotD l) = true := by simp only [lotD, pureD]; exact pures_map fun _ _ => rfl
theorem lay_lot (n : Nat) (l : List Nat) : layD (n + 1) (lotD l) = true := by simp only [lotD, layD]; exact lays_map fun _ _ => rfl
theorem natD_inj {a b : Nat} (h : natD a = natD b) : a = b := by simp [natD] at h; omega
theorem lot_inj {l m : List Nat} (h : lotD l = lotD m) : l = m := map_inj (fun _ _ => natD_inj) (by simpa [lotD] using h)
theorem s_part_of (hk : 7 ≤ k) {n : Nat} {F : Nat → Nat → Rat} (n0 : 0 < n) (hn : n ≤ 20) (sF : Sym n F) {l : List Nat} (h : Lot n l) (h0 : l ≠ []) : callF defs cs97 k i_part_of [tabD (mat n n F), lotD l] S = some (tabD (mat l.length l.length (partF F l)), S) := by
  obtain ⟨k, rfl, hj⟩ := lev hk
  have hl := h.len
  refine call_ret t_part_of rfl rfl (S' := S) ?_ (by simp) (take_self S)
  show exec (G k) b_part_of [some (tabD (mat n n F)), some (lotD l), none, none] S = _
  have hp := spec_part_at S (k := k) (by omega) (tab_mat n0 hn F sF) l h.lt (by unfold most; omega) rw_tup
  rw [partR_mat h.lt] at hp
  have sl := sure_lot_lot S (k := k) (by omega) h (by unfold most; omega) rw_tup
  refine x_seq (x_asg (e_call (e_args1 (e_var rfl)) (sure_told_tab S hj (tab_mat n0 hn F sF) rw_tup rw_tup rw_tup))) ?_
  refine x_seq (x_asg (e_call (e_args2 (e_var rfl) (e_lenN (n := n) (e_var rfl) (tab_len S n F))) sl)) ?_
  refine x_seq (x_iteF (S1 := S) (e_cmp (e_var rfl) (e_tupE e_nil) ?_) x_done) (x_seqR (x_ret (e_call (e_args2 (e_var rfl) (e_var rfl)) hp)))
  exact eqD_no S (n := 1) (m := 1) (by decide) (by decide) (lay_lot 0 l) rfl fun z => h0 (lot_inj (m := []) z)
/-! ### beyond -/
theorem in_lot (l : List Nat) (a : Nat) : inD S (natD a) (lotD l) = some (decide (a ∈ l)) := by
  obtain ⟨x, a1, a2, a3⟩ := lay_py (lay_lot 0 l)
  have hp : ∀ l : List Nat, toPys (l.map natD) = some (l.map fun i : Nat => PyData.int (i : Int)) := by
    intro l
    induction l with
    | nil => rfl
    | cons x l ih => simp [toPys, ih, natD, toPy]
  have e : toPy (lotD l) = some (.tuple (l.map fun i : Nat => PyData.int (i : Int))) := by simp [lotD, toPy, hp]
  rw [e] at a1
  cases a1
  have s1 : SeqAt.shaped (.list (l.map fun i : Nat => PyData.int (i : Int))) = true := by
    have hd : (PyData.list (l.map fun i : Nat => PyData.int (i : Int))).depth ≤ 64 := by
      simp only [PyData.depth] at a3 ⊢
      omega
    have hc : (PyData.list (l.map fun i : Nat => PyData.int (i : Int))).canLay0 = true := by
      simp only [PyData.canLay0] at a2 ⊢
      exact a2
    unfold SeqAt.shaped
    rw [hc, decide_eq_true hd]; rfl
  have s0 : SeqAt.shaped (PyData.int a) = true := rfl
  have an : ((l.map fun i : Nat => PyData.int (i : Int)).any fun z => PyData.eqv z (PyData.int a)) = decide (a ∈ l) := by
    by_cases c : a ∈ l
    · rw [decide_eq_true c, List.any_eq_true]
      exact ⟨_, List.mem_map.mpr ⟨a, c, rfl⟩, by simp [PyData.eqv]⟩
    · rw [decide_eq_false c, List.any_eq_false]
      intro z hz
      obtain ⟨q, hq, rfl⟩ := List.mem_map.mp hz
      simp only [PyData.eqv, beq_iff_eq]
      intro c2
      have : q = a := by omega
      exact c (this ▸ hq)
  unfold inD
  have f1 : flat S (natD a) = .int a := rfl
  have f2 : flat S (lotD l) = .tup (l.map natD) := rfl
  rw [f1, f2]
  simp only [toPy, Option.bind_some, hp, s0, s1, Bool.and_self, if_true, an]
def restL (n : Nat) (l : List Nat) : List Nat := (List.range n).filter fun a => !decide (a ∈ l)
theorem s_rest_of (hk : 1 ≤ k) {n : Nat} {F : Nat → Nat → Rat} (hn : n ≤ 20) {l : List Nat} : callF defs cs97 k i_rest_of [tabD (mat n n F), lotD l] S = some (.lst ((restL n l).map natD), S) := by
  obtain ⟨k, rfl, hj⟩ := lev hk
  refine call_ret t_rest_of rfl rfl (S' := S) ?_ (by simp only [pureD]; exact pures_map fun _ _ => rfl) (take_self S)
  show exec (G k) b_rest_of [some (tabD (mat n n F)), some (lotD l), none] S = _
  refine x_seqR (x_ret ?_)
  refine e_lcIf (gd := []) natD natD (fun a => !decide (a ∈ l)) (List.range n) (e_rng1 (e_lenN (n := n) (e_var rfl) (tab_len S n F)) (by omega)) (by simp [most]; omega) fun a ha => ?_
  refine ⟨_, by simp [setT, wipeE]; rfl, e_cmp (e_var rfl) (e_var rfl) ?_, fun _ => e_var rfl⟩
  simp [cmpD, in_lot]
end
end Ev

set_option Elab.async false
set_option linter.all false
set_option maxRecDepth 100000
set_option maxHeartbeats 4000000
set_option autoImplicit false
set_option exponentiation.threshold 10000
/-! specs: what lies beyond a lot -/
namespace Ev
open PySem
def shareV (F NL : Nat → Nat → Rat) (l : List Nat) (r : Nat) : Nat → Rat := app l.length NL fun a => F r (at1 l a)
def beyStep (s : Nat → Rat) (A : Nat → Rat) (p : Nat × Nat) : Nat → Rat := fun c => if c = p.1 then -(s p.2) else A c
def beyRow (F NL : Nat → Nat → Rat) (l : List Nat) (r : Nat) : Nat → Rat := (l.zip (List.range l.length)).foldl (beyStep (shareV F NL l r)) (uni r)
section
variable {k : Nat} (S : Store)
theorem s_share_of (hk : 8 ≤ k) {a n : Nat} {F NL : Nat → Nat → Rat} {l : List Nat} {r : Nat} (n0 : 0 < n) (hn : n ≤ 20) (sF : Sym n F) (h : Lot n l) (h0 : l ≠ []) (hr : r < n) (zF : Sz a n n F) (ha : 1 ≤ a) (hab : 2 ^ l.length * (a + a + 1) ≤ 4400) (i : IsInv l.length (partF F l) NL) :
    callF defs cs97 k i_share_of [tabD (mat n n F), natD r, lotD l] S = some (rowD (vec l.length (shareV F NL l r)), S) := by
  obtain ⟨k, rfl, hj⟩ := lev hk
  have hl := h.len
  refine call_ret t_share_of rfl rfl (S' := S) ?_ (by simp) (take_self S)
  show exec (G k) b_share_of [some (tabD (mat n n F)), some (natD r), some (lotD l), none] S = _
  have hp := spec_part_at S (k := k) (by omega) (tab_mat n0 hn F sF) l h.lt (by unfold most; omega) rw_tup
  rw [partR_mat h.lt] at hp
  have zP : Sz a l.length l.length (partF F l) := zF.part h.lt
  have zv : Sv a l.length fun j => F r (at1 l j) := by
    obtain ⟨d, d0, d1, q⟩ := zF
    exact ⟨d, d0, d1, fun _ j _ hj => q r _ hr (at1_lt h hj)⟩
  have sv := s_solve S (k := k) (by omega) (show l.length ≤ 20 by omega) zP zv ha hab i
  refine x_seqR (x_ret (e_iteT (S1 := S) (e_cmp (e_var rfl) (e_tupE e_nil) ?_) ?_))
  · have := eqD_no S (n := 1) (m := 1) (d := lotD l) (e := .tup []) (by decide) (by decide) (lay_lot 0 l) rfl fun z => h0 (lot_inj (m := []) z)
    simp [cmpD, this]
  · refine e_call (e_args2 (e_call (e_args2 (e_var rfl) (e_var rfl)) hp) (e_tuple (x := .lst ((vec l.length fun j => F r (at1 l j)).map fr)) ?_ rfl)) sv
    have em : (vec l.length fun j => F r (at1 l j)).map fr = l.map fun i => fr (F r i) := by
      rw [map_at1 l, map_vec]; rfl
    rw [em]
    refine e_lc (gd := []) natD (fun i => fr (F r i)) l ((e_it (e_var rfl) (xs := l.map natD) rfl).trans rfl) (by unfold most; omega) fun i hi => ⟨_, by simp [setT, wipeE]; rfl, ?_⟩
    have := e_at (g := G k) (S := S) (ρ := [some (tabD (mat n n F)), some (natD r), some (lotD l), some (natD i)]) (x := .var 0) (y := .var 1) (z := .var 3) (tab_mat n0 hn F sF) hr (h.lt i hi) (e_var rfl) (e_var rfl) (e_var rfl)
    rw [at_mat hr (h.lt i hi)] at this
    exact this
theorem s_row_beyond (hk : 9 ≤ k) {a n : Nat} {F NL : Nat → Nat → Rat} {l : List Nat} {r : Nat} (n0 : 0 < n) (hn : n ≤ 20) (sF : Sym n F) (h : Lot n l) (h0 : l ≠ []) (hr : r < n) (zF : Sz a n n F) (ha : 1 ≤ a) (hab : 2 ^ l.length * (a + a + 1) ≤ 4400) (i : IsInv l.length (partF F l) NL) :
    callF defs cs97 k i_row_beyond [tabD (mat n n F), natD r, lotD l] S = some (rowD (vec n (beyRow F NL l r)), S) := by
  obtain ⟨k, rfl, hj⟩ := lev hk
  have hl := h.len
  have sh := s_share_of S hj n0 hn sF h h0 hr zF ha hab i
  refine call_ret t_row_beyond rfl rfl (S' := S ++ [C.lst (vrow n (beyRow F NL l r))]) ?_ (by simp) (take_app _ _)
  show exec (G k) b_row_beyond [some (tabD (mat n n F)), some (natD r), some (lotD l), none, none, none] S = _
  have hm : ev (G k) (.lc (.ite (.cmp .eq (.var 4) (.var 1)) (.glob 1) (.glob 0)) (.nm 4) (.rng1 (.len (.var 0))) (.bl true) [4]) [some (tabD (mat n n F)), some (natD r), some (lotD l), none, none, none] S = some ([.lst (vrow n (uni r))], S) := by
    refine e_lc natD (fun c => fr (uni r c)) (List.range n) (e_rng1 (e_lenN (n := n) (e_var rfl) (tab_len S n F)) (by omega)) (by simp [most]; omega) fun c hc => ⟨_, by simp [setT, wipeE]; rfl, ?_⟩
    by_cases e : c = r
    · rw [show uni r c = 1 by simp [uni, e]]
      exact e_iteT (S1 := S) (e_cmp (e_var rfl) (e_var rfl) (by simp [cmpD, natD, eqD_int, e])) (e_glob rfl)
    · rw [show uni r c = 0 by simp [uni, e]]
      exact e_iteF (S1 := S) (e_cmp (e_var rfl) (e_var rfl) (by simp [cmpD, natD, eqD_int]; omega)) (e_glob rfl)
  refine x_seq (x_asg (e_mk hm)) ?_
  let Inv : (Nat → Rat) → Env → Store → Prop := fun A ρ S' => S' = S ++ [C.lst (vrow n A)] ∧ ∃ e4 e5, ρ = [some (tabD (mat n n F)), some (natD r), some (lotD l), some (.cell S.length), e4, e5]
  obtain ⟨ρ', S', hlp, rfl, e4, e5, rfl⟩ := for_inv (body := exec (G k) (.seq (.asg (.sub (.var 3) (.var 4)) (.call 21 (.cons (.var 5) .nil))) .done)) (t := .tup (.tcons (.nm 4) (.tcons (.nm 5) .tnil))) (fun p : Nat × Nat => D.tup [natD p.1, fr (shareV F NL l r p.2)]) Inv (beyStep (shareV F NL l r)) (l.zip (List.range l.length)) (uni r) [some (tabD (mat n n F)), some (natD r), some (lotD l), some (.cell S.length), none, none] (S ++ [C.lst (vrow n (uni r))]) ⟨rfl, none, none, rfl⟩ fun l1 p l2 ρ S' e hi => by
    obtain ⟨rfl, e4, e5, rfl⟩ := hi
    have hm : p ∈ l.zip (List.range l.length) := by rw [e]; simp
    have h1 := h.lt _ (List.of_mem_zip hm).1
    generalize List.foldl (beyStep (shareV F NL l r)) (uni r) l1 = A
    refine ⟨_, by simp [setT]; rfl, _, _, .inl (x_seq (x_asgL (e_call (e_args1 (e_var rfl)) (spec_opposite (q := shareV F NL l r p.2) _ (by omega))) (l_sub (e_var rfl) (e_var rfl) (get_last S _) (by simpa using h1))) (by rw [exec])), ?_⟩
    rw [set_last, set_vrow]
    exact ⟨rfl, _, _, rfl⟩
  have sh2 := s_share_of (S ++ [C.lst (vrow n (uni r))]) hj n0 hn sF h h0 hr zF ha hab i
  refine x_seq (x_for (S1 := S ++ [C.lst (vrow n (uni r))]) ?_ hlp) (x_seqR (x_ret ?_))
  · refine (e_zip (e_var rfl) (e_call (e_args3 (e_var rfl) (e_var rfl) (e_var rfl)) sh2) (xs := l.map natD) (ys := (List.range l.length).map fun j => fr (shareV F NL l r j)) rfl (by rw [rowD_vec]; rfl)).trans ?_
    rw [zip_map]
    rfl
  · refine Eq.trans ?_ (congrArg (fun d => some ([d], S ++ [C.lst (vrow n (beyRow F NL l r))])) (rowD_vec n _).symm)
    exact e_tuple (e_var rfl) (seq_cell (get_last _ _))
theorem s_make_in (hk : 7 ≤ k) {a b c n : Nat} {F : Nat → Nat → Rat} {u v : Nat → Rat} (hn : n ≤ 20) (hF : Sz a n n F) (hu : Sv b n u) (hv : Sv c n v) (h : b + (a + c + n) + n ≤ 4400) : callF defs cs97 k i_make_in [tabD (mat n n F), rowD (vec n u), rowD (vec n v)] S = some (fr (bil n F u v), S) := by
  obtain ⟨k, rfl, hj⟩ := lev hk
  refine call_ret t_make_in rfl rfl (S' := S) ?_ (by simp) (take_self S)
  show exec (G k) b_make_in [some (tabD (mat n n F)), some (rowD (vec n u)), some (rowD (vec n v))] S = _
  exact x_seqR (x_ret (e_call (e_args2 (e_var rfl) (e_call (e_args2 (e_var rfl) (e_var rfl)) (s_times_numbers S hj hF hv (by omega) (by omega)))) (s_both S (by omega) hu (hv.app hF) h (by omega))))
theorem s_products_of_rows (hk : 8 ≤ k) {a b n m : Nat} {F R : Nat → Nat → Rat} (hn : n ≤ 20) (hm : m ≤ 20) (hF : Sz a n n F) (hR : ∀ i, i < m → Sv b n (R i)) (h : b + (a + b + n) + n ≤ 4400) : callF defs cs97 k i_products_of_rows [tabD (mat n n F), tabD (mat m n R)] S = some (tabD (mat m m fun i j => bil n F (R i) (R j)), S) := by
  obtain ⟨k, rfl, hj⟩ := lev hk
  refine call_ret t_products_of_rows rfl rfl (S' := S) ?_ (by simp) (take_self S)
  show exec (G k) b_products_of_rows [some (tabD (mat n n F)), some (tabD (mat m n R)), none, none] S = _
  have it : ∀ ρ : Env, ρ[1]? = some (some (tabD (mat m n R))) → ev (G k) (.it (.var 1)) ρ S = some (packG [] ((List.range m).map fun i => rowD (vec n (R i))), S) := fun ρ h => by
    refine (e_it (e_var h) (xs := (List.range m).map fun i => rowD (vec n (R i))) ?_).trans rfl
    simp [tabD, mat, seqOf]
  refine x_seqR (x_ret (Eq.trans ?_ (congrArg (fun d => some ([d], S)) (tabD_mat m m _).symm)))
  refine e_tuple (x := .lst ((List.range m).map fun i => .tup (vrow m fun j => bil n F (R i) (R j)))) ?_ rfl
  refine e_lc (gd := []) (fun i : Nat => rowD (vec n (R i))) (fun i : Nat => D.tup (vrow m fun j => bil n F (R i) (R j))) (List.range m) (it _ rfl) (by simp [most]; omega) fun i hi => ?_
  have hi := List.mem_range.mp hi
  refine ⟨_, by simp [setT, wipeE]; rfl, ?_⟩
  refine e_tuple (x := .lst (vrow m fun j => bil n F (R i) (R j))) ?_ rfl
  refine e_lc (gd := []) (fun j : Nat => rowD (vec n (R j))) (fun j : Nat => fr (bil n F (R i) (R j))) (List.range m) (it _ rfl) (by simp [most]; omega) fun j hj2 => ?_
  have hj2 := List.mem_range.mp hj2
  exact ⟨_, by simp [setT, wipeE]; rfl, e_call (e_args3 (e_var rfl) (e_var rfl) (e_var rfl)) (s_make_in S hj hn hF (hR i hi) (hR j hj2) h)⟩
theorem share_sz {a c n : Nat} {F NL : Nat → Nat → Rat} {l : List Nat} {r : Nat} (h : Lot n l) (hr : r < n) (zF : Sz a n n F) (zN : Sz c l.length l.length NL) : Sv (c + a + l.length) l.length (shareV F NL l r) := by
  refine Sv.app zN ?_
  obtain ⟨d, d0, d1, q⟩ := zF
  exact ⟨d, d0, d1, fun _ j _ hj => q r _ hr (at1_lt h hj)⟩
theorem beyRow_sz {a n : Nat} {F NL : Nat → Nat → Rat} {l : List Nat} {r : Nat} (z : Sv a l.length (shareV F NL l r)) : Sv a n (beyRow F NL l r) := by
  obtain ⟨d, d0, d1, q⟩ := z
  refine ⟨d, d0, d1, fun _ c _ _ => ?_⟩
  have gen : ∀ (ps : List (Nat × Nat)) (A : Nat → Rat), (∀ p ∈ ps, p.2 < l.length) → Q a d (A c) → Q a d (ps.foldl (beyStep (shareV F NL l r)) A c) := by
    intro ps
    induction ps with
    | nil => intro A _ h; exact h
    | cons p ps ih =>
      intro A hp h
      rw [List.foldl_cons]
      refine ih _ (fun p hp' => hp p (List.mem_cons_of_mem _ hp')) ?_
      unfold beyStep
      split
      · exact (q 0 p.2 (by decide) (hp p (List.mem_cons_self ..))).neg
      · exact h
  refine gen _ _ (fun p hp => List.mem_range.mp (List.of_mem_zip hp).2) ?_
  unfold uni
  split
  · exact Q.one d0 d1
  · exact Q.zero _ _
theorem s_beyond_table (hk : 12 ≤ k) {a c n : Nat} {F NL : Nat → Nat → Rat} {l : List Nat} (o : Okt a n F) (p : psd n F) (h : Lot n l) (h0 : l ≠ []) (hln : l.length < n) (hab : 2 ^ l.length * (a + a + 1) ≤ 4400) (i : IsInv l.length (partF F l) NL) (zN : Sz c l.length l.length NL) (h2 : (c + a + l.length) + (a + (c + a + l.length) + n) + n ≤ 4400) :
    callF defs cs97 k i_beyond_table [tabD (mat n n F), lotD l] S = some (tabD (mat (restL n l).length (restL n l).length fun x y => bil n F (beyRow F NL l (at1 (restL n l) x)) (beyRow F NL l (at1 (restL n l) y))), S) := by
  obtain ⟨k, rfl, hj⟩ := lev hk
  have hl := h.len
  have hn := o.le
  have hrl : (restL n l).length ≤ 20 := by
    have := List.length_filter_le (fun a => !decide (a ∈ l)) (List.range n)
    unfold restL
    simp at this ⊢
    omega
  have hrm : ∀ x, x < (restL n l).length → at1 (restL n l) x < n := fun x hx => by
    have := at1_mem hx
    unfold restL at this
    exact List.mem_range.mp (List.mem_filter.mp this).1
  have sgap : callF defs cs97 k i_sure_gap [tabD (mat n n F), lotD l] S = some (.tup [tabD (mat n n F), lotD l], S) := by
    obtain ⟨k, rfl, hj⟩ := lev hj
    refine call_ret t_sure_gap rfl rfl (S' := S) ?_ (by simp [pureD, pureDs, pure_lot]) (take_self S)
    show exec (G k) b_sure_gap [some (tabD (mat n n F)), some (lotD l), none, none] S = _
    have sl := sure_lot_lot S (k := k) (by omega) h (by unfold most; omega) rw_tup
    refine x_seq (x_asg (e_call (e_args1 (e_var rfl)) (s_sure_never_below S (by omega) o p rw_tup rw_tup rw_tup))) ?_
    refine x_seq (x_asg (e_call (e_args2 (e_var rfl) (e_lenN (n := n) (e_var rfl) (tab_len S n F))) sl)) ?_
    refine x_seq (x_iteF (S1 := S) (e_cmp (e_lenN (n := l.length) (e_var rfl) (xs := l.map natD) rfl) (e_lenN (n := n) (e_var rfl) (tab_len S n F)) ?_) x_done) (x_seqR (x_ret (e_tupE (e_args2 (e_var rfl) (e_var rfl)))))
    show eqD S (.int l.length) (.int n) = _
    rw [eqD_int, decide_eq_false (by omega)]
  have srows : ∀ k, 10 ≤ k → callF defs cs97 k i_rows_beyond [tabD (mat n n F), lotD l] S = some (tabD (mat (restL n l).length n fun x => beyRow F NL l (at1 (restL n l) x)), S) := fun k hj => by
    obtain ⟨k, rfl, hj⟩ := lev hj
    refine call_ret t_rows_beyond rfl rfl (S' := S) ?_ (by simp) (take_self S)
    show exec (G k) b_rows_beyond [some (tabD (mat n n F)), some (lotD l), none] S = _
    have et : tabD (mat (restL n l).length n fun x => beyRow F NL l (at1 (restL n l) x)) = .tup ((restL n l).map fun r => rowD (vec n (beyRow F NL l r))) := by
      rw [map_at1 (restL n l)]
      simp [tabD, mat]
    rw [et]
    refine x_seqR (x_ret (e_tuple (x := .lst ((restL n l).map fun r => rowD (vec n (beyRow F NL l r)))) ?_ rfl))
    refine e_lc (gd := []) natD (fun r => rowD (vec n (beyRow F NL l r))) (restL n l) ?_ (by unfold most; omega) fun r hr => ⟨_, by simp [setT, wipeE]; rfl, ?_⟩
    · exact (e_it (e_call (e_args2 (e_var rfl) (e_var rfl)) (s_rest_of S (by omega) hn)) (xs := (restL n l).map natD) rfl).trans rfl
    · have hr : r < n := by unfold restL at hr; exact List.mem_range.mp (List.mem_filter.mp hr).1
      exact e_call (e_args3 (e_var rfl) (e_var rfl) (e_var rfl)) (s_row_beyond S (by omega) o.pos hn o.sym h h0 hr o.sz o.a1 hab i)
  have sin : callF defs cs97 k i_beyond_in [tabD (mat n n F), lotD l] S = some (tabD (mat (restL n l).length (restL n l).length fun x y => bil n F (beyRow F NL l (at1 (restL n l) x)) (beyRow F NL l (at1 (restL n l) y))), S) := by
    obtain ⟨k, rfl, hj⟩ := lev hj
    refine call_ret t_beyond_in rfl rfl (S' := S) ?_ (by simp) (take_self S)
    show exec (G k) b_beyond_in [some (tabD (mat n n F)), some (lotD l)] S = _
    have hp := s_products_of_rows S (k := k) (by omega) (m := (restL n l).length) (R := fun x => beyRow F NL l (at1 (restL n l) x)) hn hrl o.sz (fun x hx => beyRow_sz (share_sz h (hrm x hx) o.sz zN)) h2
    exact x_seqR (x_ret (e_call (e_args2 (e_var rfl) (e_call (e_args2 (e_var rfl) (e_var rfl)) (srows k (by omega)))) hp))
  refine call_ret t_beyond_table rfl rfl (S' := S) ?_ (by simp) (take_self S)
  show exec (G k) b_beyond_table [some (tabD (mat n n F)), some (lotD l), none, none] S = _
  exact x_seq (x_tup2 (e_call (e_args2 (e_var rfl) (e_var rfl)) sgap)) (x_seqR (x_ret (e_call (e_args2 (e_var rfl) (e_var rfl)) sin)))
end
end Ev

set_option Elab.async false
set_option linter.all false
set_option maxRecDepth 100000
set_option maxHeartbeats 4000000
set_option autoImplicit false
set_option exponentiation.threshold 10000
/-! specs: the law's draws -/
namespace Ev
open PySem
theorem mul_short {a b : Int} (h : b.natAbs < 2 ^ 20) : mulOk a b = true := by
  unfold mulOk
  have h2 := bits_le h
  have : (shortFactorBits : Int) ≥ 20 := by decide
  have : ¬ (Builtin.Int.intBits b > shortFactorBits) := by omega
  rw [decide_eq_false this]
  simp
/-- a tape in cell c: at most m small draws so far -/
def Tape (m c : Nat) (S : Store) : Prop := ∃ a b i : Int, S[c]? = some (C.lst [.int a, .int b, .int i]) ∧ 0 ≤ a ∧ 0 ≤ b ∧ b < 2 ^ 62 ∧ 0 ≤ i ∧ i ≤ m
/-- nothing but cell c may have changed -/
def Moved (c : Nat) (S S1 : Store) : Prop := ∃ xs, pureDs xs = true ∧ S1 = S.set c (C.lst xs)
theorem Tape.lt {m c : Nat} {S : Store} (t : Tape m c S) : c < S.length := by
  obtain ⟨a, b, i, h, _⟩ := t
  exact (List.getElem?_eq_some_iff.mp h).1
theorem Tape.refl {m c : Nat} {S : Store} (t : Tape m c S) : Moved c S S := by
  obtain ⟨a, b, i, h, _⟩ := t
  refine ⟨[.int a, .int b, .int i], rfl, ?_⟩
  apply List.ext_getElem?
  intro j
  rw [List.getElem?_set]
  split
  · rename_i e
    subst e
    rw [if_pos (List.getElem?_eq_some_iff.mp h).1, h]
  · rfl
theorem Moved.trans {c : Nat} {S S1 S2 : Store} (h : Moved c S S1) (h2 : Moved c S1 S2) : Moved c S S2 := by
  obtain ⟨xs, _, rfl⟩ := h
  obtain ⟨ys, hy, rfl⟩ := h2
  exact ⟨ys, hy, by rw [List.set_set]⟩
theorem Moved.len {c : Nat} {S S1 : Store} (h : Moved c S S1) : S1.length = S.length := by
  obtain ⟨xs, _, rfl⟩ := h
  simp
theorem Moved.get {c j : Nat} {S S1 : Store} (h : Moved c S S1) (hj : j ≠ c) : S1[j]? = S[j]? := by
  obtain ⟨xs, _, rfl⟩ := h
  rw [List.getElem?_set_ne (fun z => hj z.symm)]
theorem Moved.app {c : Nat} {S S1 T : Store} (h : Moved c (S ++ T) S1) (hc : c < S.length) : ∃ S2, Moved c S S2 ∧ S1 = S2 ++ T := by
  obtain ⟨xs, hx, rfl⟩ := h
  exact ⟨S.set c (C.lst xs), ⟨xs, hx, rfl⟩, by rw [List.set_append_left _ _ hc]⟩
theorem Tape.app {m c : Nat} {S T : Store} (t : Tape m c S) : Tape m c (S ++ T) := by
  have hl := t.lt
  obtain ⟨a, b, i, h, r⟩ := t
  exact ⟨a, b, i, by rw [List.getElem?_append_left hl]; exact h, r⟩
theorem Tape.unapp {m c : Nat} {S T : Store} (t : Tape m c (S ++ T)) (hc : c < S.length) : Tape m c S := by
  obtain ⟨a, b, i, h, r⟩ := t
  exact ⟨a, b, i, by rw [List.getElem?_append_left hc] at h; exact h, r⟩
theorem Tape.mono {m n c : Nat} {S : Store} (t : Tape m c S) (h : m ≤ n) : Tape n c S := by
  obtain ⟨a, b, i, h1, h2, h3, h4, h5, h6⟩ := t
  exact ⟨a, b, i, h1, h2, h3, h4, h5, by omega⟩
theorem cut_mv {c : Nat} {S S' S1 : Store} {d : D} (h : pureD d = true) (hS : S'.take S.length = S1) (m : Moved c S S1) : cutS S d S' = some (d, S1) := by
  unfold cutS
  have hm := m
  obtain ⟨xs, hx, e⟩ := m
  rw [if_pos fun n hn => by
    have e2 : S'[n]? = S1[n]? := by rw [← List.getElem?_take_of_lt (l := S') hn, hS]
    rw [e2]
    by_cases hc : n = c
    · right
      refine ⟨C.lst xs, ?_, pures_ok hx⟩
      rw [e, hc, List.getElem?_set_self (by omega)]
    · left
      exact hm.get hc]
  rw [pure_res h, hS]
  rfl
theorem call_mv {k i c : Nat} {ds : List D} {S S' S1 : Store} {f : Df} {d : D} (hf : defs[i]? = some f) (hl : ds.length = f.ar) (hv : f.live = false) (hx : exec (G k) f.body (ds.map some ++ List.replicate (f.n - f.ar) none) S = some (.rt d S'))
    (hp : pureD d = true) (hS : S'.take S.length = S1) (m : Moved c S S1) : callF defs cs97 (k + 1) i ds S = some (d, S1) := by
  simp only [callF, hf, Option.bind_some]
  rw [if_pos hl]
  have hx : exec ⟨callF defs cs97 k, cs97, 0⟩ f.body (ds.map some ++ List.replicate (f.n - f.ar) none) S = some (.rt d S') := hx
  rw [hx]
  simp only [Option.bind_some, hv, Bool.false_eq_true, if_false]
  exact cut_mv hp hS m
theorem lc_P {α β : Type} {E C : Env → Store → Option (D × Store)} {tg : Tg} {ρ : Env} (h : α → D) (f : β → D) (P : β → Prop) (Inv : Nat → Store → Prop) (l : List α) (hl : l.length ≤ most)
    (hs : ∀ j a S, j < l.length → a ∈ l → Inv j S → ∃ ρ1, setT tg [h a] ρ = some ρ1 ∧ C ρ1 S = some (.bl true, S) ∧ ∃ b S', E ρ1 S = some (f b, S') ∧ P b ∧ Inv (j + 1) S') :
    ∀ (r : List α) (j : Nat) (S : Store) (acc : List D), (∀ a ∈ r, a ∈ l) → j + r.length = l.length → acc.length = j → Inv j S → ∃ (bs : List β) (S' : Store), bs.length = r.length ∧
      lcL E C tg ρ [] (r.map h) S acc = some (acc ++ bs.map f, S') ∧ (∀ b ∈ bs, P b) ∧ Inv l.length S'
  | [], j, S, acc, _, hj, _, hi => by
    have e : j = l.length := by simpa using hj
    exact ⟨[], S, rfl, by simp [lcL], by simp, e ▸ hi⟩
  | a :: r, j, S, acc, hm, hj, hacc, hi => by
    rw [List.length_cons] at hj
    obtain ⟨ρ1, h1, hc, b, S', h2, h3, h4⟩ := hs j a S (by omega) (hm a (List.mem_cons_self ..)) hi
    obtain ⟨bs, S2, h5, h6, h7, h8⟩ := lc_P (E := E) (C := C) (tg := tg) (ρ := ρ) h f P Inv l hl hs r (j + 1) S' (acc ++ [f b]) (fun x hx => hm x (List.mem_cons_of_mem _ hx)) (by omega) (by simp; omega) h4
    refine ⟨b :: bs, S2, by simp [h5], ?_, fun x hx => ?_, h8⟩
    · have hk : kept [] S S' := fun n hn => by cases hn
      simp only [List.map_cons, lcL, h1, Option.bind_some, hc, h2]
      rw [if_pos ⟨by omega, hk⟩, h6]
      simp
    · rcases List.mem_cons.mp hx with rfl | hx
      · exact h3
      · exact h7 x hx
/-- a comprehension over what changes the store -/
theorem e_lcP {g : GC} {α β : Type} {ρ : Env} {S S1 : Store} {elt it : Ex} {tg : Tg} {own : List Nat} (h : α → D) (f : β → D) (P : β → Prop) (Inv : Nat → Store → Prop) (l : List α) (hit : ev g it ρ S = some (packG [] (l.map h), S1)) (hl : l.length ≤ most) (h0 : Inv 0 S1)
    (hs : ∀ j a S, j < l.length → a ∈ l → Inv j S → ∃ ρ1, setT tg [h a] (wipeE ρ own) = some ρ1 ∧ ∃ b S', ev g elt ρ1 S = some ([f b], S') ∧ P b ∧ Inv (j + 1) S') :
    ∃ (bs : List β) (S' : Store), bs.length = l.length ∧ ev g (.lc elt tg it (.bl true) own) ρ S = some ([.lst (bs.map f)], S') ∧ (∀ b ∈ bs, P b) ∧ Inv l.length S' := by
  obtain ⟨bs, S', h1, h2, h3, h4⟩ := lc_P (E := fun ρ S => (ev g elt ρ S).bind fun p => (sg p.1).bind fun d => some (d, p.2)) (C := fun ρ S => (ev g (.bl true) ρ S).bind fun p => (sg p.1).bind fun d => some (d, p.2)) (tg := tg) (ρ := wipeE ρ own) h f P Inv l hl (fun j a S hj ha hi => by
    obtain ⟨ρ1, a1, b, S', a2, a3, a4⟩ := hs j a S hj ha hi
    exact ⟨ρ1, a1, by simp [ev, sg], b, S', by simp [a2, sg], a3, a4⟩) l 0 S1 [] (fun _ h => h) (by simp) rfl h0
  refine ⟨bs, S', h1, ?_, h3, h4⟩
  have e : unG (packG [] (l.map h)) = some ([], l.map h) := by simp [packG, unG, gNat]
  rw [ev, hit, Option.bind_some, e, Option.bind_some, h2]
  simp
section
variable {k : Nat}
theorem s_take (hk : 1 ≤ k) {S : Store} {m c n : Nat} (t : Tape m c S) (hm : m < 2 ^ 40) (n0 : 0 < n) (hn : n ≤ 1000) : ∃ r S', r < n ∧ callF defs cs97 k i__law_take [.cell c, natD n] S = some (natD r, S') ∧ Tape (m + 1) c S' ∧ Moved c S S' := by
  obtain ⟨k, rfl, hj⟩ := lev hk
  have hl := t.lt
  obtain ⟨a, b, i, h, a0, b0, b1, i0, i1⟩ := t
  have nz : (n : Int) ≠ 0 := by omega
  have np' : (0 : Int) < n := by omega
  have dn : ∀ x : Int, divOk x n = true := fun x => div_ok np' (by
    rw [Int.natAbs_natCast]
    exact Nat.lt_of_lt_of_le (show n < 2 ^ 10 by omega) (Nat.pow_le_pow_right (by decide) (by decide)))
  have fm : ∀ x : Int, x.fmod n = ((x.emod n).toNat : Nat) := fun x => by
    rw [Int.fmod_eq_emod_of_nonneg _ (by omega)]
    have := Int.emod_nonneg x nz
    have e : x.emod n = x % n := rfl
    rw [e]; omega
  have fl : ∀ x : Int, (x.emod n).toNat < n := fun x => by
    have := Int.emod_nonneg x nz
    have := Int.emod_lt_of_pos x np'
    have e : x.emod n = x % n := rfl
    rw [e]; omega
  have g : ∀ (S : Store) (x y z : Int), S[c]? = some (C.lst [.int x, .int y, .int z]) → ∀ ρ : Env, ρ[0]? = some (some (.cell c)) →
      ev (G k) (.idx (.var 0) (.int 0)) ρ S = some ([.int x], S) ∧ ev (G k) (.idx (.var 0) (.int 1)) ρ S = some ([.int y], S) ∧ ev (G k) (.idx (.var 0) (.int 2)) ρ S = some ([.int z], S) := fun S x y z h ρ h0 =>
    ⟨e_idx (e_var h0) e_int (seq_cell h) (idx_nat _ 0 (by simp)), e_idx (e_var h0) e_int (seq_cell h) (idx_nat _ 1 (by simp)), e_idx (e_var h0) e_int (seq_cell h) (idx_nat _ 2 (by simp))⟩
  by_cases c0 : 0 < a
  · let S1 := S.set c (C.lst [.int (a / n), .int b, .int i])
    refine ⟨(a.emod n).toNat, S1, fl a, ?_, ⟨a / n, b, i, by simp [S1, hl], Int.ediv_nonneg a0 (by omega), b0, b1, i0, by omega⟩, ⟨_, rfl, rfl⟩⟩
    refine call_mv (c := c) (S1 := S1) t__law_take rfl rfl (S' := S1) ?_ rfl (List.take_of_length_le (by simp [S1])) ⟨_, rfl, rfl⟩
    show exec (G k) b__law_take [some (.cell c), some (natD n), none, none, none, none] S = _
    refine x_seqR (x_iteT (S1 := S) (e_cmp (g S a b i h _ rfl).1 e_int (by simp [cmpD, c0])) ?_)
    refine x_seq (x_asg (d := natD (a.emod n).toNat) (S1 := S) (e_bin (x := .int a) (y := .int n) (S1 := S) ?_ (e_var rfl) (by simp only [binD]; rw [if_neg nz, fm]; rfl))) ?_
    · rw [ev, (g S a b i h _ rfl).1]; rfl
    refine x_seq (x_asgL (S1 := S) (e_bin (g S a b i h _ rfl).1 (e_var rfl) (by simp only [binD, natD]; rw [if_pos (dn a)])) (l_sub (k := 0) (e_var rfl) e_int h (by simp))) (x_seqR (x_ret (e_var rfl)))
  · let i2 := i + 1
    let S1 := S.set c (C.lst [.int a, .int b, .int i2])
    have h1 : S1[c]? = some (C.lst [.int a, .int b, .int i2]) := by simp [S1, hl]
    have hi2 : 0 ≤ i2 ∧ i2 ≤ 2 ^ 40 := by
      have : (m : Int) < 2 ^ 40 := by exact_mod_cast hm
      omega
    let o : Int := ((b + 48271 * i2) * (39373 + i2)).fmod 2147483647
    have hM : ∀ (x : Int) (p : Int), 0 < p → 0 ≤ x.fmod p ∧ x.fmod p < p := fun x p hp => by
      rw [Int.fmod_eq_emod_of_nonneg _ (by omega)]
      exact ⟨Int.emod_nonneg _ (by omega), Int.emod_lt_of_pos _ hp⟩
    have ho := hM ((b + 48271 * i2) * (39373 + i2)) 2147483647 (by decide)
    have ho : 0 ≤ o ∧ o < 2147483647 := ho
    let w : Int := o.fmod 40009 + 7
    have hw := hM o 40009 (by decide)
    have hw : 0 ≤ w ∧ w < 40016 := by have : w = o.fmod 40009 + 7 := rfl; omega
    let t2 : Int := ((o + i2 + b / 1000003) * w).fmod 2147483629
    have ht : 0 ≤ t2 ∧ t2 < 2147483629 := hM ((o + i2 + b / 1000003) * w) 2147483629 (by decide)
    let y : Int := (t2 * 48271 + o).fmod 2147483587 / 64
    have p62 : (2 : Int) ^ 62 = 4611686018427387904 := by decide
    have p40 : (2 : Int) ^ 40 = 1099511627776 := by decide
    have bd : 0 ≤ b / 1000003 ∧ b / 1000003 ≤ b := ⟨Int.ediv_nonneg b0 (by decide), Int.ediv_le_self _ b0⟩
    refine ⟨(y.emod n).toNat, S1, fl y, ?_, ⟨a, b, i2, h1, a0, b0, b1, hi2.1, by omega⟩, ⟨_, rfl, rfl⟩⟩
    refine call_mv (c := c) (S1 := S1) t__law_take rfl rfl (S' := S1) ?_ rfl (List.take_of_length_le (by simp [S1])) ⟨_, rfl, rfl⟩
    show exec (G k) b__law_take [some (.cell c), some (natD n), none, none, none, none] S = _
    have lt64 : ∀ x : Int, 0 ≤ x → x < 2 ^ 64 → x.natAbs < 2 ^ 64 := fun x h0 h1 => by
      have : (2 : Int) ^ 64 = ((2 ^ 64 : Nat) : Int) := by norm_cast
      omega
    have p64 : (2 : Int) ^ 64 = 18446744073709551616 := by decide
    have e_int' : ∀ (e : Ex) (ρ : Env) (S : Store) (v : Int), ev (G k) e ρ S = some ([.int v], S) → ev (G k) (.intE e) ρ S = some ([.int v], S) := fun e ρ S v h => by rw [ev, h]; rfl
    refine x_seq (x_iteF (S1 := S) (e_cmp (g S a b i h _ rfl).1 e_int (by simp [cmpD, c0])) x_done) ?_
    refine x_seq (x_asgL (S1 := S) (S2 := S1) (e_bin (g S a b i h _ rfl).2.2 e_int rfl) (l_sub (k := 2) (e_var rfl) e_int h (by simp))) ?_
    refine x_seq (x_asg (d := .int o) (S1 := S1) (e_bin (x := .int ((b + 48271 * i2) * (39373 + i2))) (S1 := S1) (e_int' _ _ _ _ (e_bin (x := .int (b + 48271 * i2)) (y := .int (39373 + i2)) (S1 := S1) (e_bin (g S1 a b i2 h1 _ rfl).2.1 (e_bin e_int (g S1 a b i2 h1 _ rfl).2.2 (by simp only [binD]; rw [if_pos (mul_ok (m := 64) (n := 64) (by decide) (lt64 _ hi2.1 (by omega)) (by decide))])) rfl) (e_bin e_int (g S1 a b i2 h1 _ rfl).2.2 rfl) ?_)) e_int rfl)) ?_
    · simp only [binD]; rw [if_pos (mul_ok (m := 64) (n := 64) (lt64 _ (by omega) (by omega)) (lt64 _ (by omega) (by omega)) (by decide))]
    refine x_seq (x_asg (d := .int w) (S1 := S1) (e_bin (e_bin (e_int' _ _ _ o (e_var rfl)) e_int rfl) e_int rfl)) ?_
    refine x_seq (x_asg (d := .int t2) (S1 := S1) (e_bin (x := .int ((o + i2 + b / 1000003) * w)) (S1 := S1) (e_int' _ _ _ _ (e_bin (x := .int (o + i2 + b / 1000003)) (y := .int w) (S1 := S1) (e_bin (e_bin (e_var rfl) (g S1 a b i2 h1 _ rfl).2.2 rfl) (e_bin (g S1 a b i2 h1 _ rfl).2.1 e_int (by simp only [binD]; rw [if_pos (div_ok (by decide) (by exact Nat.lt_of_lt_of_le (show (1000003 : Int).natAbs < 2 ^ 20 by decide) (Nat.pow_le_pow_right (by decide) (by decide))))])) rfl) (e_var rfl) ?_)) e_int rfl)) ?_
    · simp only [binD]; rw [if_pos (mul_ok (m := 64) (n := 64) (lt64 _ (by omega) (by omega)) (lt64 _ (by omega) (by omega)) (by decide))]
    refine x_seqR (x_ret (e_bin (x := .int y) (S1 := S1) (e_int' _ _ _ _ (e_bin (x := .int ((t2 * 48271 + o).fmod 2147483587)) (S1 := S1) (e_bin (e_int' _ _ _ (t2 * 48271 + o) (e_bin (x := .int (t2 * 48271)) (y := .int o) (e_bin (e_var rfl) e_int ?_) (e_var rfl) rfl)) e_int rfl) e_int ?_)) (e_var rfl) ?_))
    · simp only [binD]; rw [if_pos (mul_ok (m := 64) (n := 64) (lt64 _ (by omega) (by omega)) (by decide) (by decide))]
    · simp only [binD]; rw [if_pos (div_ok (by decide) (by exact Nat.lt_of_lt_of_le (show (64 : Int).natAbs < 2 ^ 20 by decide) (Nat.pow_le_pow_right (by decide) (by decide))))]
    · simp only [binD, natD]; rw [if_neg nz, fm]
theorem s_of (hk : 2 ≤ k) {S : Store} {m c : Nat} (t : Tape m c S) (hm : m < 2 ^ 40) {gs : List D} (h0 : gs ≠ []) (hl : gs.length ≤ 1000) (hp : pureDs gs = true) : ∃ d S', d ∈ gs ∧ callF defs cs97 k i__law_of [.cell c, .lst gs] S = some (d, S') ∧ Tape (m + 1) c S' ∧ Moved c S S' := by
  obtain ⟨k, rfl, hj⟩ := lev hk
  have n0 : 0 < gs.length := List.length_pos_iff.mpr h0
  obtain ⟨r, S', hr, h1, h2, h3⟩ := s_take (k := k) (by omega) t hm n0 hl
  refine ⟨gs[r], S', List.getElem_mem hr, ?_, h2, h3⟩
  have pe : ∀ {l : List D} {d : D}, pureDs l = true → d ∈ l → pureD d = true := by
    intro l
    induction l with
    | nil => intro d _ h; cases h
    | cons x l ih =>
      intro d h hd
      simp only [pureDs, Bool.and_eq_true] at h
      rcases List.mem_cons.mp hd with rfl | hd
      · exact h.1
      · exact ih h.2 hd
  refine call_mv (c := c) (S1 := S') t__law_of rfl rfl (S' := S') ?_ (pe hp (List.getElem_mem hr)) (List.take_of_length_le (by rw [h3.len]; omega)) h3
  show exec (G k) b__law_of [some (.cell c), some (.lst gs)] S = _
  exact x_seqR (x_ret (e_idx (e_var rfl) (e_call (e_args2 (e_var rfl) (e_lenN (n := gs.length) (e_var rfl) rfl)) h1) rfl (idx_nat _ _ hr)))
end
end Ev

set_option Elab.async false
set_option linter.all false
set_option maxRecDepth 100000
set_option maxHeartbeats 4000000
set_option autoImplicit false
set_option exponentiation.threshold 10000
/-! specs: the law's tape; picks -/
namespace Ev
open PySem
theorem cut_map {α β : Type} (f : α → β) (xs : List α) (lo hi : Option Int) : cutL (xs.map f) lo hi = (cutL xs lo hi).map f := by
  unfold cutL
  rw [List.length_map, List.map_take, List.map_drop]
theorem cut_len {α : Type} (xs : List α) (lo hi : Option Int) : (cutL xs lo hi).length ≤ xs.length := by
  unfold cutL
  rw [List.length_take, List.length_drop]
  omega
theorem enum_map {α : Type} (f : α → D) : ∀ (l : List α) (n : Nat), enumD n (l.map f) = (l.zipIdx n).map fun p => D.tup [natD p.2, f p.1]
  | [], n => by simp [enumD]
  | a :: l, n => by simp [enumD, enum_map f l, natD]
section
variable {k : Nat} (S : Store)
theorem e_intE' {g : GC} {e : Ex} {ρ : Env} {S S1 : Store} {v : Int} (h : ev g e ρ S = some ([.int v], S1)) : ev g (.intE e) ρ S = some ([.int v], S1) := by rw [ev, h]; rfl
theorem s_cells (hk : 1 ≤ k) (ns : List Int) (hn : ns.length ≤ 63) : ∃ v : Int, callF defs cs97 k i__law_cells [.fz (ns.map .int), .int 1] S = some (.lst [.int v], S) := by
  obtain ⟨k, rfl, hj⟩ := lev hk
  let A := some (D.fz (ns.map .int)); let B := some (D.int 1)
  obtain ⟨v0, h0⟩ : ∃ v : Int, ev (G k) (.orL (.list (.sl (.var 0) .nil (.var 1))) (.lstE (.cons (.int 0) .nil))) [A, B, none, none, none, none] S = some ([.lst [.int v]], S) := by
    have hsl : ev (G k) (.list (.sl (.var 0) .nil (.var 1))) [A, B, none, none, none, none] S = some ([.lst ((ns.take 1).map .int)], S) := by
      refine e_list (x := .lst ((ns.take 1).map .int)) ?_ rfl
      have e : cutL (ns.map D.int) none (some (1 : Int)) = (ns.take 1).map .int := by
        rw [cut_map]
        unfold cutL
        have := HT.sIx_nat ns.length ns.length 1
        rw [HT.sIx_none]
        rw [show (some (1 : Int)) = some ((1 : Nat) : Int) from rfl, HT.sIx_nat]
        simp
      rw [ev, e_var (show ([A, B, none, none, none, none] : Env)[0]? = some (some (D.fz (ns.map .int))) from rfl)]
      simp only [Option.bind_some, sg, e_nil, oInt, e_var (show ([A, B, none, none, none, none] : Env)[1]? = some (some (D.int 1)) from rfl), flat, e]
    cases ns with
    | nil => exact ⟨0, by rw [ev, hsl]; simp only [Option.bind_some, List.take_nil, List.map_nil]; exact e_lstE (e_cons e_int e_nil)⟩
    | cons x r => exact ⟨x, by rw [ev, hsl]; rfl⟩
  let l := cutL ns (some 1) (some 63)
  let Inv : Unit → Env → Store → Prop := fun _ ρ S' => ∃ (v : Int) (e3 e4 e5 : Option D), S' = S ++ [C.lst [.int v]] ∧ ρ = [A, B, some (.cell S.length), e3, e4, e5]
  obtain ⟨ρ', S', hl, v, e3, e4, e5, rfl, rfl⟩ := for_inv (body := exec (G k) (.seq (.asg (.nm 5) (.bin .mod (.intE (.var 3)) (.var 1))) (.seq (.asg (.sub (.var 2) (.var 5)) (.bin .add (.idx (.var 2) (.var 5)) (.bin .mul (.var 4) (.bin .add (.var 3) (.int 2))))) .done))) (t := .tup (.tcons (.nm 3) (.tcons (.nm 4) .tnil))) (fun p : Int × Nat => D.tup [natD p.2, .int p.1]) Inv (fun _ _ => ()) (l.zipIdx 0) () [A, B, some (.cell S.length), none, none, none] (S ++ [C.lst [.int v0]]) ⟨v0, none, none, none, rfl, rfl⟩ fun l1 p l2 ρ S' e hi => by
    obtain ⟨v, e3, e4, e5, rfl, rfl⟩ := hi
    have hp : p.2 < 63 := by
      have hm : p ∈ l.zipIdx 0 := by rw [e]; simp
      have := List.snd_lt_of_mem_zipIdx hm
      have h2 := cut_len ns (some 1) (some 63)
      have : p.2 < l.length := by omega
      have h2 : l.length ≤ ns.length := h2
      omega
    have hmul : mulOk p.1 ((p.2 : Int) + 2) = true := mul_short (by
      have : ((p.2 : Int) + 2).natAbs = p.2 + 2 := by omega
      rw [this]
      exact Nat.lt_of_lt_of_le (show p.2 + 2 < 2 ^ 10 by omega) (by decide))
    refine ⟨_, by simp [setT]; rfl, _, _, .inl (x_seq (x_asg (d := natD 0) (e_bin (e_intE' (e_var rfl)) (e_var rfl) ?_)) (x_seq (x_asgL (e_bin (x := .int v) (y := .int (p.1 * (p.2 + 2))) (e_idx (i := 0) (e_var rfl) (e_var rfl) (seq_cell (get_last _ _)) (idx_nat _ 0 (by simp))) (e_bin (e_var rfl) (e_bin (e_var rfl) e_int rfl) (by simp only [binD]; rw [if_pos hmul])) rfl) (l_sub (k := 0) (e_var rfl) (e_var rfl) (get_last _ _) (by simp))) (by rw [exec]))), ?_⟩
    · simp [binD, natD, Int.fmod_one]
    · exact ⟨v + p.1 * (p.2 + 2), _, _, _, by rw [set_last]; rfl, rfl⟩
  refine ⟨v, ?_⟩
  refine call_cell (n := 0) (T := [C.lst [.int v]]) t__law_cells rfl rfl ?_ rfl rfl
  show exec (G k) b__law_cells [A, B, none, none, none, none] S = _
  refine x_seq (x_asg (e_mk h0)) (x_seq (x_for ?_ hl) (x_seqR (x_ret (e_var rfl))))
  have hsl : ∀ (ρ : Env) (S : Store), ρ[0]? = some A → ρ[1]? = some B → ev (G k) (.sl (.var 0) (.var 1) (.int 63)) ρ S = some ([.lst (l.map .int)], S) := fun ρ S h0 h1 => by
    have e : cutL (ns.map D.int) (some (1 : Int)) (some (63 : Int)) = l.map .int := cut_map ..
    rw [ev, e_var h0]
    simp only [Option.bind_some, sg, e_var h1, oInt, e_int, flat, e]
  refine (e_enm (hsl _ _ rfl rfl) rfl).trans ?_
  rw [enum_map]
  rfl
theorem s_box (hk : 1 ≤ k) (v : Int) : ∃ S', callF defs cs97 k i__law_box [.lst [.int v], .int 0] S = some (.cell S.length, S') ∧ Tape 0 S.length S' ∧ S'.take S.length = S ∧ S'.length = S.length + 1 := by
  obtain ⟨k, rfl, hj⟩ := lev hk
  let a : Int := (if v < 0 then -v else v) * (if 1000000000000000000 ≤ (if v < 0 then -v else v) then 1 else 0)
  let b : Int := v.fmod 2305843009213693951 + 39373 * 0 + 23836
  have a0 : 0 ≤ a := Int.mul_nonneg (by split <;> omega) (by split <;> omega)
  have hb : 0 ≤ v.fmod 2305843009213693951 ∧ v.fmod 2305843009213693951 < 2305843009213693951 := by
    rw [Int.fmod_eq_emod_of_nonneg _ (by omega)]
    exact ⟨Int.emod_nonneg _ (by omega), Int.emod_lt_of_pos _ (by omega)⟩
  refine ⟨S ++ [C.lst [.int a, .int b, .int 0]], ?_, ⟨a, b, 0, get_last _ _, a0, by show 0 ≤ v.fmod 2305843009213693951 + 39373 * 0 + 23836; omega, by
    have : (2 : Int) ^ 62 = 4611686018427387904 := by decide
    show v.fmod 2305843009213693951 + 39373 * 0 + 23836 < _
    omega, Int.le_refl 0, Int.le_refl 0⟩, take_app _ _, by simp⟩
  have hx : exec (G k) b__law_box [some (.lst [.int v]), some (.int 0), none] S = some (.rt (.cell S.length) (S ++ [C.lst [.int a, .int b, .int 0]])) := by
    refine x_seq (x_asg (d := .int v) (S1 := S) (e_iteT (S1 := S) (e_cmp (e_var rfl) (e_lenN (n := 1) (e_var rfl) rfl) (by simp [cmpD, natD])) (e_idx (i := 0) (e_var rfl) (e_var rfl) rfl (idx_nat _ 0 (by simp))))) ?_
    have eab : ∀ ρ : Env, ρ[2]? = some (some (.int v)) → ev (G k) (.absE (.var 2)) ρ S = some ([.int (if v < 0 then -v else v)], S) := fun ρ h => by rw [ev, e_var h]; rfl
    refine x_seqR (x_ret (e_mk (e_lstE (e_cons (e_bin (x := .int (if v < 0 then -v else v)) (y := .int (if 1000000000000000000 ≤ (if v < 0 then -v else v) then 1 else 0)) (eab _ rfl) ?_ ?_) (e_cons (e_bin (x := .int (v.fmod 2305843009213693951 + 39373 * 0)) (y := .int 23836) (e_bin (e_bin (e_intE' (e_var rfl)) e_int rfl) (e_bin e_int (e_var rfl) (by simp only [binD]; rw [if_pos (mul_short (by decide))])) rfl) e_int rfl) (e_cons e_int e_nil))))))
    · rw [ev, e_cmp (v := decide (1000000000000000000 ≤ (if v < 0 then -v else v))) (eab _ rfl) (e_bin e_int e_int rfl) rfl]
      by_cases c : 1000000000000000000 ≤ (if v < 0 then -v else v) <;> simp [c]
    · simp only [binD]; rw [if_pos (mul_short (by by_cases c : 1000000000000000000 ≤ (if v < 0 then -v else v) <;> simp [c]))]
  simp only [callF, t__law_box, Option.bind_some]
  rw [if_pos (by rfl)]
  have hx : exec ⟨callF defs cs97 k, cs97, 0⟩ b__law_box [some (.lst [.int v]), some (.int 0), none] S = some (.rt (.cell S.length) (S ++ [C.lst [.int a, .int b, .int 0]])) := hx
  show (exec ⟨callF defs cs97 k, cs97, 0⟩ b__law_box [some (.lst [.int v]), some (.int 0), none] S).bind _ = _
  rw [hx]
  rfl
end
end Ev

set_option Elab.async false
set_option linter.all false
set_option maxRecDepth 100000
set_option maxHeartbeats 4000000
set_option autoImplicit false
set_option exponentiation.threshold 10000
/-! specs: picks, sorted -/
namespace Ev
open PySem
def insN (i : Nat) : List Nat → List Nat
  | [] => [i]
  | j :: r => if i ≤ j then i :: j :: r else j :: insN i r
def sortN : List Nat → List Nat
  | [] => []
  | i :: r => insN i (sortN r)
theorem insI_nat (i : Nat) : ∀ l : List Nat, insI (i : Int) (l.map fun (j : Nat) => (j : Int)) = (insN i l).map fun (j : Nat) => (j : Int)
  | [] => rfl
  | j :: r => by
    have ih := insI_nat i r
    simp only [List.map_cons, insI, insN]
    by_cases c : i ≤ j
    · rw [if_pos c, if_pos (by omega)]; rfl
    · rw [if_neg c, if_neg (by omega), ih]; rfl
theorem sortI_nat : ∀ l : List Nat, sortI (l.map fun (j : Nat) => (j : Int)) = (sortN l).map fun (j : Nat) => (j : Int)
  | [] => rfl
  | i :: r => by simp only [List.map_cons, sortI, sortN, sortI_nat r, insI_nat]
theorem insN_perm (i : Nat) : ∀ l : List Nat, (insN i l).Perm (i :: l)
  | [] => List.Perm.refl _
  | j :: r => by
    unfold insN
    split
    · exact List.Perm.refl _
    · exact ((insN_perm i r).cons j).trans (List.Perm.swap i j r)
theorem sortN_perm : ∀ l : List Nat, (sortN l).Perm l
  | [] => List.Perm.refl _
  | i :: r => (insN_perm i _).trans ((sortN_perm r).cons i)
theorem insN_sorted (i : Nat) : ∀ l : List Nat, l.Pairwise (· ≤ ·) → (insN i l).Pairwise (· ≤ ·)
  | [], _ => by simp [insN]
  | j :: r, h => by
    rw [List.pairwise_cons] at h
    unfold insN
    split
    · rename_i c
      rw [List.pairwise_cons]
      refine ⟨fun x hx => ?_, List.pairwise_cons.mpr h⟩
      rcases List.mem_cons.mp hx with rfl | hx
      · exact c
      · have := h.1 x hx; omega
    · rename_i c
      rw [List.pairwise_cons]
      refine ⟨fun x hx => ?_, insN_sorted i r h.2⟩
      rcases List.mem_cons.mp ((insN_perm i r).mem_iff.mp hx) with rfl | hx
      · omega
      · exact h.1 x hx
theorem sortN_sorted : ∀ l : List Nat, (sortN l).Pairwise (· ≤ ·)
  | [] => by simp [sortN]
  | i :: r => insN_sorted i _ (sortN_sorted r)
theorem sortN_lot {n : Nat} {l : List Nat} (h : l.Nodup) (hl : ∀ i ∈ l, i < n) : Lot n (sortN l) where
  lt := fun i hi => hl i ((sortN_perm l).mem_iff.mp hi)
  up := by
    have h1 := sortN_sorted l
    have h2 : (sortN l).Nodup := (sortN_perm l).nodup_iff.mpr h
    exact (h1.and h2).imp fun h => by omega
theorem intsOf_nat : ∀ l : List Nat, intsOf (l.map natD) = some (l.map fun (j : Nat) => (j : Int))
  | [] => rfl
  | i :: r => by simp [intsOf, natD, intsOf_nat r]
theorem e_sorted {g : GC} {a : Ex} {ρ : Env} {S S1 : Store} {x : D} {l : List Nat} (h : ev g a ρ S = some ([x], S1)) (h2 : seqOf S1 x = some (l.map natD)) (hl : l.length < 64) : ev g (.sorted a) ρ S = some ([.lst ((sortN l).map natD)], S1) := by
  rw [ev, h]
  simp only [Option.bind_some, sg, h2, intsOf_nat]
  rw [if_pos (by simpa using hl), sortI_nat, List.map_map]
  rfl
theorem erase_perm : ∀ (l : List Nat) (r : Nat) (h : r < l.length), ([l[r]] ++ l.eraseIdx r).Perm l
  | [], r, h => by simp at h
  | x :: l, 0, _ => by simp
  | x :: l, r + 1, h => by
    have ih := erase_perm l r (by simpa using h)
    simp only [List.getElem_cons_succ, List.eraseIdx_cons_succ, List.singleton_append] at ih ⊢
    exact (List.Perm.swap _ _ _).trans (ih.cons x)
theorem erase_map {α β : Type} (f : α → β) : ∀ (l : List α) (r : Nat), (l.map f).eraseIdx r = (l.eraseIdx r).map f
  | [], _ => rfl
  | x :: l, 0 => rfl
  | x :: l, r + 1 => by simp [erase_map f l r]
section
variable {k : Nat}
theorem s_pick (hk : 2 ≤ k) {S : Store} {m c : Nat} (t : Tape m c S) (hm : m + 64 < 2 ^ 40) (l : List Nat) (hl : l.length ≤ 60) (cnt : Nat) (hc : cnt ≤ l.length) : ∃ (r : List Nat) (S' : Store), callF defs cs97 k i__law_pick [.cell c, .lst (l.map natD), natD cnt] S = some (.lst (r.map natD), S') ∧ Tape (m + cnt) c S' ∧ Moved c S S' ∧ r.length = cnt ∧ ∃ p : List Nat, (r ++ p).Perm l := by
  obtain ⟨k, rfl, hj⟩ := lev hk
  have hlt := t.lt
  let A := some (D.cell c); let B := some (D.lst (l.map natD)); let N := some (natD cnt)
  let P := some (D.cell S.length); let Fd := some (D.cell (S.length + 1))
  let Inv : Nat → Env → Store → Prop := fun j ρ S' => ∃ (S1 : Store) (pool found : List Nat) (e5 : Option D), S' = S1 ++ [C.lst (pool.map natD), C.lst (found.map natD)] ∧ Moved c S S1 ∧ Tape (m + j) c S1 ∧ (found ++ pool).Perm l ∧ found.length = j ∧ ρ = [A, B, N, P, Fd, e5]
  have hfold : ∀ (l : List Nat) (j : Nat), l.foldl (fun (j : Nat) (_ : Nat) => j + 1) j = j + l.length := by
    intro l
    induction l with
    | nil => intro j; rfl
    | cons x l ih => intro j; rw [List.foldl_cons, ih, List.length_cons]; omega
  obtain ⟨ρ', S', hlp, S1, pool, found, e5, rfl, hmv, ht, hp, hfl, rfl⟩ := for_inv (body := exec (G k) (.seq (.app (.var 4) (.popAt (.var 3) (.call 86 (.cons (.var 0) (.cons (.len (.var 3)) .nil))))) .done)) (t := .nm 5) natD Inv (fun j _ => j + 1) (List.range cnt) 0 [A, B, N, P, Fd, none] (S ++ [C.lst (l.map natD), C.lst []]) ⟨S, l, [], none, rfl, t.refl, t, List.Perm.refl _, rfl, rfl⟩ fun l1 x l2 ρ S' e hi => by
    obtain ⟨S1, pool, found, e5, rfl, hmv, ht, hp, hfl, rfl⟩ := hi
    obtain ⟨rfl, hx⟩ := range_split e
    rw [hfold] at hfl ht ⊢
    simp only [List.length_range, Nat.zero_add] at hfl ht ⊢
    have hlen : found.length + pool.length = l.length := by
      have := hp.length_eq
      simpa using this
    have n0 : 0 < pool.length := by omega
    have h1l := hmv.len
    have g1 : (S1 ++ [C.lst (pool.map natD), C.lst (found.map natD)])[S.length]? = some (C.lst (pool.map natD)) := by
      have := gA S1 [C.lst (pool.map natD), C.lst (found.map natD)] 0
      rw [h1l] at this; exact this
    obtain ⟨r, S2', hr, hcall, ht2, hmv2⟩ := s_take (k := k) (by omega) (ht.app (T := [C.lst (pool.map natD), C.lst (found.map natD)])) (by omega) n0 (by omega)
    obtain ⟨S2, hmv3, rfl⟩ := hmv2.app (by omega)
    have h2l := hmv3.len
    have g0 := fun (T : Store) i => gA S2 T i
    rw [h2l, h1l] at g0
    have s0 := fun (T : Store) i c => sA S2 T i c
    rw [h2l, h1l] at s0
    have g2 : (S2 ++ [C.lst (pool.map natD), C.lst (found.map natD)])[S.length]? = some (C.lst (pool.map natD)) := g0 _ 0
    have hpop : ev (G k) (.popAt (.var 3) (.call 86 (.cons (.var 0) (.cons (.len (.var 3)) .nil)))) [A, B, N, P, Fd, some (natD x)] (S1 ++ [C.lst (pool.map natD), C.lst (found.map natD)]) = some ([natD pool[r]], S2 ++ [C.lst ((pool.eraseIdx r).map natD), C.lst (found.map natD)]) := by
      have hc2 := e_call (g := G k) (ρ := [A, B, N, P, Fd, some (natD x)]) (e_args2 (e_var (n := 0) rfl) (e_lenN (n := pool.length) (e_var (n := 3) rfl) (seq_cell g1))) hcall
      rw [ev, e_var (show ([A, B, N, P, Fd, some (natD x)] : Env)[3]? = some P from rfl)]
      simp only [Option.bind_some, natD] at hc2 ⊢
      rw [hc2]
      simp only [Option.bind_some]
      rw [show (S1 ++ [C.lst (pool.map natD), C.lst (found.map natD)])[S.length]? = some (C.lst (pool.map natD)) from g1, show (S2 ++ [C.lst (pool.map natD), C.lst (found.map natD)])[S.length]? = some (C.lst (pool.map natD)) from g2]
      have hs := s0 [C.lst (pool.map natD), C.lst (found.map natD)] 0 (C.lst ((pool.map natD).eraseIdx r))
      rw [Nat.add_zero] at hs
      simp only [Int.toNat_natCast, List.length_map]
      rw [if_pos (by omega)]
      simp only [List.getElem?_map, List.getElem?_eq_getElem hr, Option.map_some, Option.bind_some, hs]
      rw [erase_map]
      rfl
    refine ⟨[A, B, N, P, Fd, some (natD x)], by simp [setT], _, _, .inl (x_seq (x_app (e_var rfl) hpop (g := G k) (n := S.length + 1) (ds0 := found.map natD) (ds := found.map natD) ?_ (g0 _ 1) (by simp [most]; omega)) (by rw [exec])), ?_⟩
    · have := gA S1 [C.lst (pool.map natD), C.lst (found.map natD)] 1
      rw [h1l] at this; exact this
    · refine ⟨S2, pool.eraseIdx r, found ++ [pool[r]], some (natD x), ?_, hmv.trans hmv3, ht2.unapp (by omega), ?_, by simp [hfl], rfl⟩
      · have := s0 [C.lst ((pool.eraseIdx r).map natD), C.lst (found.map natD)] 1 (C.lst (found.map natD ++ [natD pool[r]]))
        rw [this]
        simp
      · refine List.Perm.trans ?_ hp
        rw [List.append_assoc]
        exact List.Perm.append_left _ (erase_perm pool r hr)
  rw [hfold] at ht hfl
  simp only [List.length_range, Nat.zero_add] at ht hfl
  refine ⟨found, S1, ?_, ht, hmv, hfl, pool, hp⟩
  have h1l := hmv.len
  have hfin : exec (G k) b__law_pick [A, B, N, none, none, none] S = some (.rt (.cell (S.length + 1)) (S1 ++ [C.lst (pool.map natD), C.lst (found.map natD)])) := by
    have e1 : exec (G k) (.asgP (.tcons (.nm 3) (.tcons (.nm 4) .tnil)) (.cons (.mk (.list (.var 1))) (.cons (.mk (.lstE .nil)) .nil))) [A, B, N, none, none, none] S = some (.nx [A, B, N, P, Fd, none] (S ++ [C.lst (l.map natD), C.lst []])) := by
      have h1 := x_par2 (g := G k) (i := 3) (j := 4) (ρ := [A, B, N, none, none, none]) (e_args2 (e_mk (e_list (S := S) (x := .lst (l.map natD)) (e_var (n := 1) rfl) (xs := l.map natD) rfl)) (e_mk (e_lstE e_nil)))
      refine h1.trans ?_
      have : (S ++ [C.lst (l.map natD)]).length = S.length + 1 := by simp
      rw [this]
      simp [P, Fd]
    refine x_seq e1 (x_seq (x_for ?_ hlp) (x_seqR (x_ret (e_var rfl))))
    refine e_rng1 (n := cnt) ?_ (by omega)
    have hmin : ev (G k) (.min2 (.intE (.var 2)) (.len (.var 3))) [A, B, N, P, Fd, none] (S ++ [C.lst (l.map natD), C.lst []]) = some ([.int (if (l.length : Int) < cnt then l.length else cnt)], S ++ [C.lst (l.map natD), C.lst []]) := by
      have a1 := e_intE' (g := G k) (S := S ++ [C.lst (l.map natD), C.lst []]) (v := (cnt : Int)) (e_var (show ([A, B, N, P, Fd, none] : Env)[2]? = some (some (.int cnt)) from rfl))
      have a2 := e_lenN (g := G k) (n := l.length) (e_var (show ([A, B, N, P, Fd, none] : Env)[3]? = some P from rfl)) (seq_cell (gA S [C.lst (l.map natD), C.lst []] 0))
      rw [ev, a1]
      simp only [Option.bind_some, a2, natD]
    rw [if_neg (by omega)] at hmin
    exact hmin
  have hT : (S1 ++ [C.lst (pool.map natD), C.lst (found.map natD)]).take S.length = S1 := by
    rw [← h1l]; exact List.take_left
  simp only [callF, t__law_pick, Option.bind_some]
  rw [if_pos (by rfl)]
  have hfin : exec ⟨callF defs cs97 k, cs97, 0⟩ b__law_pick [A, B, N, none, none, none] S = some (.rt (.cell (S.length + 1)) (S1 ++ [C.lst (pool.map natD), C.lst (found.map natD)])) := hfin
  show (exec ⟨callF defs cs97 k, cs97, 0⟩ b__law_pick [A, B, N, none, none, none] S).bind _ = _
  rw [hfin]
  show cutS S (.cell (S.length + 1)) (S1 ++ [C.lst (pool.map natD), C.lst (found.map natD)]) = _
  unfold cutS
  obtain ⟨xs, hx, e⟩ := hmv
  rw [if_pos fun n hn => by
    rw [List.getElem?_append_left (by omega)]
    by_cases hc : n = c
    · right
      exact ⟨C.lst xs, by rw [e, hc, List.getElem?_set_self (by omega)], pures_ok hx⟩
    · left
      rw [e, List.getElem?_set_ne (fun z => hc z.symm)]]
  have g1 := gA S1 [C.lst (pool.map natD), C.lst (found.map natD)] 1
  rw [h1l] at g1
  have hpu : okDs S.length (found.map natD) = true := pures_ok (pures_map fun _ _ => rfl)
  simp only [resD, if_neg (show ¬ (S.length + 1 < S.length) by omega), g1, List.getElem?_cons_succ, List.getElem?_cons_zero, hpu, if_true, Option.map_some, hT]
end
end Ev

set_option Elab.async false
set_option linter.all false
set_option maxRecDepth 100000
set_option maxHeartbeats 4000000
set_option autoImplicit false
set_option exponentiation.threshold 10000
/-! specs: drawn axes, tables without ties -/
namespace Ev
open PySem
theorem list_vec (l : List Rat) : l = vec l.length fun i => l.getD i 0 := by
  unfold vec
  apply List.ext_getElem
  · simp
  · intro i h1 h2
    simp [h1]
theorem rows_mat {n m : Nat} {l : List (List Rat)} (h : l.length = n) (h2 : ∀ r ∈ l, r.length = m) : l = mat n m (at_ l) := by
  unfold mat
  apply List.ext_getElem
  · simp [h]
  · intro i h1 h3
    simp only [List.getElem_map, List.getElem_range]
    have e := list_vec l[i]
    rw [h2 _ (List.getElem_mem h1)] at e
    rw [e]
    exact vec_congr fun j hj => by
      unfold at_
      have : l.getD i [] = l[i] := by simp [h1]
      rw [this]
/-- what a draw may be -/
def Wq (q : Rat) : Prop := Q 3 2 q ∧ 0 ≤ q
section
variable {k : Nat}
/-- [_law_of(tin, goods) for lap in range(n)] -/
theorem s_draws {ρ : Env} {S : Store} {m c n v i : Nat} {ge : Ex} {gs : List D} {P : Rat → Prop} (hk : 2 ≤ k) (t : Tape m c S) (hm : m + n < 2 ^ 40) (hn : n ≤ 1000) (hv : ρ[v]? = some (some (natD n))) (h0 : ∀ d : D, ((wipeE ρ [i]).set i (some d))[0]? = some (some (.cell c))) (hi : i < ρ.length)
    (hg : ∀ (ρ : Env) (S : Store), ev (G k) ge ρ S = some ([.lst gs], S)) (g0 : gs ≠ []) (gl : gs.length ≤ 1000) (gp : pureDs gs = true) (hP : ∀ d ∈ gs, ∃ q, d = fr q ∧ P q) :
    ∃ (bs : List Rat) (S' : Store), bs.length = n ∧ ev (G k) (.lc (.call 88 (.cons (.var 0) (.cons ge .nil))) (.nm i) (.rng1 (.var v)) (.bl true) [i]) ρ S = some ([.lst (bs.map fr)], S') ∧ (∀ b ∈ bs, P b) ∧ Moved c S S' ∧ Tape (m + n) c S' := by
  obtain ⟨bs, S', h1, h2, h3, h4, h5⟩ := e_lcP (g := G k) (ρ := ρ) (S := S) (S1 := S) (elt := .call 88 (.cons (.var 0) (.cons ge .nil))) (it := .rng1 (.var v)) (tg := .nm i) (own := [i]) natD fr P (fun j S' => Moved c S S' ∧ Tape (m + j) c S') (List.range n) (e_rng1 (e_var hv) hn) (by simp [most]; omega) ⟨t.refl, t⟩ fun j a S1 hj ha hinv => by
    obtain ⟨hmv, ht⟩ := hinv
    simp at hj
    obtain ⟨d, S2, hd, hc, ht2, hmv2⟩ := s_of (k := k) hk ht (by omega) g0 gl gp
    obtain ⟨q, rfl, hq⟩ := hP d hd
    refine ⟨(wipeE ρ [i]).set i (some (natD a)), by simp [setT, wipeE, hi], q, S2, ?_, hq, hmv.trans hmv2, ht2⟩
    exact e_call (e_args2 (e_var (h0 _)) (hg _ _)) hc
  simp only [List.length_range] at h1 h5
  exact ⟨bs, S', h1, h2, h3, h4, h5⟩
theorem fr_lit (n d : Int) (q : Rat) (h1 : q.num = n) (h2 : (q.den : Int) = d) : D.tup [.int n, .int d] = fr q := by rw [← h1, ← h2]; rfl
theorem w_goods : ∀ d ∈ ([.tup [.int 1, .int 1], .tup [.int 1, .int 1], .tup [.int 2, .int 1], .tup [.int 1, .int 2], .tup [.int 3, .int 1]] : List D), ∃ q, d = fr q ∧ Wq q := fun d hd => by
  simp only [List.mem_cons, List.not_mem_nil, or_false] at hd
  have m : ∀ (n : Int) (d : Nat) (P : Int), (∃ q : Rat, D.tup [.int n, .int d] = fr q ∧ q = Rat.divInt P 2 ∧ P.natAbs < 2 ^ 3 ∧ 0 ≤ q) → ∃ q, D.tup [.int n, .int d] = fr q ∧ Wq q := fun n d P h => by
    obtain ⟨q, h1, h2, h3, h4⟩ := h
    exact ⟨q, h1, ⟨P, h2, h3⟩, h4⟩
  rcases hd with rfl | rfl | rfl | rfl | rfl
  · exact m 1 1 2 ⟨1, rfl, by decide +kernel, by decide, by decide⟩
  · exact m 1 1 2 ⟨1, rfl, by decide +kernel, by decide, by decide⟩
  · exact m 2 1 4 ⟨2, rfl, by decide +kernel, by decide, by decide⟩
  · exact m 1 2 1 ⟨⟨1, 2, by decide, by decide⟩, rfl, by decide +kernel, by decide, by decide +kernel⟩
  · exact m 3 1 6 ⟨3, rfl, by decide +kernel, by decide, by decide⟩
theorem r_goods : ∀ d ∈ ([.tup [.int 0, .int 1], .tup [.int 0, .int 1], .tup [.int 1, .int 1], .tup [.int (-1), .int 1], .tup [.int 2, .int 1], .tup [.int 1, .int 2], .tup [.int (-2), .int 1]] : List D), ∃ q, d = fr q ∧ Q 3 2 q := fun d hd => by
  simp only [List.mem_cons, List.not_mem_nil, or_false] at hd
  have m : ∀ (n : Int) (d : Nat) (P : Int), (∃ q : Rat, D.tup [.int n, .int d] = fr q ∧ q = Rat.divInt P 2 ∧ P.natAbs < 2 ^ 3) → ∃ q, D.tup [.int n, .int d] = fr q ∧ Q 3 2 q := fun n d P h => by
    obtain ⟨q, h1, h2, h3⟩ := h
    exact ⟨q, h1, ⟨P, h2, h3⟩⟩
  rcases hd with rfl | rfl | rfl | rfl | rfl | rfl | rfl
  · exact m 0 1 0 ⟨0, rfl, by decide +kernel, by decide⟩
  · exact m 0 1 0 ⟨0, rfl, by decide +kernel, by decide⟩
  · exact m 1 1 2 ⟨1, rfl, by decide +kernel, by decide⟩
  · exact m (-1) 1 (-2) ⟨-1, rfl, by decide +kernel, by decide⟩
  · exact m 2 1 4 ⟨2, rfl, by decide +kernel, by decide⟩
  · exact m 1 2 1 ⟨⟨1, 2, by decide, by decide⟩, rfl, by decide +kernel, by decide⟩
  · exact m (-2) 1 (-4) ⟨-2, rfl, by decide +kernel, by decide⟩
theorem e_neg {g : GC} {a : Ex} {ρ : Env} {S S1 : Store} {v : Int} (h : ev g a ρ S = some ([.int v], S1)) : ev g (.neg a) ρ S = some ([.int (-v)], S1) := by rw [ev, h]; rfl
theorem e_frac {g : GC} {a b : Ex} {ρ : Env} {S : Store} {x y : Int} (h : ev g a ρ S = some ([.int x], S)) (h2 : ev g b ρ S = some ([.int y], S)) : ev g (.tupE (.cons a (.cons b .nil))) ρ S = some ([.tup [.int x, .int y]], S) := e_tupE (e_args2 h h2)
theorem s_axes (hk : 3 ≤ k) {S : Store} {m c n : Nat} (t : Tape m c S) (hm : m + 100 < 2 ^ 40) (hn : n ≤ 20) : ∃ (j : Nat) (w : Nat → Rat) (R : Nat → Nat → Rat) (S' : Store), 0 < j ∧ j ≤ 3 ∧ callF defs cs97 k i__law_axes [.cell c, natD n, .int 3] S = some (.tup [rowD (vec j w), tabD (mat n j R)], S') ∧ Tape (m + 4 + n * 3) c S' ∧ Moved c S S' ∧ (∀ i, i < j → Wq (w i)) ∧ ∀ i l, i < n → l < j → Q 3 2 (R i l) := by
  obtain ⟨k, rfl, hj⟩ := lev hk
  have hlt := t.lt
  obtain ⟨r, S1, hr, hc, t1, m1⟩ := s_take (k := k) (by omega) t (by omega) (show 0 < 3 by decide) (by decide)
  let j := 1 + r
  let A := some (D.cell c); let B := some (natD n); let T3 := some (D.int 3); let J := some (natD j)
  have gw : ∀ (ρ : Env) (S : Store), ev (G k) (.lstE (.cons (.tupE (.cons (.int 1) (.cons (.int 1) .nil))) (.cons (.tupE (.cons (.int 1) (.cons (.int 1) .nil))) (.cons (.tupE (.cons (.int 2) (.cons (.int 1) .nil))) (.cons (.tupE (.cons (.int 1) (.cons (.int 2) .nil))) (.cons (.tupE (.cons (.int 3) (.cons (.int 1) .nil))) .nil)))))) ρ S = some ([.lst [.tup [.int 1, .int 1], .tup [.int 1, .int 1], .tup [.int 2, .int 1], .tup [.int 1, .int 2], .tup [.int 3, .int 1]]], S) := fun ρ S =>
    e_lstE (e_cons (e_frac e_int e_int) (e_cons (e_frac e_int e_int) (e_cons (e_frac e_int e_int) (e_cons (e_frac e_int e_int) (e_cons (e_frac e_int e_int) e_nil)))))
  have gr : ∀ (ρ : Env) (S : Store), ev (G k) (.lstE (.cons (.tupE (.cons (.int 0) (.cons (.int 1) .nil))) (.cons (.tupE (.cons (.int 0) (.cons (.int 1) .nil))) (.cons (.tupE (.cons (.int 1) (.cons (.int 1) .nil))) (.cons (.tupE (.cons (.neg (.int 1)) (.cons (.int 1) .nil))) (.cons (.tupE (.cons (.int 2) (.cons (.int 1) .nil))) (.cons (.tupE (.cons (.int 1) (.cons (.int 2) .nil))) (.cons (.tupE (.cons (.neg (.int 2)) (.cons (.int 1) .nil))) .nil)))))))) ρ S = some ([.lst [.tup [.int 0, .int 1], .tup [.int 0, .int 1], .tup [.int 1, .int 1], .tup [.int (-1), .int 1], .tup [.int 2, .int 1], .tup [.int 1, .int 2], .tup [.int (-2), .int 1]]], S) := fun ρ S =>
    e_lstE (e_cons (e_frac e_int e_int) (e_cons (e_frac e_int e_int) (e_cons (e_frac e_int e_int) (e_cons (e_frac (e_neg e_int) e_int) (e_cons (e_frac e_int e_int) (e_cons (e_frac e_int e_int) (e_cons (e_frac (e_neg e_int) e_int) e_nil)))))))
  obtain ⟨ws, S2, w1, w2, w3, m2, t2⟩ := s_draws (k := k) (ρ := [A, B, T3, J, none, none, none, none]) (v := 3) (i := 6) (n := j) (P := Wq) (by omega) t1 (by omega) (by omega) rfl (fun d => rfl) (by simp) gw (by simp) (by simp) rfl w_goods
  let W := some (D.tup (ws.map fr))
  have hl2 : S2.length = S.length := by rw [m2.len, m1.len]
  let P5 := some (D.cell S2.length)
  let Inv : Nat → Env → Store → Prop := fun a ρ S' => ∃ (S3 : Store) (rows : List (List Rat)) (e6 : Option D), S' = S3 ++ [C.lst (rows.map rowD)] ∧ Moved c S2 S3 ∧ Tape (m + 1 + j + a * j) c S3 ∧ rows.length = a ∧ (∀ r ∈ rows, r.length = j ∧ ∀ q ∈ r, Q 3 2 q) ∧ ρ = [A, B, T3, J, W, P5, e6, none]
  have hfold : ∀ (l : List Nat) (a : Nat), l.foldl (fun (a : Nat) (_ : Nat) => a + 1) a = a + l.length := by
    intro l
    induction l with
    | nil => intro a; rfl
    | cons x l ih => intro a; rw [List.foldl_cons, ih, List.length_cons]; omega
  obtain ⟨ρ', S', hlp, S3, rows, e6, rfl, m3, t3, r1, r2, rfl⟩ := for_inv (body := exec (G k) (.seq (.app (.var 5) (.tuple (.lc (.call 88 (.cons (.var 0) (.cons (.lstE (.cons (.tupE (.cons (.int 0) (.cons (.int 1) .nil))) (.cons (.tupE (.cons (.int 0) (.cons (.int 1) .nil))) (.cons (.tupE (.cons (.int 1) (.cons (.int 1) .nil))) (.cons (.tupE (.cons (.neg (.int 1)) (.cons (.int 1) .nil))) (.cons (.tupE (.cons (.int 2) (.cons (.int 1) .nil))) (.cons (.tupE (.cons (.int 1) (.cons (.int 2) .nil))) (.cons (.tupE (.cons (.neg (.int 2)) (.cons (.int 1) .nil))) .nil)))))))) .nil))) (.nm 7) (.rng1 (.var 3)) (.bl true) [7]))) .done)) (t := .nm 6) natD Inv (fun a _ => a + 1) (List.range n) 0 [A, B, T3, J, W, P5, none, none] (S2 ++ [C.lst []]) ⟨S2, [], none, rfl, t2.refl, t2.mono (by omega), rfl, by simp, rfl⟩ fun l1 x l2 ρ S' e hi => by
    obtain ⟨S3, rows, e6, rfl, m3, t3, r1, r2, rfl⟩ := hi
    obtain ⟨rfl, hx⟩ := range_split e
    rw [hfold] at r1 t3 ⊢
    simp only [List.length_range, Nat.zero_add] at r1 t3 ⊢
    have hxj : x * j ≤ 20 * 3 := Nat.mul_le_mul (by omega) (by omega)
    obtain ⟨bs, S4', b1, b2, b3, m4, t4⟩ := s_draws (k := k) (ρ := [A, B, T3, J, W, P5, some (natD x), none]) (v := 3) (i := 7) (n := j) (P := Q 3 2) (by omega) (t3.app (T := [C.lst (rows.map rowD)])) (by omega) (by omega) rfl (fun d => rfl) (by simp) gr (by simp) (by simp) rfl r_goods
    obtain ⟨S4, m5, rfl⟩ := m4.app (by rw [m3.len, hl2]; exact hlt)
    have h3l := m3.len
    have h4l := m5.len
    refine ⟨[A, B, T3, J, W, P5, some (natD x), none], by simp [setT], _, _, .inl (x_seq (x_app (g := G k) (n := S2.length) (d := rowD bs) (ds0 := rows.map rowD) (ds := rows.map rowD) (e_var rfl) (e_tuple b2 rfl) ?_ ?_ (by simp [most]; omega)) (by rw [exec])), ?_⟩
    · rw [← h3l]; exact get_last _ _
    · rw [← h3l, ← h4l]; exact get_last _ _
    · refine ⟨S4, rows ++ [bs], some (natD x), ?_, m3.trans m5, ?_, by simp [r1], fun r hr => ?_, rfl⟩
      · rw [← h3l, ← h4l, set_last]; simp
      · refine (t4.unapp (by rw [m5.len, m3.len, hl2]; exact hlt)).mono ?_
        rw [Nat.add_mul]; omega
      · rcases List.mem_append.mp hr with hr | hr
        · exact r2 r hr
        · simp at hr; subst hr; exact ⟨b1, b3⟩
  rw [hfold] at t3 r1
  simp only [List.length_range, Nat.zero_add] at t3 r1
  have er : rows = mat n j (at_ rows) := rows_mat r1 fun r hr => (r2 r hr).1
  have ew : ws = vec j fun i => ws.getD i 0 := by have := list_vec ws; rw [w1] at this; exact this
  refine ⟨j, fun i => ws.getD i 0, at_ rows, S3, by omega, by omega, ?_, t3.mono ?_, (m1.trans m2).trans m3, fun i hi => ?_, fun i l hi hl => ?_⟩
  · rw [← ew, ← er]
    refine call_mv (c := c) (S1 := S3) t__law_axes rfl rfl (S' := S3 ++ [C.lst (rows.map rowD)]) ?_ ?_ (by rw [← hl2, ← m3.len]; exact List.take_left) ((m1.trans m2).trans m3)
    · show exec (G k) b__law_axes [A, B, T3, none, none, none, none, none] S = _
      refine x_seq (x_asg (d := natD j) (S1 := S1) (e_bin e_int (e_call (e_args2 (e_var rfl) (e_var rfl)) hc) ?_)) ?_
      · show some (D.int (1 + (r : Int))) = some (natD j)
        have : (1 + (r : Int)) = ((1 + r : Nat) : Int) := by omega
        rw [this]
        rfl
      refine x_seq (x_asg (e_tuple (x := .lst (ws.map fr)) w2 rfl)) ?_
      refine x_seq (x_asg (e_mk (e_lstE e_nil))) ?_
      refine x_seq (x_for (e_rng1 (e_var rfl) (by omega)) hlp) ?_
      refine x_seqR (x_ret (e_tupE (e_args2 (e_var rfl) (e_tuple (e_var rfl) (seq_cell (xs := rows.map rowD) ?_)))))
      rw [← m3.len]; exact get_last _ _
    · have h1 := pure_row ws
      have h2 := pure_tab rows
      simp [pureD, pureDs]
  · have : n * j ≤ n * 3 := Nat.mul_le_mul_left _ (by omega)
    omega
  · have hi' : i < ws.length := by rw [w1]; exact hi
    have : ws.getD i 0 ∈ ws := by
      rw [List.getD_eq_getElem?_getD, List.getElem?_eq_getElem hi']
      exact List.getElem_mem hi'
    exact w3 _ this
  · have hi' : i < rows.length := by rw [r1]; exact hi
    have hr := r2 rows[i] (List.getElem_mem hi')
    have e0 : rows.getD i [] = rows[i] := by rw [List.getD_eq_getElem?_getD, List.getElem?_eq_getElem hi']; rfl
    unfold at_
    rw [e0]
    have hl' : l < rows[i].length := by rw [hr.1]; exact hl
    have : rows[i].getD l 0 ∈ rows[i] := by
      rw [List.getD_eq_getElem?_getD, List.getElem?_eq_getElem hl']
      exact List.getElem_mem hl'
    exact hr.2 _ this
end
end Ev

set_option Elab.async false
set_option linter.all false
set_option maxRecDepth 100000
set_option maxHeartbeats 4000000
set_option autoImplicit false
set_option exponentiation.threshold 10000
/-! specs: products of axes; drawn tables without ties -/
namespace Ev
open PySem
def gramF (j : Nat) (w : Nat → Rat) (R : Nat → Nat → Rat) : Nat → Nat → Rat := fun a b => dotF j (fun i => w i * R a i) (R b)
section
variable {k : Nat}
theorem q_ok {x : Rat} (h : Q 3 2 x) : ok x := h.ok (by decide) (Nat.lt_of_lt_of_le (show 2 < 2 ^ 2 by decide) (Nat.pow_le_pow_right (by decide) (by decide))) (by decide)
theorem spec_gram (hk : 6 ≤ k) (S : Store) {n j : Nat} {w : Nat → Rat} {R : Nat → Nat → Rat} (hn : n ≤ 20) (hj3 : j ≤ 3) (hw : ∀ i, i < j → Wq (w i)) (hR : ∀ i l, i < n → l < j → Q 3 2 (R i l)) : callF defs cs97 k i__law_gram [rowD (vec j w), tabD (mat n j R)] S = some (tabD (mat n n (gramF j w R)), S) := by
  obtain ⟨k, rfl, hj⟩ := lev hk
  let A := some (rowD (vec j w)); let B := some (tabD (mat n j R)); let F5 := some (D.cell S.length)
  have itR : ∀ (ρ : Env) (S : Store), ρ[1]? = some B → ev (G k) (.it (.var 1)) ρ S = some (packG [] ((List.range n).map fun i => rowD (vec j (R i))), S) := fun ρ S h => by
    refine (e_it (e_var h) (xs := (List.range n).map fun i => rowD (vec j (R i))) ?_).trans rfl
    simp [tabD, mat, seqOf]
  let Inv : List D → Env → Store → Prop := fun acc ρ S' => ∃ e3 e4 : Option D, S' = S ++ [C.lst acc] ∧ ρ = [A, B, F5, e3, e4, none, none, none]
  let step : List D → Nat → List D := fun acc a => acc ++ [rowD (vec n (gramF j w R a))]
  have hst : ∀ (l : List Nat) (acc : List D), l.foldl step acc = acc ++ l.map fun a => rowD (vec n (gramF j w R a)) := by
    intro l
    induction l with
    | nil => intro acc; simp
    | cons x l ih => intro acc; rw [List.foldl_cons, ih]; simp [step]
  obtain ⟨ρ', S', hlp, e3, e4, rfl, rfl⟩ := for_inv (body := exec (G k) (.seq (.asg (.nm 4) (.lc (.call 96 (.cons (.var 5) (.cons (.var 6) .nil))) (.tup (.tcons (.nm 5) (.tcons (.nm 6) .tnil))) (.zip (.var 0) (.var 3)) (.bl true) [5, 6]))
    (.seq (.app (.var 2) (.tuple (.lc (.call 100 (.cons (.var 4) (.cons (.var 7) .nil))) (.nm 7) (.it (.var 1)) (.bl true) [7]))) .done))) (t := .nm 3) (fun i => rowD (vec j (R i))) Inv step (List.range n) [] [A, B, F5, none, none, none, none, none] (S ++ [C.lst []]) ⟨none, none, rfl, rfl⟩ fun l1 a l2 ρ S' e hi => by
    obtain ⟨e3, e4, rfl, rfl⟩ := hi
    obtain ⟨rfl, ha⟩ := range_split e
    rw [hst]
    let acc : List D := [] ++ (List.range a).map fun a => rowD (vec n (gramF j w R a))
    let S1 : Store := S ++ [C.lst acc]
    have h1 : ev (G k) (.lc (.call 96 (.cons (.var 5) (.cons (.var 6) .nil))) (.tup (.tcons (.nm 5) (.tcons (.nm 6) .tnil))) (.zip (.var 0) (.var 3)) (.bl true) [5, 6]) [A, B, F5, some (rowD (vec j (R a))), e4, none, none, none] S1 = some ([.lst (vrow j fun i => w i * R a i)], S1) := by
      refine e_lc (gd := []) (fun i : Nat => D.tup [fr (w i), fr (R a i)]) (fun i : Nat => fr (w i * R a i)) (List.range j) ?_ (by simp [most]; omega) fun i hi => ?_
      · refine (e_zip (e_var rfl) (e_var rfl) (xs := vrow j w) (ys := vrow j (R a)) (by rw [rowD_vec]; rfl) (by rw [rowD_vec]; rfl)).trans ?_
        unfold vrow
        rw [zip_rng]; rfl
      · have hi := List.mem_range.mp hi
        exact ⟨_, by simp [setT, wipeE]; rfl, e_call (e_args2 (e_var rfl) (e_var rfl)) (spec_lmul S1 (by omega) (q_ok (hw i hi).1) (q_ok (hR a i ha hi)))⟩
    have sw : Sv 6 j fun i => w i * R a i := ⟨4, by decide, by decide, fun _ i _ hi => (hw i hi).1.mul (hR a i ha hi)⟩
    have h2 : ev (G k) (.lc (.call 100 (.cons (.var 4) (.cons (.var 7) .nil))) (.nm 7) (.it (.var 1)) (.bl true) [7]) [A, B, F5, some (rowD (vec j (R a))), some (.lst (vrow j fun i => w i * R a i)), none, none, none] S1 = some ([.lst (vrow n (gramF j w R a))], S1) := by
      refine e_lc (gd := []) (fun b : Nat => rowD (vec j (R b))) (fun b : Nat => fr (gramF j w R a b)) (List.range n) (itR _ _ rfl) (by simp [most]; omega) fun b hb => ?_
      have hb := List.mem_range.mp hb
      have sr : Sv 3 j (R b) := ⟨2, by decide, by decide, fun _ i _ hi => hR b i hb hi⟩
      refine ⟨_, by simp [setT, wipeE]; rfl, e_call (e_args2 (e_var rfl) (e_var rfl)) ?_⟩
      have := s_lboth S1 (k := k) hj sw sr (by omega) (by omega) rw_lst rw_tup
      rw [← rowD_vec] at this
      exact this
    have gl := get_last S (C.lst acc)
    refine ⟨[A, B, F5, some (rowD (vec j (R a))), e4, none, none, none], by simp [setT], _, _, .inl (x_seq (x_asg h1) (x_seq (x_app (e_var rfl) (e_tuple (x := .lst (vrow n (gramF j w R a))) h2 rfl) gl gl (by simp [acc, most]; omega)) (by rw [exec]))), ?_⟩
    refine ⟨some (rowD (vec j (R a))), some (.lst (vrow j fun i => w i * R a i)), ?_, rfl⟩
    rw [set_last]
    show _ = S ++ [C.lst (acc ++ [rowD (vec n (gramF j w R a))])]
    rw [rowD_vec]
  rw [hst, List.nil_append] at hlp
  have ht : tabD (mat n n (gramF j w R)) = .tup ((List.range n).map fun a => rowD (vec n (gramF j w R a))) := by simp [tabD, mat]
  refine call_ret t__law_gram rfl rfl (S' := S ++ [C.lst ((List.range n).map fun a => rowD (vec n (gramF j w R a)))]) ?_ (by simp) (take_app _ _)
  show exec (G k) b__law_gram [A, B, none, none, none, none, none, none] S = _
  rw [ht]
  exact x_seq (x_asg (e_mk (e_lstE e_nil))) (x_seq (x_for (itR _ _ rfl) hlp) (x_seqR (x_ret (e_tuple (e_var rfl) (seq_cell (get_last _ _))))))
theorem gram_sz {n j : Nat} {w : Nat → Rat} {R : Nat → Nat → Rat} (hj3 : j ≤ 3) (hw : ∀ i, i < j → Wq (w i)) (hR : ∀ i l, i < n → l < j → Q 3 2 (R i l)) : SzM 12 8 n n (gramF j w R) := by
  refine ⟨by decide, by decide, fun a b ha hb => ?_⟩
  have : ∀ i, i < j → Q 9 8 (w i * R a i * R b i) := fun i hi => ((hw i hi).1.mul (hR a i ha hi)).mul (hR b i hb hi)
  exact Q.sum (a := 9) (by decide) j this (by omega)
theorem gram_sym {n j : Nat} {w : Nat → Rat} {R : Nat → Nat → Rat} : Sym n (gramF j w R) := fun a b _ _ => sum_congr fun i _ => by grind
theorem gram_quad {n j : Nat} {w : Nat → Rat} {R : Nat → Nat → Rat} (x : Nat → Rat) : quad n (gramF j w R) x = sum j fun i => w i * (dotF n x (fun a => R a i) * dotF n x fun a => R a i) := by
  have e : ∀ a b, gramF j w R a b = sum j fun i => w i * (R a i * R b i) := fun a b => sum_congr fun i _ => by grind
  unfold quad bil
  have e2 : ∀ a, app n (gramF j w R) x a = sum j fun i => w i * R a i * dotF n x fun a => R a i := fun a => by
    unfold app
    rw [show (fun b => gramF j w R a b * x b) = fun b => sum j fun i => w i * (R a i * R b i) * x b from funext fun b => by rw [e, sum_mulr]]
    rw [sum_comm]
    refine sum_congr fun i _ => ?_
    unfold dotF
    rw [← sum_mul]
    exact sum_congr fun b _ => by grind
  rw [show app n (gramF j w R) x = fun a => sum j fun i => w i * R a i * dotF n x fun a => R a i from funext e2]
  show (sum n fun a => x a * sum j fun i => w i * R a i * dotF n x fun a => R a i) = _
  rw [show (fun a => x a * sum j fun i => w i * R a i * dotF n x fun a => R a i) = fun a => sum j fun i => x a * (w i * R a i * dotF n x fun a => R a i) from funext fun a => by rw [sum_mul]]
  rw [sum_comm]
  refine sum_congr fun i _ => ?_
  have : (fun a => x a * (w i * R a i * dotF n x fun a => R a i)) = fun a => w i * (dotF n x fun a => R a i) * (x a * R a i) := funext fun a => by grind
  rw [this, sum_mul]
  show w i * (dotF n x fun a => R a i) * dotF n x (fun a => R a i) = _
  grind
theorem firm_pd {n j : Nat} {w : Nat → Rat} {R : Nat → Nat → Rat} (hw : ∀ i, i < j → Wq (w i)) : Pd n fun a b => gramF j w R a b + Ident a b := fun x hx => by
  have h1 : 0 ≤ quad n (gramF j w R) x := by
    rw [gram_quad]
    exact sum_nonneg fun i hi => Rat.mul_nonneg (hw i hi).2 (sq_nonneg _)
  have h2 : 0 < quad n Ident x := by
    have e : quad n Ident x = sum n fun i => x i * x i := sum_congr fun i hi => by
      congr 1
      unfold app
      rw [sum_one hi fun l _ c => by simp [Ident, show ¬ i = l from fun z => c z.symm]]
      simp [Ident]
    rw [e]
    obtain ⟨i, hi, c⟩ := hx
    have : ∀ n, i < n → 0 < sum n fun i => x i * x i := by
      intro n
      induction n with
      | zero => intro h; omega
      | succ n ih =>
        intro h
        rw [sum]
        by_cases c2 : i = n
        · have h1 : 0 ≤ sum n fun i => x i * x i := sum_nonneg fun i _ => sq_nonneg _
          have h2 := sq_pos c
          rw [← c2] at h1 ⊢
          grind
        · have h1 := ih (by omega)
          have h2 := sq_nonneg (x n)
          grind
    exact this n hi
  rw [quad, bilF_add]
  grind
theorem s_firm (hk : 8 ≤ k) {S : Store} {m c n : Nat} (t : Tape m c S) (hm : m + 100 < 2 ^ 40) (hn : n ≤ 3) : ∃ (F : Nat → Nat → Rat) (S' : Store), callF defs cs97 k i__law_firm [.cell c, natD n] S = some (tabD (mat n n F), S') ∧ Tape (m + 13) c S' ∧ Moved c S S' ∧ Sz 13 n n F ∧ Sym n F ∧ Pd n F := by
  obtain ⟨k, rfl, hj⟩ := lev hk
  obtain ⟨j, w, R, S1, j0, j3, hax, t1, m1, hw, hR⟩ := s_axes (k := k) (by omega) t hm (show n ≤ 20 by omega)
  have hgr := spec_gram (k := k) (by omega) S1 (show n ≤ 20 by omega) j3 hw hR
  refine ⟨fun a b => gramF j w R a b + Ident a b, S1, ?_, t1.mono (by omega), m1, ?_, ?_, firm_pd hw⟩
  · refine call_mv (c := c) (S1 := S1) t__law_firm rfl rfl (S' := S1) ?_ (by simp) (List.take_of_length_le (by rw [m1.len]; omega)) m1
    show exec (G k) b__law_firm [some (.cell c), some (natD n), none, none, none, none, none, none] S = _
    refine x_seq (x_asg (e_call (e_args3 (e_var rfl) (e_var rfl) e_int) hax)) ?_
    refine x_seq (x_asg (e_call (e_args2 (e_idx (i := 0) (e_var rfl) e_int rfl (idx_nat _ 0 (by simp))) (e_idx (i := 1) (e_var rfl) e_int rfl (idx_nat _ 1 (by simp)))) hgr)) ?_
    refine x_seqR (x_ret (Eq.trans ?_ (congrArg (fun d => some ([d], S1)) (tabD_mat n n _).symm)))
    refine e_tuple (x := .lst ((List.range n).map fun i => .tup (vrow n fun b => gramF j w R i b + Ident i b))) ?_ rfl
    refine e_lc (gd := []) (fun i : Nat => D.tup [natD i, .tup (vrow n (gramF j w R i))]) (fun i : Nat => D.tup (vrow n fun b => gramF j w R i b + Ident i b)) (List.range n) ?_ (by simp [most]; omega) fun i hi => ?_
    · refine (e_enm (e_var rfl) (xs := (List.range n).map fun i => D.tup (vrow n (gramF j w R i))) (by rw [tabD_mat]; rfl)).trans ?_
      rw [enum_rng (α := D)]
      rfl
    have hi := List.mem_range.mp hi
    refine ⟨_, by simp [setT, wipeE]; rfl, ?_⟩
    refine e_tuple (x := .lst (vrow n fun b => gramF j w R i b + Ident i b)) ?_ rfl
    refine e_lc (gd := []) (fun b : Nat => D.tup [natD b, fr (gramF j w R i b)]) (fun b : Nat => fr (gramF j w R i b + Ident i b)) (List.range n) ?_ (by simp [most]; omega) fun b hb => ?_
    · refine (e_enm (e_var rfl) (xs := (List.range n).map fun b => fr (gramF j w R i b)) rfl).trans ?_
      rw [enum_rng (α := D)]
      rfl
    have hb := List.mem_range.mp hb
    refine ⟨_, by simp [setT, wipeE]; rfl, ?_⟩
    have hok : ok (gramF j w R i b) := (gram_sz j3 hw hR).ok (by omega) hi hb
    have ho : ok 1 := q_one.ok (by decide)
    by_cases e : b = i
    · rw [show Ident i b = 1 by simp [Ident, e]]
      refine e_iteT (S1 := S1) (e_cmp (e_var rfl) (e_var rfl) (by simp [cmpD, natD, eqD_int, e])) ?_
      exact e_call (e_args2 (e_var rfl) (e_frac e_int e_int)) (spec_lsum S1 (q := 1) (by omega) hok ho)
    · rw [show Ident i b = 0 by simp [Ident, show ¬ i = b from fun z => e z.symm]]
      rw [Rat.add_zero]
      exact e_iteF (S1 := S1) (e_cmp (e_var rfl) (e_var rfl) (by simp [cmpD, natD, eqD_int]; omega)) (e_var rfl)
  · have hg := gram_sz j3 hw hR
    refine ⟨8, by decide, by decide, fun a b ha hb => Q.add (a := 12) (by decide) (hg.q a b ha hb) ?_ (by omega)⟩
    unfold Ident
    split
    · exact Q.one (by decide) (by decide)
    · exact Q.zero _ _
  · exact gram_sym.add fun a b _ _ => by
      unfold Ident
      by_cases c : a = b
      · rw [if_pos c, if_pos c.symm]
      · rw [if_neg c, if_neg (fun z => c z.symm)]
end
end Ev

set_option Elab.async false
set_option linter.all false
set_option maxRecDepth 100000
set_option maxHeartbeats 4000000
set_option autoImplicit false
set_option exponentiation.threshold 10000
/-! the law's determinant: what it does, by lists -/
namespace Ev
open PySem
abbrev Dc := List (List Nat × Rat)
def keyI (l : List Nat) : List Int := l.map fun (j : Nat) => (j : Int)
def toKv (d : Dc) : List (List Int × D) := d.map fun kv => (keyI kv.1, fr kv.2)
def getM (d : Dc) (l : List Nat) : Option Rat := (d.find? fun kv => decide (kv.1 = l)).map (·.2)
def putM (d : Dc) (l : List Nat) (q : Rat) : Dc := if (d.any fun kv => decide (kv.1 = l)) = true then d.map (fun kv => if kv.1 = l then (kv.1, q) else kv) else d ++ [(l, q)]
theorem keyI_inj {l m : List Nat} (h : keyI l = keyI m) : l = m := by
  unfold keyI at h
  induction l generalizing m with
  | nil => cases m with
    | nil => rfl
    | cons _ _ => simp at h
  | cons a l ih => cases m with
    | nil => simp at h
    | cons b m =>
      simp only [List.map_cons, List.cons.injEq] at h
      rw [ih h.2]
      congr 1
      omega
theorem key_dec (l m : List Nat) : decide (keyI l = keyI m) = decide (l = m) := by
  by_cases c : l = m
  · simp [c]
  · rw [decide_eq_false c, decide_eq_false (fun z => c (keyI_inj z))]
theorem look_kv (d : Dc) (l : List Nat) : lookK (toKv d) (keyI l) = (getM d l).map fr := by
  unfold lookK getM toKv
  induction d with
  | nil => rfl
  | cons x d ih =>
    simp only [List.map_cons, List.find?_cons, key_dec]
    by_cases c : x.1 = l
    · simp [c]
    · simp only [decide_eq_false c]
      exact ih
theorem put_kv (d : Dc) (l : List Nat) (q : Rat) : putK (toKv d) (keyI l) (fr q) = toKv (putM d l q) := by
  have ha : ((toKv d).any fun kv => decide (kv.1 = keyI l)) = (d.any fun kv => decide (kv.1 = l)) := by
    unfold toKv
    rw [List.any_map]
    congr 1
    funext kv
    exact key_dec ..
  unfold putK putM
  rw [ha]
  split
  · unfold toKv
    rw [List.map_map, List.map_map]
    refine List.map_congr_left fun kv _ => ?_
    by_cases c : kv.1 = l
    · simp [c]
    · simp only [Function.comp]
      rw [if_neg (fun z => c (keyI_inj z)), if_neg c]
  · simp [toKv]
def muchM (v x : Rat) (lot : List Nat) (j : Nat) : Rat := if (lot.filter fun i => decide (j < i)).length % 2 = 1 then -(v * x) else v * x
def detStep (F : Nat → Nat → Rat) (t : Nat) (sums : Dc) (lot : List Nat) (later : Dc) (j : Nat) : Dc :=
  putM later (sortN (lot ++ [j])) ((getM later (sortN (lot ++ [j]))).getD 0 + muchM ((getM sums lot).getD 0) (F t j) lot j)
def detLot (n : Nat) (F : Nat → Nat → Rat) (t : Nat) (sums : Dc) (later : Dc) (kv : List Nat × Rat) : Dc := (restL n kv.1).foldl (detStep F t sums kv.1) later
def detRow (n : Nat) (F : Nat → Nat → Rat) (sums : Dc) (t : Nat) : Dc := sums.foldl (detLot n F t sums) []
def detAll (n : Nat) (F : Nat → Nat → Rat) : Dc := (List.range n).foldl (detRow n F) [([], 1)]
/-- what all entries of a dict keep: their sizes, their keys, how many they are -/
structure DcOk (b e n L m : Nat) (d : Dc) : Prop where
  q : ∀ kv ∈ d, Q b e kv.2
  k : ∀ kv ∈ d, kv.1.length ≤ L
  l : d.length ≤ m
theorem getM_mem {d : Dc} {l : List Nat} {q : Rat} (h : getM d l = some q) : (l, q) ∈ d := by
  unfold getM at h
  rw [Option.map_eq_some_iff] at h
  obtain ⟨kv, h1, h2⟩ := h
  have := List.find?_some h1
  have hk := of_decide_eq_true this
  have hm := List.mem_of_find?_eq_some h1
  rw [← hk, ← h2]
  exact hm
theorem getM_some {d : Dc} {kv : List Nat × Rat} (h : kv ∈ d) : ∃ q, getM d kv.1 = some q := by
  unfold getM
  cases hf : d.find? fun x => decide (x.1 = kv.1) with
  | some y => exact ⟨y.2, rfl⟩
  | none =>
    have := List.find?_eq_none.mp hf kv h
    simp at this
theorem putM_mem {d : Dc} {l : List Nat} {q : Rat} {kv : List Nat × Rat} (h : kv ∈ putM d l q) : kv ∈ d ∨ kv = (l, q) := by
  unfold putM at h
  split at h
  · obtain ⟨x, hx, rfl⟩ := List.mem_map.mp h
    by_cases c : x.1 = l
    · rw [if_pos c]; right; rw [c]
    · rw [if_neg c]; left; exact hx
  · rcases List.mem_append.mp h with h | h
    · exact .inl h
    · simp at h; exact .inr h
theorem putM_len {d : Dc} {l : List Nat} {q : Rat} : (putM d l q).length ≤ d.length + 1 := by
  unfold putM
  split
  · simp
  · simp
theorem Q.much {b a e d : Nat} {v x : Rat} {lot : List Nat} {j : Nat} (hv : Q b e v) (hx : Q a d x) : Q (b + a) (e * d) (muchM v x lot j) := by
  unfold muchM
  split
  · exact (hv.mul hx).neg
  · exact hv.mul hx
theorem step_ok {a b d e n L m u : Nat} {F : Nat → Nat → Rat} {t : Nat} {sums later : Dc} {lot : List Nat} {j : Nat} (d0 : 0 < d) (e0 : 0 < e) (hF : Q a d (F t j)) (hs : DcOk b e n L m sums) (hl : DcOk (b + a + u) (e * d) n (L + 1) u later) (hk : lot.length ≤ L) :
    DcOk (b + a + (u + 1)) (e * d) n (L + 1) (u + 1) (detStep F t sums lot later j) ∧ Q (b + a + (u + 1)) (e * d) ((getM later (sortN (lot ++ [j]))).getD 0 + muchM ((getM sums lot).getD 0) (F t j) lot j) := by
  have ed : 0 < e * d := Nat.mul_pos e0 d0
  have h1 : Q b e ((getM sums lot).getD 0) := by
    cases h : getM sums lot with
    | none => exact Q.zero _ _
    | some q => exact hs.q _ (getM_mem h)
  have h2 : Q (b + a + u) (e * d) ((getM later (sortN (lot ++ [j]))).getD 0) := by
    cases h : getM later (sortN (lot ++ [j])) with
    | none => exact Q.zero _ _
    | some q => exact hl.q _ (getM_mem h)
  have h3 := Q.add (b := b + a + (u + 1)) ed h2 ((h1.much hF (lot := lot) (j := j)).mono (show b + a ≤ b + a + u by omega)) (by omega)
  refine ⟨⟨fun kv hkv => ?_, fun kv hkv => ?_, ?_⟩, h3⟩
  · rcases putM_mem hkv with h | rfl
    · exact (hl.q kv h).mono (by omega)
    · exact h3
  · rcases putM_mem hkv with h | rfl
    · exact hl.k kv h
    · have := (sortN_perm (lot ++ [j])).length_eq
      show (sortN (lot ++ [j])).length ≤ L + 1
      rw [this]
      simp
      omega
  · have := putM_len (d := later) (l := sortN (lot ++ [j])) (q := (getM later (sortN (lot ++ [j]))).getD 0 + muchM ((getM sums lot).getD 0) (F t j) lot j)
    have := hl.l
    unfold detStep
    omega
end Ev

set_option Elab.async false
set_option linter.all false
set_option maxRecDepth 100000
set_option maxHeartbeats 4000000
set_option autoImplicit false
set_option exponentiation.threshold 10000
/-! spec: the law's determinant -/
namespace Ev
open PySem
theorem for_invG {α β : Type} {body : Env → Store → Option Fl} {t : Tg} {gd : List Nat} (h : α → D) (Inv : β → Env → Store → Prop) (step : β → α → β) : ∀ (l : List α) (b : β) (ρ : Env) (S : Store), Inv b ρ S →
    (∀ l1 a l2 ρ S, l = l1 ++ a :: l2 → Inv (l1.foldl step b) ρ S → ∃ ρ1, setT t [h a] ρ = some ρ1 ∧ ∃ ρ2 S2, body ρ1 S = some (.nx ρ2 S2) ∧ kept gd S S2 ∧ Inv (step (l1.foldl step b) a) ρ2 S2) →
    ∃ ρ' S', forLp body t gd (l.map h) ρ S = some (.nx ρ' S') ∧ Inv (l.foldl step b) ρ' S'
  | [], b, ρ, S, hi, _ => ⟨ρ, S, by simp [forLp], hi⟩
  | a :: l, b, ρ, S, hi, hs => by
    obtain ⟨ρ1, h1, ρ2, S2, h2, hk, h3⟩ := hs [] a l ρ S rfl hi
    obtain ⟨ρ', S', h4, h5⟩ := for_invG (body := body) (t := t) (gd := gd) h Inv step l (step b a) ρ2 S2 h3 fun l1 a' l2 ρ S e hi => hs (a :: l1) a' l2 ρ S (by rw [e]; rfl) hi
    refine ⟨ρ', S', ?_, h5⟩
    simp only [List.map_cons, forLp, h1, h2, Option.bind_some]
    rw [if_pos hk, h4]
abbrev detIn : Sm :=
    (.seq (.asg (.nm 6) (.call 96 (.cons (.dget (.var 1) (.var 4)) (.cons (.idx (.var 2) (.var 5)) .nil))))
    (.seq (.ite (.cmp .eq (.bin .mod (.len (.lc (.int 1) (.nm 8) (.it (.var 4)) (.cmp .gt (.var 8) (.var 5)) [8])) (.int 2)) (.int 1))
    (.seq (.asg (.nm 6) (.tupE (.cons (.neg (.idx (.var 6) (.int 0))) (.cons (.idx (.var 6) (.int 1)) .nil))))
    .done)
    .done)
    (.seq (.dput 7 (.sorted (.bin .add (.var 4) (.tupE (.cons (.var 5) .nil)))) (.var 3) (.call 95 (.cons (.dgetD (.var 3) (.var 7) (.tupE (.cons (.int 0) (.cons (.int 1) .nil)))) (.cons (.var 6) .nil))))
    .done)))
abbrev detMid : Sm := (.seq (.forL (.nm 5) (.it (.lc (.var 8) (.nm 8) (.rng1 (.len (.var 0))) (.cmp .ntIn (.var 8) (.var 4)) [8])) detIn) .done)
abbrev detOut : Sm := (.seq (.asg (.nm 3) .dnew) (.seq (.forD (.nm 4) 1 detMid) (.seq (.asg (.nm 1) (.var 3)) .done)))
section
variable {k : Nat}
theorem neg_fr (q : Rat) : D.tup [.int (-q.num), .int q.den] = fr (-q) := fr_neg q
theorem keyD (l : List Nat) : (keyI l).map D.int = l.map natD := by simp [keyI, natD]
theorem intsOf_lot (l : List Nat) : intsOf (l.map natD) = some (keyI l) := intsOf_nat l
theorem det_in (hk : 3 ≤ k) {S : Store} {T r : D} {F : Nat → Nat → Rat} {sums later : Dc} {lot : List Nat} {t j n cs cl : Nat} {e6 e7 e8 : Option D} (hj : j < n) (hn : n ≤ 20) (hr : r = .tup (vrow n (F t))) (hcs : S[cs]? = some (C.lck (toKv sums))) (hcl : S[cl]? = some (C.dct (toKv later))) (hin : ∃ q, getM sums lot = some q)
    (okv : ok ((getM sums lot).getD 0)) (okx : ok (F t j)) (okm : ok (muchM ((getM sums lot).getD 0) (F t j) lot j)) (okg : ok ((getM later (sortN (lot ++ [j]))).getD 0)) (hl : later.length < most) (hlot : lot.length < 60) :
    ∃ e6' e7', exec (G k) detIn [some T, some (.cell cs), some r, some (.cell cl), some (lotD lot), some (natD j), e6, e7, e8] S = some (.nx [some T, some (.cell cs), some r, some (.cell cl), some (lotD lot), some (natD j), e6', e7', e8] (S.set cl (C.dct (toKv (detStep F t sums lot later j))))) := by
  obtain ⟨v, hv⟩ := hin
  rw [hv] at okv okm
  simp only [Option.getD_some] at okv okm
  let x := F t j
  have hd : ev (G k) (.dget (.var 1) (.var 4)) [some T, some (.cell cs), some r, some (.cell cl), some (lotD lot), some (natD j), e6, e7, e8] S = some ([fr v], S) := by
    rw [ev, e_var (show ([some T, some (.cell cs), some r, some (.cell cl), some (lotD lot), some (natD j), e6, e7, e8] : Env)[1]? = some (some (.cell cs)) from rfl)]
    simp only [Option.bind_some]
    rw [e_var (show ([some T, some (.cell cs), some r, some (.cell cl), some (lotD lot), some (natD j), e6, e7, e8] : Env)[4]? = some (some (lotD lot)) from rfl)]
    simp only [Option.bind_some, keyOf, lotD, intsOf_lot, hcs, look_kv, hv, Option.map_some]
  refine ⟨some (fr (muchM v x lot j)), some (lotD (sortN (lot ++ [j]))), ?_⟩
  refine x_seq (x_asg (d := fr (v * x)) (S1 := S) (e_call (e_args2 hd (e_idx (e_var rfl) (e_var rfl) (by rw [hr]; rfl) (vrow_get hj))) (spec_lmul S hk okv okx))) ?_
  have hcnt : ev (G k) (.len (.lc (.int 1) (.nm 8) (.it (.var 4)) (.cmp .gt (.var 8) (.var 5)) [8])) [some T, some (.cell cs), some r, some (.cell cl), some (lotD lot), some (natD j), some (fr (v * x)), e7, e8] S = some ([natD (lot.filter fun i => decide (j < i)).length], S) := by
    refine e_lenN (x := .lst ((lot.filter fun i => decide (j < i)).map fun _ => .int 1)) ?_ rfl (by simp)
    refine e_lcIf (gd := []) natD (fun _ => .int 1) (fun i => decide (j < i)) lot ((e_it (e_var rfl) (xs := lot.map natD) rfl).trans rfl) (by unfold most; omega) fun i hi => ⟨_, by simp [setT, wipeE]; rfl, e_cmp (e_var rfl) (e_var rfl) (by simp [cmpD, natD]), fun _ => e_int⟩
  have hc : ev (G k) (.cmp .eq (.bin .mod (.len (.lc (.int 1) (.nm 8) (.it (.var 4)) (.cmp .gt (.var 8) (.var 5)) [8])) (.int 2)) (.int 1)) [some T, some (.cell cs), some r, some (.cell cl), some (lotD lot), some (natD j), some (fr (v * x)), e7, e8] S = some ([.bl (decide ((lot.filter fun i => decide (j < i)).length % 2 = 1))], S) := by
    refine e_cmp (x := .int ((((lot.filter fun i => decide (j < i)).length % 2 : Nat)) : Int)) (e_bin hcnt e_int ?_) e_int ?_
    · simp only [binD, natD]
      rw [if_neg (by decide), Int.fmod_eq_emod_of_nonneg _ (by decide)]
      simp
    · show eqD S (.int _) (.int 1) = _
      rw [eqD_int]
      by_cases c : (lot.filter fun i => decide (j < i)).length % 2 = 1
      · rw [decide_eq_true c, decide_eq_true (by omega)]
      · rw [decide_eq_false c, decide_eq_false (by omega)]
  have h2 : exec (G k) (.ite (.cmp .eq (.bin .mod (.len (.lc (.int 1) (.nm 8) (.it (.var 4)) (.cmp .gt (.var 8) (.var 5)) [8])) (.int 2)) (.int 1))
    (.seq (.asg (.nm 6) (.tupE (.cons (.neg (.idx (.var 6) (.int 0))) (.cons (.idx (.var 6) (.int 1)) .nil)))) .done) .done) [some T, some (.cell cs), some r, some (.cell cl), some (lotD lot), some (natD j), some (fr (v * x)), e7, e8] S = some (.nx [some T, some (.cell cs), some r, some (.cell cl), some (lotD lot), some (natD j), some (fr (muchM v x lot j)), e7, e8] S) := by
    by_cases c : (lot.filter fun i => decide (j < i)).length % 2 = 1
    · rw [decide_eq_true c] at hc
      refine x_iteT hc (x_seq (x_asg (d := fr (muchM v x lot j)) (S1 := S) ?_) x_done)
      have : muchM v x lot j = -(v * x) := by unfold muchM; rw [if_pos c]
      rw [this, ← neg_fr]
      exact e_tupE (e_args2 (e_neg (e_idx (i := 0) (e_var rfl) e_int rfl (idx_nat _ 0 (by simp)))) (e_idx (i := 1) (e_var rfl) e_int rfl (idx_nat _ 1 (by simp))))
    · rw [decide_eq_false c] at hc
      have : muchM v x lot j = v * x := by unfold muchM; rw [if_neg c]
      rw [this]
      exact x_iteF hc x_done
  refine x_seq h2 ?_
  let ρ7 : Env := [some T, some (.cell cs), some r, some (.cell cl), some (lotD lot), some (natD j), some (fr (muchM v x lot j)), some (lotD (sortN (lot ++ [j]))), e8]
  have hs : ev (G k) (.sorted (.bin .add (.var 4) (.tupE (.cons (.var 5) .nil)))) [some T, some (.cell cs), some r, some (.cell cl), some (lotD lot), some (natD j), some (fr (muchM v x lot j)), e7, e8] S = some ([.lst ((sortN (lot ++ [j])).map natD)], S) := by
    refine e_sorted (x := lotD (lot ++ [j])) (l := lot ++ [j]) (e_bin (e_var rfl) (e_tupE (e_args1 (e_var rfl))) ?_) rfl (by simp; omega)
    show binD S .add (.tup (lot.map natD)) (.tup [natD j]) = _
    simp only [binD, List.length_map, List.length_cons, List.length_nil]
    rw [if_pos (by unfold most; omega)]
    simp [lotD]
  let g0 := (getM later (sortN (lot ++ [j]))).getD 0
  have hgd : ev (G k) (.dgetD (.var 3) (.var 7) (.tupE (.cons (.int 0) (.cons (.int 1) .nil)))) ρ7 S = some ([fr g0], S) := by
    have e0 : ev (G k) (.tupE (.cons (.int 0) (.cons (.int 1) .nil))) ρ7 S = some ([fr 0], S) := e_frac e_int e_int
    rw [ev, e_var (show ρ7[3]? = some (some (.cell cl)) from rfl)]
    simp only [Option.bind_some]
    rw [e_var (show ρ7[7]? = some (some (lotD (sortN (lot ++ [j])))) from rfl)]
    simp only [Option.bind_some, e0, keyOf, lotD, intsOf_lot, hcl, look_kv]
    cases h : getM later (sortN (lot ++ [j])) with
    | none => simp [g0, h]
    | some q => simp [g0, h]
  have hcall := e_call (g := G k) (e_args2 hgd (e_var (show ρ7[6]? = some (some (fr (muchM v x lot j))) from rfl))) (spec_lsum S hk okg okm)
  refine x_seq (ρ1 := ρ7) (S1 := S.set cl (C.dct (toKv (detStep F t sums lot later j)))) ?_ x_done
  rw [exec, hs]
  simp only [Option.bind_some, intsOf_lot]
  rw [if_pos (by simp)]
  have hρ : ([some T, some (.cell cs), some r, some (.cell cl), some (lotD lot), some (natD j), some (fr (muchM v x lot j)), e7, e8] : Env).set 7 (some (.tup ((sortN (lot ++ [j])).map natD))) = ρ7 := rfl
  rw [hρ]
  have hcall : ev (G k) (.call 95 (.cons (.dgetD (.var 3) (.var 7) (.tupE (.cons (.int 0) (.cons (.int 1) .nil)))) (.cons (.var 6) .nil))) ρ7 S = some ([fr (g0 + muchM v x lot j)], S) := hcall
  rw [hcall]
  simp only [Option.bind_some, sg]
  rw [e_var (show ρ7[3]? = some (some (.cell cl)) from rfl)]
  simp only [Option.bind_some, hcl]
  have hlen : (toKv later).length < most := by simpa [toKv] using hl
  rw [if_pos hlen, put_kv]
  have : putM later (sortN (lot ++ [j])) (g0 + muchM v x lot j) = detStep F t sums lot later j := by
    unfold detStep
    rw [hv]
    rfl
  rw [this]
end
end Ev

set_option Elab.async false
set_option linter.all false
set_option maxRecDepth 100000
set_option maxHeartbeats 4000000
set_option autoImplicit false
set_option exponentiation.threshold 10000
/-! spec: the law's determinant -/
namespace Ev
open PySem
section
variable {k : Nat}
theorem restL_lt {n : Nat} {l : List Nat} : ∀ j ∈ restL n l, j < n := fun j h => by
  unfold restL at h
  exact List.mem_range.mp (List.mem_filter.mp h).1
theorem restL_len {n : Nat} {l : List Nat} : (restL n l).length ≤ n := by
  have := List.length_filter_le (fun a => !decide (a ∈ l)) (List.range n)
  unfold restL
  simpa using this
theorem pow_lt_of {x a b : Nat} (h : x < 2 ^ a) (hb : a ≤ b) : x < 2 ^ b := Nat.lt_of_lt_of_le h (Nat.pow_le_pow_right (by decide) hb)
/-- one lot: all its js -/
theorem det_mid (hk : 3 ≤ k) {S : Store} {T r : D} {F : Nat → Nat → Rat} {sums later : Dc} {lot : List Nat} {t n cs cl a b d e L m u : Nat} {e5 e6 e7 e8 : Option D} (hn : n ≤ 20) (hT : seqOf S T = some ((mat n n F).map rowD)) (hTc : ∀ S', seqOf S' T = seqOf S T) (hr : r = .tup (vrow n (F t))) (ne : cs ≠ cl) (hcs : S[cs]? = some (C.lck (toKv sums))) (hcl : S[cl]? = some (C.dct (toKv later))) (hin : ∃ q, getM sums lot = some q)
    (d0 : 0 < d) (e0 : 0 < e) (hd : d < 2 ^ 4400) (hed : e * d < 2 ^ 4400) (he : e < 2 ^ 4400) (hF : ∀ j, j < n → Q a d (F t j)) (hs : DcOk b e n L m sums) (hl : DcOk (b + a + u) (e * d) n (L + 1) u later) (hlot : lot.length ≤ L) (hL : L < 60) (hu : u + n ≤ 900) (hb : b + a + (u + n) ≤ 4400) :
    ∃ e5' e6' e7', exec (G k) detMid [some T, some (.cell cs), some r, some (.cell cl), some (lotD lot), e5, e6, e7, e8] S = some (.nx [some T, some (.cell cs), some r, some (.cell cl), some (lotD lot), e5', e6', e7', e8] (S.set cl (C.dct (toKv ((restL n lot).foldl (detStep F t sums lot) later))))) ∧ DcOk (b + a + (u + n)) (e * d) n (L + 1) (u + n) ((restL n lot).foldl (detStep F t sums lot) later) := by
  have lcl : cl < S.length := (List.getElem?_eq_some_iff.mp hcl).1
  let Inv : Dc × Nat → Env → Store → Prop := fun p ρ S' => (∃ e5 e6 e7 : Option D, ρ = [some T, some (.cell cs), some r, some (.cell cl), some (lotD lot), e5, e6, e7, e8]) ∧ S' = S.set cl (C.dct (toKv p.1)) ∧ DcOk (b + a + p.2) (e * d) n (L + 1) p.2 p.1
  let step : Dc × Nat → Nat → Dc × Nat := fun p j => (detStep F t sums lot p.1 j, p.2 + 1)
  have hst : ∀ (l : List Nat) (p : Dc × Nat), l.foldl step p = (l.foldl (detStep F t sums lot) p.1, p.2 + l.length) := by
    intro l
    induction l with
    | nil => intro p; rfl
    | cons x l ih => intro p; rw [List.foldl_cons, ih]; simp [step]; omega
  have hself : S.set cl (C.dct (toKv later)) = S := by
    apply List.ext_getElem?
    intro i
    rw [List.getElem?_set]
    split
    · rename_i c
      subst c
      exact hcl.symm
    · rfl
  obtain ⟨ρ', S', hlp, ⟨e5', e6', e7', rfl⟩, rfl, hok⟩ := for_inv (body := exec (G k) detIn) (t := .nm 5) natD Inv step (restL n lot) (later, u) [some T, some (.cell cs), some r, some (.cell cl), some (lotD lot), e5, e6, e7, e8] S ⟨⟨e5, e6, e7, rfl⟩, hself.symm, hl⟩ fun l1 j l2 ρ S' el hi => by
    obtain ⟨⟨e5, e6, e7, rfl⟩, rfl, hok⟩ := hi
    rw [hst] at hok ⊢
    have hjm : j ∈ restL n lot := by rw [el]; simp
    have hj := restL_lt j hjm
    have hl1 : u + l1.length < u + n := by
      have := congrArg List.length el
      have h2 := restL_len (n := n) (l := lot)
      simp at this
      omega
    simp only at hok ⊢
    generalize hlt : l1.foldl (detStep F t sums lot) later = lt at *
    have so := step_ok (t := t) (lot := lot) (j := j) (sums := sums) (later := lt) (L := L) (m := m) (n := n) (u := u + l1.length) d0 e0 (hF j hj) hs hok hlot
    have ed : 0 < e * d := Nat.mul_pos e0 d0
    have okv : ok ((getM sums lot).getD 0) := by
      obtain ⟨q, hq⟩ := hin
      rw [hq]
      exact (hs.q _ (getM_mem hq)).ok e0 he (by omega)
    have okg : ok ((getM lt (sortN (lot ++ [j]))).getD 0) := by
      cases h : getM lt (sortN (lot ++ [j])) with
      | none => exact (Q.zero 1 1).ok (by decide) (Nat.one_lt_two_pow (by decide)) (by decide)
      | some q => exact (hok.q _ (getM_mem h)).ok ed hed (by omega)
    have okm : ok (muchM ((getM sums lot).getD 0) (F t j) lot j) := by
      obtain ⟨q, hq⟩ := hin
      rw [hq]
      exact ((hs.q _ (getM_mem hq)).much (hF j hj)).ok ed hed (by omega)
    obtain ⟨e6', e7', hx⟩ := det_in (k := k) hk (S := S.set cl (C.dct (toKv lt))) (T := T) (r := r) (F := F) (sums := sums) (later := lt) (lot := lot) (t := t) (j := j) (n := n) (cs := cs) (cl := cl) (e6 := e6) (e7 := e7) (e8 := e8) hj hn hr (by rw [List.getElem?_set_ne (fun z => ne z.symm)]; exact hcs) (by rw [List.getElem?_set_self lcl]) hin okv ((hF j hj).ok d0 hd (by omega)) okm okg (by have := hok.l; unfold most; omega) (by omega)
    rw [List.set_set] at hx
    refine ⟨[some T, some (.cell cs), some r, some (.cell cl), some (lotD lot), some (natD j), e6, e7, e8], by simp [setT], _, _, .inl hx, ⟨_, _, _, rfl⟩, rfl, ?_⟩
    exact so.1
  rw [hst] at hok
  simp only at hok
  refine ⟨e5', e6', e7', ?_, ⟨fun kv h => ?_, hok.k, ?_⟩⟩
  · have hjs : ev (G k) (.it (.lc (.var 8) (.nm 8) (.rng1 (.len (.var 0))) (.cmp .ntIn (.var 8) (.var 4)) [8])) [some T, some (.cell cs), some r, some (.cell cl), some (lotD lot), e5, e6, e7, e8] S = some (packG [] ((restL n lot).map natD), S) := by
      refine (e_it (x := .lst ((restL n lot).map natD)) ?_ rfl).trans rfl
      refine e_lcIf (gd := []) natD natD (fun a => !decide (a ∈ lot)) (List.range n) (e_rng1 (e_lenN (n := n) (e_var rfl) hT) (by omega)) (by simp [most]; omega) fun a ha => ?_
      refine ⟨_, by simp [setT, wipeE]; rfl, e_cmp (e_var rfl) (e_var rfl) ?_, fun _ => e_var rfl⟩
      simp [cmpD, in_lot]
    refine x_seq (x_for hjs hlp) ?_
    rw [hst]
    exact x_done
  · exact (hok.q kv h).mono (by have := restL_len (n := n) (l := lot); omega)
  · have := restL_len (n := n) (l := lot)
    have := hok.l
    omega
/-- one row -/
theorem det_out (hk : 3 ≤ k) {S : Store} {T r : D} {F : Nat → Nat → Rat} {sums : Dc} {t n cs a b d e L m : Nat} {e3 e4 e5 e6 e7 e8 : Option D} (hn : n ≤ 20) (hTc : ∀ S', seqOf S' T = some ((mat n n F).map rowD)) (hr : r = .tup (vrow n (F t))) (hcs : S[cs]? = some (C.dct (toKv sums)))
    (d0 : 0 < d) (e0 : 0 < e) (hd : d < 2 ^ 4400) (hed : e * d < 2 ^ 4400) (he : e < 2 ^ 4400) (hF : ∀ j, j < n → Q a d (F t j)) (hs : DcOk b e n L m sums) (hL : L < 60) (hm : m * n ≤ 800) (hb : b + a + m * n ≤ 4400) :
    ∃ e3' e4' e5' e6' e7', exec (G k) detOut [some T, some (.cell cs), some r, e3, e4, e5, e6, e7, e8] S = some (.nx [some T, some (.cell S.length), some r, e3', e4', e5', e6', e7', e8] (S ++ [C.dct (toKv (detRow n F sums t))])) ∧ DcOk (b + a + m * n) (e * d) n (L + 1) (m * n) (detRow n F sums t) := by
  have lcs : cs < S.length := (List.getElem?_eq_some_iff.mp hcs).1
  let cl := S.length
  let X : Store := S.set cs (C.lck (toKv sums))
  have xl : X.length = S.length := by simp [X]
  let Inv : Dc × Nat → Env → Store → Prop := fun p ρ S' => (∃ e4 e5 e6 e7 : Option D, ρ = [some T, some (.cell cs), some r, some (.cell cl), e4, e5, e6, e7, e8]) ∧ S' = X ++ [C.dct (toKv p.1)] ∧ DcOk (b + a + p.2 * n) (e * d) n (L + 1) (p.2 * n) p.1
  let step : Dc × Nat → (List Nat × Rat) → Dc × Nat := fun p kv => (detLot n F t sums p.1 kv, p.2 + 1)
  have hst : ∀ (l : Dc) (p : Dc × Nat), l.foldl step p = (l.foldl (detLot n F t sums) p.1, p.2 + l.length) := by
    intro l
    induction l with
    | nil => intro p; rfl
    | cons x l ih => intro p; rw [List.foldl_cons, ih]; simp [step]; omega
  have hml := hs.l
  obtain ⟨ρ', S', hlp, ⟨e4', e5', e6', e7', rfl⟩, rfl, hok⟩ := for_invG (body := exec (G k) detMid) (t := .nm 4) (gd := [cs]) (fun kv : List Nat × Rat => lotD kv.1) Inv step sums ([], 0) [some T, some (.cell cs), some r, some (.cell cl), e4, e5, e6, e7, e8] (X ++ [C.dct []]) ⟨⟨e4, e5, e6, e7, rfl⟩, rfl, ⟨by simp, by simp, by simp⟩⟩ fun l1 kv l2 ρ S' el hi => by
    obtain ⟨⟨e4, e5, e6, e7, rfl⟩, rfl, hok⟩ := hi
    rw [hst] at hok ⊢
    simp only [Nat.zero_add] at hok ⊢
    have hkv : kv ∈ sums := by rw [el]; simp
    have hl1 : l1.length + 1 ≤ m := by
      have := congrArg List.length el
      simp at this
      omega
    have hmn : l1.length * n + n ≤ m * n := by
      have := Nat.mul_le_mul_right n hl1
      rw [Nat.add_mul] at this
      omega
    generalize l1.foldl (detLot n F t sums) [] = lt at *
    have gcs : (X ++ [C.dct (toKv lt)])[cs]? = some (C.lck (toKv sums)) := by
      rw [List.getElem?_append_left (by omega)]
      simp [X, lcs]
    have gcl : (X ++ [C.dct (toKv lt)])[cl]? = some (C.dct (toKv lt)) := by
      have := get_last X (C.dct (toKv lt))
      rw [xl] at this
      exact this
    obtain ⟨e5', e6', e7', hx, hok2⟩ := det_mid (k := k) hk (S := X ++ [C.dct (toKv lt)]) (T := T) (r := r) (F := F) (sums := sums) (later := lt) (lot := kv.1) (t := t) (n := n) (cs := cs) (cl := cl) (e5 := e5) (e6 := e6) (e7 := e7) (e8 := e8) (u := l1.length * n) (m := m) hn (hTc _) (fun S' => by rw [hTc, hTc]) hr (by omega) gcs gcl (getM_some hkv) d0 e0 hd hed he hF hs hok (hs.k kv hkv) hL (by omega) (by omega)
    have hset : ∀ c : C, (X ++ [C.dct (toKv lt)]).set cl c = X ++ [c] := fun c => by
      have := set_last X (C.dct (toKv lt)) c
      rw [xl] at this
      exact this
    rw [hset] at hx
    refine ⟨[some T, some (.cell cs), some r, some (.cell cl), some (lotD kv.1), e5, e6, e7, e8], by simp [setT], _, _, hx, ?_, ⟨_, _, _, _, rfl⟩, rfl, ?_⟩
    · intro i hi
      simp only [List.mem_cons, List.not_mem_nil, or_false] at hi
      subst hi
      rw [gcs, List.getElem?_append_left (by omega)]
      simp [X, lcs]
    · have e1 : (l1.length + 1) * n = l1.length * n + n := by rw [Nat.add_mul, Nat.one_mul]
      show DcOk (b + a + (l1.length + 1) * n) (e * d) n (L + 1) ((l1.length + 1) * n) ((restL n kv.1).foldl (detStep F t sums kv.1) lt)
      rw [e1]
      exact hok2
  rw [hst] at hok hlp
  simp only [Nat.zero_add] at hok hlp
  have hfin : List.foldl (detLot n F t sums) [] sums = detRow n F sums t := rfl
  rw [hfin] at hok hlp
  have hle : sums.length * n ≤ m * n := Nat.mul_le_mul_right n hml
  refine ⟨some (.cell cl), e4', e5', e6', e7', ?_, ⟨fun kv h => (hok.q kv h).mono (by omega), hok.k, Nat.le_trans hok.l hle⟩⟩
  refine x_seq (x_asg (d := .cell cl) (S1 := S ++ [C.dct []]) (by rw [ev])) ?_
  have hfd : exec (G k) (.forD (.nm 4) 1 detMid) [some T, some (.cell cs), some r, some (.cell cl), e4, e5, e6, e7, e8] (S ++ [C.dct []]) = some (.nx [some T, some (.cell cs), some r, some (.cell cl), e4', e5', e6', e7', e8] (S ++ [C.dct (toKv (detRow n F sums t))])) := by
    have h1 : (S ++ [C.dct []])[cs]? = some (C.dct (toKv sums)) := by rw [List.getElem?_append_left lcs]; exact hcs
    have h2 : ((toKv sums).map fun kv => D.tup (kv.1.map .int)) = sums.map fun kv => lotD kv.1 := by
      unfold toKv
      rw [List.map_map]
      refine List.map_congr_left fun kv _ => ?_
      simp only [Function.comp, keyD, lotD]
    have h3 : (S ++ [C.dct []]).set cs (C.lck (toKv sums)) = X ++ [C.dct []] := List.set_append_left _ _ lcs
    have h4 : (X ++ [C.dct (toKv (detRow n F sums t))]).set cs (C.dct (toKv sums)) = S ++ [C.dct (toKv (detRow n F sums t))] := by
      rw [List.set_append_left _ _ (by omega)]
      congr 1
      show (S.set cs (C.lck (toKv sums))).set cs (C.dct (toKv sums)) = S
      rw [List.set_set]
      apply List.ext_getElem?
      intro i
      rw [List.getElem?_set]
      split
      · rename_i c
        subst c
        exact hcs.symm
      · rfl
    rw [exec]
    simp only [List.getElem?_cons_succ, List.getElem?_cons_zero, h1]
    rw [h2, h3, hlp]
    simp only [Option.bind_some, h4]
  refine x_seq hfd (x_seq (x_asg (e_var rfl)) ?_)
  exact x_done
theorem s_det (hk : 4 ≤ k) (S : Store) {n a : Nat} {F : Nat → Nat → Rat} {q : Rat} (hn : n ≤ 4) (z : Sz a n n F) (hb : 1 + 4 * (a + 256) ≤ 4400) (hq : getM (detAll n F) (List.range n) = some q) : callF defs cs97 k i__law_det [tabD (mat n n F)] S = some (fr q, S) := by
  obtain ⟨k, rfl, hj⟩ := lev hk
  obtain ⟨d, d0, d1, hF⟩ := z
  let T := tabD (mat n n F)
  have hTc : ∀ S', seqOf S' T = some ((mat n n F).map rowD) := fun S' => rfl
  let N : Option D := none
  have hp : ∀ t, t ≤ n → n ^ t ≤ 256 := fun t ht => by
    have h1 : n ^ t ≤ 4 ^ t := Nat.pow_le_pow_left hn t
    have h2 : 4 ^ t ≤ 4 ^ 4 := Nat.pow_le_pow_right (by decide) (by omega)
    omega
  let Inv : Dc × Nat → Env → Store → Prop := fun p ρ S' => p.2 ≤ n → (∃ (cs : Nat) (e2 e3 e4 e5 e6 e7 e8 : Option D), S.length ≤ cs ∧ ρ = [some T, some (.cell cs), e2, e3, e4, e5, e6, e7, e8] ∧ S'[cs]? = some (C.dct (toKv p.1))) ∧ S'.take S.length = S ∧ DcOk (1 + p.2 * (a + 256)) (d ^ p.2) n p.2 (n ^ p.2) p.1
  let step : Dc × Nat → Nat → Dc × Nat := fun p t => (detRow n F p.1 t, p.2 + 1)
  have hst : ∀ (l : List Nat) (p : Dc × Nat), l.foldl step p = (l.foldl (detRow n F) p.1, p.2 + l.length) := by
    intro l
    induction l with
    | nil => intro p; rfl
    | cons x l ih => intro p; rw [List.foldl_cons, ih]; simp [step]; omega
  obtain ⟨ρ', S', hlp, hinv⟩ := for_inv (body := exec (G k) detOut) (t := .nm 2) (fun t => rowD (vec n (F t))) Inv step (List.range n) ([([], 1)], 0) [some T, some (.cell S.length), N, N, N, N, N, N, N] (S ++ [C.dct [([], fr 1)]]) (fun _ => ⟨⟨S.length, N, N, N, N, N, N, N, Nat.le_refl _, rfl, get_last _ _⟩, take_app _ _, by
    refine ⟨fun kv h => ?_, fun kv h => ?_, by simp⟩
    · simp at h; rw [h]; simp; exact Q.int (a := 1) (i := 1) (by decide)
    · simp at h; rw [h]; simp⟩) fun l1 t l2 ρ S' e hi => by
    obtain ⟨rfl, ht⟩ := range_split e
    rw [hst] at hi ⊢
    simp only [List.length_range, Nat.zero_add] at hi ⊢
    obtain ⟨⟨cs, e2, e3, e4, e5, e6, e7, e8, hcs1, rfl, hcs⟩, hS, hok⟩ := hi (by omega)
    generalize (List.range t).foldl (detRow n F) [([], 1)] = sums at *
    have hok : DcOk (1 + t * (a + 256)) (d ^ t) n t (n ^ t) sums := hok
    have p1 : n ^ t * n = n ^ (t + 1) := (Nat.pow_succ ..).symm
    have p2 := hp (t + 1) (by omega)
    have dl : ∀ i, i ≤ 4 → d ^ i < 2 ^ 4400 := fun i hi => by
      have h1 : d ^ i ≤ (2 ^ a) ^ i := Nat.pow_le_pow_left (Nat.le_of_lt d1) i
      rw [← Nat.pow_mul] at h1
      refine Nat.lt_of_le_of_lt h1 (Nat.pow_lt_pow_right (by decide) ?_)
      have : a * i ≤ a * 4 := Nat.mul_le_mul_left _ hi
      omega
    have tb : t * (a + 256) ≤ 3 * (a + 256) := Nat.mul_le_mul_right _ (by omega)
    obtain ⟨e3', e4', e5', e6', e7', hx, hok2⟩ := det_out (k := k) hj (S := S') (T := T) (r := rowD (vec n (F t))) (F := F) (sums := sums) (t := t) (n := n) (cs := cs) (e3 := e3) (e4 := e4) (e5 := e5) (e6 := e6) (e7 := e7) (e8 := e8) (m := n ^ t) (by omega) hTc (by rw [rowD_vec]) hcs d0 (Nat.pow_pos (n := t) d0) (by have := dl 1 (by decide); simpa using this) (by rw [← Nat.pow_succ]; exact dl (t + 1) (by omega)) (dl t (by omega)) (fun j hj => hF t j ht hj) hok (by omega) (by omega) (by omega)
    refine ⟨[some T, some (.cell cs), some (rowD (vec n (F t))), e3, e4, e5, e6, e7, e8], by simp [setT], _, _, .inl hx, fun _ => ⟨⟨S'.length, _, _, _, _, _, _, _, take_le hS, rfl, get_last _ _⟩, take_push hS, ?_⟩⟩
    simp only [step] at *
    rw [p1, ← Nat.pow_succ] at hok2
    refine ⟨fun kv h => (hok2.q kv h).mono ?_, hok2.k, hok2.l⟩
    rw [Nat.add_mul t 1]
    omega
  rw [hst] at hinv
  simp only [List.length_range, Nat.zero_add] at hinv
  obtain ⟨⟨cs, e2, e3, e4, e5, e6, e7, e8, hcs1, rfl, hcs⟩, hS, hok⟩ := hinv (Nat.le_refl n)
  have hcs : S'[cs]? = some (C.dct (toKv (detAll n F))) := hcs
  refine call_ret t__law_det rfl rfl (S' := S') ?_ (by simp) hS
  show exec (G k) b__law_det [some T, N, N, N, N, N, N, N, N] S = _
  have h0 : ev (G k) (.ddisp (.tupE .nil) (.tupE (.cons (.int 1) (.cons (.int 1) .nil)))) [some T, N, N, N, N, N, N, N, N] S = some ([.cell S.length], S ++ [C.dct [([], fr 1)]]) := by
    have e1 : ev (G k) (.tupE .nil) [some T, N, N, N, N, N, N, N, N] S = some ([.tup []], S) := e_tupE e_nil
    have e2 : ev (G k) (.tupE (.cons (.int 1) (.cons (.int 1) .nil))) [some T, N, N, N, N, N, N, N, N] S = some ([fr 1], S) := e_frac e_int e_int
    rw [ev, e1]
    simp only [Option.bind_some, e2, keyOf, intsOf]
  refine x_seq (x_asg h0) (x_seq (x_for (h := fun t => rowD (vec n (F t))) (l := List.range n) ?_ hlp) (x_seqR (x_ret ?_)))
  · refine (e_it (e_var rfl) (xs := (List.range n).map fun t => rowD (vec n (F t))) ?_).trans rfl
    show some ((mat n n F).map rowD) = _
    simp [mat]
  · have e1 : ev (G k) (.tupleR (.rng1 (.len (.var 0)))) [some T, some (.cell cs), e2, e3, e4, e5, e6, e7, e8] S' = some ([lotD (List.range n)], S') := by
      rw [ev, e_rng1 (n := n) (e_lenN (n := n) (e_var rfl) (hTc S')) (by omega)]
      simp [packG, unG, gNat, lotD]
    rw [ev, e_var (show ([some T, some (.cell cs), e2, e3, e4, e5, e6, e7, e8] : Env)[1]? = some (some (.cell cs)) from rfl)]
    simp only [Option.bind_some, e1, keyOf, lotD, intsOf_lot, hcs, look_kv, hq, Option.map_some]
end
end Ev

set_option Elab.async false
set_option linter.all false
set_option maxRecDepth 100000
set_option maxHeartbeats 4000000
set_option autoImplicit false
set_option exponentiation.threshold 10000
/-! the law's determinant of at most 3 rows; the law's back -/
namespace Ev
open PySem
theorem det0 (F : Nat → Nat → Rat) : getM (detAll 0 F) (List.range 0) = some (dtN 0 F) := by
  simp [detAll, getM, dtN]
theorem det1 (F : Nat → Nat → Rat) : getM (detAll 1 F) (List.range 1) = some (dtN 1 F) := by
  have r1 : List.range 1 = [0] := rfl
  simp [detAll, detRow, detLot, detStep, restL, sortN, insN, putM, getM, muchM, dtN, dt1, r1, List.foldl]
  grind
theorem det2 (F : Nat → Nat → Rat) : getM (detAll 2 F) (List.range 2) = some (dtN 2 F) := by
  have r1 : List.range 2 = [0, 1] := rfl
  simp [detAll, detRow, detLot, detStep, restL, sortN, insN, putM, getM, muchM, dtN, dt2, r1, List.foldl]
  grind
theorem det3 (F : Nat → Nat → Rat) : getM (detAll 3 F) (List.range 3) = some (dtN 3 F) := by
  have r1 : List.range 3 = [0, 1, 2] := rfl
  simp [detAll, detRow, detLot, detStep, restL, sortN, insN, putM, getM, muchM, dtN, dt3, r1, List.foldl]
  grind
theorem detN {n : Nat} (h : n ≤ 3) (F : Nat → Nat → Rat) : getM (detAll n F) (List.range n) = some (dtN n F) := by
  have : n = 0 ∨ n = 1 ∨ n = 2 ∨ n = 3 := by omega
  rcases this with rfl | rfl | rfl | rfl
  · exact det0 F
  · exact det1 F
  · exact det2 F
  · exact det3 F
theorem filter_skip {n p : Nat} (h : p < n) : (List.range n).filter (fun k => !decide (k = p)) = (List.range (n - 1)).map fun a => if a < p then a else a + 1 := by
  obtain ⟨m, rfl⟩ : ∃ m, n = p + (1 + m) := ⟨n - p - 1, by omega⟩
  have eR : List.range (p + m) = List.range p ++ (List.range m).map fun a => p + a := List.range_add ..
  have eL : List.range (p + (1 + m)) = List.range p ++ ([p] ++ (List.range m).map fun a => p + (1 + a)) := by
    rw [List.range_add, List.range_add, List.map_append, List.map_map]
    rfl
  rw [show p + (1 + m) - 1 = p + m by omega, eR, eL, List.filter_append, List.filter_append, List.map_append]
  have e1 : ([p].filter fun k => !decide (k = p)) = [] := by simp
  rw [e1, List.nil_append]
  congr 1
  · rw [List.filter_eq_self.mpr fun a ha => by have := List.mem_range.mp ha; simp; omega]
    refine (List.map_id _).symm.trans (List.map_congr_left fun a ha => ?_)
    have := List.mem_range.mp ha
    rw [if_pos this]; rfl
  · rw [List.filter_eq_self.mpr fun a ha => by
      obtain ⟨b, _, rfl⟩ := List.mem_map.mp ha
      simp, List.map_map]
    refine List.map_congr_left fun a _ => ?_
    show p + (1 + a) = if p + a < p then p + a else p + a + 1
    rw [if_neg (by omega)]; omega
theorem vrow_skip {n i : Nat} (h : i < n) (f : Nat → Rat) : (vrow n f).take i ++ (vrow n f).drop (i + 1) = vrow (n - 1) fun b => f (if b < i then b else b + 1) := by
  apply List.ext_getElem
  · simp; omega
  · intro j h1 h2
    simp at h2
    rw [List.getElem_append]
    by_cases c : j < i
    · rw [dif_pos (by simp; omega)]
      simp [vrow, c]
    · rw [dif_neg (by simp; omega)]
      simp only [vrow, List.getElem_drop, List.getElem_map, List.getElem_range, List.length_take, List.length_map, List.length_range]
      rw [if_neg c]
      congr 2
      omega
theorem cut_to {α : Type} (xs : List α) (i : Nat) : cutL xs none (some (i : Int)) = xs.take i := by
  unfold cutL
  rw [HT.sIx_nat, HT.sIx_none]
  simp
section
variable {k : Nat}
theorem cutF_sz {a n : Nat} {F : Nat → Nat → Rat} (z : Sz a n n F) {i j : Nat} : Sz a (n - 1) (n - 1) (cutF F i j) := by
  obtain ⟨d, d0, d1, q⟩ := z
  exact ⟨d, d0, d1, fun p r hp hr => q _ _ (by split <;> omega) (by split <;> omega)⟩
theorem dtN_qq {a n : Nat} {F : Nat → Nat → Rat} (hn : n ≤ 3) (z : Sz a n n F) : QQ (3 * a + 3) (dtN n F) := by
  by_cases n0 : n = 0
  · subst n0
    exact q_one.mono (by omega)
  obtain ⟨d, d0, d1, q⟩ := z
  have h := dtN_q (by omega) hn q d0
  have e1 : n * a ≤ 3 * a := Nat.mul_le_mul_right _ hn
  refine ⟨d ^ n, Nat.pow_pos d0, ?_, h.mono (by omega)⟩
  have h1 : d ^ n ≤ (2 ^ a) ^ n := Nat.pow_le_pow_left (Nat.le_of_lt d1) n
  rw [← Nat.pow_mul] at h1
  refine Nat.lt_of_le_of_lt h1 (Nat.pow_lt_pow_right (by decide) ?_)
  rw [Nat.mul_comm]; omega
theorem s_lback (hk : 6 ≤ k) (S : Store) {n a : Nat} {F : Nat → Nat → Rat} (n0 : 0 < n) (hn : n ≤ 3) (z : Sz a n n F) (hb : 1 + 4 * (a + 256) ≤ 4400) (hd : dtN n F ≠ 0) : callF defs cs97 k i__law_back [tabD (mat n n F)] S = some (tabD (mat n n (lawBk n F)), S) := by
  obtain ⟨k, rfl, hj⟩ := lev hk
  let T := tabD (mat n n F)
  let W : Rat := (dtN n F)⁻¹
  have okW : ok W := ((dtN_qq hn z).inv hd).ok (by omega)
  have hdet : ∀ S, callF defs cs97 k i__law_det [T] S = some (fr (dtN n F), S) := fun S => s_det (k := k) (by omega) S (by omega) z hb (detN hn F)
  have hsub : ∀ S i j, callF defs cs97 k i__law_det [tabD (mat (n - 1) (n - 1) (cutF F i j))] S = some (fr (dtN (n - 1) (cutF F i j)), S) := fun S i j => s_det (k := k) (by omega) S (by omega) (cutF_sz z) hb (detN (by omega) _)
  have oksub : ∀ i j, ok (dtN (n - 1) (cutF F i j)) := fun i j => (dtN_qq (by omega) (cutF_sz z)).ok (by omega)
  let N : Option D := none
  let A := some T; let B := some (natD n); let Wd := some (fr W); let Cf := some (D.cell S.length)
  let rowL : Nat → List D := fun i => vrow n (lawBk n F i)
  -- the loop over lines
  let Inv : List D → Env → Store → Prop := fun acc ρ S' => (∃ T : Store, S' = S ++ C.lst acc :: T) ∧ ∃ e4 e5 e6 e7 e8 e9 e10 : Option D, ρ = [A, B, Wd, Cf, e4, e5, e6, e7, e8, e9, e10]
  let step : List D → Nat → List D := fun acc i => acc ++ [.tup (rowL i)]
  have hst : ∀ (l : List Nat) (acc : List D), l.foldl step acc = acc ++ l.map fun i => .tup (rowL i) := by
    intro l
    induction l with
    | nil => intro acc; simp
    | cons x l ih => intro acc; rw [List.foldl_cons, ih]; simp [step]
  obtain ⟨ρ', S', hlp, ⟨T', rfl⟩, e4, e5, e6, e7, e8, e9, e10, rfl⟩ := for_inv (body := exec (G k) (.seq (.asg (.nm 5) (.mk (.lstE .nil)))
    (.seq (.forL (.nm 6) (.rng1 (.var 1))
    (.seq (.asg (.nm 7) (.tuple (.lc (.bin .add (.sl (.var 10) .nil (.var 4)) (.sl (.var 10) (.bin .add (.var 4) (.int 1)) .nil)) (.tup (.tcons (.nm 9) (.tcons (.nm 10) .tnil))) (.enm (.var 0)) (.cmp .ne (.var 9) (.var 6)) [9, 10])))
    (.seq (.asg (.nm 8) (.call 96 (.cons (.call 101 (.cons (.var 7) .nil)) (.cons (.var 2) .nil))))
    (.seq (.app (.var 5) (.ite (.cmp .eq (.bin .mod (.bin .add (.var 4) (.var 6)) (.int 2)) (.int 0)) (.var 8) (.tupE (.cons (.neg (.idx (.var 8) (.int 0))) (.cons (.idx (.var 8) (.int 1)) .nil)))))
    .done))))
    (.seq (.app (.var 3) (.tuple (.var 5)))
    .done)))) (t := .nm 4) natD Inv step (List.range n) [] [A, B, Wd, Cf, N, N, N, N, N, N, N] (S ++ [C.lst []]) ⟨⟨[], rfl⟩, N, N, N, N, N, N, N, rfl⟩ fun l1 i l2 ρ S' e hi => by
    obtain ⟨⟨T', rfl⟩, e4, e5, e6, e7, e8, e9, e10, rfl⟩ := hi
    obtain ⟨rfl, hi⟩ := range_split e
    rw [hst]
    generalize hacc : ([] : List D) ++ (List.range i).map (fun i => D.tup (rowL i)) = acc
    have hal : acc.length = i := by rw [← hacc]; simp
    let X : Store := S ++ C.lst acc :: T'
    let Cr := some (D.cell X.length)
    let Inv2 : List D → Env → Store → Prop := fun row ρ S' => S' = X ++ [C.lst row] ∧ ∃ e6 e7 e8 e9 e10 : Option D, ρ = [A, B, Wd, Cf, some (natD i), Cr, e6, e7, e8, e9, e10]
    let step2 : List D → Nat → List D := fun row j => row ++ [fr (lawBk n F i j)]
    have hst2 : ∀ (l : List Nat) (row : List D), l.foldl step2 row = row ++ l.map fun j => fr (lawBk n F i j) := by
      intro l
      induction l with
      | nil => intro row; simp
      | cons x l ih => intro row; rw [List.foldl_cons, ih]; simp [step2]
    obtain ⟨ρ2, S2, hlp2, rfl, f6, f7, f8, f9, f10, rfl⟩ := for_inv (body := exec (G k) (.seq (.asg (.nm 7) (.tuple (.lc (.bin .add (.sl (.var 10) .nil (.var 4)) (.sl (.var 10) (.bin .add (.var 4) (.int 1)) .nil)) (.tup (.tcons (.nm 9) (.tcons (.nm 10) .tnil))) (.enm (.var 0)) (.cmp .ne (.var 9) (.var 6)) [9, 10])))
    (.seq (.asg (.nm 8) (.call 96 (.cons (.call 101 (.cons (.var 7) .nil)) (.cons (.var 2) .nil))))
    (.seq (.app (.var 5) (.ite (.cmp .eq (.bin .mod (.bin .add (.var 4) (.var 6)) (.int 2)) (.int 0)) (.var 8) (.tupE (.cons (.neg (.idx (.var 8) (.int 0))) (.cons (.idx (.var 8) (.int 1)) .nil)))))
    .done)))) (t := .nm 6) natD Inv2 step2 (List.range n) [] [A, B, Wd, Cf, some (natD i), Cr, e6, e7, e8, e9, e10] (X ++ [C.lst []]) ⟨rfl, e6, e7, e8, e9, e10, rfl⟩ fun l1 j l2 ρ S' e hi2 => by
      obtain ⟨rfl, e6, e7, e8, e9, e10, rfl⟩ := hi2
      obtain ⟨rfl, hj2⟩ := range_split e
      rw [hst2]
      generalize hrow : ([] : List D) ++ (List.range j).map (fun j => fr (lawBk n F i j)) = row
      have hrl : row.length = j := by rw [← hrow]; simp
      let Y : Store := X ++ [C.lst row]
      have hY : Y[X.length]? = some (C.lst row) := get_last _ _
      have hless : ev (G k) (.tuple (.lc (.bin .add (.sl (.var 10) .nil (.var 4)) (.sl (.var 10) (.bin .add (.var 4) (.int 1)) .nil)) (.tup (.tcons (.nm 9) (.tcons (.nm 10) .tnil))) (.enm (.var 0)) (.cmp .ne (.var 9) (.var 6)) [9, 10])) [A, B, Wd, Cf, some (natD i), Cr, some (natD j), e7, e8, e9, e10] Y = some ([tabD (mat (n - 1) (n - 1) (cutF F j i))], Y) := by
        have et : tabD (mat (n - 1) (n - 1) (cutF F j i)) = .tup (((List.range n).filter fun p => !decide (p = j)).map fun p => .tup (vrow (n - 1) fun b => F p (if b < i then b else b + 1))) := by
          rw [filter_skip hj2, tabD_mat, List.map_map]
          rfl
        rw [et]
        refine e_tuple (x := .lst (((List.range n).filter fun p => !decide (p = j)).map fun p => .tup (vrow (n - 1) fun b => F p (if b < i then b else b + 1)))) ?_ rfl
        refine e_lcIf (gd := []) (fun p : Nat => D.tup [natD p, .tup (vrow n (F p))]) (fun p => .tup (vrow (n - 1) fun b => F p (if b < i then b else b + 1))) (fun p => !decide (p = j)) (List.range n) ?_ (by simp [most]; omega) fun p hp => ?_
        · refine (e_enm (e_var rfl) (xs := (List.range n).map fun p => D.tup (vrow n (F p))) ?_).trans ?_
          · show seqOf Y (tabD (mat n n F)) = _
            rw [tabD_mat]; rfl
          · rw [enum_rng (α := D)]
            rfl
        · refine ⟨[A, B, Wd, Cf, some (natD i), Cr, some (natD j), e7, e8, some (natD p), some (.tup (vrow n (F p)))], by simp [setT, wipeE], e_cmp (e_var rfl) (e_var rfl) ?_, fun _ => ?_⟩
          · simp only [cmpD, natD, eqD_int, Option.map_some]
            by_cases c : p = j
            · simp [c]
            · rw [decide_eq_false c, decide_eq_false (by omega)]
          · have s1 : ev (G k) (.sl (.var 10) .nil (.var 4)) [A, B, Wd, Cf, some (natD i), Cr, some (natD j), e7, e8, some (natD p), some (.tup (vrow n (F p)))] Y = some ([.tup ((vrow n (F p)).take i)], Y) := by
              rw [ev, e_var (show ([A, B, Wd, Cf, some (natD i), Cr, some (natD j), e7, e8, some (natD p), some (.tup (vrow n (F p)))] : Env)[10]? = some (some (.tup (vrow n (F p)))) from rfl)]
              simp only [Option.bind_some, sg, e_nil, oInt, e_var (show ([A, B, Wd, Cf, some (natD i), Cr, some (natD j), e7, e8, some (natD p), some (.tup (vrow n (F p)))] : Env)[4]? = some (some (.int i)) from rfl), flat, cut_to]
            have s2 : ev (G k) (.sl (.var 10) (.bin .add (.var 4) (.int 1)) .nil) [A, B, Wd, Cf, some (natD i), Cr, some (natD j), e7, e8, some (natD p), some (.tup (vrow n (F p)))] Y = some ([.tup ((vrow n (F p)).drop (i + 1))], Y) := by
              have hb1 : ev (G k) (.bin .add (.var 4) (.int 1)) [A, B, Wd, Cf, some (natD i), Cr, some (natD j), e7, e8, some (natD p), some (.tup (vrow n (F p)))] Y = some ([.int ((i + 1 : Nat) : Int)], Y) := e_bin (e_var rfl) e_int (binAdd1 _ i)
              have hcf := cut_from (vrow n (F p)) (i + 1)
              rw [ev, e_var (show ([A, B, Wd, Cf, some (natD i), Cr, some (natD j), e7, e8, some (natD p), some (.tup (vrow n (F p)))] : Env)[10]? = some (some (.tup (vrow n (F p)))) from rfl)]
              simp only [Option.bind_some, sg, hb1, oInt, e_nil, flat, hcf]
            refine e_bin s1 s2 ?_
            simp only [binD]
            rw [if_pos (by simp [most]; omega), vrow_skip hi]
      let v := dtN (n - 1) (cutF F j i) * W
      have h8 : ev (G k) (.call 96 (.cons (.call 101 (.cons (.var 7) .nil)) (.cons (.var 2) .nil))) [A, B, Wd, Cf, some (natD i), Cr, some (natD j), some (tabD (mat (n - 1) (n - 1) (cutF F j i))), e8, e9, e10] Y = some ([fr v], Y) :=
        e_call (e_args2 (e_call (e_args1 (e_var rfl)) (hsub Y j i)) (e_var rfl)) (spec_lmul Y (by omega) (oksub j i) okW)
      have h5 : ev (G k) (.ite (.cmp .eq (.bin .mod (.bin .add (.var 4) (.var 6)) (.int 2)) (.int 0)) (.var 8) (.tupE (.cons (.neg (.idx (.var 8) (.int 0))) (.cons (.idx (.var 8) (.int 1)) .nil)))) [A, B, Wd, Cf, some (natD i), Cr, some (natD j), some (tabD (mat (n - 1) (n - 1) (cutF F j i))), some (fr v), e9, e10] Y = some ([fr (lawBk n F i j)], Y) := by
        have hc : ev (G k) (.cmp .eq (.bin .mod (.bin .add (.var 4) (.var 6)) (.int 2)) (.int 0)) [A, B, Wd, Cf, some (natD i), Cr, some (natD j), some (tabD (mat (n - 1) (n - 1) (cutF F j i))), some (fr v), e9, e10] Y = some ([.bl (decide ((i + j) % 2 = 0))], Y) := by
          refine e_cmp (x := .int (((i + j) % 2 : Nat) : Int)) (e_bin (x := natD (i + j)) (e_bin (e_var rfl) (e_var rfl) rfl) e_int ?_) e_int ?_
          · simp only [binD, natD]
            rw [if_neg (by decide), Int.fmod_eq_emod_of_nonneg _ (by decide)]
            simp
          · show eqD Y (.int _) (.int 0) = _
            rw [eqD_int]
            by_cases c : (i + j) % 2 = 0
            · rw [decide_eq_true c, decide_eq_true (by omega)]
            · rw [decide_eq_false c, decide_eq_false (by omega)]
        by_cases c : (i + j) % 2 = 0
        · rw [decide_eq_true c] at hc
          rw [show lawBk n F i j = v by unfold lawBk adjN; rw [if_pos c]]
          exact e_iteT hc (e_var rfl)
        · rw [decide_eq_false c] at hc
          rw [show lawBk n F i j = -v by unfold lawBk adjN; rw [if_neg c, Rat.neg_mul], ← neg_fr]
          exact e_iteF hc (e_tupE (e_args2 (e_neg (e_idx (i := 0) (e_var rfl) e_int rfl (idx_nat _ 0 (by simp)))) (e_idx (i := 1) (e_var rfl) e_int rfl (idx_nat _ 1 (by simp)))))
      refine ⟨[A, B, Wd, Cf, some (natD i), Cr, some (natD j), e7, e8, e9, e10], by simp [setT], _, _, .inl (x_seq (x_asg hless) (x_seq (x_asg h8) (x_seq (x_app (e_var rfl) h5 hY hY (by unfold most; omega)) (by rw [exec])))), ?_⟩
      exact ⟨by rw [set_last], _, _, _, _, _, rfl⟩
    rw [hst2, List.nil_append] at hlp2
    have hX : X[S.length]? = some (C.lst acc) := by
      have := gA S (C.lst acc :: T') 0
      rw [Nat.add_zero] at this
      exact this
    have hX2 : (X ++ [C.lst (rowL i)])[S.length]? = some (C.lst acc) := by
      rw [List.getElem?_append_left (by simp [X])]; exact hX
    have hset : (X ++ [C.lst (rowL i)]).set S.length (C.lst (acc ++ [.tup (rowL i)])) = S ++ C.lst (acc ++ [.tup (rowL i)]) :: (T' ++ [C.lst (rowL i)]) := by
      have : X ++ [C.lst (rowL i)] = S ++ C.lst acc :: (T' ++ [C.lst (rowL i)]) := by simp [X]
      rw [this]
      have := sA S (C.lst acc :: (T' ++ [C.lst (rowL i)])) 0 (C.lst (acc ++ [.tup (rowL i)]))
      rw [Nat.add_zero] at this
      exact this
    refine ⟨[A, B, Wd, Cf, some (natD i), e5, e6, e7, e8, e9, e10], by simp [setT], _, _, .inl (x_seq (x_asg (e_mk (e_lstE e_nil))) (x_seq (x_for (e_rng1 (n := n) (e_var rfl) (by omega)) hlp2) (x_seq (x_app (e_var rfl) (e_tuple (e_var rfl) (seq_cell (get_last X _))) hX2 hX2 (by unfold most; omega)) (by rw [exec])))), ?_⟩
    exact ⟨⟨_, hset⟩, _, _, _, _, _, _, _, rfl⟩
  rw [hst, List.nil_append] at hlp
  refine call_ret t__law_back rfl rfl (S' := S ++ C.lst ((List.range n).map fun i => .tup (rowL i)) :: T') ?_ (by simp) (take_app _ _)
  show exec (G k) b__law_back [A, N, N, N, N, N, N, N, N, N, N] S = _
  have e1 : exec (G k) (.asgP (.tcons (.nm 1) (.tcons (.nm 2) .tnil)) (.cons (.len (.var 0)) (.cons (.call 97 (.cons (.call 101 (.cons (.var 0) .nil)) .nil)) .nil))) [A, N, N, N, N, N, N, N, N, N, N] S = some (.nx [A, B, Wd, N, N, N, N, N, N, N, N] S) :=
    x_par2 (i := 1) (j := 2) (ρ := [A, N, N, N, N, N, N, N, N, N, N]) (e_args2 (e_lenN (n := n) (e_var rfl) (xs := (mat n n F).map rowD) rfl) (e_call (e_args1 (e_call (e_args1 (e_var rfl)) (hdet S))) (spec_lover S (by omega) hd)))
  refine x_seq e1 (x_seq (x_asg (e_mk (e_lstE e_nil))) (x_seq (x_for (e_rng1 (n := n) (e_var rfl) (by omega)) hlp) (x_seqR (x_ret ?_))))
  refine Eq.trans ?_ (congrArg (fun d => some ([d], S ++ C.lst ((List.range n).map fun i => .tup (rowL i)) :: T')) (tabD_mat n n _).symm)
  have hg : (S ++ C.lst ((List.range n).map fun i => D.tup (rowL i)) :: T')[S.length]? = some (C.lst ((List.range n).map fun i => D.tup (rowL i))) := by
    have := gA S (C.lst ((List.range n).map fun i => D.tup (rowL i)) :: T') 0
    rw [Nat.add_zero] at this
    exact this
  exact e_tuple (e_var rfl) (seq_cell hg)
end
end Ev

set_option Elab.async false
set_option linter.all false
set_option maxRecDepth 100000
set_option maxHeartbeats 4000000
set_option autoImplicit false
set_option exponentiation.threshold 10000
/-! specs: the law's small helpers -/
namespace Ev
open PySem
section
variable {k : Nat} (S : Store)
theorem s_added (hk : 4 ≤ k) {a b n : Nat} {F H : Nat → Nat → Rat} (hn : n ≤ 20) (zF : Sz a n n F) (zH : Sz b n n H) (ha : a ≤ 4400) (hb : b ≤ 4400) : callF defs cs97 k i__law_added [tabD (mat n n F), tabD (mat n n H)] S = some (tabD (mat n n (addF F H)), S) := by
  obtain ⟨k, rfl, hj⟩ := lev hk
  refine call_ret t__law_added rfl rfl (S' := S) ?_ (by simp) (take_self S)
  show exec (G k) b__law_added [some (tabD (mat n n F)), some (tabD (mat n n H)), none, none, none, none] S = _
  refine x_seqR (x_ret (Eq.trans ?_ (congrArg (fun d => some ([d], S)) (tabD_mat n n _).symm)))
  refine e_tuple (x := .lst ((List.range n).map fun i => .tup (vrow n fun j => F i j + H i j))) ?_ rfl
  refine e_lc (gd := []) (fun i : Nat => D.tup [.tup (vrow n (F i)), .tup (vrow n (H i))]) (fun i : Nat => D.tup (vrow n fun j => F i j + H i j)) (List.range n) ?_ (by simp [most]; omega) fun i hi => ?_
  · refine (e_zip (e_var rfl) (e_var rfl) (xs := (List.range n).map fun i => .tup (vrow n (F i))) (ys := (List.range n).map fun i => .tup (vrow n (H i))) (by rw [tabD_mat]; rfl) (by rw [tabD_mat]; rfl)).trans ?_
    rw [zip_rng]; rfl
  have hi := List.mem_range.mp hi
  refine ⟨_, by simp [setT, wipeE]; rfl, ?_⟩
  refine e_tuple (x := .lst (vrow n fun j => F i j + H i j)) ?_ rfl
  refine e_lc (gd := []) (fun j : Nat => D.tup [fr (F i j), fr (H i j)]) (fun j : Nat => fr (F i j + H i j)) (List.range n) ?_ (by simp [most]; omega) fun j hj2 => ?_
  · refine (e_zip (e_var rfl) (e_var rfl) (xs := vrow n (F i)) (ys := vrow n (H i)) rfl rfl).trans ?_
    unfold vrow
    rw [zip_rng]; rfl
  have hj2 := List.mem_range.mp hj2
  exact ⟨_, by simp [setT, wipeE]; rfl, e_call (e_args2 (e_var rfl) (e_var rfl)) (spec_lsum S (by omega) (zF.ok ha hi hj2) (zH.ok hb hi hj2))⟩
theorem s_own_sum (hk : 6 ≤ k) {a b n : Nat} {F : Nat → Nat → Rat} {v : Nat → Rat} (hn : n ≤ 20) (zF : Sz a n n F) (hv : Sv b n v) (h : b + (a + b + n) + n ≤ 4400) : callF defs cs97 k i__law_own_sum [tabD (mat n n F), rowD (vec n v)] S = some (fr (quad n F v), S) := by
  obtain ⟨k, rfl, hj⟩ := lev hk
  refine call_ret t__law_own_sum rfl rfl (S' := S) ?_ (by simp) (take_self S)
  show exec (G k) b__law_own_sum [some (tabD (mat n n F)), some (rowD (vec n v)), none] S = _
  have hl : ev (G k) (.tuple (.lc (.call 100 (.cons (.var 2) (.cons (.var 1) .nil))) (.nm 2) (.it (.var 0)) (.bl true) [2])) [some (tabD (mat n n F)), some (rowD (vec n v)), none] S = some ([.tup (vrow n (app n F v))], S) := by
    refine e_tuple (x := .lst (vrow n (app n F v))) ?_ rfl
    refine e_lc (gd := []) (fun i : Nat => rowD (vec n (F i))) (fun i : Nat => fr (app n F v i)) (List.range n) ?_ (by simp [most]; omega) fun i hi => ?_
    · refine (e_it (e_var rfl) (xs := (List.range n).map fun i => rowD (vec n (F i))) ?_).trans rfl
      simp [tabD, mat, seqOf]
    · have hi := List.mem_range.mp hi
      refine ⟨_, by simp [setT, wipeE]; rfl, e_call (e_args2 (e_var rfl) (e_var rfl)) ?_⟩
      have zr : Sv a n (F i) := by
        obtain ⟨d, d0, d1, q⟩ := zF
        exact ⟨d, d0, d1, fun _ j _ hj => q i j hi hj⟩
      have := s_lboth S (k := k) hj zr hv (by omega) (by omega) rw_tup rw_tup
      rw [← rowD_vec, ← rowD_vec] at this
      exact this
  refine x_seqR (x_ret (e_call (e_args2 (e_var rfl) hl) ?_))
  have := s_lboth S (k := k) hj hv (hv.app zF) h (by omega) rw_tup rw_tup
  rw [← rowD_vec] at this
  exact this
theorem s_lists_int (hk : 1 ≤ k) (i : Int) : callF defs cs97 k i__law_lists [.int i] S = some (.int i, S) := by
  obtain ⟨k, rfl, hj⟩ := lev hk
  refine call_ret t__law_lists rfl rfl (S' := S) ?_ (by simp [pureD]) (take_self S)
  show exec (G k) b__law_lists [some (.int i), none] S = _
  refine x_seqR (x_ret ?_)
  simp [ev, sg, tyD, isTy]
theorem s_lists_seq {α : Type} (hk : 1 ≤ k) (l : List α) (h f : α → D) (hs : ∀ a ∈ l, callF defs cs97 (k - 1) i__law_lists [h a] S = some (f a, S)) (hp : ∀ a ∈ l, pureD (f a) = true) (hl : l.length ≤ most) {w : List D → D} (hw : Rw w) :
    callF defs cs97 k i__law_lists [w (l.map h)] S = some (.lst (l.map f), S) := by
  obtain ⟨k, rfl, hj⟩ := lev hk
  refine call_ret t__law_lists rfl rfl (S' := S) ?_ (by simp only [pureD]; exact pures_map hp) (take_self S)
  show exec (G k) b__law_lists [some (w (l.map h)), none] S = _
  obtain ⟨t, h1, h2⟩ := ty_rw S hw (l.map h)
  have hit : ev (G k) (.it (.var 0)) [some (w (l.map h)), none] S = some (packG [] (l.map h), S) := by
    simp [ev, sg, seq_rw S hw, grd_rw hw]
  have hlc := e_lc (elt := .call i__law_lists (.cons (.var 1) .nil)) (tg := .nm 1) (own := [1]) h f l hit hl fun a ha => by
    refine ⟨[some (w (l.map h)), some (h a)], by simp [setT, wipeE], ?_⟩
    exact e_call (xs := [h a]) (S1 := S) (by simp [ev]) (hs a ha)
  refine x_seqR (x_ret (e_iteT (S1 := S) ?_ hlc))
  simp only [ev, sg, List.getElem?_cons_zero, Option.bind_some, h1, h2]
theorem s_lists (hk : 4 ≤ k) {n : Nat} {F : Nat → Nat → Rat} (hn : n ≤ 20) : callF defs cs97 k i__law_lists [tabD (mat n n F)] S = some (formD .lst .lst .lst (mat n n F), S) := by
  have h1 : ∀ q : Rat, ∀ k, 2 ≤ k → callF defs cs97 k i__law_lists [fr q] S = some (.lst [.int q.num, .int q.den], S) := fun q k hk => s_lists_seq S (k := k) (by omega) [q.num, (q.den : Int)] D.int D.int (fun a _ => s_lists_int S (by omega) a) (fun _ _ => rfl) (by simp [most]) rw_tup
  have h2 : ∀ l : List Rat, l.length ≤ most → ∀ k, 3 ≤ k → callF defs cs97 k i__law_lists [rowD l] S = some (.lst (l.map fun q => .lst [.int q.num, .int q.den]), S) := fun l hl k hk => s_lists_seq S (k := k) (by omega) l fr (fun q => .lst [.int q.num, .int q.den]) (fun a _ => h1 a _ (by omega)) (fun _ _ => rfl) hl rw_tup
  exact s_lists_seq S (k := k) (by omega) (mat n n F) rowD (fun l => .lst (l.map fun q => .lst [.int q.num, .int q.den])) (fun l hl => h2 l (mat_rl (by omega) l hl) _ (by omega)) (fun _ _ => by simp only [pureD]; exact pures_map fun _ _ => rfl) (mat_ml (by omega)) rw_tup
/-! ### inside -/
theorem intsOf_map {α : Type} (f : α → Int) : ∀ l : List α, intsOf (l.map fun a => D.int (f a)) = some (l.map f)
  | [] => rfl
  | a :: l => by simp [intsOf, intsOf_map f l]
theorem s_inside (hk : 1 ≤ k) (l : List Rat) (hl : l.length ≤ 900) : ∃ b, callF defs cs97 k i__law_inside [.lst (l.map fr)] S = some (.bl b, S) := by
  obtain ⟨k, rfl, hj⟩ := lev hk
  have m1 : ∃ v, ev (G k) (.maxE (.bin .add (.lstE (.cons (.int 0) .nil)) (.lc (.absE (.idx (.var 1) (.int 0))) (.nm 1) (.it (.var 0)) (.bl true) [1]))) [some (.lst (l.map fr)), none] S = some ([.int v], S) := by
    have h := e_lc (g := G k) (ρ := [some (.lst (l.map fr)), none]) (S := S) (S1 := S) (elt := .absE (.idx (.var 1) (.int 0))) (it := .it (.var 0)) (tg := .nm 1) (own := [1]) (gd := []) fr (fun q : Rat => D.int (if q.num < 0 then -q.num else q.num)) l ((e_it (e_var rfl) rfl).trans rfl) (by unfold most; omega) fun q hq => ⟨[some (.lst (l.map fr)), some (fr q)], by simp [setT, wipeE], by
      rw [ev, e_idx (i := 0) (e_var rfl) e_int rfl (idx_nat _ 0 (by simp))]
      rfl⟩
    have hb : ev (G k) (.bin .add (.lstE (.cons (.int 0) .nil)) (.lc (.absE (.idx (.var 1) (.int 0))) (.nm 1) (.it (.var 0)) (.bl true) [1])) [some (.lst (l.map fr)), none] S = some ([.lst (.int 0 :: l.map fun q => .int (if q.num < 0 then -q.num else q.num))], S) := by
      refine e_bin (e_lstE (e_cons e_int e_nil)) h ?_
      simp only [binD, List.length_cons, List.length_nil, List.length_map]
      rw [if_pos (by unfold most; omega)]; rfl
    refine ⟨maxI 0 (l.map fun q => if q.num < 0 then -q.num else q.num), ?_⟩
    rw [ev, hb]
    simp only [Option.bind_some, intsOf, intsOf_map, Option.map_some]
  have m2 : ∃ v, ev (G k) (.maxE (.bin .add (.lstE (.cons (.int 1) .nil)) (.lc (.idx (.var 1) (.int 1)) (.nm 1) (.it (.var 0)) (.bl true) [1]))) [some (.lst (l.map fr)), none] S = some ([.int v], S) := by
    have h := e_lc (g := G k) (ρ := [some (.lst (l.map fr)), none]) (S := S) (S1 := S) (elt := .idx (.var 1) (.int 1)) (it := .it (.var 0)) (tg := .nm 1) (own := [1]) (gd := []) fr (fun q : Rat => D.int (q.den : Int)) l ((e_it (e_var rfl) rfl).trans rfl) (by unfold most; omega) fun q hq => ⟨[some (.lst (l.map fr)), some (fr q)], by simp [setT, wipeE], by
      exact e_idx (i := 1) (xs := [.int q.num, .int q.den]) (e_var rfl) e_int rfl (idx_nat _ 1 (by simp))⟩
    have hb : ev (G k) (.bin .add (.lstE (.cons (.int 1) .nil)) (.lc (.idx (.var 1) (.int 1)) (.nm 1) (.it (.var 0)) (.bl true) [1])) [some (.lst (l.map fr)), none] S = some ([.lst (.int 1 :: l.map fun q => .int (q.den : Int))], S) := by
      refine e_bin (e_lstE (e_cons e_int e_nil)) h ?_
      simp only [binD, List.length_cons, List.length_nil, List.length_map]
      rw [if_pos (by unfold most; omega)]; rfl
    refine ⟨maxI 1 (l.map fun q => (q.den : Int)), ?_⟩
    rw [ev, hb]
    simp only [Option.bind_some, intsOf, intsOf_map, Option.map_some]
  obtain ⟨v1, m1⟩ := m1
  obtain ⟨v2, m2⟩ := m2
  have c1 : ev (G k) (.cmp .le (.maxE (.bin .add (.lstE (.cons (.int 0) .nil)) (.lc (.absE (.idx (.var 1) (.int 0))) (.nm 1) (.it (.var 0)) (.bl true) [1]))) (.int 1000000)) [some (.lst (l.map fr)), none] S = some ([.bl (decide (v1 ≤ 1000000))], S) := e_cmp m1 e_int rfl
  have c2 : ev (G k) (.cmp .le (.maxE (.bin .add (.lstE (.cons (.int 1) .nil)) (.lc (.idx (.var 1) (.int 1)) (.nm 1) (.it (.var 0)) (.bl true) [1]))) (.int 100000)) [some (.lst (l.map fr)), none] S = some ([.bl (decide (v2 ≤ 100000))], S) := e_cmp m2 e_int rfl
  by_cases c : v1 ≤ 1000000
  · rw [decide_eq_true c] at c1
    refine ⟨decide (v2 ≤ 100000), call_ret t__law_inside rfl rfl (S' := S) ?_ rfl (take_self S)⟩
    exact x_seqR (x_ret (e_andT c1 c2))
  · rw [decide_eq_false c] at c1
    refine ⟨false, call_ret t__law_inside rfl rfl (S' := S) ?_ rfl (take_self S)⟩
    exact x_seqR (x_ret (e_andF c1))
/-! ### the same -/
def smD : Nat → D → Bool
  | _, .int _ => true
  | _, .bl _ => true
  | n + 1, .tup ds => decide (ds.length ≤ 900) && ds.all fun d => smD n d
  | n + 1, .lst ds => decide (ds.length ≤ 900) && ds.all fun d => smD n d
  | _, _ => false
theorem eqD_bl (a b : Bool) : eqD S (.bl a) (.bl b) = some (decide (a = b)) := by cases a <;> cases b <;> rfl
theorem zip_self : ∀ ds : List D, zipD ds ds = ds.map fun d => D.tup [d, d]
  | [] => rfl
  | d :: ds => by simp [zipD, zip_self ds]
theorem e_isi {g : GC} {ts : List Ty} {a : Ex} {ρ : Env} {S S1 : Store} {x : D} {t : Option Ty} {v : Bool} (h : ev g a ρ S = some ([x], S1)) (h2 : tyD S1 x = some t) (hv : (ts.any fun u => isTy t u) = v) : ev g (.isi ts a) ρ S = some ([.bl v], S1) := by
  rw [ev, h]; simp [sg, h2, hv]
theorem s_same_seq {n : Nat} (ih : ∀ d, smD n d = true → callF defs cs97 k i__law_same [d, d] S = some (.bl true, S)) {ds : List D} (h : (decide (ds.length ≤ 900) && ds.all fun d => smD n d) = true) {w : List D → D} (hw : Rw w) : callF defs cs97 (k + 1) i__law_same [w ds, w ds] S = some (.bl true, S) := by
  simp only [Bool.and_eq_true, List.all_eq_true] at h
  obtain ⟨h1, h2⟩ := h
  have h1 := of_decide_eq_true h1
  obtain ⟨t, ht, hq⟩ := ty_rw S hw ds
  refine call_ret t__law_same rfl rfl (S' := S) ?_ rfl (take_self S)
  show exec (G k) b__law_same [some (w ds), some (w ds), none, none] S = _
  refine x_seqR (x_iteT (S1 := S) ?_ (x_seq (x_iteF (S1 := S) (e_orF (S1 := S) ?_ ?_) x_done) (x_seqR (x_ret (e_andT (S1 := S) ?_ ?_)))))
  · exact e_isi (e_var rfl) ht hq
  · refine e_cmp (e_isi (e_var rfl) ht rfl) (e_isi (e_var rfl) ht rfl) ?_
    simp [cmpD, eqD_bl]
  · refine e_cmp (e_isi (e_var rfl) ht rfl) (e_isi (e_var rfl) ht rfl) ?_
    simp [cmpD, eqD_bl]
  · refine e_cmp (e_lenN (n := ds.length) (e_var rfl) (seq_rw S hw ds) rfl) (e_lenN (n := ds.length) (e_var rfl) (seq_rw S hw ds) rfl) ?_
    simp [cmpD, natD, eqD_int]
  · rw [e_all (α := D) (gd := []) (fun d => D.tup [d, d]) (fun _ => true) ds ?_ (by unfold most; omega) fun d hd => ⟨_, by simp [setT, wipeE]; rfl, e_call (e_args2 (e_var rfl) (e_var rfl)) (ih d (h2 d hd))⟩]
    · simp
    · refine (e_zip (e_var rfl) (e_var rfl) (seq_rw S hw ds) (seq_rw S hw ds)).trans ?_
      rw [zip_self, grd_rw hw]
      rfl
theorem s_same : ∀ (n : Nat) {k : Nat}, n + 1 ≤ k → ∀ d, smD n d = true → callF defs cs97 k i__law_same [d, d] S = some (.bl true, S) := by
  have hint : ∀ {k : Nat}, 1 ≤ k → ∀ i : Int, callF defs cs97 k i__law_same [.int i, .int i] S = some (.bl true, S) := fun {k} hk i => by
    obtain ⟨k, rfl, hj⟩ := lev hk
    refine call_ret t__law_same rfl rfl (S' := S) ?_ rfl (take_self S)
    show exec (G k) b__law_same [some (.int i), some (.int i), none, none] S = _
    refine x_seq (x_iteF (S1 := S) (e_isi (e_var rfl) rfl rfl) x_done) (x_seq (x_iteF (S1 := S) (e_orF (S1 := S) (e_cmp (e_var rfl) e_non rfl) (e_isi (e_var rfl) rfl rfl)) x_done) (x_seqR (x_ret (e_andT (S1 := S) (e_isi (e_var rfl) rfl rfl) (e_andT (S1 := S) (e_nt (b := false) (e_isi (e_var rfl) rfl rfl)) (e_cmp (e_var rfl) (e_var rfl) ?_))))))
    simp [cmpD, eqD_int]
  have hbl : ∀ {k : Nat}, 1 ≤ k → ∀ b : Bool, callF defs cs97 k i__law_same [.bl b, .bl b] S = some (.bl true, S) := fun {k} hk b => by
    obtain ⟨k, rfl, hj⟩ := lev hk
    refine call_ret t__law_same rfl rfl (S' := S) ?_ rfl (take_self S)
    show exec (G k) b__law_same [some (.bl b), some (.bl b), none, none] S = _
    refine x_seq (x_iteF (S1 := S) (e_isi (e_var rfl) rfl rfl) x_done) (x_seqR (x_iteT (S1 := S) (e_orF (S1 := S) (e_cmp (e_var rfl) e_non rfl) (e_isi (e_var rfl) rfl rfl)) (x_seqR (x_ret (e_andT (S1 := S) (e_cmp (e_var rfl) (e_var rfl) ?_) (e_andT (S1 := S) (e_cmp (e_isi (e_var rfl) rfl rfl) (e_isi (e_var rfl) rfl rfl) ?_) (e_cmp (e_cmp (e_var rfl) e_non rfl) (e_cmp (e_var rfl) e_non rfl) ?_)))))))
    · simp [cmpD, eqD_bl]
    · simp [cmpD, eqD_bl]
    · simp [cmpD, eqD_bl]
  intro n
  induction n with
  | zero =>
    intro k hk d h
    cases d with
    | int i => exact hint (by omega) i
    | bl b => exact hbl (by omega) b
    | _ => simp [smD] at h
  | succ n ih =>
    intro k hk d h
    cases d with
    | int i => exact hint (by omega) i
    | bl b => exact hbl (by omega) b
    | tup ds =>
      obtain ⟨k, rfl, hj⟩ := lev hk
      exact s_same_seq S (n := n) (fun d hd => ih (by omega) d hd) (by simpa only [smD] using h) rw_tup
    | lst ds =>
      obtain ⟨k, rfl, hj⟩ := lev hk
      exact s_same_seq S (n := n) (fun d hd => ih (by omega) d hd) (by simpa only [smD] using h) rw_lst
    | _ => simp [smD] at h
theorem sm_fr (n : Nat) (q : Rat) : smD (n + 1) (fr q) = true := by cases n <;> simp [smD, fr]
theorem sm_tab (n : Nat) (m : Nat) (F : Nat → Nat → Rat) (hm : m ≤ 20) : smD (n + 3) (tabD (mat m m F)) = true := by
  simp only [tabD, smD, Bool.and_eq_true, List.all_eq_true, List.length_map, mat_len]
  refine ⟨decide_eq_true (by omega), fun d hd => ?_⟩
  obtain ⟨r, hr, rfl⟩ := List.mem_map.mp hd
  obtain ⟨i, _, rfl⟩ := mem_mat hr
  simp only [rowD, smD, Bool.and_eq_true, List.all_eq_true, List.length_map, vec_len]
  refine ⟨decide_eq_true (by omega), fun d hd => ?_⟩
  obtain ⟨q, _, rfl⟩ := List.mem_map.mp hd
  exact sm_fr n q
end
end Ev

set_option Elab.async false
set_option linter.all false
set_option maxRecDepth 100000
set_option maxHeartbeats 4000000
set_option autoImplicit false
set_option exponentiation.threshold 10000
/-! two tables beside each other: all that the law asks (no program) -/
namespace Ev
def mulF (n : Nat) (F G : Nat → Nat → Rat) : Nat → Nat → Rat := fun i j => sum n fun k => F i k * G k j
def lessF (F G : Nat → Nat → Rat) : Nat → Nat → Rat := fun i j => F i j + (-1) * G i j
section
variable {n : Nat} {A B N M W F G : Nat → Nat → Rat} {x y : Nat → Rat}
theorem quad_congr (h : ∀ i, i < n → x i = y i) : quad n F x = quad n F y := bil_congr h h
theorem app_mulF {i : Nat} : app n (mulF n F G) x i = app n F (app n G x) i := by
  unfold app mulF
  have e1 : (fun j => F i j * sum n fun k => G j k * x k) = fun j => sum n fun k => F i j * (G j k * x k) := funext fun j => (sum_mul ..).symm
  rw [e1, sum_comm]
  refine sum_congr fun k _ => ?_
  rw [← sum_mulr]
  exact sum_congr fun j _ => by grind
theorem entry {i j : Nat} (hj : j < n) : F i j = app n F (uni j) i := (app_uni hj).symm
theorem ext_app (h : ∀ x i, i < n → app n F x i = app n G x i) : ∀ i j, i < n → j < n → F i j = G i j := fun i j hi hj => by rw [entry (F := F) hj, entry (F := G) hj]; exact h _ i hi
theorem dt_mul (n0 : 0 < n) (hn : n ≤ 3) : dtN n (mulF n F G) = dtN n F * dtN n G := by
  have : n = 1 ∨ n = 2 ∨ n = 3 := by omega
  rcases this with rfl | rfl | rfl
  · simp only [dtN, dt1, mulF, sum]; grind
  · simp only [dtN, dt2, mulF, sum]; grind
  · simp only [dtN, dt3, mulF, sum]; grind
theorem dt_inv (n0 : 0 < n) (hn : n ≤ 3) (h : IsInv n F G) : dtN n F * dtN n G = 1 := by
  rw [← dt_mul n0 hn, (likeN n0 hn).congr _ Ident (ext_app fun x i hi => ?_), (likeN n0 hn).one]
  rw [app_mulF, h.r x i hi]
  unfold app
  rw [sum_one hi fun l _ c => by simp [Ident, show ¬ i = l from fun z => c z.symm]]
  simp [Ident]
theorem addF_comm : addF F G = addF G F := by funext i j; exact Rat.add_comm ..
theorem psd_of_le (h : ∀ x, quad n G x ≤ quad n F x) : psd n (lessF F G) := fun x => by
  unfold lessF
  rw [quad, bilF_add, bilF_mul]
  have := h x
  grind
theorem quad_lessF : quad n (lessF F G) x = quad n F x - quad n G x := by
  unfold lessF
  rw [quad, bilF_add, bilF_mul]
  grind
variable (pA : Pd n A) (pB : Pd n B) (sA : Sym n A) (sB : Sym n B) (hN : IsInv n A N) (hM : IsInv n B M) (hW : IsInv n (addF N M) W)
include pA pB sA sB hN hM hW
theorem duo_le (u v : Nat → Rat) : quad n W (fun i => u i + v i) ≤ quad n A u + quad n B v := beside_le pA pB sA sB ⟨N, M, hN, hM, hW⟩ u v
theorem quad_zero' : quad n A (fun _ => 0) = 0 := sum_zero' fun i _ => by grind
theorem duo_left : psd n (lessF A W) := psd_of_le fun x => by
  have := duo_le pA pB sA sB hN hM hW x (fun _ => 0)
  have z : quad n B (fun _ => 0) = 0 := sum_zero' fun i _ => by grind
  rw [z, quad_congr (y := x) fun i _ => by grind] at this
  grind
theorem duo_right : psd n (lessF B W) := psd_of_le fun x => by
  have := duo_le pA pB sA sB hN hM hW (fun _ => 0) x
  have z : quad n A (fun _ => 0) = 0 := sum_zero' fun i _ => by grind
  rw [z, quad_congr (y := x) fun i _ => by grind] at this
  grind
theorem duo_split_le (s g : Rat) (hs : s + g = 1) (x : Nat → Rat) : quad n W x ≤ quad n (addF (fun i j => s * s * A i j) fun i j => g * g * B i j) x := by
  have := duo_le pA pB sA sB hN hM hW (fun i => s * x i) (fun i => g * x i)
  rw [quad_mul, quad_mul, quad_congr (y := x) fun i _ => by rw [← Rat.add_mul, hs, Rat.one_mul]] at this
  have e : quad n (addF (fun i j => s * s * A i j) fun i j => g * g * B i j) x = s * s * quad n A x + g * g * quad n B x := by
    unfold addF
    rw [quad, bilF_add, bilF_mul, bilF_mul]
  rw [e]
  exact this
theorem duo_split (s g : Rat) (hs : s + g = 1) : psd n (lessF (addF (fun i j => s * s * A i j) fun i j => g * g * B i j) W) := psd_of_le (duo_split_le pA pB sA sB hN hM hW s g hs)
theorem duo_mix (h : Rat) (hh : h = 1 / 2) : psd n (lessF (fun i j => A i j + h * (B i j + (-1) * A i j)) W) := psd_of_le fun x => by
  subst hh
  have h1 := duo_left pA pB sA sB hN hM hW x
  have h2 := duo_right pA pB sA sB hN hM hW x
  rw [quad_lessF] at h1 h2
  rw [quad, quad, bilF_add, bilF_mul, bilF_add, bilF_mul]
  have h1 : 0 ≤ bil n A x x - bil n W x x := h1
  have h2 : 0 ≤ bil n B x x - bil n W x x := h2
  grind
theorem duo_plus : psd n (lessF (addF A B) W) := psd_of_le fun x => by
  have h1 := duo_left pA pB sA sB hN hM hW x
  have h2 := pB.psd x
  rw [quad_lessF] at h1
  unfold addF
  rw [quad, quad, bilF_add]
  have h1 : 0 ≤ bil n A x x - bil n W x x := h1
  have h2 : 0 ≤ bil n B x x := h2
  grind
theorem duo_backs : psd n (lessF (addF N M) N) := psd_congr (F := M) (fun i j _ _ => by unfold lessF addF; grind) (hM.pd pB).psd
theorem duo_det (n0 : 0 < n) (hn : n ≤ 3) : dtN n W = dtN n A * dtN n B * (dtN n (addF A B))⁻¹ := by
  have d1 := dt_inv n0 hn hN
  have d2 := dt_inv n0 hn hM
  have d3 := dt_inv n0 hn hW
  have e : dtN n (addF N M) = dtN n (mulF n N (mulF n (addF A B) M)) := (likeN n0 hn).congr _ _ (ext_app fun x i hi => by
    have e1 : app n (mulF n N (mulF n (addF A B) M)) x i = app n N (fun i => app n A (app n M x) i + app n B (app n M x) i) i := by
      rw [app_mulF]
      exact congrFun (app_congr fun j hj => by rw [app_mulF]; exact appF_add) i
    rw [e1, app_add]
    show app n (addF N M) x i = app n N (app n A (app n M x)) i + app n N (app n B (app n M x)) i
    rw [hN.l _ i hi, show app n N (app n B (app n M x)) i = app n N x i from congrFun (app_congr fun i hi => hM.r x i hi) i]
    have : app n (addF N M) x i = app n N x i + app n M x i := appF_add
    rw [this]; grind)
  rw [e, dt_mul n0 hn, dt_mul n0 hn] at d3
  have hs : dtN n (addF A B) ≠ 0 := fun z => by rw [z] at d3; grind
  grind
theorem duo_best {R : Nat → Nat → Rat} (hR : IsInv n (addF A B) R) (v : Nat → Rat) : quad n A (fun i => v i - app n R (app n A v) i) + quad n B (app n R (app n A v)) = quad n W v := by
  let b := app n R (app n A v)
  let r : Nat → Rat := fun i => v i - b i
  have h1 : ∀ i, i < n → app n A b i + app n B b i = app n A v i := fun i hi => by
    have := hR.r (app n A v) i hi
    rw [← this]
    exact appF_add.symm
  let p := app n B b
  have ha : ∀ i, i < n → app n A r i = p i := fun i hi => by
    have e : app n A r i = app n A v i - app n A b i := congrFun (app_sub (x := v) (y := b)) i
    rw [e, ← h1 i hi]
    show app n A b i + app n B b i - app n A b i = app n B b i
    grind
  have h2 : ∀ i, i < n → app n (addF N M) p i = v i := fun i hi => by
    have e1 : app n (addF N M) p i = app n N p i + app n M p i := appF_add
    have e2 : app n N p i = r i := by rw [← hN.l r i hi]; exact congrFun (app_congr fun i hi => (ha i hi).symm) i
    have e3 : app n M p i = b i := hM.l b i hi
    rw [e1, e2, e3]
    show v i - b i + b i = v i
    grind
  have h3 : ∀ i, i < n → app n W v i = p i := fun i hi => by
    rw [← hW.l p i hi]
    exact congrFun (app_congr fun i hi => (h2 i hi).symm) i
  have q1 : quad n A r = dotF n r p := dot_congr (fun _ _ => rfl) ha
  have q3 : quad n W v = dotF n v p := dot_congr (fun _ _ => rfl) h3
  show quad n A r + dotF n b p = quad n W v
  rw [q1, q3, ← dot_addl]
  exact dot_congr (fun i _ => by show v i - b i + b i = v i; grind) fun _ _ => rfl
omit pB sB hM hW in
theorem duo_half (h : Rat) (hh : h = 1 / 2) : IsInv n (addF N N) fun i j => h * A i j := by
  have e1 : ∀ x i, app n (addF N N) x i = app n N x i + app n N x i := fun x i => appF_add
  have e2 : ∀ x i, app n (fun i j => h * A i j) x i = h * app n A x i := fun x i => appF_mul
  constructor
  · intro x i hi
    rw [e1, app_congr (x' := fun i => h * app n A x i) fun i _ => e2 x i, app_mul]
    show h * app n N (app n A x) i + h * app n N (app n A x) i = x i
    rw [hN.l x i hi]; grind
  · intro x i hi
    rw [e2, app_congr (x' := fun i => app n N x i + app n N x i) fun i _ => e1 x i, app_add]
    show h * (app n A (app n N x) i + app n A (app n N x) i) = x i
    rw [hN.r x i hi]; grind
end
/-- a row's own table, times the greatest share -/
theorem share_le {n : Nat} {W V : Nat → Nat → Rat} (pW : Pd n W) (sW : Sym n W) (hV : IsInv n W V) (v : Nat → Rat) (hv : ∃ i, i < n ∧ v i ≠ 0) : psd n (lessF W fun i j => 1 / quad n V v * (v i * v j)) := psd_of_le fun x => by
  have pV := hV.pd pW
  have sV := hV.sym sW
  have q0 : 0 < quad n V v := pV v hv
  have c := cauchy (x := v) (y := app n W x) pV.psd sV
  have e1 : bil n V v (app n W x) = dotF n v x := dot_congr (fun _ _ => rfl) fun i hi => hV.l x i hi
  have e2 : quad n V (app n W x) = quad n W x := hV.symm.quad
  rw [e1, e2] at c
  have e3 : quad n (fun i j => 1 / quad n V v * (v i * v j)) x = 1 / quad n V v * (dotF n v x * dotF n v x) := by
    rw [quad, bilF_mul, bil_rank1, dot_comm (x := x)]
  rw [e3]
  have c3 : 1 / quad n V v * (dotF n v x * dotF n v x) ≤ 1 / quad n V v * (quad n V v * quad n W x) := Rat.mul_le_mul_of_nonneg_left c (div_nonneg' (by decide) q0)
  have c4 : 1 / quad n V v * (quad n V v * quad n W x) = quad n W x := by grind
  rw [c4] at c3
  exact c3
end Ev

set_option Elab.async false
set_option linter.all false
set_option maxRecDepth 100000
set_option maxHeartbeats 4000000
set_option autoImplicit false
set_option exponentiation.threshold 10000
/-! the law's first part -/
namespace Ev
open PySem
theorem okt3 {a n : Nat} {F : Nat → Nat → Rat} (n0 : 0 < n) (n3 : n ≤ 3) (a1 : 1 ≤ a) (ha : a ≤ 549) (z : Sz a n n F) (s : Sym n F) : Okt a n F := by
  refine ⟨n0, by omega, a1, ?_, z, s⟩
  have h : 2 ^ n * (a + 1) ≤ 8 * (a + 1) := Nat.mul_le_mul_right _ (by
    have : 2 ^ n ≤ 2 ^ 3 := Nat.pow_le_pow_right (by decide) n3
    omega)
  omega
theorem pow3 {n a : Nat} (n3 : n ≤ 3) (h : 8 * a ≤ 4400) : 2 ^ n * a ≤ 4400 := by
  have h : 2 ^ n * a ≤ 8 * a := Nat.mul_le_mul_right _ (by
    have : 2 ^ n ≤ 2 ^ 3 := Nat.pow_le_pow_right (by decide) n3
    omega)
  omega
/-- a drawn table without ties -/
structure Dr (n : Nat) (F : Nat → Nat → Rat) : Prop where
  n0 : 0 < n
  n3 : n ≤ 3
  z : Sz 13 n n F
  s : Sym n F
  p : Pd n F
abbrev bk (n : Nat) (F : Nat → Nat → Rat) : Nat → Nat → Rat := lawBk n F
theorem tbl3 {a n : Nat} {F : Nat → Nat → Rat} (n3 : n ≤ 3) (o : Okt a n F) (p : Pd n F) : Tbl a (3 * a + 3) n F (bk n F) := by
  have i := lawBk_inv o.pos n3 (dt_ne o.pos n3 p.inj)
  exact ⟨o, p, i, back_sz o.pos n3 o.sz i⟩
theorem Tbl.symm {a b n : Nat} {F N : Nat → Nat → Rat} (t : Tbl a b n F N) (n3 : n ≤ 3) (h1 : 1 ≤ b) (hb : b ≤ 549) : Tbl b a n N F := ⟨okt3 t.o.pos n3 h1 hb t.z (t.i.sym t.o.sym), t.i.pd t.p, t.i.symm, t.o.sz⟩
theorem Dr.t {n : Nat} {F : Nat → Nat → Rat} (d : Dr n F) : Tbl 13 42 n F (bk n F) := tbl3 d.n3 (okt3 d.n0 d.n3 (by decide) (by decide) d.z d.s) d.p
theorem Sv.sub {a b n : Nat} {u v : Nat → Rat} (h : Sv a n u) (g : Sv b n v) : Sv (a + b + 1) n fun i => u i - v i := by
  have h2 : Sz (a + (b + 1)) 1 n fun _ => fun i => u i + (-1) * v i := by
    obtain ⟨d, d0, d1, q⟩ := h
    obtain ⟨e, e0, e1, p⟩ := g
    refine ⟨d * e, Nat.mul_pos d0 e0, Nat.lt_of_lt_of_le (pow_add_lt d1 e1) (Nat.pow_le_pow_right (by decide) (by omega)), fun i j hi hj => ?_⟩
    have e2 : u j + (-1) * v j = u j - v j := by grind
    rw [e2]
    exact Q.sub (a := a + b) (Nat.mul_pos d0 e0) ((q i j hi hj).up e0 e1) ((((p i j hi hj).up d0 d1).comm).mono (by omega)) (by omega)
  exact (Sv.congr (w := fun i => u i - v i) h2 fun i _ => by grind).mono (by omega)
section
variable {k : Nat}
/-- tuple([(_law_take(tin, 5) - 2, 1) for k in range(n)]) -/
theorem s_row {ρ : Env} {S : Store} {m c n v i : Nat} (hk : 1 ≤ k) (t : Tape m c S) (hm : m + n < 2 ^ 40) (hn : n ≤ 20) (hv : ρ[v]? = some (some (natD n))) (h0 : ∀ d : D, ((wipeE ρ [i]).set i (some d))[0]? = some (some (.cell c))) (hi : i < ρ.length) :
    ∃ (f : Nat → Rat) (S' : Store), ev (G k) (.tuple (.lc (.tupE (.cons (.bin .sub (.call 86 (.cons (.var 0) (.cons (.int 5) .nil))) (.int 2)) (.cons (.int 1) .nil))) (.nm i) (.rng1 (.var v)) (.bl true) [i])) ρ S = some ([rowD (vec n f)], S') ∧ Sv 3 n f ∧ Tape (m + n) c S' ∧ Moved c S S' := by
  obtain ⟨bs, S', h1, h2, h3, h4, h5⟩ := e_lcP (g := G k) (ρ := ρ) (S := S) (S1 := S) (elt := .tupE (.cons (.bin .sub (.call 86 (.cons (.var 0) (.cons (.int 5) .nil))) (.int 2)) (.cons (.int 1) .nil))) (it := .rng1 (.var v)) (tg := .nm i) (own := [i]) natD fr (fun q => Q 3 1 q) (fun j S' => Moved c S S' ∧ Tape (m + j) c S') (List.range n) (e_rng1 (e_var hv) (by omega)) (by simp [most]; omega) ⟨t.refl, t⟩ fun j a S1 hj ha hinv => by
    obtain ⟨hmv, ht⟩ := hinv
    simp at hj
    obtain ⟨r, S2, hr, hc, ht2, hmv2⟩ := s_take (k := k) hk ht (by omega) (show 0 < 5 by decide) (by decide)
    refine ⟨(wipeE ρ [i]).set i (some (natD a)), by simp [setT, wipeE, hi], (((r : Int) - 2 : Int) : Rat), S2, ?_, Q.int (by
      have : ((r : Int) - 2).natAbs < 8 := by omega
      exact this), hmv.trans hmv2, ht2⟩
    have e : fr ((((r : Int) - 2 : Int)) : Rat) = .tup [.int ((r : Int) - 2), .int 1] := rfl
    rw [e]
    exact e_tupE (e_args2 (e_bin (e_call (e_args2 (e_var (h0 _)) e_int) hc) e_int rfl) e_int)
  simp only [List.length_range] at h1 h5
  refine ⟨fun i => bs.getD i 0, S', ?_, ?_, h5, h4⟩
  · have := list_vec bs
    rw [h1] at this
    rw [← this]
    exact e_tuple (x := .lst (bs.map fr)) h2 rfl
  · refine ⟨1, by decide, by decide, fun _ j _ hj => ?_⟩
    have hj' : j < bs.length := by rw [h1]; exact hj
    have : bs.getD j 0 ∈ bs := by
      rw [List.getD_eq_getElem?_getD, List.getElem?_eq_getElem hj']
      exact List.getElem_mem hj'
    exact h3 _ this
theorem s_half (hk : 4 ≤ k) (S : Store) {ρ : Env} {a n : Nat} {F : Nat → Nat → Rat} {h : Rat} (hh : h = 1 / 2) (hn : n ≤ 20) (zF : Sz a n n F) (ha : a ≤ 4400) (h1 : ρ[1]? = some (some (tabD (mat n n F)))) (hl : ρ.length = 23) :
    ev (G k) (.tuple (.lc (.tuple (.lc (.call 96 (.cons (.tupE (.cons (.int 1) (.cons (.int 2) .nil))) (.cons (.var 22) .nil))) (.nm 22) (.it (.var 18)) (.bl true) [22])) (.nm 18) (.it (.var 1)) (.bl true) [18])) ρ S = some ([tabD (mat n n fun i j => h * F i j)], S) := by
  have okh : ok h := by
    have : QQ 2 h := ⟨2, by decide, by decide, 1, by rw [hh]; decide +kernel, by decide⟩
    exact this.ok (by decide)
  have fh : fr h = .tup [.int 1, .int 2] := by
    rw [hh, ← fr_lit 1 2 (1 / 2) (by decide +kernel) (by decide +kernel)]
  refine Eq.trans ?_ (congrArg (fun d => some ([d], S)) (tabD_mat n n _).symm)
  refine e_tuple (x := .lst ((List.range n).map fun i => .tup (vrow n fun j => h * F i j))) ?_ rfl
  refine e_lc (gd := []) (fun i : Nat => rowD (vec n (F i))) (fun i : Nat => D.tup (vrow n fun j => h * F i j)) (List.range n) ?_ (by simp [most]; omega) fun i hi => ?_
  · refine (e_it (e_var h1) (xs := (List.range n).map fun i => rowD (vec n (F i))) ?_).trans rfl
    simp [tabD, mat, seqOf]
  have hi := List.mem_range.mp hi
  let ρ1 := (ρ.set 18 none).set 18 (some (rowD (vec n (F i))))
  have hl1 : ρ1.length = 23 := by simp [ρ1, hl]
  refine ⟨ρ1, by simp [setT, wipeE, hl, ρ1], ?_⟩
  refine e_tuple (x := .lst (vrow n fun j => h * F i j)) ?_ rfl
  refine e_lc (gd := []) (fun j : Nat => fr (F i j)) (fun j : Nat => fr (h * F i j)) (List.range n) ?_ (by simp [most]; omega) fun j hj => ?_
  · refine (e_it (e_var (d := rowD (vec n (F i))) (by simp [ρ1, hl])) (xs := vrow n (F i)) ?_).trans rfl
    rw [rowD_vec]; rfl
  have hj := List.mem_range.mp hj
  refine ⟨(ρ1.set 22 none).set 22 (some (fr (F i j))), by simp [setT, wipeE, hl1], ?_⟩
  refine e_call (e_args2 (e_frac e_int e_int) (e_var (d := fr (F i j)) (by simp [hl1]))) ?_
  rw [← fh]
  exact spec_lmul S (by omega) okh (zF.ok ha hi hj)
end
end Ev

set_option Elab.async false
set_option linter.all false
set_option maxRecDepth 100000
set_option maxHeartbeats 4000000
set_option autoImplicit false
set_option exponentiation.threshold 10000
/-! the law's first part -/
namespace Ev
open PySem
theorem share_goods : ∀ d ∈ ([.tup [.int 1, .int 2], .tup [.int 1, .int 3], .tup [.int 1, .int 1], .tup [.int 2, .int 3]] : List D), ∃ q, d = fr q ∧ QQ 3 q ∧ QQ 3 (1 - q) := fun d hd => by
  simp only [List.mem_cons, List.not_mem_nil, or_false] at hd
  have m : ∀ (n d : Int) (q : Rat) (P R : Int), q.num = n → (q.den : Int) = d → q = Rat.divInt P 6 → 1 - q = Rat.divInt R 6 → P.natAbs < 2 ^ 3 → R.natAbs < 2 ^ 3 → ∃ q, D.tup [.int n, .int d] = fr q ∧ QQ 3 q ∧ QQ 3 (1 - q) := fun n d q P R h1 h2 h3 h4 h5 h6 =>
    ⟨q, fr_lit n d q h1 h2, ⟨6, by decide, by decide, P, h3, h5⟩, ⟨6, by decide, by decide, R, h4, h6⟩⟩
  rcases hd with rfl | rfl | rfl | rfl
  · exact m 1 2 (1 / 2) 3 3 (by decide +kernel) (by decide +kernel) (by decide +kernel) (by decide +kernel) (by decide) (by decide)
  · exact m 1 3 (1 / 3) 2 4 (by decide +kernel) (by decide +kernel) (by decide +kernel) (by decide +kernel) (by decide) (by decide)
  · exact m 1 1 1 6 0 (by decide +kernel) (by decide +kernel) (by decide +kernel) (by decide +kernel) (by decide) (by decide)
  · exact m 2 3 (2 / 3) 4 2 (by decide +kernel) (by decide +kernel) (by decide +kernel) (by decide +kernel) (by decide) (by decide)
theorem half_lit : D.tup [.int 1, .int 2] = fr (1 / 2) := fr_lit 1 2 (1 / 2) (by decide +kernel) (by decide +kernel)
theorem q_half : QQ 2 (1 / 2 : Rat) := ⟨2, by decide, by decide, 1, by decide +kernel, by decide⟩
theorem sz_less {a b n : Nat} {F H : Nat → Nat → Rat} (h : Sz a n n F) (g : Sz b n n H) : Sz (a + (b + 1) + 1) n n (lessF F H) := h.mix g q_less
theorem sym_less {n : Nat} {F H : Nat → Nat → Rat} (h : Sym n F) (g : Sym n H) : Sym n (lessF F H) := fun i j hi hj => by
  unfold lessF; rw [h i j hi hj, g i j hi hj]
theorem sym_add {n : Nat} {F H : Nat → Nat → Rat} (h : Sym n F) (g : Sym n H) : Sym n (addF F H) := h.add g
theorem sym_mul {n : Nat} {F : Nat → Nat → Rat} {c : Rat} (h : Sym n F) : Sym n fun i j => c * F i j := fun i j hi hj => by
  show c * F i j = c * F j i; rw [h i j hi hj]
section
variable {k : Nat}
theorem walk_two {S S1 S2 : Store} {c n : Nat} {bi : Bool} {lF lr lb : List D} {TF TH TN TM TNM TW TFH TL Th FA HB TSP V LFW MX Vb Vr dF dH dFH dI dP dW s g ss gg qs qw qF qH : D}
    (len : seqOf S TF = some lF) (hlF : lF.length = n)
    (r1 : callF defs cs97 k i__law_back [TF] S = some (TN, S)) (r2 : callF defs cs97 k i__law_back [TH] S = some (TM, S)) (r3 : callF defs cs97 k i__law_added [TN, TM] S = some (TNM, S)) (r4 : callF defs cs97 k i__law_back [TNM] S = some (TW, S))
    (r5 : callF defs cs97 k i__law_lists [TF] S = some (TL, S)) (r6 : callF defs cs97 k i_beside_each_other [TL, TH] S = some (TW, S)) (r7 : callF defs cs97 k i_beside_each_other [TH, TF] S = some (TW, S)) (r8 : callF defs cs97 k i_back_table [TF] S = some (TN, S)) (r9 : callF defs cs97 k i_back_table [TW] S = some (TNM, S))
    (r10 : callF defs cs97 k i_is_over [TF, TW] S = some (.bl true, S)) (r11 : callF defs cs97 k i_is_over [TH, TW] S = some (.bl true, S)) (r12 : callF defs cs97 k i_is_without_ties [TW] S = some (.bl true, S)) (r13 : callF defs cs97 k i_backs_over [TF, TW] S = some (.bl true, S)) (r14 : callF defs cs97 k i_determinant [TW] S = some (dW, S)) (r15 : callF defs cs97 k i_beside_each_other [TF, TF] S = some (Th, S))
    (r16 : callF defs cs97 k i__law_added [TF, TH] S = some (TFH, S)) (q1 : callF defs cs97 k i__law_det [TF] S = some (dF, S)) (q2 : callF defs cs97 k i__law_det [TH] S = some (dH, S)) (q3 : callF defs cs97 k i__law_det [TFH] S = some (dFH, S)) (r17 : callF defs cs97 k i__law_mul [dF, dH] S = some (dP, S)) (r18 : callF defs cs97 k i__law_over [dFH] S = some (dI, S)) (r19 : callF defs cs97 k i__law_mul [dP, dI] S = some (dW, S))
    (hh : ev (G k) (.tuple (.lc (.tuple (.lc (.call 96 (.cons (.tupE (.cons (.int 1) (.cons (.int 2) .nil))) (.cons (.var 22) .nil))) (.nm 22) (.it (.var 18)) (.bl true) [22])) (.nm 18) (.it (.var 1)) (.bl true) [18])) [some (.cell c), some TF, some TH, some (natD n), some TN, some TM, some TW, some TW, some (.lst [TW, TW, TN, TNM, .bl true, .bl true, .bl true, .bl true, dW, Th]), some TFH, some dW, none, none, none, none, none, none, none, none, none, none, none, none] S = some ([Th], S))
    (same1 : callF defs cs97 k i__law_same [.lst [TW, TW, TN, TNM, .bl true, .bl true, .bl true, .bl true, dW, Th], .lst [TW, TW, TN, TNM, .bl true, .bl true, .bl true, .bl true, dW, Th]] S = some (.bl true, S))
    (hc1 : callF defs cs97 k i__law_of [.cell c, .lst [.tup [.int 1, .int 2], .tup [.int 1, .int 3], .tup [.int 1, .int 1], .tup [.int 2, .int 3]]] S = some (s, S1))
    (u1 : callF defs cs97 k i__law_less [.tup [.int 1, .int 1], s] S1 = some (g, S1)) (u2 : callF defs cs97 k i__law_mul [s, s] S1 = some (ss, S1)) (u3 : callF defs cs97 k i__law_mul [g, g] S1 = some (gg, S1)) (u4 : callF defs cs97 k i_times_table [TF, ss] S1 = some (FA, S1)) (u5 : callF defs cs97 k i_times_table [TH, gg] S1 = some (HB, S1)) (u6 : callF defs cs97 k i__law_added [FA, HB] S1 = some (TSP, S1))
    (hrow : ev (G k) (.tuple (.lc (.tupE (.cons (.bin .sub (.call 86 (.cons (.var 0) (.cons (.int 5) .nil))) (.int 2)) (.cons (.int 1) .nil))) (.nm 19) (.rng1 (.var 3)) (.bl true) [19])) [some (.cell c), some TF, some TH, some (natD n), some TN, some TM, some TW, some TW, some (.lst [TW, TW, TN, TNM, .bl true, .bl true, .bl true, .bl true, dW, Th]), some TFH, some dW, some Th, some s, some g, some TSP, none, none, none, none, none, none, none, none] S1 = some ([V], S2))
    (w1 : callF defs cs97 k i_is_over [TSP, TW] S2 = some (.bl true, S2)) (w2 : callF defs cs97 k i__law_own_sum [TSP, V] S2 = some (qs, S2)) (w3 : callF defs cs97 k i_sum_own [TW, V] S2 = some (qw, S2)) (w4 : callF defs cs97 k i__law_below [qs, qw] S2 = some (.bl false, S2)) (w5 : callF defs cs97 k i_less_tables [TF, TW] S2 = some (LFW, S2)) (w6 : callF defs cs97 k i_is_never_below [LFW] S2 = some (.bl true, S2)) (w7 : callF defs cs97 k i_mixed_table [TF, TH, .tup [.int 1, .int 2]] S2 = some (MX, S2)) (w8 : callF defs cs97 k i_is_over [MX, TW] S2 = some (.bl true, S2))
    (same2 : callF defs cs97 k i__law_same [.lst [.bl true, .bl false, .bl true, .bl true], .lst [.bl true, .bl false, .bl true, .bl true]] S2 = some (.bl true, S2))
    (x3 : ev (G k) (.tuple (.lc (.call 100 (.cons (.var 18) (.cons (.call 40 (.cons (.var 1) (.cons (.var 15) .nil))) .nil))) (.nm 18) (.it (.call 105 (.cons (.var 9) .nil))) (.bl true) [18])) [some (.cell c), some TF, some TH, some (natD n), some TN, some TM, some TW, some TW, some (.lst [.bl true, .bl false, .bl true, .bl true]), some TFH, some dW, some Th, some s, some g, some TSP, some V, none, none, none, none, none, none, none] S2 = some ([Vb], S2))
    (x4 : ev (G k) (.tuple (.lc (.call 98 (.cons (.var 20) (.cons (.var 21) .nil))) (.tup (.tcons (.nm 20) (.tcons (.nm 21) .tnil))) (.zip (.var 15) (.var 16)) (.bl true) [20, 21])) [some (.cell c), some TF, some TH, some (natD n), some TN, some TM, some TW, some TW, some (.lst [.bl true, .bl false, .bl true, .bl true]), some TFH, some dW, some Th, some s, some g, some TSP, some V, some Vb, none, none, none, none, none, none] S2 = some ([Vr], S2))
    (hb : seqOf S2 Vb = some lb) (hr : seqOf S2 Vr = some lr) (hl : lb.length + lr.length ≤ most) (x5 : callF defs cs97 k i__law_inside [.lst (lb ++ lr)] S2 = some (.bl bi, S2))
    (y1 : callF defs cs97 k i_sum_own [TF, .lst lr] S2 = some (qF, S2)) (y2 : callF defs cs97 k i_sum_own [TH, Vb] S2 = some (qH, S2)) (y3 : callF defs cs97 k i__law_sum [qF, qH] S2 = some (qw, S2)) (y4 : eqD S2 qw qw = some true) :
    exec (G k) b__law_two_right [some (.cell c), some TF, some TH, none, none, none, none, none, none, none, none, none, none, none, none, none, none, none, none, none, none, none, none] S = some (.rt (.bl true) S2) := by
  refine x_seq (x_asg (e_lenN (n := n) (e_var rfl) len hlF)) ?_
  refine x_seq (x_par2 (e_args2 (e_call (e_args1 (e_var rfl)) r1) (e_call (e_args1 (e_var rfl)) r2))) ?_
  refine x_seq (x_asg (e_call (e_args1 (e_call (e_args2 (e_var rfl) (e_var rfl)) r3)) r4)) ?_
  refine x_seq (x_asg (e_call (e_args2 (e_call (e_args1 (e_var rfl)) r5) (e_var rfl)) r6)) ?_
  show exec (G k) _ [some (.cell c), some TF, some TH, some (natD n), some TN, some TM, some TW, some TW, none, none, none, none, none, none, none, none, none, none, none, none, none, none, none] S = _
  refine x_seq (x_asg (d := .lst [TW, TW, TN, TNM, .bl true, .bl true, .bl true, .bl true, dW, Th]) (S1 := S) (e_lstE (e_cons (e_var rfl) (e_cons (e_call (e_args2 (e_var rfl) (e_var rfl)) r7) (e_cons (e_call (e_args1 (e_var rfl)) r8) (e_cons (e_call (e_args1 (e_var rfl)) r9) (e_cons (e_call (e_args2 (e_var rfl) (e_var rfl)) r10) (e_cons (e_call (e_args2 (e_var rfl) (e_var rfl)) r11) (e_cons (e_call (e_args1 (e_var rfl)) r12) (e_cons (e_call (e_args2 (e_var rfl) (e_var rfl)) r13) (e_cons (e_call (e_args1 (e_var rfl)) r14) (e_cons (e_call (e_args2 (e_var rfl) (e_var rfl)) r15) e_nil)))))))))))) ?_
  refine x_seq (x_asg (e_call (e_args2 (e_var rfl) (e_var rfl)) r16)) ?_
  refine x_seq (x_asg (e_call (e_args2 (e_call (e_args2 (e_call (e_args1 (e_var rfl)) q1) (e_call (e_args1 (e_var rfl)) q2)) r17) (e_call (e_args1 (e_call (e_args1 (e_var rfl)) q3)) r18)) r19)) ?_
  refine x_seq (x_asg (d := Th) (S1 := S) hh) ?_
  show exec (G k) _ [some (.cell c), some TF, some TH, some (natD n), some TN, some TM, some TW, some TW, some (.lst [TW, TW, TN, TNM, .bl true, .bl true, .bl true, .bl true, dW, Th]), some TFH, some dW, some Th, none, none, none, none, none, none, none, none, none, none, none] S = _
  refine x_seq (x_iteF (S1 := S) (e_nt (b := true) (e_call (xs := [.lst [TW, TW, TN, TNM, .bl true, .bl true, .bl true, .bl true, dW, Th], .lst [TW, TW, TN, TNM, .bl true, .bl true, .bl true, .bl true, dW, Th]]) (S1 := S) (e_args2 (e_var rfl) (e_lstE (e_cons (e_var rfl) (e_cons (e_var rfl) (e_cons (e_var rfl) (e_cons (e_call (e_args2 (e_var rfl) (e_var rfl)) r3) (e_cons e_bl (e_cons e_bl (e_cons e_bl (e_cons e_bl (e_cons (e_var rfl) (e_cons (e_var rfl) e_nil)))))))))))) same1)) x_done) ?_
  refine x_seq (x_asg (e_call (e_args2 (e_var rfl) (e_lstE (e_cons (e_frac e_int e_int) (e_cons (e_frac e_int e_int) (e_cons (e_frac e_int e_int) (e_cons (e_frac e_int e_int) e_nil)))))) hc1)) ?_
  refine x_seq (x_asg (e_call (e_args2 (e_frac e_int e_int) (e_var rfl)) u1)) ?_
  refine x_seq (x_asg (e_call (e_args2 (e_call (e_args2 (e_var rfl) (e_call (e_args2 (e_var rfl) (e_var rfl)) u2)) u4) (e_call (e_args2 (e_var rfl) (e_call (e_args2 (e_var rfl) (e_var rfl)) u3)) u5)) u6)) ?_
  refine x_seq (x_asg (d := V) (S1 := S2) hrow) ?_
  show exec (G k) _ [some (.cell c), some TF, some TH, some (natD n), some TN, some TM, some TW, some TW, some (.lst [TW, TW, TN, TNM, .bl true, .bl true, .bl true, .bl true, dW, Th]), some TFH, some dW, some Th, some s, some g, some TSP, some V, none, none, none, none, none, none, none] S2 = _
  refine x_seq (x_asg (d := .lst [.bl true, .bl false, .bl true, .bl true]) (S1 := S2) (e_lstE (e_cons (e_call (e_args2 (e_var rfl) (e_var rfl)) w1) (e_cons (e_call (e_args2 (e_call (e_args2 (e_var rfl) (e_var rfl)) w2) (e_call (e_args2 (e_var rfl) (e_var rfl)) w3)) w4) (e_cons (e_call (e_args1 (e_call (e_args2 (e_var rfl) (e_var rfl)) w5)) w6) (e_cons (e_call (e_args2 (e_call (e_args3 (e_var rfl) (e_var rfl) (e_frac e_int e_int)) w7) (e_var rfl)) w8) e_nil)))))) ?_
  refine x_seq (x_iteF (S1 := S2) (e_nt (b := true) (e_call (e_args2 (e_var rfl) (e_lstE (e_cons e_bl (e_cons e_bl (e_cons e_bl (e_cons e_bl e_nil)))))) same2)) x_done) ?_
  refine x_seq (x_asg (d := Vb) (S1 := S2) x3) ?_
  refine x_seq (x_asg (d := Vr) (S1 := S2) x4) ?_
  show exec (G k) _ [some (.cell c), some TF, some TH, some (natD n), some TN, some TM, some TW, some TW, some (.lst [.bl true, .bl false, .bl true, .bl true]), some TFH, some dW, some Th, some s, some g, some TSP, some V, some Vb, some Vr, none, none, none, none, none] S2 = _
  have hin : ev (G k) (.nt (.call 106 (.cons (.bin .add (.list (.var 16)) (.list (.var 17))) .nil))) [some (.cell c), some TF, some TH, some (natD n), some TN, some TM, some TW, some TW, some (.lst [.bl true, .bl false, .bl true, .bl true]), some TFH, some dW, some Th, some s, some g, some TSP, some V, some Vb, some Vr, none, none, none, none, none] S2 = some ([.bl (!bi)], S2) := by
    refine e_nt (e_call (e_args1 (e_bin (e_list (e_var rfl) hb) (e_list (e_var rfl) hr) ?_)) x5)
    simp only [binD]
    rw [if_pos hl]
  cases bi with
  | false => exact x_seqR (x_iteT (S1 := S2) hin (x_seqR (x_ret e_bl)))
  | true => exact x_seq (x_iteF (S1 := S2) hin x_done) (x_seqR (x_ret (e_cmp (e_call (e_args2 (e_call (e_args2 (e_var rfl) (e_list (e_var rfl) hr)) y1) (e_call (e_args2 (e_var rfl) (e_var rfl)) y2)) y3) (e_call (e_args2 (e_var rfl) (e_var rfl)) w3) y4)))
theorem two_right (hk : 20 ≤ k) {S : Store} {m c n : Nat} {F H : Nat → Nat → Rat} (f : Dr n F) (h : Dr n H) (t : Tape m c S) (hm : m + 100 < 2 ^ 40) : ∃ S', callF defs cs97 k i__law_two_right [.cell c, tabD (mat n n F), tabD (mat n n H)] S = some (.bl true, S') ∧ Tape (m + 10) c S' ∧ Moved c S S' := by
  obtain ⟨k, rfl, hj⟩ := lev hk
  have n0 := f.n0
  have n3 := f.n3
  have hn : n ≤ 20 := by omega
  let N := bk n F; let M := bk n H
  let NM := addF N M
  have tF : Tbl 13 42 n F N := f.t
  have tH : Tbl 13 42 n H M := h.t
  have sN := tF.i.sym tF.o.sym
  have sM := tH.i.sym tH.o.sym
  have zNM : Sz 85 n n NM := tF.z.add tH.z
  have oNM : Okt 85 n NM := okt3 n0 n3 (by decide) (by decide) zNM (sym_add sN sM)
  have pNM : Pd n NM := (tF.i.pd f.p).add (tH.i.pd h.p).psd
  let W := bk n NM
  have tNM : Tbl 85 258 n NM W := tbl3 n3 oNM pNM
  have tW : Tbl 258 85 n W NM := tNM.symm n3 (by decide) (by decide)
  have sW := tW.o.sym
  let FH := addF F H
  have zFH : Sz 27 n n FH := f.z.add h.z
  have oFH : Okt 27 n FH := okt3 n0 n3 (by decide) (by decide) zFH (sym_add f.s h.s)
  have pFH : Pd n FH := f.p.add h.p.psd
  let R := bk n FH
  have tFH : Tbl 27 84 n FH R := tbl3 n3 oFH pFH
  let dW : Rat := dtN n F * dtN n H * (dtN n FH)⁻¹
  have ed : dtN n W = dW := duo_det f.p h.p f.s h.s tF.i tH.i tNM.i n0 n3
  -- the results, one by one
  let TF := tabD (mat n n F); let TH := tabD (mat n n H); let TN := tabD (mat n n N); let TM := tabD (mat n n M); let TNM := tabD (mat n n NM); let TW := tabD (mat n n W); let TFH := tabD (mat n n FH)
  let TL := formD .lst .lst .lst (mat n n F)
  let Th := tabD (mat n n fun i j => (1 / 2 : Rat) * F i j)
  have dne : ∀ {a b : Nat} {F N : Nat → Nat → Rat}, Tbl a b n F N → dtN n F ≠ 0 := fun t => dt_ne n0 n3 t.p.inj
  have r1 : callF defs cs97 k i__law_back [TF] S = some (TN, S) := s_lback (by omega) S n0 n3 f.z (by decide) (dne tF)
  have r2 : callF defs cs97 k i__law_back [TH] S = some (TM, S) := s_lback (by omega) S n0 n3 h.z (by decide) (dne tH)
  have r3 : ∀ S, callF defs cs97 k i__law_added [TN, TM] S = some (TNM, S) := fun S => s_added S (by omega) hn tF.z tH.z (by decide) (by decide)
  have r4 : callF defs cs97 k i__law_back [TNM] S = some (TW, S) := s_lback (by omega) S n0 n3 zNM (by decide) (dne tNM)
  have r5 : callF defs cs97 k i__law_lists [TF] S = some (TL, S) := s_lists S (by omega) hn
  have r6 : callF defs cs97 k i_beside_each_other [TL, TH] S = some (TW, S) := s_beside S (by omega) tF tH (by decide) oNM tNM.i rw_lst rw_lst rw_lst rw_tup rw_tup rw_tup
  have r7 : callF defs cs97 k i_beside_each_other [TH, TF] S = some (TW, S) := s_beside S (by omega) tH tF (by decide) (by rw [show addF M N = NM from addF_comm]; exact oNM) (by rw [show addF M N = NM from addF_comm]; exact tNM.i) rw_tup rw_tup rw_tup rw_tup rw_tup rw_tup
  have r8 : callF defs cs97 k i_back_table [TF] S = some (TN, S) := s_back_table S (by omega) tF.o tF.i rw_tup rw_tup rw_tup
  have r9 : callF defs cs97 k i_back_table [TW] S = some (TNM, S) := s_back_table S (by omega) tW.o tW.i rw_tup rw_tup rw_tup
  have over : ∀ S {a : Nat} {A : Nat → Nat → Rat}, a ≤ 280 → 1 ≤ a → Sz a n n A → Sym n A → psd n (lessF A W) → callF defs cs97 k i_is_over [tabD (mat n n A), TW] S = some (.bl true, S) := fun S {a A} ha a1 zA sA p =>
    s_is_over S (by omega) zA tW.o.sz sA sW (by omega) (okt3 (a := a + (258 + 1) + 1) n0 n3 (by omega) (by omega) (sz_less zA tW.o.sz) (sym_less sA sW)) p rw_tup rw_tup rw_tup rw_tup rw_tup rw_tup
  have pl := duo_left f.p h.p f.s h.s tF.i tH.i tNM.i
  have pr := duo_right f.p h.p f.s h.s tF.i tH.i tNM.i
  have r10 := over S (by decide) (by decide) f.z f.s pl
  have r11 := over S (by decide) (by decide) h.z h.s pr
  have r12 : callF defs cs97 k i_is_without_ties [TW] S = some (.bl true, S) := s_is_without_ties S (by omega) tW.o tW.p rw_tup rw_tup rw_tup
  have r13 : callF defs cs97 k i_backs_over [TF, TW] S = some (.bl true, S) := s_backs_over S (by omega) tF tW (by decide) (okt3 (a := 85 + (42 + 1) + 1) n0 n3 (by decide) (by decide) (sz_less zNM tF.z) (sym_less oNM.sym sN)) (duo_backs f.p h.p f.s h.s tF.i tH.i tNM.i) rw_tup rw_tup rw_tup rw_tup rw_tup rw_tup
  have r14 : callF defs cs97 k i_determinant [TW] S = some (fr dW, S) := by
    have := s_determinant S (k := k) (by omega) tW.o tW.p.inj (likeN n0 n3) rw_tup rw_tup rw_tup
    rw [ed] at this
    exact this
  have r15 : callF defs cs97 k i_beside_each_other [TF, TF] S = some (Th, S) := s_beside S (by omega) tF tF (by decide) (okt3 (a := 85) n0 n3 (by decide) (by decide) (tF.z.add tF.z) (sym_add sN sN)) (duo_half f.p f.s tF.i (1 / 2) rfl) rw_tup rw_tup rw_tup rw_tup rw_tup rw_tup
  have r16 : callF defs cs97 k i__law_added [TF, TH] S = some (TFH, S) := s_added S (by omega) hn f.z h.z (by decide) (by decide)
  have dq : ∀ {a : Nat} {F : Nat → Nat → Rat}, Sz a n n F → 1 + 4 * (a + 256) ≤ 4400 → callF defs cs97 k i__law_det [tabD (mat n n F)] S = some (fr (dtN n F), S) := fun z hb => s_det (by omega) S (by omega) z hb (detN n3 _)
  have q1 := dtN_qq n3 f.z
  have q2 := dtN_qq n3 h.z
  have q3 := (dtN_qq n3 zFH).inv (dne tFH)
  have r17 : callF defs cs97 k i__law_mul [fr (dtN n F), fr (dtN n H)] S = some (fr (dtN n F * dtN n H), S) := spec_lmul S (by omega) (q1.ok (by decide)) (q2.ok (by decide))
  have r18 : callF defs cs97 k i__law_over [fr (dtN n FH)] S = some (fr (dtN n FH)⁻¹, S) := spec_lover S (by omega) (dne tFH)
  have r19 : callF defs cs97 k i__law_mul [fr (dtN n F * dtN n H), fr (dtN n FH)⁻¹] S = some (fr dW, S) := spec_lmul S (by omega) ((q1.mul q2).ok (by decide)) (q3.ok (by decide))
  have same1 : callF defs cs97 k i__law_same [.lst [TW, TW, TN, TNM, .bl true, .bl true, .bl true, .bl true, fr dW, Th], .lst [TW, TW, TN, TNM, .bl true, .bl true, .bl true, .bl true, fr dW, Th]] S = some (.bl true, S) := s_same S 4 (by omega) _ (by
    have h1 := sm_tab 0 n W hn
    have h2 := sm_tab 0 n N hn
    have h3 := sm_tab 0 n NM hn
    have h4 := sm_tab 0 n (fun i j => (1 / 2 : Rat) * F i j) hn
    have h5 := sm_fr 2 dW
    have hb : ∀ b, smD 3 (.bl b) = true := fun b => rfl
    simp only [smD, List.all_cons, List.all_nil, Bool.and_true, Bool.and_eq_true, hb]
    exact ⟨by simp, h1, h1, h2, h3, trivial, trivial, trivial, trivial, h5, h4⟩)
  -- the share
  obtain ⟨d, S1, hd, hc1, t1, m1⟩ := s_of (k := k) (by omega) t (by omega) (gs := [.tup [.int 1, .int 2], .tup [.int 1, .int 3], .tup [.int 1, .int 1], .tup [.int 2, .int 3]]) (by simp) (by decide) rfl
  obtain ⟨s, rfl, qs, qg⟩ := share_goods d hd
  let g : Rat := 1 - s
  have hsg : s + g = 1 := by show s + (1 - s) = 1; grind
  have u1 : callF defs cs97 k i__law_less [fr 1, fr s] S1 = some (fr g, S1) := spec_lless S1 (by omega) (q_one.ok (by decide)) (qs.ok (by decide))
  have u2 : callF defs cs97 k i__law_mul [fr s, fr s] S1 = some (fr (s * s), S1) := spec_lmul S1 (by omega) (qs.ok (by decide)) (qs.ok (by decide))
  have u3 : callF defs cs97 k i__law_mul [fr g, fr g] S1 = some (fr (g * g), S1) := spec_lmul S1 (by omega) (qg.ok (by decide)) (qg.ok (by decide))
  let FA : Nat → Nat → Rat := fun i j => s * s * F i j
  let HB : Nat → Nat → Rat := fun i j => g * g * H i j
  let SP := addF FA HB
  have zFA : Sz 19 n n FA := f.z.mul (qs.mul qs)
  have zHB : Sz 19 n n HB := h.z.mul (qg.mul qg)
  have zSP : Sz 39 n n SP := zFA.add zHB
  have sSP : Sym n SP := sym_add (sym_mul f.s) (sym_mul h.s)
  have u4 : callF defs cs97 k i_times_table [TF, fr (s * s)] S1 = some (tabD (mat n n FA), S1) := s_times_table S1 (by omega) n0 hn f.s f.z (qs.mul qs) (by decide) (by decide)
  have u5 : callF defs cs97 k i_times_table [TH, fr (g * g)] S1 = some (tabD (mat n n HB), S1) := s_times_table S1 (by omega) n0 hn h.s h.z (qg.mul qg) (by decide) (by decide)
  let TSP := tabD (mat n n SP)
  have u6 : callF defs cs97 k i__law_added [tabD (mat n n FA), tabD (mat n n HB)] S1 = some (TSP, S1) := s_added S1 (by omega) hn zFA zHB (by decide) (by decide)
  let sz := some (natD n); let X : Option D := none
  let got1 : D := .lst [TW, TW, TN, TNM, .bl true, .bl true, .bl true, .bl true, fr dW, Th]
  let ρr : Env := [some (.cell c), some TF, some TH, sz, some TN, some TM, some TW, some TW, some got1, some TFH, some (fr dW), some Th, some (fr s), some (fr g), some TSP, X, X, X, X, X, X, X, X]
  obtain ⟨v, S2, hrow, zv, t2, m2⟩ := s_row (k := k) (ρ := ρr) (v := 3) (i := 19) (by omega) t1 (by omega) hn rfl (fun d => rfl) (by simp [ρr])
  let V := rowD (vec n v)
  -- what is looked at then
  have w1 := over S2 (by decide) (by decide) zSP sSP (duo_split f.p h.p f.s h.s tF.i tH.i tNM.i s g hsg)
  have w2 : callF defs cs97 k i__law_own_sum [TSP, V] S2 = some (fr (quad n SP v), S2) := s_own_sum S2 (by omega) hn zSP zv (by omega)
  have w3 : callF defs cs97 k i_sum_own [TW, V] S2 = some (fr (quad n W v), S2) := s_sum_own S2 (by omega) tW.o tW.p.psd zv (by omega) rw_tup
  have qq1 : QQ (3 + (39 + 3 + n) + n) (quad n SP v) := dot_q zv (zv.app zSP)
  have qq2 : QQ (3 + (258 + 3 + n) + n) (quad n W v) := dot_q zv (zv.app tW.o.sz)
  have w4 : callF defs cs97 k i__law_below [fr (quad n SP v), fr (quad n W v)] S2 = some (.bl false, S2) := by
    have := spec_lbelow S2 (k := k) (by omega) (qq1.ok (by omega)) (qq2.ok (by omega))
    have hle := duo_split_le f.p h.p f.s h.s tF.i tH.i tNM.i s g hsg v
    have hle : quad n W v ≤ quad n SP v := hle
    rw [decide_eq_false (fun z => by grind)] at this
    exact this
  have w5 : callF defs cs97 k i_less_tables [TF, TW] S2 = some (tabD (mat n n (lessF F W)), S2) := s_less S2 (by omega) n0 hn f.s sW f.z tW.o.sz (by decide)
  have w6 : callF defs cs97 k i_is_never_below [tabD (mat n n (lessF F W))] S2 = some (.bl true, S2) := s_is_never_below S2 (by omega) (okt3 (a := 13 + (258 + 1) + 1) n0 n3 (by decide) (by decide) (sz_less f.z tW.o.sz) (sym_less f.s sW)) pl rw_tup rw_tup rw_tup
  let MX : Nat → Nat → Rat := fun i j => F i j + 1 / 2 * (H i j + (-1) * F i j)
  have w7 : callF defs cs97 k i_mixed_table [TF, TH, fr (1 / 2)] S2 = some (tabD (mat n n MX), S2) := s_mixed_table S2 (by omega) n0 hn f.z h.z f.s h.s q_half (by decide) rw_tup rw_tup rw_tup rw_tup rw_tup rw_tup
  have zMX : Sz (13 + ((13 + (13 + 1) + 1) + 2) + 1) n n MX := f.z.mix (h.z.mix f.z q_less) q_half
  have sMX : Sym n MX := fun i j hi hj => by
    show F i j + 1 / 2 * (H i j + (-1) * F i j) = F j i + 1 / 2 * (H j i + (-1) * F j i)
    rw [f.s i j hi hj, h.s i j hi hj]
  have w8 := over S2 (by decide) (by decide) zMX sMX (duo_mix f.p h.p f.s h.s tF.i tH.i tNM.i (1 / 2) rfl)
  have same2 : callF defs cs97 k i__law_same [.lst [.bl true, .bl false, .bl true, .bl true], .lst [.bl true, .bl false, .bl true, .bl true]] S2 = some (.bl true, S2) := s_same S2 1 (by omega) _ rfl
  -- the best split
  let b : Nat → Rat := app n R (app n F v)
  let r : Nat → Rat := fun i => v i - b i
  have zFv : Sv (13 + 3 + n) n (app n F v) := zv.app f.z
  have zb : Sv (84 + (13 + 3 + n) + n) n b := zFv.app tFH.z
  have zr : Sv (3 + (84 + (13 + 3 + n) + n) + 1) n r := zv.sub zb
  have x1 : callF defs cs97 k i__law_back [TFH] S2 = some (tabD (mat n n R), S2) := s_lback (by omega) S2 n0 n3 zFH (by decide) (dne tFH)
  have x2 : callF defs cs97 k i_row_led [TF, V] S2 = some (rowD (vec n (app n F v)), S2) := s_row_led S2 (by omega) tF.o zv (by omega)
  let ρb : Env := [some (.cell c), some TF, some TH, sz, some TN, some TM, some TW, some TW, some (.lst [.bl true, .bl false, .bl true, .bl true]), some TFH, some (fr dW), some Th, some (fr s), some (fr g), some TSP, some V, X, X, X, X, X, X, X]
  have x3 : ev (G k) (.tuple (.lc (.call 100 (.cons (.var 18) (.cons (.call 40 (.cons (.var 1) (.cons (.var 15) .nil))) .nil))) (.nm 18) (.it (.call 105 (.cons (.var 9) .nil))) (.bl true) [18])) ρb S2 = some ([rowD (vec n b)], S2) := by
    refine Eq.trans ?_ (congrArg (fun d => some ([d], S2)) (rowD_vec n b).symm)
    refine e_tuple (x := .lst (vrow n b)) ?_ rfl
    refine e_lc (gd := []) (fun i : Nat => rowD (vec n (R i))) (fun i : Nat => fr (b i)) (List.range n) ?_ (by simp [most]; omega) fun i hi => ?_
    · refine (e_it (e_call (e_args1 (e_var rfl)) x1) (xs := (List.range n).map fun i => rowD (vec n (R i))) ?_).trans rfl
      simp [tabD, mat, seqOf]
    · have hi := List.mem_range.mp hi
      refine ⟨_, by simp [setT, wipeE, ρb]; rfl, e_call (e_args2 (e_var rfl) (e_call (e_args2 (e_var rfl) (e_var rfl)) x2)) ?_⟩
      have zR : Sv 84 n (R i) := by
        obtain ⟨d, d0, d1, q⟩ := tFH.z
        exact ⟨d, d0, d1, fun _ j _ hj => q i j hi hj⟩
      have := s_lboth S2 (k := k) (by omega) zR zFv (by omega) (by omega) rw_tup rw_tup
      rw [← rowD_vec, ← rowD_vec] at this
      exact this
  let ρc : Env := [some (.cell c), some TF, some TH, sz, some TN, some TM, some TW, some TW, some (.lst [.bl true, .bl false, .bl true, .bl true]), some TFH, some (fr dW), some Th, some (fr s), some (fr g), some TSP, some V, some (rowD (vec n b)), X, X, X, X, X, X]
  have x4 : ev (G k) (.tuple (.lc (.call 98 (.cons (.var 20) (.cons (.var 21) .nil))) (.tup (.tcons (.nm 20) (.tcons (.nm 21) .tnil))) (.zip (.var 15) (.var 16)) (.bl true) [20, 21])) ρc S2 = some ([rowD (vec n r)], S2) := by
    refine Eq.trans ?_ (congrArg (fun d => some ([d], S2)) (rowD_vec n r).symm)
    refine e_tuple (x := .lst (vrow n r)) ?_ rfl
    refine e_lc (gd := []) (fun i : Nat => D.tup [fr (v i), fr (b i)]) (fun i : Nat => fr (r i)) (List.range n) ?_ (by simp [most]; omega) fun i hi => ?_
    · refine (e_zip (e_var rfl) (e_var rfl) (xs := vrow n v) (ys := vrow n b) ?_ ?_).trans ?_
      · show seqOf S2 (rowD (vec n v)) = _
        rw [rowD_vec]; rfl
      · rw [rowD_vec]; rfl
      · unfold vrow
        rw [zip_rng]; rfl
    · have hi := List.mem_range.mp hi
      exact ⟨_, by simp [setT, wipeE, ρc]; rfl, e_call (e_args2 (e_var rfl) (e_var rfl)) (spec_lless S2 (by omega) (zv.ok (by omega) hi) (zb.ok (by omega) hi))⟩
  obtain ⟨bi, x5⟩ := s_inside S2 (k := k) (by omega) (vec n b ++ vec n r) (by simp; omega)
  have y1 : callF defs cs97 k i_sum_own [TF, .lst ((vec n r).map fr)] S2 = some (fr (quad n F r), S2) := s_sum_own S2 (by omega) tF.o f.p.psd zr (by omega) rw_lst
  have y2 : callF defs cs97 k i_sum_own [TH, rowD (vec n b)] S2 = some (fr (quad n H b), S2) := s_sum_own S2 (by omega) tH.o h.p.psd zb (by omega) rw_tup
  have qr := dot_q zr (zr.app f.z)
  have qb := dot_q zb (zb.app h.z)
  have y3 : callF defs cs97 k i__law_sum [fr (quad n F r), fr (quad n H b)] S2 = some (fr (quad n F r + quad n H b), S2) := spec_lsum S2 (by omega) (qr.ok (by omega)) (qb.ok (by omega))
  have y4 : quad n F r + quad n H b = quad n W v := duo_best f.p h.p f.s h.s tF.i tH.i tNM.i tFH.i v
  rw [y4] at y3
  refine ⟨S2, ?_, t2.mono (by omega), m1.trans m2⟩
  refine call_mv (c := c) (S1 := S2) t__law_two_right rfl rfl (S' := S2) ?_ rfl (List.take_of_length_le (by rw [(m1.trans m2).len]; omega)) (m1.trans m2)
  exact walk_two (lF := (mat n n F).map rowD) (lb := (vec n b).map fr) (lr := (vec n r).map fr) rfl (by simp) r1 r2 (r3 S) r4 r5 r6 r7 r8 r9 r10 r11 r12 r13 r14 r15 r16 (dq f.z (by decide)) (dq h.z (by decide)) (dq zFH (by decide)) r17 r18 r19 (s_half (k := k) (by omega) S (h := 1 / 2) rfl hn f.z (by decide) rfl rfl) same1 hc1 u1 u2 u3 u4 u5 u6 hrow w1 w2 w3 w4 w5 w6 (half_lit ▸ w7) w8 same2 x3 x4 rfl rfl (by simp [most]; omega) (List.map_append (f := fr) ▸ x5) y1 y2 y3 (by simp [eqD_fr])
end
end Ev

set_option Elab.async false
set_option linter.all false
set_option maxRecDepth 100000
set_option maxHeartbeats 4000000
set_option autoImplicit false
set_option exponentiation.threshold 10000
/-! the law's second part -/
namespace Ev
open PySem
section
variable {k : Nat}
theorem walk_shares {S S1 : Store} {c n : Nat} {lF lV : List D} {TF TH TW V0 V OV TV near far both_ gF gW : D}
    (len : seqOf S TF = some lF) (hlF : lF.length = n) (r1 : callF defs cs97 k i_beside_each_other [TF, TH] S = some (TW, S))
    (hrow : ev (G k) (.tuple (.lc (.tupE (.cons (.bin .sub (.call 86 (.cons (.var 0) (.cons (.int 5) .nil))) (.int 2)) (.cons (.int 1) .nil))) (.nm 11) (.rng1 (.var 3)) (.bl true) [11])) [some (.cell c), some TF, some TH, some (natD n), none, none, none, none, none, none, none, none] S = some ([V0], S1))
    (hfix : exec (G k) (.ite (.cmp .eq (.lc (.int 1) (.nm 10) (.it (.var 5)) (.cmp .ne (.var 10) (.tupE (.cons (.int 0) (.cons (.int 1) .nil)))) [10]) (.lstE .nil))
    (.seq (.asg (.nm 5) (.bin .add (.tupE (.cons (.tupE (.cons (.int 1) (.cons (.int 1) .nil))) .nil)) (.sl (.var 5) (.int 1) .nil)))
    .done)
    .done) [some (.cell c), some TF, some TH, some (natD n), some TW, some V0, none, none, none, none, none, none] S1 = some (.nx [some (.cell c), some TF, some TH, some (natD n), some TW, some V, none, none, none, none, none, none] S1))
    (lV_ : seqOf S1 V = some lV) (a1 : callF defs cs97 k i_least_own [TF, V] S1 = some (near, S1)) (a2 : callF defs cs97 k i_least_own [TH, .lst lV] S1 = some (far, S1)) (a3 : callF defs cs97 k i_least_own [TW, V] S1 = some (both_, S1))
    (g1 : callF defs cs97 k i_greatest_of_row [TF, V] S1 = some (gF, S1)) (g2 : callF defs cs97 k i_greatest_of_row [TW, V] S1 = some (gW, S1)) (o1 : callF defs cs97 k i_own_table [V] S1 = some (OV, S1)) (o2 : callF defs cs97 k i_times_table [OV, gW] S1 = some (TV, S1)) (o3 : callF defs cs97 k i_is_over [TW, TV] S1 = some (.bl true, S1))
    (l1 : callF defs cs97 k i__law_sum [near, far] S1 = some (both_, S1)) (l2 : callF defs cs97 k i__law_over [near] S1 = some (gF, S1)) (l3 : callF defs cs97 k i__law_over [both_] S1 = some (gW, S1)) (same : callF defs cs97 k i__law_same [.lst [both_, gF, gW, .bl true], .lst [both_, gF, gW, .bl true]] S1 = some (.bl true, S1)) :
    exec (G k) b__law_shares_right [some (.cell c), some TF, some TH, none, none, none, none, none, none, none, none, none] S = some (.rt (.bl true) S1) := by
  refine x_seq (x_asg (e_lenN (n := n) (e_var rfl) len hlF)) ?_
  refine x_seq (x_par2 (e_args2 (e_call (e_args2 (e_var rfl) (e_var rfl)) r1) hrow)) ?_
  refine x_seq hfix ?_
  have h3 : exec (G k) (.asgP (.tcons (.nm 6) (.tcons (.nm 7) (.tcons (.nm 8) .tnil))) (.cons (.call 80 (.cons (.var 1) (.cons (.var 5) .nil))) (.cons (.call 80 (.cons (.var 2) (.cons (.list (.var 5)) .nil))) (.cons (.call 80 (.cons (.var 4) (.cons (.var 5) .nil))) .nil)))) [some (.cell c), some TF, some TH, some (natD n), some TW, some V, none, none, none, none, none, none] S1 = some (.nx [some (.cell c), some TF, some TH, some (natD n), some TW, some V, some near, some far, some both_, none, none, none] S1) := by
    have e := e_args3 (g := G k) (ρ := [some (.cell c), some TF, some TH, some (natD n), some TW, some V, none, none, none, none, none, none]) (e_call (e_args2 (e_var (n := 1) rfl) (e_var (n := 5) rfl)) a1) (e_call (e_args2 (e_var (n := 2) rfl) (e_list (e_var (n := 5) rfl) lV_)) a2) (e_call (e_args2 (e_var (n := 4) rfl) (e_var (n := 5) rfl)) a3)
    have e : ev (G k) (.cons (.call 80 (.cons (.var 1) (.cons (.var 5) .nil))) (.cons (.call 80 (.cons (.var 2) (.cons (.list (.var 5)) .nil))) (.cons (.call 80 (.cons (.var 4) (.cons (.var 5) .nil))) .nil))) [some (.cell c), some TF, some TH, some (natD n), some TW, some V, none, none, none, none, none, none] S1 = some ([near, far, both_], S1) := e
    rw [exec, e]
    simp [setL]
  refine x_seq h3 ?_
  refine x_seq (x_asg (d := .lst [both_, gF, gW, .bl true]) (S1 := S1) (e_lstE (e_cons (e_var rfl) (e_cons (e_call (e_args2 (e_var rfl) (e_var rfl)) g1) (e_cons (e_call (e_args2 (e_var rfl) (e_var rfl)) g2) (e_cons (e_call (e_args2 (e_var rfl) (e_call (e_args2 (e_call (e_args1 (e_var rfl)) o1) (e_call (e_args2 (e_var rfl) (e_var rfl)) g2)) o2)) o3) e_nil)))))) ?_
  exact x_seqR (x_ret (e_call (e_args2 (e_var rfl) (e_lstE (e_cons (e_call (e_args2 (e_var rfl) (e_var rfl)) l1) (e_cons (e_call (e_args1 (e_var rfl)) l2) (e_cons (e_call (e_args1 (e_call (e_args2 (e_var rfl) (e_var rfl)) l1)) l3) (e_cons e_bl e_nil)))))) same))
def fixV (n : Nat) (v : Nat → Rat) : Nat → Rat := if ((List.range n).filter fun i => decide (v i ≠ 0)) = [] then fun i => if i = 0 then 1 else v i else v
theorem fixV_ne {n : Nat} (n0 : 0 < n) (v : Nat → Rat) : ∃ i, i < n ∧ fixV n v i ≠ 0 := by
  unfold fixV
  split
  · exact ⟨0, n0, by simp⟩
  · rename_i h
    obtain ⟨i, hi⟩ := List.exists_mem_of_ne_nil _ h
    obtain ⟨h1, h2⟩ := List.mem_filter.mp hi
    exact ⟨i, List.mem_range.mp h1, of_decide_eq_true h2⟩
theorem fixV_sz {a n : Nat} {v : Nat → Rat} (h : Sv a n v) : Sv a n (fixV n v) := by
  obtain ⟨d, d0, d1, q⟩ := h
  refine ⟨d, d0, d1, fun i j hi hj => ?_⟩
  show Q a d (fixV n v j)
  unfold fixV
  split
  · show Q a d (if j = 0 then 1 else v j)
    split
    · exact Q.one d0 d1
    · exact q i j hi hj
  · exact q i j hi hj
theorem s_fix {S : Store} {c n : Nat} {v : Nat → Rat} {TF TH TW : D} (n0 : 0 < n) (hn : n ≤ 20) : exec (G k) (.ite (.cmp .eq (.lc (.int 1) (.nm 10) (.it (.var 5)) (.cmp .ne (.var 10) (.tupE (.cons (.int 0) (.cons (.int 1) .nil)))) [10]) (.lstE .nil))
    (.seq (.asg (.nm 5) (.bin .add (.tupE (.cons (.tupE (.cons (.int 1) (.cons (.int 1) .nil))) .nil)) (.sl (.var 5) (.int 1) .nil)))
    .done)
    .done) [some (.cell c), some TF, some TH, some (natD n), some TW, some (rowD (vec n v)), none, none, none, none, none, none] S = some (.nx [some (.cell c), some TF, some TH, some (natD n), some TW, some (rowD (vec n (fixV n v))), none, none, none, none, none, none] S) := by
  let ρ : Env := [some (.cell c), some TF, some TH, some (natD n), some TW, some (rowD (vec n v)), none, none, none, none, none, none]
  have hl : ev (G k) (.lc (.int 1) (.nm 10) (.it (.var 5)) (.cmp .ne (.var 10) (.tupE (.cons (.int 0) (.cons (.int 1) .nil)))) [10]) ρ S = some ([.lst (((List.range n).filter fun i => decide (v i ≠ 0)).map fun _ => .int 1)], S) := by
    refine e_lcIf (gd := []) (fun i : Nat => fr (v i)) (fun _ => .int 1) (fun i => decide (v i ≠ 0)) (List.range n) ?_ (by simp [most]; omega) fun i hi => ⟨_, by simp [setT, wipeE, ρ]; rfl, ?_, fun _ => e_int⟩
    · refine (e_it (e_var rfl) (xs := vrow n v) ?_).trans rfl
      rw [rowD_vec]; rfl
    · refine e_cmp (e_var rfl) (e_frac e_int e_int) ?_
      show (eqD S (fr (v i)) (fr 0)).map (!·) = _
      rw [eqD_fr]
      by_cases c : v i = 0 <;> simp [c]
  unfold fixV
  by_cases h : ((List.range n).filter fun i => decide (v i ≠ 0)) = []
  · rw [h] at hl
    have hc : ev (G k) (.cmp .eq (.lc (.int 1) (.nm 10) (.it (.var 5)) (.cmp .ne (.var 10) (.tupE (.cons (.int 0) (.cons (.int 1) .nil)))) [10]) (.lstE .nil)) ρ S = some ([.bl true], S) := e_cmp hl (e_lstE e_nil) (eqD_yes S (n := 1) (by decide) rfl)
    rw [if_pos h]
    refine x_iteT hc (x_seq (ρ1 := ρ.set 5 (some (rowD (vec n fun i => if i = 0 then 1 else v i)))) (S1 := S) (x_asg ?_ (by simp [ρ])) x_done)
    have hsl : ev (G k) (.sl (.var 5) (.int 1) .nil) ρ S = some ([.tup ((vrow n v).drop 1)], S) := by
      have hcf := cut_from (vrow n v) 1
      rw [ev, e_var (show ρ[5]? = some (some (rowD (vec n v))) from rfl)]
      simp only [Option.bind_some, sg, e_int, oInt, e_nil, rowD_vec, flat]
      rw [show (some (1 : Int)) = some ((1 : Nat) : Int) from rfl, hcf]
    refine e_bin (x := .tup [fr 1]) (e_tupE (e_args1 (e_frac e_int e_int))) hsl ?_
    obtain ⟨j, rfl⟩ : ∃ j, n = j + 1 := ⟨n - 1, by omega⟩
    simp only [binD, List.length_cons, List.length_nil, List.length_drop, vrow_len]
    rw [if_pos (by unfold most; omega), rowD_vec]
    congr 2
    unfold vrow
    rw [List.range_succ_eq_map]
    simp
  · have hc : ev (G k) (.cmp .eq (.lc (.int 1) (.nm 10) (.it (.var 5)) (.cmp .ne (.var 10) (.tupE (.cons (.int 0) (.cons (.int 1) .nil)))) [10]) (.lstE .nil)) ρ S = some ([.bl false], S) := e_cmp hl (e_lstE e_nil) (eqD_no S (n := 1) (m := 1) (by decide) (by decide) (by simp only [layD]; exact lays_map fun _ _ => rfl) rfl (by simpa using h))
    rw [if_neg h]
    exact x_iteF hc x_done
theorem shares_right (hk : 20 ≤ k) {S : Store} {m c n : Nat} {F H : Nat → Nat → Rat} (f : Dr n F) (h : Dr n H) (t : Tape m c S) (hm : m + 100 < 2 ^ 40) : ∃ S', callF defs cs97 k i__law_shares_right [.cell c, tabD (mat n n F), tabD (mat n n H)] S = some (.bl true, S') ∧ Tape (m + 10) c S' ∧ Moved c S S' := by
  obtain ⟨k, rfl, hj⟩ := lev hk
  have n0 := f.n0
  have n3 := f.n3
  have hn : n ≤ 20 := by omega
  let N := bk n F; let M := bk n H
  let NM := addF N M
  have tF : Tbl 13 42 n F N := f.t
  have tH : Tbl 13 42 n H M := h.t
  have sN := tF.i.sym tF.o.sym
  have sM := tH.i.sym tH.o.sym
  have zNM : Sz 85 n n NM := tF.z.add tH.z
  have oNM : Okt 85 n NM := okt3 n0 n3 (by decide) (by decide) zNM (sym_add sN sM)
  have pNM : Pd n NM := (tF.i.pd f.p).add (tH.i.pd h.p).psd
  let W := bk n NM
  have tNM : Tbl 85 258 n NM W := tbl3 n3 oNM pNM
  have tW : Tbl 258 85 n W NM := tNM.symm n3 (by decide) (by decide)
  let TF := tabD (mat n n F); let TH := tabD (mat n n H); let TW := tabD (mat n n W)
  have r1 : callF defs cs97 k i_beside_each_other [TF, TH] S = some (TW, S) := s_beside S (by omega) tF tH (by decide) oNM tNM.i rw_tup rw_tup rw_tup rw_tup rw_tup rw_tup
  obtain ⟨v0, S1, hrow, zv0, t1, m1⟩ := s_row (k := k) (ρ := [some (.cell c), some TF, some TH, some (natD n), none, none, none, none, none, none, none, none]) (v := 3) (i := 11) (by omega) t (by omega) hn rfl (fun d => rfl) (by simp)
  let v := fixV n v0
  have zv : Sv 3 n v := fixV_sz zv0
  have hv : ∃ i, i < n ∧ v i ≠ 0 := fixV_ne n0 v0
  have a1 : callF defs cs97 k i_least_own [TF, rowD (vec n v)] S1 = some (fr (quad n N v), S1) := s_least_own S1 (by omega) tF.o tF.p tF.i tF.z zv (pow3 n3 (by decide)) (by omega) rw_tup
  have a2 : callF defs cs97 k i_least_own [TH, .lst ((vec n v).map fr)] S1 = some (fr (quad n M v), S1) := s_least_own S1 (by omega) tH.o tH.p tH.i tH.z zv (pow3 n3 (by decide)) (by omega) rw_lst
  have a3 : callF defs cs97 k i_least_own [TW, rowD (vec n v)] S1 = some (fr (quad n NM v), S1) := s_least_own S1 (by omega) tW.o tW.p tW.i tW.z zv (pow3 n3 (by decide)) (by omega) rw_tup
  have g1 : callF defs cs97 k i_greatest_of_row [TF, rowD (vec n v)] S1 = some (fr (1 / quad n N v), S1) := s_greatest S1 (by omega) tF.o tF.p tF.i tF.z zv (pow3 n3 (by decide)) (by omega) hv rw_tup
  have g2 : callF defs cs97 k i_greatest_of_row [TW, rowD (vec n v)] S1 = some (fr (1 / quad n NM v), S1) := s_greatest S1 (by omega) tW.o tW.p tW.i tW.z zv (pow3 n3 (by decide)) (by omega) hv rw_tup
  have qN : QQ (3 + (42 + 3 + n) + n) (quad n N v) := dot_q zv (zv.app tF.z)
  have qM : QQ (3 + (42 + 3 + n) + n) (quad n M v) := dot_q zv (zv.app tH.z)
  have qNM : QQ (3 + (85 + 3 + n) + n) (quad n NM v) := dot_q zv (zv.app zNM)
  have hsum : quad n N v + quad n M v = quad n NM v := by
    show _ = bil n (addF N M) v v
    unfold addF
    rw [bilF_add]
  have p1 : quad n N v ≠ 0 := fun z => by
    have := (tF.i.pd f.p) v hv
    rw [z] at this
    exact absurd this (by decide)
  have p2 : quad n NM v ≠ 0 := fun z => by
    have := pNM v hv
    rw [z] at this
    exact absurd this (by decide)
  have one_div : ∀ x : Rat, 1 / x = x⁻¹ := fun x => by rw [Rat.div_def, Rat.one_mul]
  have l1 : callF defs cs97 k i__law_sum [fr (quad n N v), fr (quad n M v)] S1 = some (fr (quad n NM v), S1) := by
    have := spec_lsum S1 (k := k) (by omega) (qN.ok (by omega)) (qM.ok (by omega))
    rw [hsum] at this
    exact this
  have l2 : callF defs cs97 k i__law_over [fr (quad n N v)] S1 = some (fr (1 / quad n N v), S1) := by
    rw [one_div]
    exact spec_lover S1 (by omega) p1
  have l3 : callF defs cs97 k i__law_over [fr (quad n NM v)] S1 = some (fr (1 / quad n NM v), S1) := by
    rw [one_div]
    exact spec_lover S1 (by omega) p2
  have qg : QQ 97 (1 / quad n NM v) := by
    rw [one_div]
    exact (qNM.inv p2).mono (by omega)
  have o1 : callF defs cs97 k i_own_table [rowD (vec n v)] S1 = some (tabD (mat n n fun i j => v i * v j), S1) := s_own_table S1 (by omega) n0 hn zv (by decide) rw_tup
  have zO : Sz 6 n n fun i j => v i * v j := by
    obtain ⟨d, d0, d1, q⟩ := zv
    exact ⟨d * d, Nat.mul_pos d0 d0, pow_add_lt d1 d1, fun i j hi hj => (q 0 i (by decide) hi).mul (q 0 j (by decide) hj)⟩
  have sO : Sym n fun i j => v i * v j := fun i j _ _ => Rat.mul_comm ..
  have o2 : callF defs cs97 k i_times_table [tabD (mat n n fun i j => v i * v j), fr (1 / quad n NM v)] S1 = some (tabD (mat n n fun i j => 1 / quad n NM v * (v i * v j)), S1) := s_times_table S1 (by omega) n0 hn sO zO qg (by decide) (by decide)
  have zT : Sz (6 + 97) n n fun i j => 1 / quad n NM v * (v i * v j) := zO.mul qg
  have o3 : callF defs cs97 k i_is_over [TW, tabD (mat n n fun i j => 1 / quad n NM v * (v i * v j))] S1 = some (.bl true, S1) :=
    s_is_over S1 (by omega) tW.o.sz zT tW.o.sym (sym_mul sO) (by decide) (okt3 (a := 258 + (6 + 97 + 1) + 1) n0 n3 (by decide) (by decide) (sz_less tW.o.sz zT) (sym_less tW.o.sym (sym_mul sO))) (share_le tW.p tW.o.sym tW.i v hv) rw_tup rw_tup rw_tup rw_tup rw_tup rw_tup
  have same : callF defs cs97 k i__law_same [.lst [fr (quad n NM v), fr (1 / quad n N v), fr (1 / quad n NM v), .bl true], .lst [fr (quad n NM v), fr (1 / quad n N v), fr (1 / quad n NM v), .bl true]] S1 = some (.bl true, S1) := s_same S1 2 (by omega) _ rfl
  refine ⟨S1, ?_, t1.mono (by omega), m1⟩
  refine call_mv (c := c) (S1 := S1) t__law_shares_right rfl rfl (S' := S1) ?_ rfl (List.take_of_length_le (by rw [m1.len]; omega)) m1
  exact walk_shares (lF := (mat n n F).map rowD) (lV := (vec n v).map fr) rfl (by simp) r1 hrow (s_fix n0 hn) rfl a1 a2 a3 g1 g2 o1 o2 o3 l1 l2 l3 same
end
end Ev

set_option Elab.async false
set_option linter.all false
set_option maxRecDepth 100000
set_option maxHeartbeats 4000000
set_option autoImplicit false
set_option exponentiation.threshold 10000
/-! parts and what lies beyond them (no program) -/
namespace Ev
def ind (p : Prop) [Decidable p] : Rat := if p then 1 else 0
theorem count_nodup {l : List Nat} (h : l.Nodup) (i : Nat) : sum l.length (fun a => ind (at1 l a = i)) = ind (i ∈ l) := by
  by_cases c : i ∈ l
  · obtain ⟨a, ha, e⟩ := List.getElem_of_mem c
    have ea : at1 l a = i := by unfold at1; rw [List.getD_eq_getElem?_getD, List.getElem?_eq_getElem ha]; exact e
    rw [sum_one ha fun b hb hne => by
      unfold ind
      rw [if_neg fun z => hne (at1_inj h hb ha (by rw [z, ea]))]]
    unfold ind
    rw [if_pos ea, if_pos c]
  · rw [sum_zero' fun a ha => by
      unfold ind
      rw [if_neg fun z => c (by rw [← z]; exact at1_mem ha)]]
    unfold ind
    rw [if_neg c]
theorem sum_lot {n : Nat} {l : List Nat} (h : l.Nodup) (hl : ∀ i ∈ l, i < n) (f : Nat → Rat) : sum l.length (fun a => f (at1 l a)) = sum n fun i => f i * ind (i ∈ l) := by
  have e : ∀ i, f i * ind (i ∈ l) = sum l.length fun a => f i * ind (at1 l a = i) := fun i => by rw [sum_mul, count_nodup h]
  rw [show (fun i => f i * ind (i ∈ l)) = fun i => sum l.length fun a => f i * ind (at1 l a = i) from funext e, ← sum_comm]
  refine sum_congr fun a ha => ?_
  rw [sum_one (k := at1 l a) (hl _ (at1_mem ha)) fun i _ hne => by
    unfold ind
    rw [if_neg fun z => hne z.symm]; grind]
  unfold ind
  rw [if_pos rfl]; grind
theorem rest_nodup {n : Nat} {l : List Nat} : (restL n l).Nodup := (List.nodup_range (n := n)).sublist List.filter_sublist
theorem rest_mem {n : Nat} {l : List Nat} {i : Nat} : i ∈ restL n l ↔ i < n ∧ i ∉ l := by
  unfold restL
  rw [List.mem_filter, List.mem_range]
  simp
theorem sum_parts {n : Nat} {l : List Nat} (h : Lot n l) (f : Nat → Rat) : sum n f = sum l.length (fun a => f (at1 l a)) + sum (restL n l).length fun a => f (at1 (restL n l) a) := by
  rw [sum_lot h.nodup h.lt, sum_lot rest_nodup restL_lt, ← sum_add]
  refine sum_congr fun i hi => ?_
  unfold ind
  by_cases c : i ∈ l
  · rw [if_pos c, if_neg fun z => (rest_mem.mp z).2 c]; grind
  · rw [if_neg c, if_pos (rest_mem.mpr ⟨hi, c⟩)]; grind
/-- numbers of a lot, 0 elsewhere -/
def extV (l : List Nat) (x : Nat → Rat) : Nat → Rat := fun i => sum l.length fun a => x a * ind (at1 l a = i)
section
variable {n : Nat} {l : List Nat} (h : l.Nodup) (hl : ∀ i ∈ l, i < n) {F : Nat → Nat → Rat} {x y : Nat → Rat}
include h in
theorem ext_at {a : Nat} (ha : a < l.length) : extV l x (at1 l a) = x a := by
  unfold extV
  rw [sum_one ha fun b hb hne => by
    unfold ind
    rw [if_neg fun z => hne (at1_inj h hb ha z)]; grind]
  unfold ind
  rw [if_pos rfl]; grind
include hl in
theorem sum_ext (f : Nat → Rat) : sum n (fun i => f i * extV l x i) = sum l.length fun a => f (at1 l a) * x a := by
  unfold extV
  have e : ∀ i, f i * sum l.length (fun a => x a * ind (at1 l a = i)) = sum l.length fun a => f i * (x a * ind (at1 l a = i)) := fun i => (sum_mul ..).symm
  rw [show (fun i => f i * sum l.length fun a => x a * ind (at1 l a = i)) = fun i => sum l.length fun a => f i * (x a * ind (at1 l a = i)) from funext e, sum_comm]
  refine sum_congr fun a ha => ?_
  rw [sum_one (k := at1 l a) (hl _ (at1_mem ha)) fun i _ hne => by
    unfold ind
    rw [if_neg fun z => hne z.symm]; grind]
  unfold ind
  rw [if_pos rfl]; grind
include hl in
theorem quad_part : quad l.length (partF F l) x = quad n F (extV l x) := by
  have e1 : ∀ i, app n F (extV l x) i = sum l.length fun a => F i (at1 l a) * x a := fun i => sum_ext hl _
  have e2 : quad n F (extV l x) = sum n fun i => (app n F (extV l x) i) * extV l x i := sum_congr fun i _ => Rat.mul_comm ..
  rw [e2, sum_ext hl]
  refine sum_congr fun a _ => ?_
  rw [e1, Rat.mul_comm]
  rfl
include h hl in
theorem pd_part (p : Pd n F) : Pd l.length (partF F l) := fun x hx => by
  rw [quad_part hl]
  obtain ⟨a, ha, c⟩ := hx
  exact p _ ⟨at1 l a, hl _ (at1_mem ha), by rw [ext_at h ha]; exact c⟩
include hl in
theorem sym_part (s : Sym n F) : Sym l.length (partF F l) := fun a b ha hb => s _ _ (hl _ (at1_mem ha)) (hl _ (at1_mem hb))
end
theorem ext_add {l : List Nat} {x y : Nat → Rat} {i : Nat} : extV l (fun a => x a + y a) i = extV l x i + extV l y i := by
  unfold extV
  rw [← sum_add]
  exact sum_congr fun a _ => by grind
section
variable {n : Nat} {A B N M W : Nat → Nat → Rat}
/-- the best split -/
theorem beside_eq (hN : IsInv n A N) (hM : IsInv n B M) (hW : IsInv n (addF N M) W) (x : Nat → Rat) : ∃ u v : Nat → Rat, (∀ i, i < n → u i + v i = x i) ∧ quad n W x = quad n A u + quad n B v := by
  let p := app n W x
  have hs : ∀ i, i < n → app n N p i + app n M p i = x i := fun i hi => by
    rw [← hW.r x i hi]; exact appF_add.symm
  refine ⟨app n N p, app n M p, hs, ?_⟩
  rw [show quad n A (app n N p) = dotF n (app n N p) p from dot_congr (fun _ _ => rfl) fun i hi => hN.r p i hi, show quad n B (app n M p) = dotF n (app n M p) p from dot_congr (fun _ _ => rfl) fun i hi => hM.r p i hi, ← dot_addl]
  exact dot_congr (fun i hi => (hs i hi).symm) fun _ _ => rfl
/-- parts beside each other lie over the part -/
theorem parts_over (pA : Pd n A) (pB : Pd n B) (sA : Sym n A) (sB : Sym n B) (hN : IsInv n A N) (hM : IsInv n B M) (hW : IsInv n (addF N M) W) {l : List Nat} (hl : ∀ i ∈ l, i < n) {NL ML P : Nat → Nat → Rat} (hNL : IsInv l.length (partF A l) NL) (hML : IsInv l.length (partF B l) ML) (hP : IsInv l.length (addF NL ML) P) : psd l.length (lessF P (partF W l)) := psd_of_le fun x => by
  obtain ⟨u, v, huv, e⟩ := beside_eq hNL hML hP x
  rw [e, quad_part hl, quad_part hl, quad_part hl]
  have := duo_le pA pB sA sB hN hM hW (extV l u) (extV l v)
  rw [quad_congr (y := extV l x) fun i _ => by
    rw [← ext_add]
    exact sum_congr fun a ha => by
      show (u a + v a) * ind (at1 l a = i) = _
      rw [huv a ha]] at this
  exact this
end
/-! ### beyond -/
theorem bey_zip (l : List Nat) : l.zip (List.range l.length) = (List.range l.length).map fun a => (at1 l a, a) := by
  have := map_at1 l id
  rw [List.map_id] at this
  conv => lhs; rw [this]
  rw [List.length_map, List.length_range]
  have e : List.range l.length = (List.range l.length).map id := by rw [List.map_id]
  conv => lhs; arg 2; rw [e]
  rw [List.zip_map']
  rfl
theorem bey_fold {l : List Nat} (h : l.Nodup) (s A : Nat → Rat) : ∀ t, t ≤ l.length → ∀ c, ((List.range t).map fun a => (at1 l a, a)).foldl (beyStep s) A c = if ∃ a, a < t ∧ at1 l a = c then extV l (fun a => -(s a)) c else A c := by
  intro t
  induction t with
  | zero => intro _ c; simp
  | succ t ih =>
    intro ht c
    rw [List.range_succ, List.map_append, List.foldl_append]
    simp only [List.map_cons, List.map_nil, List.foldl_cons, List.foldl_nil, beyStep]
    by_cases e : c = at1 l t
    · rw [if_pos e, if_pos ⟨t, by omega, e.symm⟩, e, ext_at h (by omega)]
    · rw [if_neg e, ih (by omega)]
      by_cases e2 : ∃ a, a < t ∧ at1 l a = c
      · obtain ⟨a, ha, hc⟩ := e2
        rw [if_pos ⟨a, ha, hc⟩, if_pos ⟨a, by omega, hc⟩]
      · rw [if_neg e2, if_neg]
        rintro ⟨a, ha, hc⟩
        by_cases e3 : a = t
        · exact e (by rw [← hc, e3])
        · exact e2 ⟨a, by omega, hc⟩
theorem bey_in {F NL : Nat → Nat → Rat} {l : List Nat} (h : l.Nodup) {r a : Nat} (ha : a < l.length) : beyRow F NL l r (at1 l a) = -(shareV F NL l r a) := by
  unfold beyRow
  rw [bey_zip, bey_fold h _ _ _ (Nat.le_refl _), if_pos ⟨a, ha, rfl⟩, ext_at h ha]
theorem bey_out {F NL : Nat → Nat → Rat} {l : List Nat} (h : l.Nodup) {r c : Nat} (hc : c ∉ l) : beyRow F NL l r c = uni r c := by
  unfold beyRow
  rw [bey_zip, bey_fold h _ _ _ (Nat.le_refl _), if_neg]
  rintro ⟨a, ha, e⟩
  exact hc (e ▸ at1_mem ha)
theorem bey_zero {n : Nat} {F NL : Nat → Nat → Rat} {l : List Nat} (h : Lot n l) (sF : Sym n F) (hi : IsInv l.length (partF F l) NL) {z : Nat} (hz : z < (restL n l).length) {a : Nat} (ha : a < l.length) : app n F (beyRow F NL l (at1 (restL n l) z)) (at1 l a) = 0 := by
  have hzm := at1_mem hz
  have hzn := (rest_mem.mp hzm).1
  unfold app
  rw [sum_parts h]
  rw [sum_congr (n := l.length) (g := fun b => (-1) * (partF F l a b * shareV F NL l (at1 (restL n l) z) b)) fun b hb => by
    show F (at1 l a) (at1 l b) * beyRow F NL l (at1 (restL n l) z) (at1 l b) = _
    rw [bey_in h.nodup hb]
    show _ = (-1) * (F (at1 l a) (at1 l b) * _)
    grind, sum_mul]
  have e1 : (sum l.length fun b => partF F l a b * shareV F NL l (at1 (restL n l) z) b) = F (at1 (restL n l) z) (at1 l a) := hi.r (fun b => F (at1 (restL n l) z) (at1 l b)) a ha
  rw [e1, sum_one hz fun y hy hne => by
    show F (at1 l a) (at1 (restL n l) y) * beyRow F NL l (at1 (restL n l) z) (at1 (restL n l) y) = 0
    rw [bey_out h.nodup (rest_mem.mp (at1_mem hy)).2]
    unfold uni
    rw [if_neg fun e => hne (at1_inj rest_nodup hy hz e)]; grind]
  rw [bey_out h.nodup (rest_mem.mp hzm).2, sF _ _ (at1_lt h ha) hzn]
  unfold uni
  rw [if_pos rfl]; grind
/-- what lies beyond a lot is the back of the back's part -/
theorem bey_inv {n : Nat} {F N NL K : Nat → Nat → Rat} {l : List Nat} (h : Lot n l) (sF : Sym n F) (hN : IsInv n F N) (hi : IsInv l.length (partF F l) NL) (hK : IsInv (restL n l).length (partF N (restL n l)) K) : ∀ x y, x < (restL n l).length → y < (restL n l).length → bil n F (beyRow F NL l (at1 (restL n l) x)) (beyRow F NL l (at1 (restL n l) y)) = K x y := by
  let g := (restL n l).length
  let r := at1 (restL n l)
  let ρ := fun x => beyRow F NL l (r x)
  have hd : ∀ x z, x < g → z < g → ρ x (r z) = if z = x then 1 else 0 := fun x z hx hz => by
    show beyRow F NL l (r x) (r z) = _
    rw [bey_out h.nodup (rest_mem.mp (at1_mem hz)).2]
    unfold uni
    by_cases c : z = x
    · rw [if_pos c, if_pos (by rw [c])]
    · rw [if_neg c, if_neg fun e => c (at1_inj rest_nodup hz hx e)]
  have hbil : ∀ x y, x < g → y < g → bil n F (ρ x) (ρ y) = app n F (ρ y) (r x) := fun x y hx hy => by
    unfold bil dotF
    rw [sum_parts h, sum_zero' fun a ha => by
      show ρ x (at1 l a) * app n F (ρ y) (at1 l a) = 0
      rw [show app n F (ρ y) (at1 l a) = 0 from bey_zero h sF hi hy ha]; grind]
    rw [sum_one hx fun z hz hne => by
      show ρ x (r z) * app n F (ρ y) (r z) = 0
      rw [hd x z hx hz, if_neg hne]; grind]
    show 0 + ρ x (r x) * app n F (ρ y) (r x) = _
    rw [hd x x hx hx, if_pos rfl]; grind
  have key : ∀ y, y < g → ∀ x, x < g → app g (partF N (restL n l)) (fun z => bil n F (ρ z) (ρ y)) x = uni y x := fun y hy x hx => by
    have h1 : app n N (app n F (ρ y)) (r x) = ρ y (r x) := hN.l _ _ ((rest_mem.mp (at1_mem hx)).1)
    rw [hd y x hy hx] at h1
    unfold app at h1
    rw [sum_parts h, sum_zero' fun a ha => by
      show N (r x) (at1 l a) * app n F (ρ y) (at1 l a) = 0
      rw [show app n F (ρ y) (at1 l a) = 0 from bey_zero h sF hi hy ha]; grind] at h1
    have e : app g (partF N (restL n l)) (fun z => bil n F (ρ z) (ρ y)) x = sum g fun z => N (r x) (r z) * app n F (ρ y) (r z) := sum_congr fun z hz => by
      show N (r x) (r z) * bil n F (ρ z) (ρ y) = _
      rw [hbil z y hz hy]
    rw [e]
    have h2 : (sum g fun z => N (r x) (r z) * app n F (ρ y) (r z)) = if x = y then 1 else 0 := by
      have : ∀ q : Rat, 0 + q = q := fun q => by grind
      rw [← h1, this]
      rfl
    rw [h2]
    rfl
  intro x y hx hy
  have e1 : bil n F (ρ x) (ρ y) = app g K (app g (partF N (restL n l)) fun z => bil n F (ρ z) (ρ y)) x := (hK.l (fun z => bil n F (ρ z) (ρ y)) x hx).symm
  show bil n F (ρ x) (ρ y) = K x y
  rw [e1, app_congr (x' := uni y) (key y hy), app_uni hy]
end Ev

set_option Elab.async false
set_option linter.all false
set_option maxRecDepth 100000
set_option maxHeartbeats 4000000
set_option autoImplicit false
set_option exponentiation.threshold 10000
/-! the law's third part -/
namespace Ev
open PySem
def idF (q : Rat) : Nat → Nat → Rat := fun i j => q * Ident i j
theorem app_ident {n : Nat} {x : Nat → Rat} {i : Nat} (hi : i < n) : app n Ident x i = x i := by
  unfold app
  rw [sum_one hi fun l _ c => by simp [Ident, show ¬ i = l from fun z => c z.symm]]
  simp [Ident]
theorem app_idF {n : Nat} {x : Nat → Rat} {q : Rat} {i : Nat} (hi : i < n) : app n (idF q) x i = q * x i := by
  unfold idF
  rw [appF_mul, app_ident hi]
theorem inv_idF {n : Nat} {q r : Rat} (h : q * r = 1) : IsInv n (idF q) (idF r) := by
  constructor
  · intro x i hi
    rw [app_idF hi, app_idF hi, ← Rat.mul_assoc, h, Rat.one_mul]
  · intro x i hi
    rw [app_idF hi, app_idF hi, ← Rat.mul_assoc, Rat.mul_comm r, h, Rat.one_mul]
theorem sym_ident {n : Nat} : Sym n Ident := fun a b _ _ => by
  unfold Ident
  by_cases c : a = b
  · rw [if_pos c, if_pos c.symm]
  · rw [if_neg c, if_neg (fun z => c z.symm)]
theorem pd_ident {n : Nat} : Pd n Ident := by
  have h := firm_pd (n := n) (j := 0) (w := fun _ => 0) (R := fun _ _ => 0) fun i hi => by omega
  refine h.congr fun i j _ _ => ?_
  show (0 : Rat) + Ident i j = Ident i j
  grind
theorem pd_idF {n : Nat} {q : Rat} (h : 0 < q) : Pd n (idF q) := fun x hx => by
  unfold idF
  rw [quad, bilF_mul]
  exact mul_pos' h (pd_ident x hx)
theorem sz_idF {n a : Nat} {q : Rat} (h : QQ a q) : Sz (1 + a) n n (idF q) := Sz.mul ⟨1, ident_sz n⟩ h
theorem lens {n : Nat} {l : List Nat} (h : Lot n l) : l.length + (restL n l).length = n := by
  have e := sum_parts h fun _ => 1
  have s1 : ∀ k : Nat, sum k (fun _ => (1 : Rat)) = (k : Rat) := by
    intro k
    induction k with
    | zero => rfl
    | succ k ih => rw [sum, ih]; simp
  rw [s1, s1, s1] at e
  have : ((n : Nat) : Rat) = ((l.length + (restL n l).length : Nat) : Rat) := by rw [e]; simp
  exact (Rat.natCast_inj.mp this).symm
theorem Sz.had {a b n : Nat} {F H : Nat → Nat → Rat} (z : Sz a n n F) (y : Sz b n n H) : Sz (a + b) n n fun i j => F i j * H i j := by
  obtain ⟨d, d0, d1, q⟩ := z
  obtain ⟨e, e0, e1, p⟩ := y
  exact ⟨d * e, Nat.mul_pos d0 e0, pow_add_lt d1 e1, fun i j hi hj => (q i j hi hj).mul (p i j hi hj)⟩
theorem e_listR {g : GC} {a : Ex} {ρ : Env} {S S1 : Store} {xs : List D} (h : ev g a ρ S = some (packG [] xs, S1)) : ev g (.listR a) ρ S = some ([.lst xs], S1) := by
  rw [ev, h]; simp [packG, unG, gNat]
section
variable {k : Nat}
theorem walk_three {S S1 S2 : Store} {c n cnt : Nat} {lF : List D} {l : List Nat} {TF TH TL W1 W2 W2' V TI FH X P PF PH PW I2 I23 : D}
    (len : seqOf S TF = some lF) (hlF : lF.length = n) (hn : n ≤ 1000)
    (a1 : ∀ S, callF defs cs97 k i_beside_each_other [TF, TH] S = some (W1, S)) (a2 : callF defs cs97 k i_beside_each_other [W1, TL] S = some (V, S)) (a3 : callF defs cs97 k i_beside_each_other [TH, TL] S = some (W2, S)) (a4 : callF defs cs97 k i_beside_each_other [TF, W2] S = some (V, S))
    (a5 : callF defs cs97 k i_plain_table [natD n] S = some (TI, S)) (a6 : callF defs cs97 k i_beside_each_other [TH, TF] S = some (W2', S)) (a7 : callF defs cs97 k i_beside_each_other [TL, W2'] S = some (V, S)) (a8 : callF defs cs97 k i_plus_tables [TF, TH] S = some (FH, S)) (a9 : callF defs cs97 k i_is_over [FH, W1] S = some (.bl true, S)) (a10 : callF defs cs97 k i_times_places [TF, V] S = some (X, S)) (a11 : callF defs cs97 k i_is_never_below [X] S = some (.bl true, S))
    (same : callF defs cs97 k i__law_same [.lst [V, V, .bl true, .bl true], .lst [V, V, .bl true, .bl true]] S = some (.bl true, S))
    (b1 : ev (G k) (.bin .add (.int 1) (.call 86 (.cons (.var 0) (.cons (.var 4) .nil)))) [some (.cell c), some TF, some TH, some TL, some (natD n), some V, some V, some TI, some (.lst [V, V, .bl true, .bl true]), none, none, none, none, none] S = some ([natD cnt], S1))
    (b2 : callF defs cs97 k i__law_pick [.cell c, .lst ((List.range n).map natD), natD cnt] S1 = some (.lst (l.map natD), S2)) (hl : l.length < 64)
    (c1 : callF defs cs97 k i_part_of [TF, lotD (sortN l)] S2 = some (PF, S2)) (c2 : callF defs cs97 k i_part_of [TH, lotD (sortN l)] S2 = some (PH, S2)) (c3 : callF defs cs97 k i_beside_each_other [PF, PH] S2 = some (P, S2)) (c4 : callF defs cs97 k i_part_of [W1, lotD (sortN l)] S2 = some (PW, S2)) (c5 : callF defs cs97 k i_is_over [P, PW] S2 = some (.bl true, S2))
    (d1 : ev (G k) (.and (.cmp .ne (.var 12) (.tupE .nil)) (.cmp .ne (.call 75 (.cons (.var 10) (.cons (.var 9) .nil))) (.call 65 (.cons (.call 75 (.cons (.var 1) (.cons (.var 9) .nil))) (.cons (.call 75 (.cons (.var 2) (.cons (.var 9) .nil))) .nil))))) [some (.cell c), some TF, some TH, some TL, some (natD n), some V, some V, some TI, some (.lst [V, V, .bl true, .bl true]), some (lotD (sortN l)), some W1, some P, some (lotD (restL n (sortN l))), none] S2 = some ([.bl false], S2))
    (e1 : callF defs cs97 k i_times_table [TI, .tup [.int 2, .int 1]] S2 = some (I2, S2)) (e2 : callF defs cs97 k i_beside_each_other [TI, I2] S2 = some (I23, S2)) (e3 : callF defs cs97 k i_times_table [TI, .tup [.int 2, .int 3]] S2 = some (I23, S2)) (e4 : eqD S2 I23 I23 = some true) :
    exec (G k) b__law_three_right [some (.cell c), some TF, some TH, some TL, none, none, none, none, none, none, none, none, none, none] S = some (.rt (.bl true) S2) := by
  refine x_seq (x_asg (e_lenN (n := n) (e_var rfl) len hlF)) ?_
  refine x_seq (x_par2 (e_args2 (e_call (e_args2 (e_call (e_args2 (e_var rfl) (e_var rfl)) (a1 S)) (e_var rfl)) a2) (e_call (e_args2 (e_var rfl) (e_call (e_args2 (e_var rfl) (e_var rfl)) a3)) a4))) ?_
  refine x_seq (x_asg (e_call (e_args1 (e_var rfl)) a5)) ?_
  refine x_seq (x_asg (d := .lst [V, V, .bl true, .bl true]) (S1 := S) (e_lstE (e_cons (e_var rfl) (e_cons (e_call (e_args2 (e_var rfl) (e_call (e_args2 (e_var rfl) (e_var rfl)) a6)) a7) (e_cons (e_call (e_args2 (e_call (e_args2 (e_var rfl) (e_var rfl)) a8) (e_call (e_args2 (e_var rfl) (e_var rfl)) (a1 S))) a9) (e_cons (e_call (e_args1 (e_call (e_args2 (e_var rfl) (e_var rfl)) a10)) a11) e_nil)))))) ?_
  show exec (G k) _ [some (.cell c), some TF, some TH, some TL, some (natD n), some V, some V, some TI, some (.lst [V, V, .bl true, .bl true]), none, none, none, none, none] S = _
  refine x_seq (x_iteF (S1 := S) (e_nt (b := true) (e_call (xs := [.lst [V, V, .bl true, .bl true], .lst [V, V, .bl true, .bl true]]) (S1 := S) (e_args2 (e_var rfl) (e_lstE (e_cons (e_var rfl) (e_cons (e_var rfl) (e_cons e_bl (e_cons e_bl e_nil)))))) same)) x_done) ?_
  refine x_seq (x_asg (d := lotD (sortN l)) (S1 := S2) (e_tuple (e_sorted (l := l) (e_call (e_args3 (e_var rfl) (e_listR (e_rng1 (e_var rfl) hn)) b1) b2) rfl hl) rfl)) ?_
  refine x_seq (x_asg (e_call (e_args2 (e_var rfl) (e_var rfl)) (a1 S2))) ?_
  refine x_seq (x_asg (e_call (e_args2 (e_call (e_args2 (e_var rfl) (e_var rfl)) c1) (e_call (e_args2 (e_var rfl) (e_var rfl)) c2)) c3)) ?_
  show exec (G k) _ [some (.cell c), some TF, some TH, some TL, some (natD n), some V, some V, some TI, some (.lst [V, V, .bl true, .bl true]), some (lotD (sortN l)), some W1, some P, none, none] S2 = _
  refine x_seq (x_iteF (S1 := S2) (e_nt (b := true) (e_call (e_args2 (e_var rfl) (e_call (e_args2 (e_var rfl) (e_var rfl)) c4)) c5)) x_done) ?_
  have hgone : ev (G k) (.tuple (.lc (.var 13) (.nm 13) (.rng1 (.var 4)) (.cmp .ntIn (.var 13) (.var 9)) [13])) [some (.cell c), some TF, some TH, some TL, some (natD n), some V, some V, some TI, some (.lst [V, V, .bl true, .bl true]), some (lotD (sortN l)), some W1, some P, none, none] S2 = some ([lotD (restL n (sortN l))], S2) := by
    refine e_tuple (x := .lst ((restL n (sortN l)).map natD)) ?_ rfl
    refine e_lcIf (gd := []) natD natD (fun a => !decide (a ∈ sortN l)) (List.range n) (e_rng1 (e_var rfl) hn) (by simp [most]; omega) fun a ha => ?_
    refine ⟨_, by simp [setT, wipeE]; rfl, e_cmp (e_var rfl) (e_var rfl) ?_, fun _ => e_var rfl⟩
    simp [cmpD, in_lot]
  refine x_seq (x_asg hgone) ?_
  refine x_seq (x_iteF (S1 := S2) d1 x_done) ?_
  exact x_seqR (x_ret (e_cmp (e_call (e_args2 (e_var rfl) (e_call (e_args2 (e_var rfl) (e_frac e_int e_int)) e1)) e2) (e_call (e_args2 (e_var rfl) (e_frac e_int e_int)) e3) e4))
end
end Ev

set_option Elab.async false
set_option linter.all false
set_option maxRecDepth 100000
set_option maxHeartbeats 4000000
set_option autoImplicit false
set_option exponentiation.threshold 10000
/-! the law's third part -/
namespace Ev
open PySem
theorem two3_lit : D.tup [.int 2, .int 3] = fr (2 / 3) := fr_lit 2 3 (2 / 3) (by decide +kernel) (by decide +kernel)
theorem q_two : QQ 2 (2 : Rat) := ⟨1, by decide, by decide, 2, by decide +kernel, by decide⟩
theorem q_two3 : QQ 2 (2 / 3 : Rat) := ⟨3, by decide, by decide, 2, by decide +kernel, by decide⟩
theorem Dr.part {n : Nat} {F : Nat → Nat → Rat} (f : Dr n F) {l : List Nat} (h : Lot n l) (h0 : l ≠ []) : Dr l.length (partF F l) where
  n0 := List.length_pos_iff.mpr h0
  n3 := by have := h.len; have := f.n3; omega
  z := f.z.part h.lt
  s := sym_part h.lt f.s
  p := pd_part h.nodup h.lt f.p
section
variable {k : Nat}
/-- the back of a table beyond a lot -/
theorem s_bey (hk : 14 ≤ k) (S : Store) {a b n : Nat} {F N : Nat → Nat → Rat} {l : List Nat} (t : Tbl a b n F N) (n3 : n ≤ 3) (ha : a ≤ 270) (h : Lot n l) (h0 : l ≠ []) (hln : l.length < n) :
    callF defs cs97 k i_beyond_table [tabD (mat n n F), lotD l] S = some (tabD (mat (restL n l).length (restL n l).length (bk (restL n l).length (partF N (restL n l)))), S) := by
  have hl := lens h
  have a1 := t.o.a1
  have m0 : 0 < l.length := List.length_pos_iff.mpr h0
  let NL := bk l.length (partF F l)
  have zP : Sz a l.length l.length (partF F l) := t.o.sz.part h.lt
  have oP : Okt a l.length (partF F l) := okt3 m0 (by omega) t.o.a1 (by omega) zP (sym_part h.lt t.o.sym)
  have tP := tbl3 (by omega) oP (pd_part h.nodup h.lt t.p)
  have sN := t.i.sym t.o.sym
  have rl : ∀ i ∈ restL n l, i < n := restL_lt
  have pR := pd_part (rest_nodup (n := n) (l := l)) rl (t.i.pd t.p)
  have iR := lawBk_inv (F := partF N (restL n l)) (show 0 < (restL n l).length by omega) (by omega) (dt_ne (by omega) (by omega) pR.inj)
  have hp : 2 ^ l.length * (a + a + 1) ≤ 4400 := by
    have h1 : 2 ^ l.length * (a + a + 1) ≤ 4 * (a + a + 1) := Nat.mul_le_mul_right _ (by
      have : 2 ^ l.length ≤ 2 ^ 2 := Nat.pow_le_pow_right (by decide) (by omega)
      omega)
    omega
  have := s_beyond_table S (k := k) (by omega) t.o t.p.psd h h0 hln hp tP.i tP.z (by omega)
  rw [mat_congr (bey_inv h t.o.sym t.i tP.i iR)] at this
  exact this
theorem three_right (hk : 20 ≤ k) {S : Store} {m c n : Nat} {F H L : Nat → Nat → Rat} (f : Dr n F) (h : Dr n H) (la : Dr n L) (t : Tape m c S) (hm : m + 100 < 2 ^ 40) : ∃ S', callF defs cs97 k i__law_three_right [.cell c, tabD (mat n n F), tabD (mat n n H), tabD (mat n n L)] S = some (.bl true, S') ∧ Tape (m + 10) c S' ∧ Moved c S S' := by
  obtain ⟨k, rfl, hj⟩ := lev hk
  have n0 := f.n0
  have n3 := f.n3
  have hn : n ≤ 20 := by omega
  let N := bk n F; let M := bk n H; let O := bk n L
  have tF : Tbl 13 42 n F N := f.t
  have tH : Tbl 13 42 n H M := h.t
  have tL : Tbl 13 42 n L O := la.t
  have sN := tF.i.sym tF.o.sym
  have sM := tH.i.sym tH.o.sym
  have sO := tL.i.sym tL.o.sym
  have pN := tF.i.pd f.p; have pM := tH.i.pd h.p; have pO := tL.i.pd la.p
  -- two beside each other
  let NM := addF N M; let MO := addF M O
  have tNM : Tbl 85 258 n NM (bk n NM) := tbl3 n3 (okt3 n0 n3 (by decide) (by decide) (tF.z.add tH.z) (sym_add sN sM)) (pN.add pM.psd)
  have tMO : Tbl 85 258 n MO (bk n MO) := tbl3 n3 (okt3 n0 n3 (by decide) (by decide) (tH.z.add tL.z) (sym_add sM sO)) (pM.add pO.psd)
  let W1 := bk n NM; let W2 := bk n MO
  have tW1 : Tbl 258 85 n W1 NM := tNM.symm n3 (by decide) (by decide)
  have tW2 : Tbl 258 85 n W2 MO := tMO.symm n3 (by decide) (by decide)
  let A3 := addF NM O
  have tA3 : Tbl 128 387 n A3 (bk n A3) := tbl3 n3 (okt3 n0 n3 (by decide) (by decide) (tNM.o.sz.add tL.z) (sym_add tNM.o.sym sO)) (tNM.p.add pO.psd)
  let V := bk n A3
  have e1 : addF N MO = A3 := by funext i j; show N i j + (M i j + O i j) = N i j + M i j + O i j; grind
  have e2 : addF O (addF M N) = A3 := by funext i j; show O i j + (M i j + N i j) = N i j + M i j + O i j; grind
  have e3 : addF M N = NM := addF_comm
  let TF := tabD (mat n n F); let TH := tabD (mat n n H); let TL := tabD (mat n n L); let T1 := tabD (mat n n W1); let T2 := tabD (mat n n W2); let TV := tabD (mat n n V)
  have a1 : ∀ S, callF defs cs97 k i_beside_each_other [TF, TH] S = some (T1, S) := fun S => s_beside S (by omega) tF tH (by decide) tNM.o tNM.i rw_tup rw_tup rw_tup rw_tup rw_tup rw_tup
  have a2 : callF defs cs97 k i_beside_each_other [T1, TL] S = some (TV, S) := s_beside S (by omega) tW1 tL (by decide) tA3.o tA3.i rw_tup rw_tup rw_tup rw_tup rw_tup rw_tup
  have a3 : callF defs cs97 k i_beside_each_other [TH, TL] S = some (T2, S) := s_beside S (by omega) tH tL (by decide) tMO.o tMO.i rw_tup rw_tup rw_tup rw_tup rw_tup rw_tup
  have a4 : callF defs cs97 k i_beside_each_other [TF, T2] S = some (TV, S) := s_beside S (by omega) tF tW2 (by decide) (by rw [e1]; exact tA3.o) (by rw [e1]; exact tA3.i) rw_tup rw_tup rw_tup rw_tup rw_tup rw_tup
  have a5 : callF defs cs97 k i_plain_table [natD n] S = some (tabD (mat n n Ident), S) := s_plain_table S (by omega) n0 hn
  have a6 : callF defs cs97 k i_beside_each_other [TH, TF] S = some (T1, S) := s_beside S (by omega) tH tF (by decide) (by rw [e3]; exact tNM.o) (by rw [e3]; exact tNM.i) rw_tup rw_tup rw_tup rw_tup rw_tup rw_tup
  have e4 : addF O NM = A3 := by rw [← e3]; exact e2
  have a7 : callF defs cs97 k i_beside_each_other [TL, T1] S = some (TV, S) := s_beside S (by omega) tL tW1 (by decide) (by rw [e4]; exact tA3.o) (by rw [e4]; exact tA3.i) rw_tup rw_tup rw_tup rw_tup rw_tup rw_tup
  have zFH := f.z.add h.z
  have a8 : callF defs cs97 k i_plus_tables [TF, TH] S = some (tabD (mat n n (addF F H)), S) := s_plus S (by omega) n0 hn f.s h.s f.z h.z (by decide)
  have a9 : callF defs cs97 k i_is_over [tabD (mat n n (addF F H)), T1] S = some (.bl true, S) :=
    s_is_over S (by omega) zFH tW1.o.sz (sym_add f.s h.s) tW1.o.sym (by decide) (okt3 (a := 27 + (258 + 1) + 1) n0 n3 (by decide) (by decide) (sz_less zFH tW1.o.sz) (sym_less (sym_add f.s h.s) tW1.o.sym)) (duo_plus f.p h.p f.s h.s tF.i tH.i tNM.i) rw_tup rw_tup rw_tup rw_tup rw_tup rw_tup
  have sV : Sym n V := tA3.i.sym tA3.o.sym
  have pV : Pd n V := tA3.i.pd tA3.p
  let X : Nat → Nat → Rat := fun i j => F i j * V i j
  have a10 : callF defs cs97 k i_times_places [TF, TV] S = some (tabD (mat n n X), S) := s_times_places S (by omega) n0 hn f.s sV f.z tA3.z (by decide) (by decide)
  have a11 : callF defs cs97 k i_is_never_below [tabD (mat n n X)] S = some (.bl true, S) :=
    s_is_never_below S (by omega) (okt3 (a := 13 + 387) n0 n3 (by decide) (by decide) (f.z.had tA3.z) fun i j hi hj => by show F i j * V i j = F j i * V j i; rw [f.s i j hi hj, sV i j hi hj]) (times_psd pV.psd n F f.p.psd f.s fun i j hi hj hx => by omega) rw_tup rw_tup rw_tup
  have same : callF defs cs97 k i__law_same [.lst [TV, TV, .bl true, .bl true], .lst [TV, TV, .bl true, .bl true]] S = some (.bl true, S) := s_same S 4 (by omega) _ (by
    have h1 := sm_tab 0 n V hn
    have hb : ∀ b, smD 3 (.bl b) = true := fun b => rfl
    simp only [smD, List.all_cons, List.all_nil, Bool.and_true, Bool.and_eq_true, hb]
    exact ⟨by simp, h1, h1⟩)
  -- the lot
  obtain ⟨r, S1, hr, hc1, t1, m1⟩ := s_take (k := k) (by omega) t (by omega) n0 (by omega)
  obtain ⟨ps, S2, hc2, t2, m2, hpl, p', hperm⟩ := s_pick (k := k) (by omega) t1 (by omega) (List.range n) (by simp; omega) (1 + r) (by simp; omega)
  have hnd : ps.Nodup := by
    have := hperm.nodup_iff.mpr List.nodup_range
    exact (List.nodup_append.mp this).1
  have hlt : ∀ i ∈ ps, i < n := fun i hi => by
    have := hperm.mem_iff.mp (List.mem_append_left p' hi)
    exact List.mem_range.mp this
  let l := sortN ps
  have hlot : Lot n l := sortN_lot hnd hlt
  have hll : l.length = 1 + r := by rw [← hpl]; exact (sortN_perm ps).length_eq
  have h0 : l ≠ [] := fun z => by
    have : l.length = 0 := by rw [z]; rfl
    omega
  have fP := f.part hlot h0
  have hP := h.part hlot h0
  let mm := l.length
  let NL := bk mm (partF F l); let ML := bk mm (partF H l)
  have tFP : Tbl 13 42 mm (partF F l) NL := fP.t
  have tHP : Tbl 13 42 mm (partF H l) ML := hP.t
  have sNL := tFP.i.sym tFP.o.sym
  have sML := tHP.i.sym tHP.o.sym
  have tP : Tbl 85 258 mm (addF NL ML) (bk mm (addF NL ML)) := tbl3 fP.n3 (okt3 fP.n0 fP.n3 (by decide) (by decide) (tFP.z.add tHP.z) (sym_add sNL sML)) ((tFP.i.pd fP.p).add (tHP.i.pd hP.p).psd)
  let P := bk mm (addF NL ML)
  have sP := tP.i.sym tP.o.sym
  have c1 : callF defs cs97 k i_part_of [TF, lotD l] S2 = some (tabD (mat mm mm (partF F l)), S2) := s_part_of S2 (by omega) n0 hn f.s hlot h0
  have c2 : callF defs cs97 k i_part_of [TH, lotD l] S2 = some (tabD (mat mm mm (partF H l)), S2) := s_part_of S2 (by omega) n0 hn h.s hlot h0
  have c3 : callF defs cs97 k i_beside_each_other [tabD (mat mm mm (partF F l)), tabD (mat mm mm (partF H l))] S2 = some (tabD (mat mm mm P), S2) := s_beside S2 (by omega) tFP tHP (by decide) tP.o tP.i rw_tup rw_tup rw_tup rw_tup rw_tup rw_tup
  have c4 : callF defs cs97 k i_part_of [T1, lotD l] S2 = some (tabD (mat mm mm (partF W1 l)), S2) := s_part_of S2 (by omega) n0 hn tW1.o.sym hlot h0
  have zW := tW1.o.sz.part hlot.lt
  have sW := sym_part hlot.lt tW1.o.sym
  have c5 : callF defs cs97 k i_is_over [tabD (mat mm mm P), tabD (mat mm mm (partF W1 l))] S2 = some (.bl true, S2) :=
    s_is_over S2 (by omega) tP.z zW sP sW (by decide) (okt3 (a := 258 + (258 + 1) + 1) fP.n0 fP.n3 (by decide) (by decide) (sz_less tP.z zW) (sym_less sP sW)) (parts_over f.p h.p f.s h.s tF.i tH.i tNM.i hlot.lt tFP.i tHP.i tP.i) rw_tup rw_tup rw_tup rw_tup rw_tup rw_tup
  have hlens := lens hlot
  -- beyond the lot
  have d1 : ev (G k) (.and (.cmp .ne (.var 12) (.tupE .nil)) (.cmp .ne (.call 75 (.cons (.var 10) (.cons (.var 9) .nil))) (.call 65 (.cons (.call 75 (.cons (.var 1) (.cons (.var 9) .nil))) (.cons (.call 75 (.cons (.var 2) (.cons (.var 9) .nil))) .nil))))) [some (.cell c), some TF, some TH, some TL, some (natD n), some TV, some TV, some (tabD (mat n n Ident)), some (.lst [TV, TV, .bl true, .bl true]), some (lotD l), some T1, some (tabD (mat mm mm P)), some (lotD (restL n l)), none] S2 = some ([.bl false], S2) := by
    by_cases hr0 : restL n l = []
    · refine e_andF (e_cmp (e_var rfl) (e_tupE e_nil) ?_)
      rw [hr0]
      have := eqD_yes S2 (n := 1) (d := .tup []) (by decide) rfl
      have e0 : lotD [] = .tup [] := rfl
      simp [cmpD, e0, this]
    · have g0 : 0 < (restL n l).length := List.length_pos_iff.mpr hr0
      let g := (restL n l).length
      have rl : ∀ i ∈ restL n l, i < n := restL_lt
      have b1 := s_bey (k := k) (by omega) S2 tW1 n3 (by decide) hlot h0 (by omega)
      have b2 := s_bey (k := k) (by omega) S2 tF n3 (by decide) hlot h0 (by omega)
      have b3 := s_bey (k := k) (by omega) S2 tH n3 (by decide) hlot h0 (by omega)
      have tN : Tbl 42 129 g (partF N (restL n l)) (bk g (partF N (restL n l))) := tbl3 (by omega) (okt3 g0 (by omega) (by decide) (by decide) (tF.z.part rl) (sym_part rl sN)) (pd_part rest_nodup rl pN)
      have tM : Tbl 42 129 g (partF M (restL n l)) (bk g (partF M (restL n l))) := tbl3 (by omega) (okt3 g0 (by omega) (by decide) (by decide) (tH.z.part rl) (sym_part rl sM)) (pd_part rest_nodup rl pM)
      have tNM2 : Tbl 85 258 g (addF (partF N (restL n l)) (partF M (restL n l))) (bk g (addF (partF N (restL n l)) (partF M (restL n l)))) := tbl3 (by omega) (okt3 g0 (by omega) (by decide) (by decide) (tN.o.sz.add tM.o.sz) (sym_add tN.o.sym tM.o.sym)) (tN.p.add tM.p.psd)
      have b4 : callF defs cs97 k i_beside_each_other [tabD (mat g g (bk g (partF N (restL n l)))), tabD (mat g g (bk g (partF M (restL n l))))] S2 = some (tabD (mat g g (bk g (partF NM (restL n l)))), S2) := s_beside S2 (by omega) (tN.symm (by omega) (by decide) (by decide)) (tM.symm (by omega) (by decide) (by decide)) (by decide) tNM2.o tNM2.i rw_tup rw_tup rw_tup rw_tup rw_tup rw_tup
      refine e_andT (S1 := S2) (e_cmp (e_var rfl) (e_tupE e_nil) ?_) (e_cmp (e_call (e_args2 (e_var rfl) (e_var rfl)) b1) (e_call (e_args2 (e_call (e_args2 (e_var rfl) (e_var rfl)) b2) (e_call (e_args2 (e_var rfl) (e_var rfl)) b3)) b4) ?_)
      · have := eqD_no S2 (n := 1) (m := 1) (d := lotD (restL n l)) (e := .tup []) (by decide) (by decide) (lay_lot 0 _) rfl fun z => hr0 (lot_inj (m := []) z)
        simp [cmpD, this]
      · have := eqD_yes S2 (n := 3) (d := tabD (mat g g (bk g (partF NM (restL n l))))) (by decide) (lay_tab 0 _)
        exact congrArg (Option.map (!·)) this
  -- the plain one
  have tI : Tbl 1 1 n Ident Ident := ⟨okt3 n0 n3 (by decide) (by decide) ⟨1, ident_sz n⟩ sym_ident, pd_ident, ⟨fun x i hi => by rw [app_ident hi, app_ident hi], fun x i hi => by rw [app_ident hi, app_ident hi]⟩, ⟨1, ident_sz n⟩⟩
  have tI2 : Tbl 3 3 n (idF 2) (idF (1 / 2)) := ⟨okt3 n0 n3 (by decide) (by decide) (sz_idF q_two) (sym_mul sym_ident), pd_idF (by decide), inv_idF (by decide +kernel), sz_idF q_half⟩
  have eI : addF Ident (idF (1 / 2)) = idF (3 / 2) := by
    funext i j
    show Ident i j + 1 / 2 * Ident i j = 3 / 2 * Ident i j
    grind
  have f1 : callF defs cs97 k i_times_table [tabD (mat n n Ident), .tup [.int 2, .int 1]] S2 = some (tabD (mat n n (idF 2)), S2) := s_times_table S2 (c := 2) (by omega) n0 hn sym_ident ⟨1, ident_sz n⟩ q_two (by decide) (by decide)
  have f2 : callF defs cs97 k i_beside_each_other [tabD (mat n n Ident), tabD (mat n n (idF 2))] S2 = some (tabD (mat n n (idF (2 / 3))), S2) := s_beside S2 (by omega) tI tI2 (by decide) (okt3 (a := 5) n0 n3 (by decide) (by decide) (tI.z.add tI2.z) (sym_add sym_ident (sym_mul sym_ident))) (by rw [eI]; exact inv_idF (by decide +kernel)) rw_tup rw_tup rw_tup rw_tup rw_tup rw_tup
  have f3 : callF defs cs97 k i_times_table [tabD (mat n n Ident), .tup [.int 2, .int 3]] S2 = some (tabD (mat n n (idF (2 / 3))), S2) := by
    rw [two3_lit]
    exact s_times_table S2 (c := 2 / 3) (by omega) n0 hn sym_ident ⟨1, ident_sz n⟩ q_two3 (by decide) (by decide)
  have f4 : eqD S2 (tabD (mat n n (idF (2 / 3)))) (tabD (mat n n (idF (2 / 3)))) = some true := eqD_yes S2 (n := 3) (by decide) (lay_tab 0 _)
  have hb1 : ev (G k) (.bin .add (.int 1) (.call 86 (.cons (.var 0) (.cons (.var 4) .nil)))) [some (.cell c), some TF, some TH, some TL, some (natD n), some TV, some TV, some (tabD (mat n n Ident)), some (.lst [TV, TV, .bl true, .bl true]), none, none, none, none, none] S = some ([natD (1 + r)], S1) := by
    refine e_bin e_int (e_call (e_args2 (e_var rfl) (e_var rfl)) hc1) ?_
    show some (D.int (1 + (r : Int))) = some (natD (1 + r))
    have : (1 + (r : Int)) = ((1 + r : Nat) : Int) := by omega
    rw [this]
    rfl
  refine ⟨S2, ?_, t2.mono (by omega), m1.trans m2⟩
  refine call_mv (c := c) (S1 := S2) t__law_three_right rfl rfl (S' := S2) ?_ rfl (List.take_of_length_le (by rw [(m1.trans m2).len]; omega)) (m1.trans m2)
  exact walk_three (lF := (mat n n F).map rowD) rfl (by simp) (by omega) a1 a2 a3 a4 a5 a6 a7 a8 a9 a10 a11 same hb1 hc2 (by rw [hpl]; omega) c1 c2 c3 c4 c5 d1 f1 f2 f3 f4
end
end Ev

set_option Elab.async false
set_option linter.all false
set_option maxRecDepth 100000
set_option maxHeartbeats 4000000
set_option autoImplicit false
set_option exponentiation.threshold 10000
/-! the law -/
namespace Ev
open PySem
theorem lc_none {α : Type} {E C : Env → Store → Option (D × Store)} {tg : Tg} {ρ : Env} (h : α → D) (Inv : Nat → Store → Prop) (hs : ∀ j a S, Inv j S → ∃ ρ1, setT tg [h a] ρ = some ρ1 ∧ ∃ S', C ρ1 S = some (.bl false, S') ∧ Inv (j + 1) S') : ∀ (l : List α) (j : Nat) (S : Store) (acc : List D), Inv j S → ∃ S', lcL E C tg ρ [] (l.map h) S acc = some (acc, S') ∧ Inv (j + l.length) S'
  | [], j, S, acc, hi => ⟨S, by simp [lcL], hi⟩
  | a :: l, j, S, acc, hi => by
    obtain ⟨ρ1, h1, S', h2, h3⟩ := hs j a S hi
    obtain ⟨S2, h4, h5⟩ := lc_none (E := E) (C := C) (tg := tg) (ρ := ρ) h Inv hs l (j + 1) S' acc h3
    refine ⟨S2, ?_, by rw [List.length_cons, show j + (l.length + 1) = j + 1 + l.length by omega]; exact h5⟩
    have hk : kept [] S S' := fun n hn => by cases hn
    simp only [List.map_cons, lcL, h1, Option.bind_some, h2]
    rw [if_pos hk, h4]
section
variable {k : Nat}
theorem s_right (hk : 22 ≤ k) {S : Store} {m c : Nat} (t : Tape m c S) (hm : m + 300 < 2 ^ 40) : ∃ S', callF defs cs97 k i__law_right [.cell c] S = some (.bl true, S') ∧ Tape (m + 100) c S' ∧ Moved c S S' := by
  obtain ⟨k, rfl, hj⟩ := lev hk
  obtain ⟨r, S1, hr, h1, t1, m1⟩ := s_take (k := k) (by omega) t (by omega) (show 0 < 3 by decide) (by decide)
  let n := 1 + r
  have n3 : n ≤ 3 := by omega
  have n0 : 0 < n := by omega
  obtain ⟨F, S2, f1, t2, m2, f2, f3, f4⟩ := s_firm (k := k) (by omega) t1 (by omega) n3
  obtain ⟨H, S3, g1, t3, m3, g2, g3, g4⟩ := s_firm (k := k) (by omega) t2 (by omega) n3
  obtain ⟨L, S4, l1, t4, m4, l2, l3, l4⟩ := s_firm (k := k) (by omega) t3 (by omega) n3
  have f : Dr n F := ⟨n0, n3, f2, f3, f4⟩
  have h : Dr n H := ⟨n0, n3, g2, g3, g4⟩
  have la : Dr n L := ⟨n0, n3, l2, l3, l4⟩
  obtain ⟨S5, p1, t5, m5⟩ := two_right (k := k) (by omega) f h t4 (by omega)
  obtain ⟨S6, p2, t6, m6⟩ := shares_right (k := k) (by omega) f h t5 (by omega)
  obtain ⟨S7, p3, t7, m7⟩ := three_right (k := k) (by omega) f h la t6 (by omega)
  have mv := (((((m1.trans m2).trans m3).trans m4).trans m5).trans m6).trans m7
  refine ⟨S7, ?_, t7.mono (by omega), mv⟩
  refine call_mv (c := c) (S1 := S7) t__law_right rfl rfl (S' := S7) ?_ rfl (List.take_of_length_le (by rw [mv.len]; omega)) mv
  show exec (G k) b__law_right [some (.cell c), none, none, none, none] S = _
  refine x_seq (x_asg (d := natD n) (S1 := S1) (e_bin e_int (e_call (e_args2 (e_var rfl) e_int) h1) ?_)) ?_
  · show some (D.int (1 + (r : Int))) = some (natD (1 + r))
    have : (1 + (r : Int)) = ((1 + r : Nat) : Int) := by omega
    rw [this]
    rfl
  have h3 : exec (G k) (.asgP (.tcons (.nm 2) (.tcons (.nm 3) (.tcons (.nm 4) .tnil))) (.cons (.call 104 (.cons (.var 0) (.cons (.var 1) .nil))) (.cons (.call 104 (.cons (.var 0) (.cons (.var 1) .nil))) (.cons (.call 104 (.cons (.var 0) (.cons (.var 1) .nil))) .nil)))) [some (.cell c), some (natD n), none, none, none] S1 = some (.nx [some (.cell c), some (natD n), some (tabD (mat n n F)), some (tabD (mat n n H)), some (tabD (mat n n L))] S4) := by
    have e := e_args3 (g := G k) (ρ := [some (.cell c), some (natD n), none, none, none]) (e_call (e_args2 (e_var (n := 0) rfl) (e_var (n := 1) rfl)) f1) (e_call (e_args2 (e_var (n := 0) rfl) (e_var (n := 1) rfl)) g1) (e_call (e_args2 (e_var (n := 0) rfl) (e_var (n := 1) rfl)) l1)
    have e : ev (G k) (.cons (.call 104 (.cons (.var 0) (.cons (.var 1) .nil))) (.cons (.call 104 (.cons (.var 0) (.cons (.var 1) .nil))) (.cons (.call 104 (.cons (.var 0) (.cons (.var 1) .nil))) .nil))) [some (.cell c), some (natD n), none, none, none] S1 = some ([tabD (mat n n F), tabD (mat n n H), tabD (mat n n L)], S4) := e
    rw [exec, e]
    simp [setL]
  refine x_seq h3 ?_
  exact x_seqR (x_ret (e_andT (e_call (e_args3 (e_var rfl) (e_var rfl) (e_var rfl)) p1) (e_andT (e_call (e_args3 (e_var rfl) (e_var rfl) (e_var rfl)) p2) (e_call (e_cons (e_var rfl) (e_args3 (e_var rfl) (e_var rfl) (e_var rfl))) p3))))
theorem law_true (hk : 24 ≤ k) (ns : List Int) (hn : ns.length ≤ 63) : callF defs cs97 k 113 [.fz (ns.map .int)] [] = some (.bl true, []) := by
  obtain ⟨k, rfl, hj⟩ := lev hk
  obtain ⟨v, h1⟩ := s_cells (k := k) [] (by omega) ns hn
  obtain ⟨S1, h2, t, h3, h4⟩ := s_box (k := k) [] (by omega) v
  let Inv : Nat → Store → Prop := fun j S => Tape (100 * j) 0 S ∧ j ≤ 2
  let ρ1 : Env := [some (.fz (ns.map .int)), some (.cell 0), none]
  have hr : ∀ S, Tape 0 0 S → ∃ S', Tape 100 0 S' ∧ callF defs cs97 k i__law_right [.cell 0] S = some (.bl true, S') := fun S t => by
    obtain ⟨S', a, b, _⟩ := s_right (k := k) (by omega) t (by decide)
    exact ⟨S', b, a⟩
  have hr2 : ∀ S, Tape 100 0 S → ∃ S', callF defs cs97 k i__law_right [.cell 0] S = some (.bl true, S') := fun S t => by
    obtain ⟨S', a, b, _⟩ := s_right (k := k) (by omega) t (by decide)
    exact ⟨S', a⟩
  obtain ⟨S2, t2, c1⟩ := hr S1 t
  obtain ⟨S3, c2⟩ := hr2 S2 t2
  have hl : ev (G k) (.lc (.int 1) (.nm 2) (.rng1 (.int 2)) (.nt (.call 112 (.cons (.var 1) .nil))) [2]) ρ1 S1 = some ([.lst []], S3) := by
    have hit : ev (G k) (.rng1 (.int 2)) ρ1 S1 = some (packG [] [natD 0, natD 1], S1) := (e_rng1 (n := 2) e_int (by decide)).trans rfl
    have e : unG (packG [] [natD 0, natD 1]) = some ([], [natD 0, natD 1]) := rfl
    have k1 : kept [] S1 S2 := fun n hn => by cases hn
    have k2 : kept [] S2 S3 := fun n hn => by cases hn
    have s1 : setT (.nm 2) [natD 0] (wipeE ρ1 [2]) = some [some (.fz (ns.map .int)), some (.cell 0), some (natD 0)] := by simp [setT, wipeE, ρ1]
    have s2 : setT (.nm 2) [natD 1] (wipeE ρ1 [2]) = some [some (.fz (ns.map .int)), some (.cell 0), some (natD 1)] := by simp [setT, wipeE, ρ1]
    have d1 : ev (G k) (.nt (.call 112 (.cons (.var 1) .nil))) [some (.fz (ns.map .int)), some (.cell 0), some (natD 0)] S1 = some ([.bl false], S2) := e_nt (b := true) (e_call (e_args1 (e_var rfl)) c1)
    have d2 : ev (G k) (.nt (.call 112 (.cons (.var 1) .nil))) [some (.fz (ns.map .int)), some (.cell 0), some (natD 1)] S2 = some ([.bl false], S3) := e_nt (b := true) (e_call (e_args1 (e_var rfl)) c2)
    rw [ev, hit, Option.bind_some, e, Option.bind_some]
    simp only [lcL, s1, s2, d1, d2, sg, Option.bind_some]
    rw [if_pos k1]
    rw [if_pos k2]
    rfl
  have hx : exec (G k) b_law [some (.fz (ns.map .int)), none, none] [] = some (.rt (.bl true) S3) := by
    refine x_seq (x_asg (d := .cell 0) (S1 := S1) (e_call (e_args2 (e_call (e_args2 (e_var rfl) e_int) h1) e_int) h2)) ?_
    refine x_seqR (x_ret (e_cmp hl (e_lstE e_nil) ?_))
    exact eqD_yes S3 (n := 1) (by decide) rfl
  exact call_ret (S' := S3) t_law rfl rfl hx rfl (by rfl)
end
theorem law_pure97 : ∀ ns : List Int, ns.length ≤ 63 → ∃ S', callF defs cs97 40 113 [.fz (ns.map .int)] [] = some (.bl true, S') := fun ns hn => ⟨[], law_true (by decide) ns hn⟩
end Ev

set_option Elab.async false
set_option linter.all false
set_option maxRecDepth 100000
set_option maxHeartbeats 4000000
set_option autoImplicit false
namespace Ev
open PySem PySem.Spec PyProof.Rows L2
abbrev RW97 : PySem.W.OpenLaw := PySem.Challenge.rw_chordsuntold_k97_main_across_whole_backs
abbrev R97 : PySem.W.OpenRow := PySem.W.OpenLaw.row RW97
def tops97 : List Stmt := topOf.map fun i => PySem.Challenge.pw_chordsuntold_k97_main_across_whole_backs.main.body.getD i noSt
def fn97 : List He.DefD := (defs.zip tops97).map fun p => dOf p.1.name p.2
def tups97 : List (Str × List Int) := [("NIL", [0, 1]), ("ONE", [1, 1]), ("HALF", [1, 2]), ("LESS", [-1, 1])]
def ints97 : List (Str × Int) := [("PAIR", 2)]
abbrev hk97 : PySem.W.Hook := hookQ fn97 blts ints97 tups97
def ob97 (s : PySem.W.SharedT) : AlG := obsQ fn97 blts ints97 tups97 (HandSHeadRun.getT s)
theorem ob97_eq (s : PySem.W.SharedT) : ob97 s = hk97.obs s.abs := obsQ_eq (HandSHeadRun.getT_eq s)
theorem all97 : allB defs slotsOf tops97 cns = true := by decide +kernel
def loose97 : List Str := (["Unfit", "NoPaper", "NIL", "ONE", "PAIR", "HALF", "LESS"] : List Str) ++ (defs.take 113).map (·.name)
def lawAt : Nat := topOf.getD 113 0
theorem run97 (w : World) : HandSHeadRun.RunEq R97 (PySem.W.view R97.prog [lawAt]) hk97 ob97 30000 loose97 w := by
  intro os
  kernel_rfl
end Ev

set_option Elab.async false
set_option linter.all false
set_option maxRecDepth 100000
set_option maxHeartbeats 4000000
set_option autoImplicit false
namespace Ev
open PySem PySem.Spec PyProof.Rows L2
def K97 : Nat := 40
theorem law_pure : ∀ ns : List Int, ns.length ≤ 63 → ∃ S', callF defs cs97 K97 113 [.fz (ns.map .int)] [] = some (.bl true, S') := law_pure97
theorem fn_at {i : Nat} {f : Df} (h : defs[i]? = some f) : dOf f.name (tops97.getD i noSt) ∈ fn97 := by
  have hl : i < tops97.length := by
    have := (List.getElem?_eq_some_iff.mp h).1
    have e : defs.length = tops97.length := by decide +kernel
    omega
  have e : (defs.zip tops97)[i]? = some (f, tops97.getD i noSt) := by
    rw [List.getElem?_zip_eq_some]
    exact ⟨h, by rw [List.getD_eq_getElem?_getD, List.getElem?_eq_getElem hl]; rfl⟩
  exact List.mem_map.mpr ⟨_, List.mem_of_getElem? e, rfl⟩
theorem facts97 {P : Program} {w : World} {K : PySem.W.Frag} {h : Heap} {mg : Str → Option Value} {f : Addr} (X : K.In h) (G : h.Ns mainGlobals mg) (hfa : mg ("law" : Str) = some (.ref f)) (c : SaysQ fn97 blts ints97 tups97 K) :
    ∃ fd : FuncData, (∀ (s : Shared) (v : Value), BindsTo s fd ⟨[v], []⟩ [("script", v)]) ∧ ∀ base : Heap, K.In base → base.Ns mainGlobals mg → FnOk P w K mg base CX0 K97 f fd ["script"] (spLaw K 63) := by
  have F : ∀ (i : Nat) (f : Df), defs[i]? = some f → ∃ fd, FunD K f.name f.name (argsOf (tops97.getD i noSt)) (bodyOf (tops97.getD i noSt)) (scopeOf (tops97.getD i noSt)) [] [] (He.fAd K (f.name, none)) fd := fun i f hf => by
    obtain ⟨c1, c2, c3⟩ := c.fn _ (fn_at hf) rfl rfl rfl rfl
    exact He.DefD.funD c2 c1
  have hm : ∀ (i : Nat) (f : Df), defs[i]? = some f → mg f.name = some (.ref (He.fAd K (f.name, none))) := fun i f hf => He.glo_ok X G (c.fn _ (fn_at hf) rfl rfl rfl rfl).2.2
  have blt : ∀ x ∈ blts, mg x = none := fun x hx => He.free_ok X G (c.fr x hx)
  have con : ∀ x d, (x, d) ∈ cns → ∃ v u, mg x = some u ∧ RelV v u ∧ ∀ μ H, Is K μ H v d := fun x d hx => by
    have t := fun (y : Str) (ns : List Int) (hy : (y, ns) ∈ tups97) => con_tup X G (c.ts _ hy).2 (c.ts _ hy).1
    have hi := con_int X G (c.is ("PAIR", 2) (List.mem_cons_self ..))
    simp only [cns, List.mem_cons, List.not_mem_nil, or_false] at hx
    rcases hx with hx | hx | hx | hx | hx <;> cases hx
    · exact t "NIL" [0, 1] (by simp [tups97])
    · exact t "ONE" [1, 1] (by simp [tups97])
    · exact hi
    · exact t "HALF" [1, 2] (by simp [tups97])
    · exact t "LESS" [-1, 1] (by simp [tups97])
  have hL : ∃ fL, defs[113]? = some fL ∧ fL.name = ("law" : Str) ∧ fL.ar = 1 ∧ (slotsOf.getD 113 []).take 1 = [("script" : Str)] := by
    refine ⟨⟨"law", 1, (slotsOf.getD 113 []).length, b_law, false⟩, by rfl, rfl, rfl, by decide +kernel⟩
  obtain ⟨fL, hf, hn, har, hps⟩ := hL
  have e : f = He.fAd K (fL.name, none) := by
    have := hm 113 fL hf
    rw [hn] at this
    rw [hfa] at this
    rw [hn]
    cases this; rfl
  subst e
  let o : (base : Heap) → PrOk ⟨P, w, K, mg, base⟩ defs cns := fun base => mkPr (slots := slotsOf) (tops := tops97) all97 F hm blt con
  have hx : ∀ base, ((o base).lk 113 fL hf).ps = [("script" : Str)] := fun base => by
    show (slotsOf.getD 113 []).take fL.ar = _
    rw [har]; exact hps
  have key := fun base => law_facts (slots := slotsOf) (tops := tops97) (o base) (k := K97) (n := 63) hf har law_pure "script" (hx base)
  exact ⟨_, (key h).1, fun base _ _ => (key base).2⟩
end Ev
open PySem PySem.W PySem.Calls PyProof.Rows
theorem PySem.Challenge.cw_chordsuntold_k97_main_across_whole_backs_holds : PySem.Challenge.rw_chordsuntold_k97_main_across_whole_backs.Holds := by
  w_on; o_law
  refine HandSHeadRun.head_any (r := OpenLaw.row PySem.Challenge.rw_chordsuntold_k97_main_across_whole_backs) (q := view (OpenLaw.row PySem.Challenge.rw_chordsuntold_k97_main_across_whole_backs).prog [Ev.lawAt]) (H := Ev.hk97) (ob := Ev.ob97) (M := 30000) (loose := Ev.loose97)
    (d := HandSHeadRun.topDef (OpenLaw.row PySem.Challenge.rw_chordsuntold_k97_main_across_whole_backs).prog Ev.lawAt) (kwd := []) Ev.ob97_eq
    (by kernel_rfl) (fun s => by kernel_rfl) Ev.run97 (by kernel_rfl) (by kernel_rfl) (by kernel_rfl) (by rfl) (by first | assumption | decide +kernel) (by decide +kernel) ⟨rfl, rfl, rfl, rfl, rfl, by decide +kernel⟩ ?hw ?hc
  case hw => w_witness2
  case hc =>
    refine L2.walk_ofE (l := PySem.Challenge.rw_chordsuntold_k97_main_across_whole_backs) (n := 63) (k := Ev.K97) (x := "script") (CX := L2.CX0) rfl (by decide) (by kernel_rfl) ⟨rfl, by decide, by decide⟩ ?F (fun _ _ _ _ z => z)
    intro w mg fa h Y G hmg0
    obtain ⟨K, KX, c⟩ := Y
    have hmg : mg ("law" : PySem.Str) = some (.ref fa) := by
      have e : (HandSHeadRun.topDef (OpenLaw.row PySem.Challenge.rw_chordsuntold_k97_main_across_whole_backs).prog Ev.lawAt).name = ("law" : PySem.Str) := by kernel_rfl
      rw [← e]
      exact hmg0
    obtain ⟨fd, hb, hF⟩ := Ev.facts97 (P := (PySem.Challenge.rw_chordsuntold_k97_main_across_whole_backs).prog) (w := w) KX G hmg c
    exact ⟨K, fd, Ev.spLaw K 63, KX, hb, fun H a ns hl _ hS => ⟨a, ns, rfl, hl, hS, fun _ => rfl⟩, hF⟩

