import PyProof.Rows.All
import Wide.All
import OpenK.AllK
import Wide.FinOn
import HandS.Lambda
import HandS.HotCalls
import HandS.ExcField
import HandS.TryMany
import HandS.Comp
import KE.KTryMore
import HandS.Defaults
import HandS.Nested
import HandS.ForMost
import HandS.ForExc
import HandS.IsInst
import HandS.Deep
import HandS.CallSlots
import HandS.Wide
import HandS.Conv
import HandS.Flow
import HandS.ExcInit
import HandS.ExcValue
import HandS.ExcOwn
import KE.KExcSuper
import KE.KExcInit
import KE.KSuper
import PyProof.NeData
import HandS.TupAny
import HandS.WordsDict
import HandS.SortInts
import HandS.More
import KE.GoesEnum
import HandS.Zip
import HandS.Small
import HandS.MakeKw
import HandS.CallRecv
import HandS.SlotsOwn
import HandS.Style
import HandS.FStr
import HandS.Star
import HandS.Call
import HandS.Iter
import HandS.MakeKwOnly
import HandS.HeadHook1
import HandS.Codes
import HandS.EndOwn
import KE.OsRunLaw
import PySem.Challenge.RW_namehold_k05_labels_narrowed
set_option Elab.async false
set_option linter.all false
set_option maxRecDepth 100000
set_option maxHeartbeats 4000000
section
namespace EnY
open PySem PySem.Spec PyProof.Rows L2
abbrev exNames : List Str := ["code", "value", "key", "name", "line", "most", "subject", "at"]
end EnY

namespace EnY
open PySem PySem.Spec PyProof.Rows L2
def DefH (H : Hp) (params : Arguments) (scope : Scope) (dV : Value) : Prop :=
  (params = ⟨[], [], none, [], [], none, []⟩ ∧ dV = .none) ∨
  ∃ (a0 : Arg) (e0 : Expr) (T : Addr) (i : Int), params = ⟨[], [a0], none, [], [], none, [e0]⟩ ∧ dV = .ref T ∧ H T = some (.tup [.int i]) ∧ scope.names.lookup a0.arg = some .local
end EnY

namespace EnY
open PySem PySem.Spec PyProof.Rows L2
def re (fs : List Addr) (H H' : Hp) : Hp := fun b => if b ∈ fs then H b else H' b
end EnY

namespace En
open PySem PySem.Spec L2

inductive D where
  | non | bl (b : Bool) | int (i : Int) | str (x : Str)
  | lst (xs : List D) | tup (xs : List D)
  | dct (ks : List Key) (ds : List D)
  | obj (c : Nat) (ns : List Nat) (ds : List D)
  | adr (n : Nat)
  | fzl (xs : List D)

structure SX where
  K : PySem.W.Frag
  ca : Nat → Addr
  nm : Nat → Str
  live : Nat → Bool
  hc : List (Str × Addr) := []
  hN : List Str := []
  tbs : List (Addr × Str) := []
  lm : Nat → List Str → Arguments → Expr → Scope → Prop := fun _ _ _ _ _ => False

mutual
def Rp (x : SX) (G : Hp) (io : List Addr) : D → V → Prop
  | .non, v => v = .non
  | .bl b, v => v = .bl b
  | .int i, v => v = .int i
  | .str s, v => v = .str s
  | .lst ds, v => ∃ a vs, v = .ref a ∧ G a = some (.lst vs) ∧ RpL x G io ds vs
  | .fzl ds, v => ∃ a vs, v = .ref a ∧ SqL x.K G a vs ∧ RpL x G io ds vs
  | .tup ds, v => ∃ a vs, v = .ref a ∧ SqT x.K G a vs ∧ RpL x G io ds vs
  | .dct ks ds, v => ∃ a vs o, v = .ref a ∧ G a = some (.frz o (.dK (ks.zip vs))) ∧ vs.length = ks.length ∧ RpL x G io ds vs
  | .obj c ns ds, v => x.live c = true ∧ ∃ a dx vs, v = .ref a ∧ G a = some (.ins (x.ca c) dx ((ns.map x.nm).zip vs)) ∧ vs.length = ns.length ∧ RpL x G io ds vs
  | .adr n, v => ∃ a, v = .ref a ∧ io[n]? = some a
def RpL (x : SX) (G : Hp) (io : List Addr) : List D → List V → Prop
  | [], vs => vs = []
  | d :: ds, vs => ∃ v r, vs = v :: r ∧ Rp x G io d v ∧ RpL x G io ds r
end

def Pre (io io' : List Addr) : Prop := ∃ m, io' = io ++ m
inductive Cell where
  | val (d : D) | ol (ds : List D) | od (ks : List Key) (ds : List D) | lms (ks : List (Nat × List Nat))
inductive MO where
  | bx (ds : List D) | ob (c : Nat) (ns : List Nat) (ds : List D) | dx (ks : List Key) (ds : List D) | dl (ks : List Key) (ds : List D) | ll (ds : List D)
def MO.ds : MO → List D
  | .bx ds => ds
  | .ob _ _ ds => ds
  | .dx _ ds => ds
  | .dl _ ds => ds
  | .ll ds => ds
structure S where
  r : List (Option Cell)
  m : List MO
inductive Out where
  | val (d : D) | fr (o : MO) | vals (ds : List D) | exc (c : Nat) (ns : List Nat) (ds : List D)
  | nx | rt (o : D) | rtf (o : MO) | bk | ct
def MO.d : MO → D
  | .bx ds => .lst ds
  | .ob c ns ds => .obj c ns ds
  | .dx ks ds => .dct ks ds
  | .dl ks ds => .dct ks ds
  | .ll ds => .lst ds
def MO.isX : MO → Bool
  | .dx _ _ => true
  | .ll _ => true
  | _ => false
def frD (o : MO) (s : S) : D × S := match o with
  | .bx ds => (.lst ds, s)
  | .ob c ns ds => (.obj c ns ds, s)
  | .dl ks ds => (.dct ks ds, s)
  | .dx ks ds => (.adr s.m.length, { r := s.r, m := s.m ++ [.dx ks ds] })
  | .ll ds => (.adr s.m.length, { r := s.r, m := s.m ++ [.ll ds] })

structure Fr where
  h : Hp
  g : Hp
  i : List Addr
  z : Hp
def tbA (x : SX) : List Addr := x.tbs.map (·.1)
def TbG (x : SX) (G H : Hp) : Prop := LamX.Tabs x.tbs H ∧ ∀ b ∈ tbA x, G b = none
def MoH (x : SX) : MO → List V → HO → Prop
  | .bx _, vs, h => h = .lst vs
  | .ob c ns _, vs, h => x.live c = true ∧ ∃ dx, h = .ins (x.ca c) dx ((ns.map x.nm).zip vs)
  | .dx ks _, vs, h => h = .dK (ks.zip vs)
  | .dl ks _, vs, h => ∃ o, h = .frz o (.dK (ks.zip vs))
  | .ll _, vs, h => ∃ o, h = .frz o (.lst vs)
def MoL : MO → Prop
  | .bx _ => True
  | .ob _ ns ds => ds.length = ns.length
  | .dx ks ds => ds.length = ks.length
  | .dl ks ds => ds.length = ks.length
  | .ll _ => True
def MemR (x : SX) (G : Hp) (io : List Addr) (H : Hp) (o : MO) (a : Addr) : Prop := ∃ vs h, H a = some h ∧ G a = none ∧ RpL x G io o.ds vs ∧ MoH x o vs h ∧ MoL o
def MemA (x : SX) (G : Hp) (io : List Addr) (H : Hp) (m : List MO) : Prop :=
  m.length = io.length ∧ io.Nodup ∧ ∀ (n : Nat) (o : MO) (a : Addr), m[n]? = some o → io[n]? = some a → MemR x G io H o a

def ExcR (x : SX) (G : Hp) (io : List Addr) (c : Nat) (ns : List Nat) (ds : List D) (cls : Value) (dd : Option Addr) (H : Hp) : Prop :=
  cls = .ref (x.ca c) ∧ ∃ a vs, dd = some a ∧ H a = some (.xd ((ns.map x.nm).zip vs)) ∧ vs.length = ns.length ∧ RpL x G io ds vs

abbrev Res := Option (Out × S)

def bnd (o : Res) (k : D → S → Res) : Res :=
  match o with
  | some (.val d, s) => k d s
  | some (.fr o, s) => k (frD o s).1 (frD o s).2
  | some (.exc c ns ds, s) => some (.exc c ns ds, s)
  | _ => none
def bndA (o : Res) (k : List D → S → Res) : Res :=
  match o with
  | some (.vals ds, s) => k ds s
  | some (.exc c ns ds, s) => some (.exc c ns ds, s)
  | _ => none
end En

namespace En
open PySem PySem.Spec L2

def flat : D → Bool
  | .non => true
  | .bl _ => true
  | .int _ => true
  | .str _ => true
  | _ => false
def okD : Nat → D → Bool
  | n + 1, .lst ds => ds.all (okD n)
  | n + 1, .tup ds => ds.all (okD n)
  | _, .non => true
  | _, .bl _ => true
  | _, .int _ => true
  | _, .str _ => true
  | _, _ => false
mutual
def eqD : D → D → Bool
  | .non, .non => true
  | .bl a, .bl b => a == b
  | .bl a, .int j => (if a then (1 : Int) else 0) == j
  | .int i, .bl b => i == (if b then (1 : Int) else 0)
  | .int i, .int j => i == j
  | .str a, .str b => a == b
  | .lst a, .lst b => eqDs a b
  | .tup a, .tup b => eqDs a b
  | _, _ => false
def eqDs : List D → List D → Bool
  | [], [] => true
  | a :: as, b :: bs => eqD a b && eqDs as bs
  | _, _ => false
end

inductive Bop where | add | sub | mul | div | mod | pow
  deriving DecidableEq
inductive Cop where | eq | ne | lt | le | gt | ge | isin | notin
  deriving DecidableEq
inductive Ty where | int | bool | str | list | tuple | dict | own (c : Nat)
  deriving DecidableEq
inductive Bi where | len | int | all | any | list | tuple | str | bool | repr | sorted | dict
  deriving DecidableEq
inductive Bm where | join | append | insert | index
  deriving DecidableEq

inductive XV where
  | cst (z : Str) | arg (i : Nat)
  deriving DecidableEq
def xvD (ds : List D) : List XV → Option (List D)
  | [] => some []
  | .cst z :: r => match xvD ds r with
    | some es => some (.str z :: es)
    | none => none
  | .arg i :: r => match ds[i]? with
    | some d => match xvD ds r with
      | some es => some (d :: es)
      | none => none
    | none => none
structure WhyC where
  cid : Nat
  tab : List (Str × List Nat)
  cls : List Nat
  deriving DecidableEq
inductive E where
  | var (i : Nat) | mv (i : Nat) | fz (i : Nat) | cst (d : D) | gv (g : Nat)
  | one (a : E) | bop (o : Bop) (a b : E) | neg (a : E) | nt (a : E) | band (a b : E) | bor (a b : E) | ite (c a b : E)
  | cmp (o : Cop) (a b : E) | cmo (o : Cop) (tbl : List (Nat × Nat)) (a b : E) | isb (k : Bool) (a : E) | chn (o p : Cop) (a b c : E) | chn3 (o p q : Cop) (a b c d : E) | isn (a : E) | nin (a : E)
  | ix (a b : E) | sl (a lo hi : E) | fld (a : E) (f : Nat) (cs : List Nat)
  | cal (f : Nat) (as : E) | calk (f n : Nat) (as : E) (m : Nat) (ks : E) | met (tbl : List (Nat × Nat)) (o : E) (n : Nat) (as : E) (m : Nat) (ks : E) | wal | bi (b : Bi) (as : E) | bio (b : Bi) (tbl : List (Nat × Nat)) (a : E) | fmt (a : E) | fst (as : E) | bm (m : Bm) (o as : E)
  | lst (as : E) | tpl (as : E) | isi (a : E) (ts : List Ty)
  | lc (own : List Nat) (tg it cd el : E) | lc2 (own vs1 : List Nat) (tg it cd tg1 it1 cd1 el : E)
  | lkp (p e : E) | lks (p e : E) | bxe (a : E) | emp | con (neg : Bool) (tbl : List (Nat × Nat)) (a b : E)
  | nil | cns (a b : E) | spl (a b : E) | abs | rev (a : E)
  | it (a : E) | rng (a : E) | rng2 (a b : E) | enm (a : E) | zp (a b : E)
  | tn (i : Nat) | tt (is : List Nat)
  | skp | seq (a b : E) | asg (i : Nat) (e : E) | aug (i : Nat) (e : E) | ast (tg e : E) | aso (i : Nat) (e : E) | asb (i : Nat) (e : E) | par (i j : Nat) (a b : E) | sit (o k e : E) | fls (o : E) (f : Nat) (cs : List Nat) (e : E)
  | ret (e : E) | rtn | iff (c a b : E) | frr (tg i b : E) | whl (c b : E) | exp (e : E) | apo (i : Nat) (e : E) | ino (i : Nat) (k e : E)
  | whs (i : Nat) (wc : WhyC) | wh1 (j : Nat) (is : List Nat) (wc : WhyC) | lma (i : Nat) (ks : List (Nat × List Nat)) | lmb (i : Nat) (ks : List (Nat × List Nat))
  | rse (c n : Nat) (ns : List Nat) (vs : List XV) (as : E)

def big : Nat := 16777216
def lookF (f : Nat) : List Nat → List D → Option D
  | n :: ns, d :: ds => if n = f then some d else lookF f ns ds
  | _, _ => none
def fldDs (ns : List Nat) (ds : List D) : List Nat → Option (List D)
  | [] => some []
  | g :: gs => match lookF g ns ds with
    | none => none
    | some d => match fldDs ns ds gs with
      | none => none
      | some r => some (d :: r)
def whyD (wc : WhyC) : Out → Option D
  | .val d => some (.tup [.str "value", d])
  | .fr o => if o.isX then none else some (.tup [.str "value", o.d])
  | .exc c ns ds => if c ∈ wc.cls then (match lookF wc.cid ns ds with
    | some (.str z) => match wc.tab.lookup z with
      | none => none
      | some gs => match fldDs ns ds gs with
        | none => none
        | some xs => some (.tup [.str z, .tup xs])
    | _ => none) else none
  | _ => none
def whsL (P : Nat → List D → List MO → Option (Out × List MO)) (wc : WhyC) : List (Nat × List D) → List MO → List D → Option (List D × List MO)
  | [], m, acc => some (acc, m)
  | (j, ds) :: ls, m, acc => if acc.length < big then (match P j ds m with
    | none => none
    | some (o, m') => match whyD wc o with
      | none => none
      | some d => whsL P wc ls m' (acc ++ [d])) else none
def capD1 (r : List (Option Cell)) : List Nat → Option (List D)
  | [] => some []
  | i :: is => match r[i]? with
    | some (some (.val d)) => match capD1 r is with
      | none => none
      | some ds => some (d :: ds)
    | _ => none
def capsD (r : List (Option Cell)) : List (Nat × List Nat) → Option (List (Nat × List D))
  | [] => some []
  | (j, is) :: ks => match capD1 r is with
    | none => none
    | some ds => match capsD r ks with
      | none => none
      | some ls => some ((j, ds) :: ls)
def subC (c k : Nat) : Bool := c == k || (k == 4 && decide (5 ≤ c) && decide (c ≤ 8)) || (k == 10 && (c == 11 || c == 12)) || (k == 30 && decide (32 ≤ c) && decide (c ≤ 51)) || (k == 31 && (c == 52 || c == 53))
def MO.dv (n : Nat) : MO → D
  | .bx ds => .lst ds
  | .ob c ns ds => .obj c ns ds
  | .dx ks ds => .dct ks ds
  | .dl ks ds => .dct ks ds
  | .ll _ => .adr n
def S.v (s : S) : D → D
  | .adr n => match s.m[n]? with
    | some o => o.dv n
    | none => .adr n
  | d => d
def clsF (s : S) : D → Option (Nat × List Nat × List D)
  | .obj c ns ds => some (c, ns, ds)
  | .adr n => match s.m[n]? with
    | some (.ob c ns ds) => some (c, ns, ds)
    | _ => none
  | _ => none
def fldF (cs : List Nat) (f : Nat) (x : D) (s : S) : Option D := match clsF s x with
  | some (c, ns, ds) => if c ∈ cs then lookF f ns ds else none
  | none => none
def clsN (s : S) (x : D) : Option Nat := match clsF s x with
  | some (c, _, _) => some c
  | none => none
def putN (f : Nat) (d : D) : List Nat → List D → List Nat × List D
  | n :: ns, e :: ds => if n = f then (n :: ns, d :: ds) else ((n :: (putN f d ns ds).1), (e :: (putN f d ns ds).2))
  | _, _ => ([f], [d])
def bxL (s : S) : D → Option (List D)
  | .lst ds => some ds
  | .adr n => match s.m[n]? with
    | some (.bx ds) => some ds
    | _ => none
  | _ => none
def addL (s : S) : Option (List D) → Option (List D) → Res
  | some a, some b => if a.length + b.length ≤ big then some (.fr (.bx (a ++ b)), s) else none
  | _, _ => none
def bopF : Bop → D → D → S → Res
  | .add, .int i, .int j, s => some (.val (.int (i + j)), s)
  | .add, .str a, .str b, s => if a.length + b.length ≤ big then some (.val (.str (a ++ b)), s) else none
  | .add, .lst a, .lst b, s => if a.length + b.length ≤ big then some (.fr (.bx (a ++ b)), s) else none
  | .add, .tup a, .tup b, s => if a.length + b.length ≤ big ∧ a ≠ [] then some (.val (.tup (a ++ b)), s) else none
  | .add, x, y, s => addL s (bxL s x) (bxL s y)
  | .sub, .int i, .int j, s => some (.val (.int (i - j)), s)
  | .mul, .int i, .int j, s => if (-(2 ^ 64) < i ∧ i < 2 ^ 64) ∨ (-(2 ^ 64) < j ∧ j < 2 ^ 64) then some (.val (.int (i * j)), s) else none
  | .mul, .lst a, .int k, s => if -(2 ^ 63) ≤ k ∧ k < 2 ^ 63 ∧ a.length * k.toNat ≤ big then some (.fr (.bx (List.replicate k.toNat a).flatten), s) else none
  | .div, .int i, .int j, s => if 0 < j ∧ j < 1073741824 then some (.val (.int (i / j)), s) else none
  | .mod, .int i, .int j, s => if 0 < j then some (.val (.int (i % j)), s) else none
  | .pow, .int i, .int j, s => if 0 ≤ j ∧ j ≤ 1000000 ∧ i.natAbs < 2 ^ 64 then some (.val (.int (i ^ j.toNat)), s) else none
  | _, _, _, _ => none
def viewL (s : S) : D → Option (List D)
  | .lst ds => some ds
  | .adr n => match s.m[n]? with
    | some (.bx ds) => some ds
    | some (.ll ds) => some ds
    | _ => none
  | _ => none
def viewQ (s : S) : D → Option (List D)
  | .tup ds => some ds
  | d => viewL s d
def keyD : D → Option Key
  | .int i => some (.inl i)
  | .str x => some (.inr x)
  | _ => none
def lookK (k : Key) : List Key → List D → Option D
  | a :: ks, d :: ds => if a = k then some d else lookK k ks ds
  | _, _ => none
def keyV : Key → D
  | .inl i => .int i
  | .inr z => .str z
def viewM (s : S) : D → Option (List Key × List D)
  | .dct ks ds => some (ks, ds)
  | .adr n => match s.m[n]? with
    | some (.dx ks ds) => some (ks, ds)
    | some (.dl ks ds) => some (ks, ds)
    | _ => none
  | _ => none
def putL (k : Key) (e : D) (ks : List Key) (ds : List D) : List Key × List D :=
  if ks.any fun a => decide (a = k) then (ks, List.zipWith (fun a d => if a = k then e else d) ks ds) else (ks ++ [k], ds ++ [e])
def inQ (x y : D) (s : S) : Option Bool := match viewM s y with
  | some (ks, _) => match keyD x with
    | some k => some (ks.any fun a => decide (a = k))
    | none => none
  | none => match viewQ s y with
    | some ds => if flat x && ds.all flat then some (ds.any fun z => eqD z x) else none
    | none => none
def inF (x y : D) (s : S) : Option Bool :=
  match x, y with
  | .str a, .str z => match a.cps.toList with
    | [c] => some (decide (c ∈ z.cps.toList))
    | _ => none
  | x, y => inQ x y s
def cmpF : Cop → D → D → S → Option Bool
  | .eq, x, y, _ => if okD 8 x && okD 8 y then some (eqD x y) else none
  | .ne, x, y, _ => if okD 8 x && okD 8 y then some (!eqD x y) else none
  | .lt, .int i, .int j, _ => some (decide (i < j))
  | .le, .int i, .int j, _ => some (decide (i ≤ j))
  | .gt, .int i, .int j, _ => some (decide (j < i))
  | .ge, .int i, .int j, _ => some (decide (j ≤ i))
  | .isin, x, y, s => inF x y s
  | .notin, x, y, s => (inF x y s).map (!·)
  | _, _, _, _ => none
def resB (s : S) : Option Bool → Res
  | some b => some (.val (.bl b), s)
  | none => none
def resD (s : S) : Option D → Res
  | some d => some (.val d, s)
  | none => none
def ixF (x y : D) (s : S) : Option D :=
  match x, y with
  | .str z, .int i => if z.length ≤ big then (atI z.cps.toList i).map fun c => .str ⟨#[c]⟩ else none
  | x, y => match viewM s x with
    | some (ks, ds) => match keyD y with
      | some k => lookK k ks ds
      | none => none
    | none => match y with
      | .int i => match viewQ s x with
        | some ds => atI ds i
        | none => none
      | _ => none
def cutD (ds : List D) (lo hi : Option Int) : List D := (ds.drop (HT.sIx ds.length 0 lo)).take (HT.sIx ds.length ds.length hi - HT.sIx ds.length 0 lo)
def slF (x : D) (lo hi : Option Int) (s : S) : Res :=
  match x with
  | .str z => if z.length ≤ big then some (.val (.str (cutS z lo hi)), s) else none
  | .tup ds => some (.val (.tup (cutD ds lo hi)), s)
  | .fzl ds => some (.fr (.bx (cutD ds lo hi)), s)
  | x => match viewL s x with
    | some ds => some (.fr (.bx (cutD ds lo hi)), s)
    | none => none
def tyIs : D → Ty → Option Bool
  | .non, t => match t with
    | .own _ => some false
    | _ => some false
  | .bl _, t => match t with
    | .own _ => some false
    | .bool => some true
    | .int => some true
    | _ => some false
  | .int _, t => match t with
    | .own _ => some false
    | .int => some true
    | _ => some false
  | .str _, t => match t with
    | .own _ => some false
    | .str => some true
    | _ => some false
  | .lst _, t => match t with
    | .own _ => some false
    | .list => some true
    | _ => some false
  | .tup _, t => match t with
    | .own _ => some false
    | .tuple => some true
    | _ => some false
  | .dct _ _, t => match t with
    | .own _ => some false
    | .dict => some true
    | _ => some false
  | .obj c _ _, t => match t with
    | .own k => some (subC c k)
    | _ => some false
  | _, _ => none
def tyAny (d : D) : List Ty → Option Bool
  | [] => some false
  | t :: ts => match tyIs d t, tyAny d ts with
    | some b, some c => some (b || c)
    | _, _ => none
def blsOf : List D → Option (List Bool)
  | [] => some []
  | .bl b :: ds => (blsOf ds).map (b :: ·)
  | _ => none
def strsOf : List D → Option (List Str)
  | [] => some []
  | .str b :: ds => (strsOf ds).map (b :: ·)
  | _ => none
def txD : D → Option Str
  | .str z => some z
  | .int i => if i.natAbs.log2 < 1920 then some (toString i : String) else none
  | _ => none
def fstF : List D → Option Str
  | [] => some Str.empty
  | .str y :: ds => match fstF ds with
    | some z => some (y ++ z)
    | none => none
  | _ => none
def leS (a b : Str) : Bool := !ltCps b.cps.toList a.cps.toList
def leI (a b : Int) : Bool := decide (a ≤ b)
def insB {α : Type} (le : α → α → Bool) (x : α) : List α → List α
  | [] => [x]
  | y :: ys => if le x y then x :: y :: ys else y :: insB le x ys
def srtB {α : Type} (le : α → α → Bool) : List α → List α
  | [] => []
  | x :: xs => insB le x (srtB le xs)
def intsOf : List D → Option (List Int)
  | [] => some []
  | .int i :: ds => (intsOf ds).map (i :: ·)
  | _ => none
def srtD (ds : List D) : Option (List D) := match strsOf ds with
  | some ys => if ys.length < 64 then some ((srtB leS ys).map D.str) else none
  | none => match intsOf ds with
    | some is => some ((srtB leI is).map D.int)
    | none => none
def biF : Bi → List D → S → Res
  | .len, [.str z], s => if z.length ≤ big then some (.val (.int z.length), s) else none
  | .len, [x], s => match viewM s x with
    | some (ks, _) => some (.val (.int ks.length), s)
    | none => match viewQ s x with
      | some ds => some (.val (.int ds.length), s)
      | none => none
  | .int, [.int i], s => some (.val (.int i), s)
  | .int, [.bl b], s => some (.val (.int (if b then 1 else 0)), s)
  | .all, [x], s => match viewL s x with
    | some ds => match blsOf ds with
      | some bs => some (.val (.bl (bs.all id)), s)
      | none => none
    | none => none
  | .any, [x], s => match viewL s x with
    | some ds => match blsOf ds with
      | some bs => some (.val (.bl (bs.any id)), s)
      | none => none
    | none => none
  | .list, [x], s => match viewM s x with
    | some (ks, _) => some (.fr (.bx (ks.map keyV)), s)
    | none => match viewQ s x with
      | some ds => some (.fr (.bx ds), s)
      | none => none
  | .dict, [x], s => match viewM s x with
    | some (ks, ds) => if ds.length = ks.length then some (.fr (.dx ks ds), s) else none
    | none => none
  | .tuple, [.tup ds], s => some (.val (.tup ds), s)
  | .tuple, [x], s => match viewL s x with
    | some ds => some (.val (.tup ds), s)
    | none => none
  | .str, [.int i], s => if i.natAbs.log2 < 1920 then some (.val (.str (toString i : String)), s) else none
  | .bool, [.bl b], s => some (.val (.bl b), s)
  | .sorted, [x], s => match viewL s x with
    | some ds => match srtD ds with
      | some es => some (.fr (.bx es), s)
      | none => none
    | none => none
  | _, _, _ => none
def bmR : Bm → D → S → Bool
  | .join, .str _, _ => true
  | .join, _, _ => false
  | _, x, s => (viewL s x).isSome
def bmF : Bm → D → List D → S → Res
  | .join, .str a, [x], s => match viewQ s x with
    | some ds => match strsOf ds with
      | some ys => if (ys.map (·.length)).sum + ys.length * a.length ≤ big then some (.val (.str (Txt.join a ys)), s) else none
      | none => none
    | none => none
  | .append, .adr n, [y], s => match s.m[n]? with
    | some (.bx ds) => if ds.length < big then some (.val .non, { s with m := s.m.set n (.bx (ds ++ [y])) }) else none
    | _ => none
  | .insert, .adr n, [.int i, y], s => match s.m[n]? with
    | some (.bx ds) => if ds.length < big ∧ 0 ≤ i ∧ i < 2 ^ 62 then some (.val .non, { s with m := s.m.set n (.bx (ds.take i.toNat ++ [y] ++ ds.drop i.toNat)) }) else none
    | _ => none
  | .index, x, [y], s => match viewL s x with
    | some ds => if flat y && ds.all flat then (match ds.findIdx? fun z => eqD z y with
      | some j => some (.val (.int (j : Nat)), s)
      | none => none) else none
    | none => none
  | _, _, _, _ => none

def S.set (s : S) (i : Nat) (c : Option Cell) : S := { s with r := s.r.set i c }
def storeAll : List Nat → List D → S → Option S
  | [], [], s => some s
  | i :: is, d :: ds, s => storeAll is ds (s.set i (some (.val d)))
  | _, _, _ => none
def store : E → D → S → Option S
  | .tn i, d, s => some (s.set i (some (.val d)))
  | .tt is, .tup ds, s => storeAll is ds s
  | .tt is, .lst ds, s => storeAll is ds s
  | _, _, _ => none
def wipeR (r : List (Option Cell)) : List Nat → List (Option Cell)
  | [] => r
  | v :: vs => (wipeR r vs).set v none
def valR : List (Option Cell) → List (Option Cell)
  | [] => []
  | some (.val d) :: r => some (.val d) :: valR r
  | _ :: r => none :: valR r
def compL (st : D → S → Option S) (cd el : S → Res) (r : List (Option Cell)) : List D → List D → List MO → Res
  | [], acc, m => some (.fr (.bx acc), ⟨r, m⟩)
  | d :: ds, acc, m => match st d ⟨r, m⟩ with
    | none => none
    | some s1 => bnd (cd s1) fun c s2 => match c with
      | .bl true => bnd (el s2) fun y s3 => if acc.length < big then compL st cd el r ds (acc ++ [y]) s3.m else none
      | .bl false => compL st cd el r ds acc s2.m
      | _ => none
def compL2 (st : D → S → Option S) (cd : S → Res) (inn : List D → S → Res) (r : List (Option Cell)) : List D → List D → List MO → Res
  | [], acc, m => some (.fr (.bx acc), ⟨r, m⟩)
  | d :: ds, acc, m => match st d ⟨r, m⟩ with
    | none => none
    | some s1 => bnd (cd s1) fun c s2 => match c with
      | .bl true => (match inn acc s2 with
        | some (.fr (.bx acc2), s3) => compL2 st cd inn r ds acc2 s3.m
        | _ => none)
      | .bl false => compL2 st cd inn r ds acc s2.m
      | _ => none
def whlL (c b : S → Res) : Nat → S → Res
  | 0, _ => none
  | n + 1, s => bnd (c s) fun x s => match x with
    | .bl true => (match b s with
      | some (.nx, s2) => whlL c b n s2
      | some (.ct, s2) => whlL c b n s2
      | some (.bk, s2) => some (.nx, s2)
      | r => r)
    | .bl false => some (.nx, s)
    | _ => none
def forL (st : D → S → Option S) (body : S → Res) : List D → S → Res
  | [], s => some (.nx, s)
  | d :: ds, s => match st d s with
    | none => none
    | some s1 => match body s1 with
      | some (.nx, s2) => forL st body ds s2
      | some (.ct, s2) => forL st body ds s2
      | some (.bk, s2) => some (.nx, s2)
      | r => r
def itemsOf : D → Option (List D)
  | .dct ks _ => some (ks.map keyV)
  | .str z => some (z.cps.toList.map fun c => .str ⟨#[c]⟩)
  | .lst ds => some ds
  | .tup ds => some ds
  | _ => none
def itF (x : D) (s : S) : Option (List D) := match x with
  | .adr n => match s.m[n]? with
    | some (.dl ks _) => some (ks.map keyV)
    | some (.ll ds) => some ds
    | _ => none
  | x => itemsOf x
def unlk (n : Nat) (o : Res) : Res := match o with
  | some (.val d, s) => match s.m[n]? with
    | some (.dl ks ds) => some (.val d, { s with m := s.m.set n (.dx ks ds) })
    | some (.ll ds) => some (.val d, { s with m := s.m.set n (.bx ds) })
    | _ => none
  | some (.fr q, s) => match s.m[n]? with
    | some (.dl ks ds) => some (.fr q, { s with m := s.m.set n (.dx ks ds) })
    | some (.ll ds) => some (.fr q, { s with m := s.m.set n (.bx ds) })
    | _ => none
  | _ => none
def bkO : Option MO → Option MO
  | some (.dl ks ds) => some (.dx ks ds)
  | some (.ll ds) => some (.bx ds)
  | _ => none
def isEnd : Out → Bool
  | .nx => true
  | .bk => true
  | .ct => true
  | .rt _ => true
  | .rtf _ => true
  | _ => false
def unlkS (n : Nat) : Res → Res
  | some (o, s) => if isEnd o then (bkO s.m[n]?).map fun q => (o, { s with m := s.m.set n q }) else none
  | none => none
def bxF : Res → Res
  | some (.fr o, s) => some (.val (.adr s.m.length), { r := s.r, m := s.m ++ [o] })
  | r => r
def lstOf : D → Option (List D)
  | .lst ds => some ds
  | .tup ds => some ds
  | _ => none
def zipOf : D → D → Option (List D)
  | .lst ds, .lst es => some (List.zipWith (fun p q => .tup [p, q]) ds es)
  | .tup ds, .tup es => some (List.zipWith (fun p q => .tup [p, q]) ds es)
  | _, _ => none
def enumF : Nat → List D → List D
  | _, [] => []
  | n, d :: ds => .tup [.int n, d] :: enumF (n + 1) ds
def asoK (i : Nat) : MO → S → Res
  | .bx ds, s => some (.nx, s.set i (some (.ol ds)))
  | _, _ => none
def isAbs : E → Bool
  | .abs => true
  | _ => false
def prt (b : Bool) (o : Res) (s : S) (k : Option Int → S → Res) : Res :=
  match b with
  | true => k none s
  | false => bnd o fun d s => match d with
    | .int i => k (some i) s
    | _ => none
section
variable (P : Nat → List D → List MO → Option (Out × List MO)) (Gm : Nat → D)
def nfD (c : Nat) : D → Bool
  | .fzl _ => false
  | .adr _ => false
  | .obj k _ _ => k == c || !subC k c
  | _ => true
def callF (f : Nat) (ds : List D) (s : S) : Res :=
  match P f ds s.m with
  | some (.val d, m) => some (.val d, { s with m := m })
  | some (.fr o, m) => some (.fr o, { s with m := m })
  | some (.exc c ns es, m) => some (.exc c ns es, { s with m := m })
  | _ => none
def callB (neg : Bool) (f : Nat) (ds : List D) (s : S) : Res :=
  match P f ds s.m with
  | some (.val (.bl b), m) => some (.val (.bl (neg != b)), { s with m := m })
  | _ => none
def bioOk : Bi → D → Bool
  | .len, .int i => decide (0 ≤ i) && decide (i < 9223372036854775808)
  | .bool, .bl _ => true
  | .repr, .str _ => true
  | _, _ => false
def bioB : Bi → Bool
  | .len => true
  | .bool => true
  | .repr => true
  | _ => false
def callV (b : Bi) (f : Nat) (x : D) (s : S) : Res :=
  match P f [x] s.m with
  | some (.val d, m) => if bioOk b d then some (.val d, { s with m := m }) else none
  | _ => none
def cmoF (o : Cop) (tbl : List (Nat × Nat)) (x y : D) (s : S) : Res := match clsN s x with
  | some c => match tbl.lookup c with
    | some i => if nfD c (s.v y) then (match o with
      | .eq => callB P false i [x, y] s
      | .ne => callB P true i [x, y] s
      | _ => none) else none
    | none => none
  | none => match clsN s y with
    | some _ => none
    | none => resB s (cmpF o x y s)
def conF (neg : Bool) (tbl : List (Nat × Nat)) (x y : D) (s : S) : Res := match clsN s y with
  | some c => match tbl.lookup c with
    | some i => callB P neg i [y, x] s
    | none => none
  | none => resB s (cmpF (if neg then .notin else .isin) x y s)
def bioF (b : Bi) (tbl : List (Nat × Nat)) (x : D) (s : S) : Res := match clsN s x with
  | some c => match tbl.lookup c with
    | some i => if bioB b then callV P b i x s else none
    | none => none
  | none => biF b [x] s
def pathV : E → S → Option D
  | .var i, s => match s.r[i]? with
    | some (some (.val d)) => some d
    | _ => none
  | .fld a f cs, s => match pathV a s with
    | some x => fldF cs f x s
    | none => none
  | _, _ => none
def ev : E → S → Res
  | .var i, s => match s.r[i]? with
    | some (some (.val d)) => some (.val d, s)
    | _ => none
  | .mv i, s => match s.r[i]? with
    | some (some (.ol ds)) => some (.fr (.bx ds), s.set i none)
    | _ => none
  | .fz i, s => match s.r[i]? with
    | some (some (.ol ds)) => some (.val (.lst ds), s.set i (some (.val (.lst ds))))
    | some (some (.val d)) => some (.val d, s)
    | _ => none
  | .cst d, s => if flat d then some (.val d, s) else none
  | .gv g, s => some (.val (Gm g), s)
  | .one a, s => ev a s
  | .bop o a b, s => bnd (ev a s) fun x s => bnd (ev b s) fun y s => bopF o x y s
  | .neg a, s => bnd (ev a s) fun x s => match x with
    | .int i => some (.val (.int (-i)), s)
    | _ => none
  | .nt a, s => bnd (ev a s) fun x s => match x with
    | .bl b => some (.val (.bl (!b)), s)
    | _ => none
  | .band a b, s => bnd (ev a s) fun x s => match x with
    | .bl c => if c then ev b s else some (.val (.bl false), s)
    | _ => none
  | .bor a b, s => bnd (ev a s) fun x s => match x with
    | .bl c => if c then some (.val (.bl true), s) else ev b s
    | _ => none
  | .ite c a b, s => bnd (ev c s) fun x s => match x with
    | .bl c => if c then ev a s else ev b s
    | _ => none
  | .cmp o a b, s => bnd (ev a s) fun x s => bnd (ev b s) fun y s => resB s (cmpF o x y s)
  | .cmo o tbl a b, s => bnd (ev a s) fun x s => bnd (ev b s) fun y s => cmoF P o tbl x y s
  | .emp, s => some (.fr (.dx [] []), s)
  | .con neg tbl a b, s => bnd (ev a s) fun x s => bnd (ev b s) fun y s => conF P neg tbl x y s
  | .isb k a, s => bnd (ev a s) fun x s => match x with
    | .bl b => some (.val (.bl (b == k)), s)
    | _ => none
  | .chn o p a b c, s => bnd (ev a s) fun x s => bnd (ev b s) fun y s => match cmpF o x y s with
    | some true => bnd (ev c s) fun z s => resB s (cmpF p y z s)
    | some false => some (.val (.bl false), s)
    | none => none
  | .chn3 o p q a b c d, s => bnd (ev a s) fun x s => bnd (ev b s) fun y s => match cmpF o x y s with
    | some true => bnd (ev c s) fun z s => match cmpF p y z s with
      | some true => bnd (ev d s) fun w s => resB s (cmpF q z w s)
      | some false => some (.val (.bl false), s)
      | none => none
    | some false => some (.val (.bl false), s)
    | none => none
  | .isn a, s => bnd (ev a s) fun x s => match x with
    | .non => some (.val (.bl true), s)
    | _ => some (.val (.bl false), s)
  | .nin a, s => bnd (ev a s) fun x s => match x with
    | .non => some (.val (.bl false), s)
    | _ => some (.val (.bl true), s)
  | .ix a b, s => bnd (ev a s) fun x s => bnd (ev b s) fun y s => resD s (ixF x y s)
  | .sl a lo hi, s => bnd (ev a s) fun x s => prt (isAbs lo) (ev lo s) s fun l s => prt (isAbs hi) (ev hi s) s fun h s => slF x l h s
  | .fld a f cs, s => bnd (ev a s) fun x s => resD s (fldF cs f x s)
  | .met tbl o n as m ks, s => bnd (ev o s) fun x s => match clsN s x with
    | some c => match tbl.lookup c with
      | some i => bndA (ev as s) fun ds s => bndA (ev ks s) fun es s => if ds.length = n ∧ es.length = m then callF P i ((x :: ds) ++ es) s else none
      | none => none
    | none => none
  | .spl a b, s => bnd (ev a s) fun x s => match viewQ s x with
    | some ds => bndA (ev b s) fun es s => some (.vals (ds ++ es), s)
    | none => none
  | .rev a, s => bnd (ev a s) fun x s => match viewL s x with
    | some ds => some (.fr (.bx ds.reverse), s)
    | none => none
  | .abs, s => some (.val .non, s)
  | .cal f as, s => bndA (ev as s) fun ds s => callF P f ds s
  | .calk f n as m ks, s => bndA (ev as s) fun ds s => bndA (ev ks s) fun es s => if ds.length = n ∧ es.length = m then callF P f (ds ++ es) s else none
  | .bi b as, s => bndA (ev as s) fun ds s => biF b ds s
  | .bio b tbl a, s => bnd (ev a s) fun x s => bioF P b tbl x s
  | .fmt a, s => bnd (ev a s) fun x s => match txD x with
    | some y => if y.length ≤ 100000 then some (.val (.str y), s) else none
    | none => none
  | .fst as, s => bndA (ev as s) fun ds s => match fstF ds with
    | some z => some (.val (.str z), s)
    | none => none
  | .bm m o as, s => bnd (ev o s) fun x s => if bmR m x s then bndA (ev as s) fun ds s => bmF m x ds s else none
  | .lst as, s => bndA (ev as s) fun ds s => if ds.length ≤ big then some (.fr (.bx ds), s) else none
  | .tpl as, s => bndA (ev as s) fun ds s => if ds.length ≤ big then some (.val (.tup ds), s) else none
  | .isi a ts, s => bnd (ev a s) fun x s => resB s (tyAny (s.v x) ts)
  | .nil, s => some (.vals [], s)
  | .cns a b, s => bnd (ev a s) fun d s => bndA (ev b s) fun ds s => some (.vals (d :: ds), s)
  | .it a, s => bnd (ev a s) fun x s => match itF x s with
    | some ds => some (.vals ds, s)
    | none => none
  | .lkp p e, s => match pathV p s with
    | some (.adr n) => match s.m[n]? with
      | some (.dx ks ds) => unlk n (ev e { s with m := s.m.set n (.dl ks ds) })
      | some (.bx ds) => unlk n (ev e { s with m := s.m.set n (.ll ds) })
      | _ => ev e s
    | _ => ev e s
  | .lks p e, s => match pathV p s with
    | some (.adr n) => match s.m[n]? with
      | some (.dx ks ds) => unlkS n (ev e { s with m := s.m.set n (.dl ks ds) })
      | some (.bx ds) => unlkS n (ev e { s with m := s.m.set n (.ll ds) })
      | _ => ev e s
    | _ => ev e s
  | .bxe a, s => bxF (ev a s)
  | .rng a, s => bnd (ev a s) fun x s => match x with
    | .int j => if -(2 ^ 62) ≤ j ∧ j < 2 ^ 62 then some (.vals ((List.range j.toNat).map fun (k : Nat) => .int k), s) else none
    | _ => none
  | .rng2 a b, s => bnd (ev a s) fun x s => bnd (ev b s) fun y s => match x, y with
    | .int i, .int j => if -(2 ^ 62) ≤ i ∧ i < 2 ^ 62 ∧ -(2 ^ 62) ≤ j ∧ j < 2 ^ 62 then some (.vals ((List.range (j - i).toNat).map fun (k : Nat) => .int (i + k)), s) else none
    | _, _ => none
  | .enm a, s => bnd (ev a s) fun x s => match lstOf x with
    | some ds => some (.vals (enumF 0 ds), s)
    | none => none
  | .zp a b, s => bnd (ev a s) fun x s => bnd (ev b s) fun y s => match zipOf x y with
    | some ds => some (.vals ds, s)
    | none => none
  | .lc own tg it cd el, s => bndA (ev it s) fun ds s => match compL (store tg) (ev cd) (ev el) (wipeR (valR s.r) own) ds [] s.m with
    | some (.fr (.bx acc), s') => some (.fr (.bx acc), { s with m := s'.m })
    | _ => none
  | .lc2 own vs1 tg it cd tg1 it1 cd1 el, s => bndA (ev it s) fun ds s =>
    match compL2 (store tg) (ev cd) (fun acc s => bndA (ev it1 s) fun ds s => compL (store tg1) (ev cd1) (ev el) (wipeR (valR s.r) vs1) ds acc s.m) (wipeR (valR s.r) own) ds [] s.m with
    | some (.fr (.bx acc), s') => some (.fr (.bx acc), { s with m := s'.m })
    | _ => none
  | .skp, s => some (.nx, s)
  | .seq a b, s => match ev a s with
    | some (.nx, s) => ev b s
    | r => r
  | .asg i e, s => bnd (ev e s) fun d s => some (.nx, s.set i (some (.val d)))
  | .aug i e, s => match s.r[i]? with
    | some (some (.val (.int k))) => bnd (ev e s) fun y s2 => match y with
      | .int j => some (.nx, s2.set i (some (.val (.int (k + j)))))
      | _ => none
    | _ => none
  | .ast tg e, s => bnd (ev e s) fun d s => match store tg d s with
    | some s => some (.nx, s)
    | none => none
  | .aso i e, s => match ev e s with
    | some (.fr o, s) => asoK i o s
    | some (.exc c ns ds, s) => some (.exc c ns ds, s)
    | _ => none
  | .asb i e, s => match ev e s with
    | some (.fr o, s) => some (.nx, { r := s.r.set i (some (.val (.adr s.m.length))), m := s.m ++ [o] })
    | some (.exc c ns ds, s) => some (.exc c ns ds, s)
    | _ => none
  | .par i j a b, s => bnd (ev a s) fun x s => bnd (ev b s) fun y s => some (.nx, (s.set i (some (.val x))).set j (some (.val y)))
  | .sit o k e, s => bnd (ev e s) fun d s => bnd (ev o s) fun x s => bnd (ev k s) fun y s => match x with
    | .adr n => match s.m[n]? with
      | some (.bx ds) => match y with
        | .int i => match ixN ds.length i with
          | some j => some (.nx, { s with m := s.m.set n (.bx (ds.set j d)) })
          | none => none
        | _ => none
      | some (.dx ks ds) => match keyD y with
        | some k => if ks.length < big then some (.nx, { s with m := s.m.set n (.dx (putL k d ks ds).1 (putL k d ks ds).2) }) else none
        | none => none
      | _ => none
    | _ => none
  | .fls o f cs e, s => bnd (ev e s) fun d s => bnd (ev o s) fun x s => match x with
    | .adr n => match s.m[n]? with
      | some (.ob c ns ds) => if c ∈ cs ∧ ns.length < 1000 then some (.nx, { s with m := s.m.set n (.ob c (putN f d ns ds).1 (putN f d ns ds).2) }) else none
      | _ => none
    | _ => none
  | .ret e, s => match ev e s with
    | some (.val d, s) => some (.rt d, s)
    | some (.fr o, s) => some (.rtf o, s)
    | some (.exc c ns ds, s) => some (.exc c ns ds, s)
    | _ => none
  | .rtn, s => some (.rt .non, s)
  | .iff c a b, s => bnd (ev c s) fun x s => match x with
    | .bl c => if c then ev a s else ev b s
    | _ => none
  | .frr tg i b, s => bndA (ev i s) fun ds s => forL (store tg) (ev b) ds s
  | .whl c b, s => whlL (ev c) (ev b) 100000 s
  | .exp e, s => bnd (ev e s) fun _ s => some (.nx, s)
  | .whs i wc, s => match s.r[i]? with
    | some (some (.lms ks)) => match capsD s.r ks with
      | none => none
      | some ls => match whsL P wc ls s.m [] with
        | none => none
        | some (res, m) => some (.fr (.bx res), { s with m := m })
    | _ => none
  | .wh1 j is wc, s => match capD1 s.r is with
    | none => none
    | some ds => match P j ds s.m with
      | none => none
      | some (o, m) => match whyD wc o with
        | none => none
        | some d => some (.val d, { s with m := m })
  | .lma i ks, s => some (.nx, s.set i (some (.lms ks)))
  | .lmb i ks, s => match s.r[i]? with
    | some (some (.lms js)) => if js.length + ks.length < big then some (.nx, s.set i (some (.lms (js ++ ks)))) else none
    | _ => none
  | .rse c n ns vs as, s => bndA (ev as s) fun ds s => if ds.length = n then match xvD ds vs with
    | some es => some (.exc c ns es, s)
    | none => none else none
  | .apo i e, s => match s.r[i]? with
    | some (some (.ol _)) => bnd (ev e s) fun d s => match s.r[i]? with
      | some (some (.ol ds)) => if ds.length < big then some (.nx, s.set i (some (.ol (ds ++ [d])))) else none
      | _ => none
    | _ => none
  | _, _ => none
end
end En

namespace EnX
open PySem PySem.Spec PySem.W PySem.Calls PyProof.Rows
open Builtin Builtin.ObjectAttr

open En (XV)
def xBody (self : Str) (ps : List Str) : List Stmt → List (Str × XV) → Bool
  | [], [] => true
  | .Assign [.Attribute (.Name o _) f _] (.Constant (.str y) _ _) _ :: r, (g, .cst z) :: vs => decide (o = self) && (decide (f = g) && (decide (y = z) && xBody self ps r vs))
  | .Assign [.Attribute (.Name o _) f _] (.Name y _) _ :: r, (g, .arg i) :: vs => decide (o = self) && (decide (f = g) && (decide (ps[i]? = some y) && xBody self ps r vs))
  | _, _ => false
end EnX

namespace En
open PySem PySem.Spec L2
section
variable {X : Cx} {x : SX} {F : Fr} {W : WX}
def tyNames : List String := ["NoneType", "bool", "int", "str", "list", "tuple", "dict"]
end
end En

namespace En
open PySem PySem.Spec L2
structure NT where
  fnm : Nat → Str
  gvn : Nat → Str
  isF : Nat → Bool
  isK : Nat → Bool
  isM : Nat → Bool
  fl : List Str
  fa : Nat → Nat → Bool
  me : Nat → Nat → Option (Str × Nat × List Str)
  gone : Nat → Bool
  live : Nat → Bool
  cn : Nat → Str
  kn : Nat → Nat
  kk : Nat → List Str
  xq : Str → Nat → Option (Nat × List Nat × List XV) := fun _ _ => none
  wc : Option WhyC := none
  wc1 : Option WhyC := none
  lmk : Nat → List Str → Arguments → Expr → Scope → Bool := fun _ _ _ _ _ => false
def NT.nm (nt : NT) (j : Nat) : Str := nt.fl.getD j ""
structure Tb where
  x : SX
  lv : Nat
  nt : NT
  prog : Program
  w : World
  mg : Str → Option Value
  base : Heap
  P : Nat → List D → List MO → Option (Out × List MO)
  Gm : Nat → D

def Gh (x : SX) (G H : Hp) : Prop := Same G H ∧ TbG x G H
def FF (x : SX) (H G : Hp) (io : List Addr) (m' : List MO) (H' G' : Hp) (io' : List Addr) : Prop :=
  Gh x G' H' ∧ MemA x G' io' H' m' ∧ (∀ b o, H b = some o → b ∉ io → b ∉ tbA x → H' b = some o) ∧ (∀ b, H b ≠ none → G' b = G b) ∧ Pre io io' ∧
    (∀ (n : Nat) (a : Addr), io.length ≤ n → io'[n]? = some a → H a = none) ∧ ∀ b o u, H b = some (.frz o u) → H' b = some (.frz o u)
def PostF (x : SX) (H G : Hp) (io : List Addr) (r : Option (Out × List MO)) (Q : VK) (E : XK) : Prop :=
  match r with
  | some (.val d, m') => ∀ v H' G' io', FF x H G io m' H' G' io' → Rp x G' io' d v → Q v H'
  | some (.fr o, m') => ∀ a H' G' io', FF x H G io m' H' G' io' → a ∉ io' → H a = none → (∃ vs h, H' a = some h ∧ G' a = none ∧ RpL x G' io' o.ds vs ∧ MoH x o vs h ∧ MoL o) → Q (.ref a) H'
  | some (.exc c ns ds, m') => ∀ cls dd H' G' io', FF x H G io m' H' G' io' → ExcR x G' io' c ns ds cls dd H' → E cls dd H'
  | _ => False
def spL (x : SX) (Pf : List D → List MO → Option (Out × List MO)) (vs : List V) (c' : Addr) (q : Str) (params : Arguments) (scope : Scope) (dV : Value) : Hp → VK → XK → Prop := fun H Q E =>
  H c' = some (LamX.CodeO c' q) ∧ EnY.DefH H params scope dV ∧ ∃ ds m G io, Gh x G H ∧ MemA x G io H m ∧ RpL x G io ds vs ∧ PostF x H G io (Pf ds m) Q E
end En

namespace En
open PySem PySem.Spec L2
structure LI where
  j : Nat
  ds : List D
  vs : List V
  c' : Addr
  q : Str
  params : Arguments
  scope : Scope
  dV : Value
def LI.sp (x : SX) (P : Nat → List D → List MO → Option (Out × List MO)) (fs : List Addr) (l : LI) : Hp → VK → XK → Prop := fun H Q E => (∀ f ∈ fs, H f = none) → spL x (P l.j) l.vs l.c' l.q l.params l.scope l.dV H Q E
end En

namespace En
open PySem PySem.Spec L2
def mapO {α β : Type} (f : α → Option β) : List α → Option (List β)
  | [] => some []
  | a :: as => match f a with
    | none => none
    | some b => match mapO f as with
      | none => none
      | some bs => some (b :: bs)
mutual
def mapD (f : Nat → Option D) : D → Option D
  | .lst ds => (mapDs f ds).map D.lst
  | .tup ds => (mapDs f ds).map D.tup
  | .fzl ds => (mapDs f ds).map D.fzl
  | .dct ks ds => (mapDs f ds).map (D.dct ks)
  | .obj c ns ds => (mapDs f ds).map (D.obj c ns)
  | .adr j => f j
  | .non => some .non
  | .bl b => some (.bl b)
  | .int i => some (.int i)
  | .str z => some (.str z)
def mapDs (f : Nat → Option D) : List D → Option (List D)
  | [] => some []
  | d :: ds => match mapD f d with
    | none => none
    | some e => match mapDs f ds with
      | none => none
      | some es => some (e :: es)
end
def MO.re (lk : Bool) : MO → Option ((List D → D) × List D)
  | .bx ds => some (D.lst, ds)
  | .ob c ns ds => some (D.obj c ns, ds)
  | .dx ks ds => if lk then some (D.dct ks, ds) else none
  | .dl ks ds => some (D.dct ks, ds)
  | .ll _ => none
def frz (lk : Bool) (m : List MO) (k : Nat) : Nat → Nat → Option D
  | 0, j => if j < k then some (.adr j) else none
  | n + 1, j => if j < k then some (.adr j) else match m[j]? with
    | some o => match o.re lk with
      | some (mk, ds) => (mapDs (frz lk m k n) ds).map mk
      | none => none
    | none => none
def frzM (lk : Bool) (m : List MO) (k : Nat) : MO → Option MO
  | .bx ds => (mapDs (frz lk m k 16) ds).map MO.bx
  | .ob c ns ds => (mapDs (frz lk m k 16) ds).map (MO.ob c ns)
  | .dx ks ds => (mapDs (frz lk m k 16) ds).map (MO.dx ks)
  | .dl ks ds => (mapDs (frz lk m k 16) ds).map (MO.dl ks)
  | .ll ds => (mapDs (frz lk m k 16) ds).map MO.ll
def frzO (lk : Bool) (m : List MO) (k : Nat) : Out → Option Out
  | .val d => (mapD (frz lk m k 16) d).map Out.val
  | .fr o => (frzM lk m k o).map Out.fr
  | .exc c ns ds => (mapDs (frz lk m k 16) ds).map (Out.exc c ns)
  | _ => none
open Classical in
noncomputable def keepM (lk : Bool) (m m0 : List MO) : Option (List MO) := if m.take m0.length = m0 then some m0 else mapO (frzM lk m m0.length) (m.take m0.length)
noncomputable def stow (lk : Bool) (m0 : List MO) : Option (Out × List MO) → Option (Out × List MO)
  | some (o, m) => if m.length = m0.length then some (o, m) else match keepM lk m m0, frzO lk m m0.length o with
    | some m', some o' => some (o', m')
    | _, _ => none
  | none => none
end En

namespace En
open PySem PySem.Spec L2
def fin : Res → Option (Out × List MO)
  | some (.rt d, s) => some (.val d, s.m)
  | some (.rtf o, s) => some (.fr o, s.m)
  | some (.nx, s) => some (.val .non, s.m)
  | some (.exc c ns ds, s) => some (.exc c ns ds, s.m)
  | _ => none
def ini (n : Nat) (ds : List D) : List (Option Cell) := ds.map (fun d => some (.val d)) ++ List.replicate (n - ds.length) none
noncomputable def stowO (m0 : List MO) : Option (Out × List MO) → Option (Out × List MO)
  | some (.exc c ns ds, m) => stow false m0 (some (.exc c ns ds, m))
  | r => stow true m0 r
structure Ent where
  N : Nat
  p : Nat
  c : E
  g : List D → List D
  mkc : Option (Nat × Nat)
noncomputable def mkF (c : Nat) (run : List D → List MO → Option (Out × List MO)) (ds : List D) (m : List MO) : Option (Out × List MO) := match run (.adr m.length :: ds) (m ++ [.ob c [] []]) with
  | some (.val .non, m') => stow false m (some (.val (.adr m.length), m'))
  | some (.exc k ns es, m') => stow false m (some (.exc k ns es, m'))
  | _ => none
noncomputable def runC (P : Nat → List D → List MO → Option (Out × List MO)) (Gm : Nat → D) (N p : Nat) (code : E) (ds : List D) (m : List MO) : Option (Out × List MO) :=
  if ds.length = p then stowO m (fin (ev P Gm code ⟨ini N ds, m⟩)) else none
noncomputable def Pn (Cd : Nat → Option Ent) (Gm : Nat → D) : Nat → Nat → List D → List MO → Option (Out × List MO)
  | 0, _, _, _ => none
  | n + 1, f, ds, m => match Cd f with
    | none => none
    | some e => match e.mkc with
      | none => runC (Pn Cd Gm n) Gm e.N e.p e.c (e.g ds) m
      | some (c, i) => match Cd i with
        | none => none
        | some e2 => mkF c (runC (Pn Cd Gm n) Gm e2.N e2.p e2.c) (e.g ds) m
structure Ld where
  x : SX
  nt : NT
  prog : Program
  w : World
  mg : Str → Option Value
  base : Heap
  Gm : Nat → D
  Cd : Nat → Option Ent
noncomputable def Ld.T (L : Ld) (n : Nat) : Tb := { x := L.x, lv := 4 * n + 4, nt := L.nt, prog := L.prog, w := L.w, mg := L.mg, base := L.base, P := Pn L.Cd L.Gm n, Gm := L.Gm }
end En

namespace En
open PySem PySem.Spec L2
inductive Src where
  | p (i : Nat)
  | k (i : Nat)
  | d (i : Nat)
  | w (i : Nat)
def Src.at {α : Type} (e : α) (us ws ds ms : List α) : Src → α
  | .p i => us.getD i e
  | .k i => ws.getD i e
  | .d i => ds.getD i e
  | .w i => ms.getD i e
def Src.ns : Src → Bool
  | .p 0 => false
  | _ => true
section
variable {K : PySem.W.Frag} {x qual : Str} {params : Arguments} {body : List Stmt} {scope : Scope} {f : Addr} {fd : FuncData}
def isD (K : PySem.W.Frag) : Nat → Value → D → Bool
  | _, .none, .non => true
  | _, .bool b, .bl c => decide (b = c)
  | _, .int i _, .int j => decide (i = j)
  | _, .str y _, .str z => decide (y = z)
  | n + 1, .ref a, .tup ds => match K.lookup a with
    | some ⟨.type t, _, .seq its _, _⟩ => decide (t = "tuple") && (decide (its.size ≤ 1000) && (decide (its.size = ds.length) && (its.toList.zip ds).all fun p => isD K n p.1 p.2))
    | _ => false
  | _, _, _ => false
def dvChk (K : PySem.W.Frag) (dV : Value) (dD : List D) : Bool := match dD, dV with
  | [], .none => true
  | d :: ds, .ref T => match K.lookup T with
    | some ⟨_, _, .seq its _, _⟩ => decide (its.toList.length = (d :: ds).length) && (its.toList.zip (d :: ds)).all fun p => isD K 3 p.1 p.2
    | _ => false
  | _, _ => false
def kvOne (K : PySem.W.Frag) (D0 : Addr) (p : Str × D) : Bool := match PySem.W.nsIn K D0 p.1 with
  | some (some u) => isD K 3 u p.2
  | _ => false
def kvChk (K : PySem.W.Frag) (kV : Value) (names : List Str) (mD : List D) : Bool := match names, kV with
  | [], _ => true
  | m :: ms, .ref D0 => ((m :: ms).zip mD).all (kvOne K D0)
  | _, _ => false
end
section
variable {K : PySem.W.Frag}
def clChk (K : PySem.W.Frag) (C : Addr) : Bool := PySem.W.plainGet K C Str.empty && (PySem.W.hasDictIn K C && (PySem.W.plainOver K C && (He.eqO (PySem.W.findIn K (.ref C) "__setattr__") (some (some (.builtin "object.__setattr__"))) &&
  (He.eqO (PySem.W.findIn K (.ref C) "__class__") (some (some (.builtin "object.__class__"))) && (decide (PySem.W.mroIn K C (.type "object") = some true) && (He.eqO (PySem.W.findIn K (.ref C) "__ne__") (some (some (.builtin "object.__ne__"))) &&
    tyNames.all fun n => decide (PySem.W.kitOne K (.type n) (.ref C) = some false) && decide (PySem.W.kitOne K (.ref C) (.type n) = some false)))))))
def ccChk (K : PySem.W.Frag) (C D : Addr) (b : Bool) : Bool := decide (PySem.W.kitOne K (.ref C) (.ref D) = some b)
def obChk (K : PySem.W.Frag) : Bool := He.eqO (PySem.W.specialIn K (.builtin "object.__class__") "__get__") (some (some (.builtin "getset_descriptor.__get__"))) && decide (PySem.W.takesIn K (.builtin "object.__class__") = some true)
def naChk (K : PySem.W.Frag) (C : Addr) (f : Str) : Bool := He.eqO (PySem.W.findIn K (.ref C) f) (some none)
def mkChk (K : PySem.W.Frag) (C f : Addr) : Bool := PySem.W.makesIn K C && (He.eqO (PySem.W.findIn K (.ref C) "__init__") (some (some (.ref f))) && (PySem.W.isFn K (.ref f) && PySem.W.keepIn K (.ref C)))
def meChk (K : PySem.W.Frag) (C : Addr) (m : Str) (f : Addr) : Bool := He.eqO (PySem.W.findIn K (.ref C) m) (some (some (.ref f))) && (PySem.W.isFn K (.ref f) && PySem.W.keepIn K (.ref f))
end
def goneOf (live : List Nat) (f : Nat) : Bool := decide (f ∉ live)
end En

namespace En
open PySem PySem.Spec L2
def SX.fr (x : SX) (hc : List (Str × Addr)) (hN : List Str) (lm : Nat → List Str → Arguments → Expr → Scope → Prop) : SX := { x with hc := hc, hN := hN, lm := lm }
def Tb.fr (T : Tb) (hc : List (Str × Addr)) (hN : List Str) (wc wc1 : Option WhyC) (lmk : Nat → List Str → Arguments → Expr → Scope → Bool) : Tb :=
  { T with x := T.x.fr hc hN (fun j capN params body scope => lmk j capN params body scope = true), nt := { T.nt with wc := wc, wc1 := wc1, lmk := lmk } }
end En

namespace En
open PySem PySem.Spec PyProof.Rows L2
def xwChk (K : PySem.W.Frag) (C : Addr) (cs : List Value) : Bool := decide (PySem.W.exmAny K (.ref C) cs = some true) && (xfB K C && EnY.exNames.all fun g => naChk K C g)
def tabOf (vs : Array Value) : Addr := match (vs[11]? : Option Value) with
  | some (.ref P) => P
  | _ => 0
def isStrV : Value → Bool
  | .str _ _ => true
  | _ => false
def isIntV : Value → Bool
  | .int _ _ => true
  | _ => false
def isBoolV : Value → Bool
  | .bool _ => true
  | _ => false
def isRefV : Option Value → Bool
  | some (.ref _) => true
  | _ => false
def codB (K : PySem.W.Frag) (c : Addr) (e : Value) (vs : Array Value) : Bool := decide (e = .type "code") && (isRefV vs[11]? && (isStrV (vs.getD 18 .none) && (isIntV (vs.getD 7 .none) && (isBoolV (vs.getD 9 .none) && (isIntV (vs.getD 10 .none) && (decide (c ≠ tabOf vs) && (K.lookup (tabOf vs)).isNone))))))
theorem walk_names {l : PySem.W.OpenLaw} {n k : Nat} {q : Program} {loose : List Str} {XP : (Str → Option Value) → Heap → Prop} {YP : World → Heap → Prop} {d : DefRec} {K : Params → PySem.W.Frag} {CX : World → CXT} {x : Str} {names : List Str}
    (hn : l.most = some n) (hn2 : n ≤ sizeLine) (hdf : d.params.defaults = []) (hr : Room k callerA) (hrec : ∀ nm ∈ names, ((recsOf q).any fun e => e.name == nm) = true) (hY : ∀ (w : World) (h : Heap), YP w h → (K w.params).In h)
    (F : ∀ (w : World) (mg : Str → Option Value) (fa : Addr) (h : Heap), (K w.params).In h → h.Ns mainGlobals mg → mg d.name = some (.ref fa) → (∀ nm ∈ names, ∀ f, mg nm = some (.ref f) → LamX.OwnTab (K w.params) f h) → LamX.LawAtS l w (K w.params) (CX w) k n x mg fa h)
    (hCX : ∀ (w : World) (H : Hp) (s : Shared) (e : Value) (s' : Shared), CX w [] H s (fun _ _ _ => False) e s' → False) :
    PySem.W.WalkO q loose XP YP l.row.toRowW d [] (fun f vs => PySem.call f vs) := by
  refine Att.attach_callB hn hdf fun w s0 s1 mg mb fa o pm cd doc a vs ns G Y ho hd hcd hmg hobj hints hlen hbits hg => ?_
  have KX := hY w _ Y
  have own : ∀ nm ∈ names, ∀ f, mg nm = some (.ref f) → LamX.OwnTab (K w.params) f s1.heap := fun nm hnm f hf c P o1 fd1 e dd vs1 sl k1 k2 k3 k4 k5 => by
    obtain ⟨dL, hm, hn1⟩ := List.any_eq_true.mp (hrec nm hnm)
    have hn2 : dL.name = nm := beq_iff_eq.mp hn1
    obtain ⟨a', o', fd', c', P', h1, h2, h3, h4, h5, h6⟩ := G.T.tab dL hm
    rw [hn2, hf] at h1
    cases h1
    have g1 := KX _ _ k1
    rw [g1] at h2
    cases h2
    rw [k2] at h3
    cases h3
    rw [k3] at h4
    cases h4
    obtain ⟨⟨oc, vc, e1, _, e3, e4⟩, hP⟩ := h6
    have g2 := KX _ _ k4
    rw [g2] at e1
    cases e1
    cases e3
    rw [k5] at e4
    cases e4
    exact hP
  obtain ⟨fd, cs, sp, hT, nT, C, hb, hsp, hF⟩ := F w mg fa _ KX G.T.g hmg own
  exact LamX.law_callTs KX G.T.g G.T.b G.T.builtins G.T.nolimit hg hT nT C G.T.bmain hobj hints (Nat.le_trans hlen hn2) hr hF hb (fun H hH hS => hsp H a ns hlen hbits hH hS) fun H e s' => hCX w H s1 e s'
def tbsB (T : List (Addr × Str)) : Bool := T.all fun p => T.all fun r => !decide (p.1 = r.1) || decide (p.2 = r.2)
end En

namespace En
open PySem PySem.Spec L2
def argN (as : List Arg) : List Str := as.map fun z => z.arg
def xCell (K : PySem.W.Frag) (cc C : Addr) : Bool := match K.lookup cc with
  | some ⟨_, _, .cell (some (.ref D)), _⟩ => decide (D = C)
  | _ => false
def xFile (prog : Program) (K : PySem.W.Frag) (cda : Addr) : Bool := match K.lookup cda with
  | some ⟨_, _, .fields cvs, _⟩ => match (cvs[2]? : Option Value) with
    | some (Value.str file _) => (prog.main.file : Str) == file
    | _ => false
  | _ => false
def xArg (n : Nat) : XV → Bool
  | .arg i => decide (i < n)
  | .cst _ => true
def xInit (prog : Program) (K : PySem.W.Frag) (C fI : Addr) (B newId initId : String) (bmB : List Value) (fd : FuncData) (n : Nat) (fs : List Str) (vs : List XV) : Bool :=
  match fd.code, fd.closure, fd.body, fd.params with
  | .ref cda, [(cn, cc)], .stmts (.Expr (.Call (.Attribute (.Call (.Name su _) [] [] _) ini p2) [.Constant (.str _) _ _] [] p4) _ :: body), ⟨[], a0 :: as, none, [], [], none, []⟩ =>
    decide ((cn = ("__class__" : Str) ∧ su = ("super" : Str) ∧ ini = ("__init__" : Str) ∧ (p2.endLine == p4.line) = true ∧ as.length = n ∧ n ≤ 1 ∧ fd.defaults = .none) ∧
      (PySem.W.excInitIn K C bmB newId = true ∧ PySem.W.ks_superIn K C C "__init__" = some (some (.builtin initId)) ∧ PySem.W.subIn K (.ref C) (.type B) = some true ∧ PySem.W.mroIn K C (.ref C) = some true ∧ PySem.W.nsIn K cStatics "thirdparty.any" = some none ∧ xCell K cc C = true ∧ xFile prog K cda = true) ∧
      (fd.scope.names.lookup ("super" : Str) = some .globalImplicit ∧ fd.scope.names.lookup ("__class__" : Str) = some .free ∧ fd.scope.kind = .function ∧ (prog.main.scope.names.lookup ("super" : Str)).isSome = false ∧ fd.scope.isCoroutine = false ∧ fd.scope.isGenerator = false ∧ (∀ y ∈ fd.scope.names, y.2 ≠ .cell) ∧ (∀ y ∈ a0.arg :: argN as, fd.scope.names.lookup y = some .local ∧ (y == ("__debug__" : Str)) = false)) ∧
      (PySem.W.excOver K C bmB = true ∧ PySem.W.hasDictIn K C = true ∧ PySem.W.findIn K (.ref C) "__setattr__" = some (some (.builtin "object.__setattr__")) ∧ PySem.W.typeIn K (.ref fI) = some (.type "function") ∧ PySem.W.subIn K (.ref C) (.type "BaseException") = some true ∧ PySem.W.typeIn K (.ref C) = some (.type "type") ∧ PySem.W.keepIn K (.ref C) = true) ∧
      (fd.globals = mainGlobals ∧ fd.builtins = builtinsNs ∧ PySem.W.codeIn K (.ref cda) fd.qualname = true ∧ (a0.arg :: argN as).Nodup ∧ fs.length = vs.length ∧ fs.length ≤ 900 ∧ fs ≠ [] ∧ vs.all (xArg n) = true ∧ (∀ f ∈ fs, PySem.W.takerIn K C f = some none) ∧ EnX.xBody a0.arg (argN as) body (fs.zip vs).reverse = true))
  | _, _, _, _ => false
def xcOne (prog : Program) (K : PySem.W.Frag) (C : Addr) (B newId initId : String) (bmB : List Value) (n : Nat) (fs : List Str) (vs : List XV) : Bool :=
  match PySem.W.findIn K (.ref C) "__init__" with
  | some (some (.ref fI)) => match K.lookup fI with
    | some ⟨_, _, .func fd, _⟩ => xInit prog K C fI B newId initId bmB fd n fs vs
    | _ => false
  | _ => false
def xcChk (prog : Program) (K : PySem.W.Frag) (C : Addr) (n : Nat) (fs : List Str) (vs : List XV) : Bool :=
  xcOne prog K C "ValueError" "ValueError.__new__" "ValueError.__init__" [.type "ValueError", .type "Exception", .type "BaseException", .type "object"] n fs vs ||
  (xcOne prog K C "LookupError" "LookupError.__new__" "LookupError.__init__" [.type "LookupError", .type "Exception", .type "BaseException", .type "object"] n fs vs ||
   xcOne prog K C "IndexError" "IndexError.__new__" "IndexError.__init__" [.type "IndexError", .type "LookupError", .type "Exception", .type "BaseException", .type "object"] n fs vs)
end En

namespace En
open PySem PySem.Spec L2
abbrev tx (l : List Nat) : Str := ⟨l.toArray⟩
end En

namespace En
open PySem PySem.Spec L2
section
variable {Cd : Nat → Option Ent}
structure Row where
  k : List Nat
  w : List Nat
  b : List Nat
  f : Int
  l : Int
  deriving DecidableEq
def Row.d (r : Row) : D := .tup [.str (tx r.k), .str (tx r.w), .str (tx r.b), .int r.f, .int r.l]
end
end En

namespace En
open PySem PySem.Spec L2
def top (i : Nat) : Stmt := PySem.Challenge.pw_namehold_k05_labels_narrowed.main.body.getD i (.Pass ⟨0, 0, 0, 0⟩)
def mem (i j : Nat) : Stmt := (C8.clsBody (top i)).getD j (.Pass ⟨0, 0, 0, 0⟩)
def fnmL : Nat → Str
  | 0 => "is_word"
  | 1 => "is_number"
  | 2 => "is_date"
  | 10 => "_law_feed"
  | 11 => "_law_take"
  | 12 => "_law_of"
  | 13 => "_law_same"
  | 14 => "_law_new_names"
  | 108 => "_law_dates"
  | 299 => "law"
  | 3 => "is_word"
  | 4 => "is_date"
  | 2002 => "Label"
  | 2003 => "Label"
  | 2004 => "Label"
  | _ => ""
def gvnL : Nat → Str
  | 0 => "LETTERS"
  | 1 => "MOST_LETTERS"
  | 2 => "MOST_DATE"
  | _ => ""
def knL : Nat → Nat
  | 3 => 0
  | 4 => 0
  | 2002 => 4
  | 2003 => 5
  | 2004 => 0
  | _ => 0
def kkL : Nat → List Str
  | 3 => ["value"]
  | 4 => ["value"]
  | 2002 => []
  | 2003 => []
  | 2004 => ["last", "first", "bearer", "word", "key"]
  | _ => []
def flL : List Str := (["key", "word", "bearer", "first", "last", "own_things", "own_labels", "own_aside", "own_kept", "own_together", "own_apart", "own_classes"] : List Str) ++ (["own_groups", "book", "facts", "thing", "own_dating", "own_grouping", "own_tree", "own_reasons", "one", "other", "own_group", "own_counts"] : List Str) ++ (["own_pairs", "own_inside", "own_outside", "own_components", "own_sections", "own_sectioned", "stage", "made", "away", "host", "state", "past"] : List Str) ++ (["future", "answers", "many_asked", "working", "own_limit", "ledger", "lines", "code", "value", "at", "name", "line"] : List Str) ++ (["most", "subject"] : List Str)
def lvL : List Nat := [0]
def faL : List (Nat × Nat) := [(0, 0), (0, 1), (0, 2), (0, 3), (0, 4)]
def meL : List ((Nat × Nat) × (Str × Nat × List Str)) := [((0, 2005), ("__eq__", 1, [])), ((0, 2024), ("__repr__", 0, [])), ((0, 2034), ("may_be", 0, ["date"])), ((0, 2035), ("parts", 0, [])), ((0, 2073), ("may_be", 1, [])), ((0, 2091), ("narrowed", 2, [])), ((0, 2197), ("narrowed", 0, ["last", "first"]))]
def cnL : Nat → Str
  | 0 => "Label"
  | _ => ""
def liveL : List Nat := [0, 1, 2, 3, 4, 10, 11, 12, 13, 14, 108, 299, 900, 901, 902, 903, 1000, 2002, 2003, 2004, 2005, 2024, 2034, 2035, 2073, 2091, 2197]
def xqT : List ((Str × Nat) × (Nat × List Nat × List XV)) := [(("InvalidDate", 1), (33, [44, 43], [(.arg 0), (.cst (tx [73, 110, 118, 97, 108, 105, 100, 68, 97, 116, 101]))])), (("InvalidWord", 1), (32, [44, 43], [(.arg 0), (.cst (tx [73, 110, 118, 97, 108, 105, 100, 87, 111, 114, 100]))]))]
def ntL : NT := { fnm := fnmL, gvn := gvnL, isF := fun f => decide (f ∈ ([0, 1, 2, 10, 11, 12, 13, 14, 108, 299] : List Nat)), isK := fun f => decide (f ∈ ([3, 4] : List Nat)), isM := fun f => decide (f ∈ ([2002, 2003, 2004] : List Nat)), fl := flL, fa := fun c f => decide ((c, f) ∈ faL), me := fun c i => meL.lookup (c, i), gone := fun i => goneOf liveL i, live := fun c => decide (c ∈ lvL), cn := cnL, kn := knL, kk := kkL, xq := fun x n => xqT.lookup (x, n) }
def namesL : List Str := ["law"]
def AllMk : Prop := ∀ {l : PySem.W.OpenLaw} {w : World} {K : PySem.W.Frag} {h : Heap} {mg : Str → Option Value} {fa f0 f1 f2 f3 f4 f5 f6 f7 f8 f9 f10 f11 f12 f13 f14 f15 f16 f17 f18 C0 C30 C31 C32 C33 C54 cc9 : Addr} (X : K.In h) (G : h.Ns mainGlobals mg) (hfa : mg "law" = some (.ref fa)) (own : ∀ nm ∈ namesL, ∀ f, mg nm = some (.ref f) → LamX.OwnTab K f h)
    {od0 an0 od1 an1 od2 an2 od3 an3 od4 an4 od5 an5 od6 an6 od7 an7 od8 an8 od9 an9 od10 an10 od11 an11 od12 an12 od13 an13 od14 an14 od15 an15 od16 an16 od17 an17 od18 an18 : Option Addr} {sl0 sl1 sl2 sl3 sl4 sl5 sl6 sl7 sl8 sl9 sl10 sl11 sl12 sl13 sl14 sl15 sl16 sl17 sl18 : Array (Option Value)} {oc0 kV0 dc0 pm0 cd0 ct0 oc1 kV1 dc1 pm1 cd1 ct1 oc2 kV2 dc2 pm2 cd2 ct2 oc3 kV3 dc3 pm3 cd3 ct3 oc4 kV4 dc4 pm4 cd4 ct4 oc5 kV5 dc5 pm5 cd5 ct5 oc6 kV6 dc6 pm6 cd6 ct6 oc7 kV7 dc7 pm7 cd7 ct7 oc8 kV8 dc8 pm8 cd8 ct8 oc9 kV9 dc9 pm9 cd9 ct9 oc10 kV10 dc10 pm10 cd10 ct10 oc11 kV11 dc11 pm11 cd11 ct11 oc12 kV12 dc12 pm12 cd12 ct12 oc13 kV13 dc13 pm13 cd13 ct13 oc14 kV14 dc14 pm14 cd14 ct14 oc15 kV15 dc15 pm15 cd15 ct15 oc16 kV16 dc16 pm16 cd16 ct16 oc17 kV17 dc17 pm17 cd17 ct17 oc18 kV18 dc18 pm18 cd18 ct18 : Value} {t0 : Tok} {t1 : Tok} {t2 : Tok}
    {dV10 : Value}
    (cC0 : PySem.W.nsIn K mainGlobals "Label" = some (some (.ref C0)))
    (cC30 : PySem.W.nsIn K mainGlobals "StandError" = some (some (.ref C30)))
    (cC31 : PySem.W.nsIn K mainGlobals "Missing" = some (some (.ref C31)))
    (cC32 : PySem.W.nsIn K mainGlobals "InvalidWord" = some (some (.ref C32)))
    (cC33 : PySem.W.nsIn K mainGlobals "InvalidDate" = some (some (.ref C33)))
    (cC54 : PySem.W.nsIn K mainGlobals "NothingLeft" = some (some (.ref C54)))
    {ec9 : Value} {de9 : Option Addr} {ve9 : Array Value} {se9 : Array (Option Value)}
    (a0 : PySem.W.nsIn K mainGlobals "is_word" = some (some (.ref f0)))
      (l0 : K.lookup f0 = some ⟨oc0, od0, .func (PySem.W.fnOf "is_word" "is_word" (defArgs (top 11)) (defBody (top 11)) (defScope (top 11)) .none kV0 dc0 pm0 an0 cd0 ct0), sl0⟩) (c0 : PySem.W.codeIn K cd0 "is_word" = true) (k0 : PySem.W.keepIn K (.ref f0) = true)
    (a1 : PySem.W.nsIn K mainGlobals "is_number" = some (some (.ref f1)))
      (l1 : K.lookup f1 = some ⟨oc1, od1, .func (PySem.W.fnOf "is_number" "is_number" (defArgs (top 12)) (defBody (top 12)) (defScope (top 12)) .none kV1 dc1 pm1 an1 cd1 ct1), sl1⟩) (c1 : PySem.W.codeIn K cd1 "is_number" = true) (k1 : PySem.W.keepIn K (.ref f1) = true)
    (a2 : PySem.W.nsIn K mainGlobals "is_date" = some (some (.ref f2)))
      (l2 : K.lookup f2 = some ⟨oc2, od2, .func (PySem.W.fnOf "is_date" "is_date" (defArgs (top 13)) (defBody (top 13)) (defScope (top 13)) .none kV2 dc2 pm2 an2 cd2 ct2), sl2⟩) (c2 : PySem.W.codeIn K cd2 "is_date" = true) (k2 : PySem.W.keepIn K (.ref f2) = true)
    (a3 : PySem.W.nsIn K mainGlobals "_law_feed" = some (some (.ref f3)))
      (l3 : K.lookup f3 = some ⟨oc3, od3, .func (PySem.W.fnOf "_law_feed" "_law_feed" (defArgs (top 16)) (defBody (top 16)) (defScope (top 16)) .none kV3 dc3 pm3 an3 cd3 ct3), sl3⟩) (c3 : PySem.W.codeIn K cd3 "_law_feed" = true) (k3 : PySem.W.keepIn K (.ref f3) = true)
    (a4 : PySem.W.nsIn K mainGlobals "_law_take" = some (some (.ref f4)))
      (l4 : K.lookup f4 = some ⟨oc4, od4, .func (PySem.W.fnOf "_law_take" "_law_take" (defArgs (top 17)) (defBody (top 17)) (defScope (top 17)) .none kV4 dc4 pm4 an4 cd4 ct4), sl4⟩) (c4 : PySem.W.codeIn K cd4 "_law_take" = true) (k4 : PySem.W.keepIn K (.ref f4) = true)
    (a5 : PySem.W.nsIn K mainGlobals "_law_of" = some (some (.ref f5)))
      (l5 : K.lookup f5 = some ⟨oc5, od5, .func (PySem.W.fnOf "_law_of" "_law_of" (defArgs (top 18)) (defBody (top 18)) (defScope (top 18)) .none kV5 dc5 pm5 an5 cd5 ct5), sl5⟩) (c5 : PySem.W.codeIn K cd5 "_law_of" = true) (k5 : PySem.W.keepIn K (.ref f5) = true)
    (a6 : PySem.W.nsIn K mainGlobals "_law_same" = some (some (.ref f6)))
      (l6 : K.lookup f6 = some ⟨oc6, od6, .func (PySem.W.fnOf "_law_same" "_law_same" (defArgs (top 19)) (defBody (top 19)) (defScope (top 19)) .none kV6 dc6 pm6 an6 cd6 ct6), sl6⟩) (c6 : PySem.W.codeIn K cd6 "_law_same" = true) (k6 : PySem.W.keepIn K (.ref f6) = true)
    (a7 : PySem.W.nsIn K mainGlobals "_law_new_names" = some (some (.ref f7)))
      (l7 : K.lookup f7 = some ⟨oc7, od7, .func (PySem.W.fnOf "_law_new_names" "_law_new_names" (defArgs (top 21)) (defBody (top 21)) (defScope (top 21)) .none kV7 dc7 pm7 an7 cd7 ct7), sl7⟩) (c7 : PySem.W.codeIn K cd7 "_law_new_names" = true) (k7 : PySem.W.keepIn K (.ref f7) = true)
    (a8 : PySem.W.nsIn K mainGlobals "_law_dates" = some (some (.ref f8)))
      (l8 : K.lookup f8 = some ⟨oc8, od8, .func (PySem.W.fnOf "_law_dates" "_law_dates" (defArgs (top 24)) (defBody (top 24)) (defScope (top 24)) .none kV8 dc8 pm8 an8 cd8 ct8), sl8⟩) (c8 : PySem.W.codeIn K cd8 "_law_dates" = true) (k8 : PySem.W.keepIn K (.ref f8) = true)
    (a9 : PySem.W.nsIn K mainGlobals "law" = some (some (.ref f9)))
      (l9 : K.lookup f9 = some ⟨oc9, od9, .func (PySem.W.fnOf "law" "law" (defArgs (top 25)) (defBody (top 25)) (defScope (top 25)) .none kV9 dc9 pm9 an9 cd9 ct9), sl9⟩) (c9 : PySem.W.codeIn K cd9 "law" = true) (k9 : PySem.W.keepIn K (.ref f9) = true)
    (a10 : PySem.W.findIn K (.ref C0) "__init__" = some (some (.ref f10)))
      (l10 : K.lookup f10 = some ⟨oc10, od10, .func (PySem.W.fnOf "__init__" "Label.__init__" (defArgs (mem 14 0)) (defBody (mem 14 0)) (defScope (mem 14 0)) dV10 kV10 dc10 pm10 an10 cd10 ct10), sl10⟩) (c10 : PySem.W.codeIn K cd10 "Label.__init__" = true) (k10 : PySem.W.keepIn K (.ref f10) = true)
    (a11 : PySem.W.findIn K (.ref C0) "may_be" = some (some (.ref f11)))
      (l11 : K.lookup f11 = some ⟨oc11, od11, .func (PySem.W.fnOf "may_be" "Label.may_be" (defArgs (mem 14 2)) (defBody (mem 14 2)) (defScope (mem 14 2)) .none kV11 dc11 pm11 an11 cd11 ct11), sl11⟩) (c11 : PySem.W.codeIn K cd11 "Label.may_be" = true) (k11 : PySem.W.keepIn K (.ref f11) = true)
    (a12 : PySem.W.findIn K (.ref C0) "narrowed" = some (some (.ref f12)))
      (l12 : K.lookup f12 = some ⟨oc12, od12, .func (PySem.W.fnOf "narrowed" "Label.narrowed" (defArgs (mem 14 3)) (defBody (mem 14 3)) (defScope (mem 14 3)) .none kV12 dc12 pm12 an12 cd12 ct12), sl12⟩) (c12 : PySem.W.codeIn K cd12 "Label.narrowed" = true) (k12 : PySem.W.keepIn K (.ref f12) = true)
    (a13 : PySem.W.findIn K (.ref C0) "parts" = some (some (.ref f13)))
      (l13 : K.lookup f13 = some ⟨oc13, od13, .func (PySem.W.fnOf "parts" "Label.parts" (defArgs (mem 14 4)) (defBody (mem 14 4)) (defScope (mem 14 4)) .none kV13 dc13 pm13 an13 cd13 ct13), sl13⟩) (c13 : PySem.W.codeIn K cd13 "Label.parts" = true) (k13 : PySem.W.keepIn K (.ref f13) = true)
    (a14 : PySem.W.findIn K (.ref C0) "__eq__" = some (some (.ref f14)))
      (l14 : K.lookup f14 = some ⟨oc14, od14, .func (PySem.W.fnOf "__eq__" "Label.__eq__" (defArgs (mem 14 5)) (defBody (mem 14 5)) (defScope (mem 14 5)) .none kV14 dc14 pm14 an14 cd14 ct14), sl14⟩) (c14 : PySem.W.codeIn K cd14 "Label.__eq__" = true) (k14 : PySem.W.keepIn K (.ref f14) = true)
    (a15 : PySem.W.findIn K (.ref C0) "__repr__" = some (some (.ref f15)))
      (l15 : K.lookup f15 = some ⟨oc15, od15, .func (PySem.W.fnOf "__repr__" "Label.__repr__" (defArgs (mem 14 6)) (defBody (mem 14 6)) (defScope (mem 14 6)) .none kV15 dc15 pm15 an15 cd15 ct15), sl15⟩) (c15 : PySem.W.codeIn K cd15 "Label.__repr__" = true) (k15 : PySem.W.keepIn K (.ref f15) = true)
    (a16 : PySem.W.nsIn K mainGlobals "_law_fields" = some (some (.ref f16)))
      (l16 : K.lookup f16 = some ⟨oc16, od16, .func (PySem.W.fnOf "_law_fields" "_law_fields" (defArgs (top 22)) (defBody (top 22)) (defScope (top 22)) .none kV16 dc16 pm16 an16 cd16 ct16), sl16⟩) (c16 : PySem.W.codeIn K cd16 "_law_fields" = true) (k16 : PySem.W.keepIn K (.ref f16) = true)
    (a17 : PySem.W.nsIn K mainGlobals "_law_why" = some (some (.ref f17)))
      (l17 : K.lookup f17 = some ⟨oc17, od17, .func (PySem.W.fnOf "_law_why" "_law_why" (defArgs (top 23)) (defBody (top 23)) (defScope (top 23)) .none kV17 dc17 pm17 an17 cd17 ct17), sl17⟩) (c17 : PySem.W.codeIn K cd17 "_law_why" = true) (k17 : PySem.W.keepIn K (.ref f17) = true)
    (a18 : PySem.W.nsIn K mainGlobals "_law_whys" = some (some (.ref f18)))
      (l18 : K.lookup f18 = some ⟨oc18, od18, .func (PySem.W.fnOf "_law_whys" "_law_whys" (defArgs (top 20)) (defBody (top 20)) (defScope (top 20)) .none kV18 dc18 pm18 an18 cd18 ct18), sl18⟩) (c18 : PySem.W.codeIn K cd18 "_law_whys" = true) (k18 : PySem.W.keepIn K (.ref f18) = true)
    (e9 : cd9 = .ref cc9) (lc9 : K.lookup cc9 = some ⟨ec9, de9, .fields ve9, se9⟩)
    (gv0 : PySem.W.nsIn K mainGlobals "LETTERS" = some (some (.str "abcdefghijklmnopqrstuvwxyz" t0)))
    (gv1 : PySem.W.nsIn K mainGlobals "MOST_LETTERS" = some (some (.int 6 t1)))
    (gv2 : PySem.W.nsIn K mainGlobals "MOST_DATE" = some (some (.int 9999 t2)))
    (z0 : PySem.W.nsIn K mainGlobals "len" = some none)
    (z1 : PySem.W.nsIn K mainGlobals "int" = some none)
    (z2 : PySem.W.nsIn K mainGlobals "all" = some none)
    (z3 : PySem.W.nsIn K mainGlobals "any" = some none)
    (z4 : PySem.W.nsIn K mainGlobals "list" = some none)
    (z5 : PySem.W.nsIn K mainGlobals "tuple" = some none)
    (z6 : PySem.W.nsIn K mainGlobals "str" = some none)
    (z7 : PySem.W.nsIn K mainGlobals "bool" = some none)
    (z8 : PySem.W.nsIn K mainGlobals "isinstance" = some none)
    (z9 : PySem.W.nsIn K mainGlobals "dict" = some none)
    (z10 : PySem.W.nsIn K mainGlobals "range" = some none)
    (z11 : PySem.W.nsIn K mainGlobals "enumerate" = some none)
    (z12 : PySem.W.nsIn K mainGlobals "zip" = some none)
    (z13 : PySem.W.nsIn K mainGlobals "sorted" = some none)
    (z14 : PySem.W.nsIn K mainGlobals "min" = some none)
    (z15 : PySem.W.nsIn K mainGlobals "max" = some none)
    (z16 : PySem.W.nsIn K mainGlobals "repr" = some none)
    (z17 : PySem.W.nsIn K mainGlobals "sum" = some none)
    (z18 : PySem.W.nsIn K mainGlobals "super" = some none)
    (q0 : clChk K C0 = true)
    (q1 : ccChk K C0 C0 true = true)
    (q2 : obChk K = true)
    (q3 : naChk K C0 "key" = true)
    (q4 : naChk K C0 "word" = true)
    (q5 : naChk K C0 "bearer" = true)
    (q6 : naChk K C0 "first" = true)
    (q7 : naChk K C0 "last" = true)
    (q8 : mkChk K C0 f10 = true)
    (q9 : meChk K C0 "__eq__" f14 = true)
    (q10 : meChk K C0 "__repr__" f15 = true)
    (q11 : meChk K C0 "may_be" f11 = true)
    (q12 : meChk K C0 "parts" f13 = true)
    (q13 : meChk K C0 "narrowed" f12 = true)
    (q14 : dvChk K dV10 [.non] = true)
    (q15 : kvChk K kV10 [] [] = true)
    (q16 : xcChk l.prog K C33 1 ([44, 43].map ntL.nm) [(.arg 0), (.cst (tx [73, 110, 118, 97, 108, 105, 100, 68, 97, 116, 101]))] = true)
    (q17 : xcChk l.prog K C32 1 ([44, 43].map ntL.nm) [(.arg 0), (.cst (tx [73, 110, 118, 97, 108, 105, 100, 87, 111, 114, 100]))] = true)
    (q18 : xwChk K C32 [.ref C30, .ref C31, .ref C54] = true)
    (q19 : xwChk K C33 [.ref C30, .ref C31, .ref C54] = true)
    (q20 : xwChk K C54 [.ref C30, .ref C31, .ref C54] = true)
    (q21 : codB K cc9 ec9 ve9 = true)
    (q22 : tbsB [(tabOf ve9, ("law" : Str) ++ (".<locals>." : Str) ++ ("<lambda>" : Str))] = true),
    LamX.LawAtS l w K (L2.CX l.prog w) 57 63 "_law_script" mg fa h
theorem walk {l : PySem.W.OpenLaw} {q : Program} {loose : List Str} {XP : (Str → Option Value) → Heap → Prop} {YP : World → Heap → Prop} {d : DefRec} {K : Params → PySem.W.Frag} (hn : l.most = some 63) (hdf : d.params.defaults = []) (hrec : ∀ nm ∈ namesL, ((PyProof.Rows.recsOf q).any fun e => e.name == nm) = true)
    (hY : ∀ (w : World) (h : Heap), YP w h → (K w.params).In h)
    (F : ∀ (w : World) (mg : Str → Option Value) (fa : Addr) (h : Heap), (K w.params).In h → h.Ns mainGlobals mg → mg d.name = some (.ref fa) → (∀ nm ∈ namesL, ∀ f, mg nm = some (.ref f) → LamX.OwnTab (K w.params) f h) →
      LamX.LawAtS l w (K w.params) (L2.CX l.prog w) 57 63 "_law_script" mg fa h) :
    PySem.W.WalkO q loose XP YP l.row.toRowW d [] (fun f vs => PySem.call f vs) :=
  walk_names (names := namesL) (CX := fun w => L2.CX l.prog w) hn (by decide) hdf ⟨rfl, by decide, by decide⟩ hrec hY F fun _ _ _ _ _ z => by obtain ⟨_, _, _, _, _, _, _, _, _, _, _, _, z⟩ := z; exact z
end En
open PySem PySem.W PyProof.Rows
local macro_rules
  | `(tactic| refine $e:term) => do
    let s := e.raw
    if s.isOfKind ``Lean.Parser.Term.app && (s[0].getId.eraseMacroScopes == `PySem.W.holds_open || s[0].getId.eraseMacroScopes == `PySem.W.holds_openC) && !(s[1][s[1].getNumArgs - 1].isOfKind ``Lean.Parser.Term.paren) then
      let u := Lean.mkIdent `U
      let last ← `((by
        k_fill
        refine En.walk (l := PySem.Challenge.rw_namehold_k05_labels_narrowed) rfl rfl ?hrec (fun w h Y => PySem.W.kIn_of Y) ?F
        case hrec => decide +kernel
        case F =>
          intro w mg fa h KX G hmg own
          refine' $u KX G hmg own ?cC0 ?cC30 ?cC31 ?cC32 ?cC33 ?cC54 ?a0 ?l0 ?c0 ?k0 ?a1 ?l1 ?c1 ?k1 ?a2 ?l2 ?c2 ?k2 ?a3 ?l3 ?c3 ?k3 ?a4 ?l4 ?c4 ?k4 ?a5 ?l5 ?c5 ?k5 ?a6 ?l6 ?c6 ?k6 ?a7 ?l7 ?c7 ?k7 ?a8 ?l8 ?c8 ?k8 ?a9 ?l9 ?c9 ?k9 ?a10 ?l10 ?c10 ?k10 ?a11 ?l11 ?c11 ?k11 ?a12 ?l12 ?c12 ?k12 ?a13 ?l13 ?c13 ?k13 ?a14 ?l14 ?c14 ?k14 ?a15 ?l15 ?c15 ?k15 ?a16 ?l16 ?c16 ?k16 ?a17 ?l17 ?c17 ?k17 ?a18 ?l18 ?c18 ?k18 ?e9 ?lc9 ?gv0 ?gv1 ?gv2 ?z0 ?z1 ?z2 ?z3 ?z4 ?z5 ?z6 ?z7 ?z8 ?z9 ?z10 ?z11 ?z12 ?z13 ?z14 ?z15 ?z16 ?z17 ?z18 ?q0 ?q1 ?q2 ?q3 ?q4 ?q5 ?q6 ?q7 ?q8 ?q9 ?q10 ?q11 ?q12 ?q13 ?q14 ?q15 ?q16 ?q17 ?q18 ?q19 ?q20 ?q21 ?q22
          (case cC0 => k_is)
          (case cC30 => k_is)
          (case cC31 => k_is)
          (case cC32 => k_is)
          (case cC33 => k_is)
          (case cC54 => k_is)
          (case a0 => k_is)
          (case l0 => k_is)
          (case c0 => k_is)
          (case k0 => k_is)
          (case a1 => k_is)
          (case l1 => k_is)
          (case c1 => k_is)
          (case k1 => k_is)
          (case a2 => k_is)
          (case l2 => k_is)
          (case c2 => k_is)
          (case k2 => k_is)
          (case a3 => k_is)
          (case l3 => k_is)
          (case c3 => k_is)
          (case k3 => k_is)
          (case a4 => k_is)
          (case l4 => k_is)
          (case c4 => k_is)
          (case k4 => k_is)
          (case a5 => k_is)
          (case l5 => k_is)
          (case c5 => k_is)
          (case k5 => k_is)
          (case a6 => k_is)
          (case l6 => k_is)
          (case c6 => k_is)
          (case k6 => k_is)
          (case a7 => k_is)
          (case l7 => k_is)
          (case c7 => k_is)
          (case k7 => k_is)
          (case a8 => k_is)
          (case l8 => k_is)
          (case c8 => k_is)
          (case k8 => k_is)
          (case a9 => k_is)
          (case l9 => k_is)
          (case c9 => k_is)
          (case k9 => k_is)
          (case a10 => k_is)
          (case l10 => k_is)
          (case c10 => k_is)
          (case k10 => k_is)
          (case a11 => k_is)
          (case l11 => k_is)
          (case c11 => k_is)
          (case k11 => k_is)
          (case a12 => k_is)
          (case l12 => k_is)
          (case c12 => k_is)
          (case k12 => k_is)
          (case a13 => k_is)
          (case l13 => k_is)
          (case c13 => k_is)
          (case k13 => k_is)
          (case a14 => k_is)
          (case l14 => k_is)
          (case c14 => k_is)
          (case k14 => k_is)
          (case a15 => k_is)
          (case l15 => k_is)
          (case c15 => k_is)
          (case k15 => k_is)
          (case a16 => k_is)
          (case l16 => k_is)
          (case c16 => k_is)
          (case k16 => k_is)
          (case a17 => k_is)
          (case l17 => k_is)
          (case c17 => k_is)
          (case k17 => k_is)
          (case a18 => k_is)
          (case l18 => k_is)
          (case c18 => k_is)
          (case k18 => k_is)
          (case e9 => rfl)
          (case lc9 => k_is)
          (case gv0 => k_is)
          (case gv1 => k_is)
          (case gv2 => k_is)
          (case z0 => k_is)
          (case z1 => k_is)
          (case z2 => k_is)
          (case z3 => k_is)
          (case z4 => k_is)
          (case z5 => k_is)
          (case z6 => k_is)
          (case z7 => k_is)
          (case z8 => k_is)
          (case z9 => k_is)
          (case z10 => k_is)
          (case z11 => k_is)
          (case z12 => k_is)
          (case z13 => k_is)
          (case z14 => k_is)
          (case z15 => k_is)
          (case z16 => k_is)
          (case z17 => k_is)
          (case z18 => k_is)
          (case q0 => as_aux_lemma => kernel_rfl)
          (case q1 => as_aux_lemma => kernel_rfl)
          (case q2 => as_aux_lemma => kernel_rfl)
          (case q3 => as_aux_lemma => kernel_rfl)
          (case q4 => as_aux_lemma => kernel_rfl)
          (case q5 => as_aux_lemma => kernel_rfl)
          (case q6 => as_aux_lemma => kernel_rfl)
          (case q7 => as_aux_lemma => kernel_rfl)
          (case q8 => as_aux_lemma => kernel_rfl)
          (case q9 => as_aux_lemma => kernel_rfl)
          (case q10 => as_aux_lemma => kernel_rfl)
          (case q11 => as_aux_lemma => kernel_rfl)
          (case q12 => as_aux_lemma => kernel_rfl)
          (case q13 => as_aux_lemma => kernel_rfl)
          (case q14 => as_aux_lemma => kernel_rfl)
          (case q15 => as_aux_lemma => kernel_rfl)
          (case q16 => as_aux_lemma => kernel_rfl)
          (case q17 => as_aux_lemma => kernel_rfl)
          (case q18 => as_aux_lemma => kernel_rfl)
          (case q19 => as_aux_lemma => kernel_rfl)
          (case q20 => as_aux_lemma => kernel_rfl)
          (case q21 => as_aux_lemma => kernel_rfl)
          (case q22 => as_aux_lemma => kernel_rfl)
          ))
      let s2 := s.modifyArg 1 fun z => z.setArg (z.getNumArgs - 1) last
      let e2 : Lean.TSyntax `term := ⟨s2⟩
      `(tactic| refine $e2)
    else Lean.Macro.throwUnsupported
set_option maxRecDepth 100000 in
set_option maxHeartbeats 0 in
theorem En.early (U : En.AllMk) : PySem.Challenge.rw_namehold_k05_labels_narrowed.Holds := by
  delta En.AllMk at U
  w_on; o_law; k_headL
  (case hw => w_witness2)
end
set_option Elab.async false
set_option linter.all false
set_option maxRecDepth 100000
set_option maxHeartbeats 4000000
namespace EnY
open PySem PySem.Spec PyProof.Rows L2
abbrev lamFd (q : Str) (params : Arguments) (body : Expr) (scope : Scope) (cl : List (Str × Addr)) (dV pm : Value) (c' : Addr) (ctv : Value) : FuncData :=
  { name := "<lambda>", qualname := q, params := params, body := .expr body, scope := scope, globals := mainGlobals, closure := cl, defaults := dV, kwdefaults := .none, doc := .none, pyModule := pm, annotations := none, code := .ref c', closureTuple := ctv, builtins := builtinsNs }
abbrev lamEv (q : Str) (scope : Scope) (L f c' : Addr) (cl : List (Str × Addr)) : Env := PySem.W.envX q scope L f (.ref c') cl
def cxL (P : Program) (w : World) (K : PySem.W.Frag) (mg : Str → Option Value) (base : Heap) (N : List Str) (q : Str) (scope : Scope) (f c' : Addr) (cl : List (Str × Addr)) (A : Around) (outer : List Env) (s : Shared) (H : Hp) (E : XK) : Cx where
  prog := P
  w := w
  K := K
  mg := mg
  base := base
  A := A.deeper (lamEv q scope s.heap.objs.size f c' cl)
  N := N
  s_0 := s
  H_0 := H
  env := lamEv q scope s.heap.objs.size f c' cl
  outer := outer
  stack := lamEv q scope s.heap.objs.size f c' cl :: outer
  ex := []
  fn := fun _ => false
  calm := true
  pn := []
  xe := fun e s' => wpAny (model P w) (A.deeper (lamEv q scope s.heap.objs.size f c' cl)) (leaving (lamEv q scope s.heap.objs.size f c' cl) e) (fun _ s'' => L2.CX P w outer H s E e s'') (fun e' s'' => L2.CX P w outer H s E e' s'') s'
structure CloS (base : Heap) (N : List Str) (vs : List V) (cl : List (Str × Addr)) (scope : Scope) : Prop where
  kind : scope.kind = .function
  co : scope.isCoroutine = false
  gen : scope.isGenerator = false
  inj : ∀ y z c, cl.lookup y = some c → cl.lookup z = some c → y = z
  cell : ∀ y c, cl.lookup y = some c → ∃ o v, base.get? c = some o ∧ o.data = .cell v
  cap : ∀ (i : Nat) y v, N[i]? = some y → vs[i]? = some v → scope.names.lookup y = some .free ∧ ∃ c o u, cl.lookup y = some c ∧ base.get? c = some o ∧ o.data = .cell (some u) ∧ RelV v u
  free : ∀ y, scope.names.lookup y = some .free → ∃ c, cl.lookup y = some c
  nocell : ∀ y ∈ scope.names, y.2 ≠ .cell
  len : vs.length = N.length
section
variable {P : Program} {w : World} {K : PySem.W.Frag} {mg : Str → Option Value} {base : Heap} {A : Around} {outer : List Env} {s : Shared} {H : Hp} {N : List Str} {vs : List V} {cl : List (Str × Addr)} {scope : Scope} {q : Str} {f c' : Addr} {E : XK}
theorem cxL_start {h1 : Heap} {m : Str → Option Value} {tk : Nat} (e0 : Env0 P w K mg base A outer s H) (hd : A.handled = none) (S : CloS base N vs cl scope) (hns : h1.Ns s.heap.objs.size m) (kp : ∀ b o, s.heap.get? b = some o → h1.get? b = some o) :
    Inv (cxL P w K mg base N q scope f c' cl A outer s H E) [] (vs.map some) H { s with heap := h1, toks := tk } := by
  have nil_ : ∀ b : Addr, b ∉ (cxL P w K mg base N q scope f c' cl A outer s H E).ex := fun b z => absurd (show b ∈ ([] : List Addr) from z) (by simp)
  have look : ∀ {y}, (scope.names.lookup y = some .cell ∨ scope.names.lookup y = some .free) → ∃ c, cl.lookup y = some c := fun {y} h => by
    rcases h with h | h
    · exact absurd rfl (S.nocell _ (PySem.mem_of_lookup h))
    · exact S.free y h
  refine ⟨⟨e0.mod, S.kind, rfl, rfl, Nat.le_refl _, S.inj, fun y hy => look hy, fun y c z _ => (by have z : false = true := z; cases z), fun _ => hd, Around.frames_deeper e0.frames, .inr ⟨rfl, rfl⟩, fun b z => absurd z (nil_ b), e0.bs, e0.bsz, fun b _ _ => nil_ b, fun b z => absurd z (nil_ b), e0.funs, e0.frf⟩,
    rfl, e0.bare, Un.kept kp, ⟨m, hns, fun i y v e1 e2 e3 => ?_⟩, fun y c e => ?_, e0.hok.fresh (Nat.le_refl _), fun y c e => ?_, fun p hp => absurd (show p ∈ ([] : List (Addr × Obj)) ++ [] from hp) (by simp), e0.hok.kept kp, ?_⟩
  · have e2 : (vs.map some)[i]? = some (some v) := e2
    rw [List.getElem?_map] at e2
    obtain ⟨v', h1', h2'⟩ := Option.map_eq_some_iff.mp e2
    cases h2'
    obtain ⟨k, c, o, u, c1, c2, c3, c4⟩ := S.cap i y _ e1 h1'
    exact ⟨u, c4, .inr ⟨.inr k, c, c1, o, kp _ _ (e0.bs c o c2).1, c3⟩⟩
  · obtain ⟨o, v, c2, c3⟩ := S.cell y c e
    exact ⟨v, o, kp _ _ (e0.bs c o c2).1, c3⟩
  · obtain ⟨o, v, c2, _⟩ := S.cell y c e
    exact (e0.bs c o c2).2
  · show (vs.map some).length = N.length
    rw [List.length_map]
    exact S.len
end
structure Callable (P : Program) (w : World) (K : PySem.W.Frag) (mg : Str → Option Value) (base : Heap) (k : Nat) (f : Addr) (sp : Hp → VK → XK → Prop) : Prop where
  mono : ∀ (H : Hp) (Q Q' : VK) (E E' : XK), sp H Q E → (∀ v H', Q v H' → Q' v H') → (∀ cls d H', E cls d H' → E' cls d H') → sp H Q' E'
  at_ : ∃ fd, base.get? f = some { cls := .type "function", data := .func fd }
  run : ∀ (A : Around) (outer : List Env) (s : Shared) (H : Hp) (Q : VK) (E : XK), Room k A → Env0 P w K mg base A outer s H → sp H Q E → codeAny (model P w) A (.call (.ref f) ⟨[], []⟩) (CR (L2.CX P w) outer P w H s Q E) s
theorem bind0 {fd : FuncData} {s : Shared} (hp : fd.params = ⟨[], [], none, [], [], none, []⟩) (hd : fd.defaults = .none) : BindsTo s fd ⟨[], []⟩ [] := by
  obtain ⟨nm, qn, pp, bd, sc, gl, cl, dV, kV, dc, pm, an, cv, ct, bl⟩ := fd
  dsimp only at hp hd
  subst hp hd
  refine .of_eq ?_
  unfold bindArgs
  simp [List.lookup, seqItems?]
  rfl
theorem bindD {fd : FuncData} {s : Shared} {a0 : Arg} {e0 : Expr} {T : Addr} {o : Obj} {u : Value} {n : Nat} (hp : fd.params = ⟨[], [a0], none, [], [], none, [e0]⟩) (hd : fd.defaults = .ref T) (ho : s.heap.get? T = some o) (hs : o.data = .seq #[u] n) : BindsTo s fd ⟨[], []⟩ [(a0.arg, u)] := by
  obtain ⟨nm, qn, pp, bd, sc, gl, cl, dV, kV, dc, pm, an, cv, ct, bl⟩ := fd
  dsimp only at hp hd
  subst hp hd
  refine .of_defaults rfl ho hs rfl ?_
  have e : (a0.arg == a0.arg) = true := beq_self_eq_true _
  simp [e, List.lookup]
section
variable {X : Cx} {k i : Nat} {x : Str} {p pos : Pos} {W : WX}
def tClo (X : Cx) (k i : Nat) (W : WX) : TE := fun σ H Q => ∃ (f : Addr) (sp : Hp → VK → XK → Prop), σ[i]? = some (some (.ref f)) ∧ Callable X.prog X.w X.K X.mg X.base k f sp ∧ sp H Q (fun cls d H' => W cls d σ H')
theorem pe_clo (hr : Room k X.A) (tk : Takes X W) (hN : X.N[i]? = some x) (hv : Vis X.env.scope x) (hd : (x == ("__debug__" : Str)) = false) (hcd : (x == ("__classdict__" : Str)) = false) : PE X (.Call (.Name x p) [] [] pos) (tClo X k i W) := by
  refine ⟨fun pins s σ H Q I h => ?_⟩
  obtain ⟨f, sp, hs, C, hsp⟩ := h
  refine wpAny_Call_Name_kw (thn ((pe_var (pos := p) (i := i) hN hv hd hcd).run pins s σ H (fun v H1 => v = .ref f ∧ H1 = H) I ⟨.ref f, hs, rfl, rfl⟩) fun u s1 ⟨v, H1, I1, r1, q1⟩ => ?_)
  obtain ⟨ev, eH⟩ := q1
  subst ev
  rw [eH] at I1
  obtain rfl : u = Value.ref f := r1
  obtain ⟨fd, hf⟩ := C.at_
  refine PySem.W.callWith_F0 ⟨_, _, _, _, I1.bk _ _ hf⟩ ?_
  have rc := C.run X.A X.stack s1 H Q (fun cls d H' => W cls d σ H') hr I1.env0 hsp
  refine wpAny_call (codeAny_mono rc fun r s' hq => ?_)
  cases r with
  | error e => exact tk e s' (XE.of_call I1 (E := fun cls d H' => W cls d σ H') (fun _ _ _ z => z) hq)
  | ok fl =>
    cases fl with
    | ret u => exact I1.after hq
    | next => exact False.elim hq
    | brk => exact False.elim hq
    | cont => exact False.elim hq
end
end EnY

namespace EnY
open PySem PySem.Spec PyProof.Rows L2
inductive MT where
  | inn (cs : List Str) | eq (c : Str)
def MT.ans (z : Str) : MT → Bool
  | .inn cs => decide (z ∈ cs)
  | .eq c => decide (z = c)
def strsB : List Expr → List Str → Bool
  | [], [] => true
  | .Constant (.str y) _ _ :: es, c :: cs => decide (y = c) && strsB es cs
  | _, _ => false
def attrsB (e : Str) : List Expr → List Str → Bool
  | [], [] => true
  | .Attribute (.Name n _) f _ :: es, g :: gs => decide (n = e) && (decide (f = g) && attrsB e es gs)
  | _, _ => false
def testB (e : Str) : Expr → MT → Bool
  | .Compare (.Attribute (.Name n _) f _) [.In] [.Tuple es _ _] _, .inn cs => decide (n = e) && (decide (f = ("code" : Str)) && strsB es cs)
  | .Compare (.Attribute (.Name n _) f _) [.Eq] [.Constant (.str y) _ _] _, .eq c => decide (n = e) && (decide (f = ("code" : Str)) && decide (y = c))
  | _, _ => false
def fldB (e : Str) : List Stmt → List (MT × List Str) → List Str × Str → Bool
  | .If t [.Return (some (.Tuple es _ _)) _] [] _ :: r, (m, fs) :: ms, z => testB e t m && (attrsB e es fs && fldB e r ms z)
  | [.Return (some (.IfExp t (.Tuple [] _ _) (.Tuple es _ _) _)) _], [], (cs, f) => testB e t (.inn cs) && attrsB e es [f]
  | _, _, _ => false
def fldA (z : Str) : List (MT × List Str) → List Str × Str → List Str
  | [], (cs, f) => if decide (z ∈ cs) then [] else [f]
  | (m, fs) :: ms, q => if m.ans z then fs else fldA z ms q
def Up (H H' : Hp) : Prop := ∀ b u, H b = some u → H' b = some u
theorem Up.refl (H : Hp) : Up H H := fun _ _ e => e
theorem Up.trans {H H1 H2 : Hp} (a : Up H H1) (b : Up H1 H2) : Up H H2 := fun c u e => b c u (a c u e)
theorem up_upd {H : Hp} {p : Addr} {o : HO} (h : H p = none) : Up H (upd H p o) := fun b u e => by
  rw [upd_ne (ne_of_none e h)]
  exact e
structure XCtx (X : Cx) (i : Nat) (a C dd : Addr) (oe : Obj) (e : Str) : Prop where
  pin : (a, oe) ∈ X.pn
  z : Zc (.ref C) (some dd) oe
  fl : ∃ vs, oe.data = .fields vs
  xf : XfC X.K C
  nm : X.N[i]? = some e
  vi : Vis X.env.scope e
  d1 : (e == ("__debug__" : Str)) = false
  d2 : (e == ("__classdict__" : Str)) = false
section
variable {X : Cx} {i : Nat} {a C dd : Addr} {oe : Obj} {e : Str} {pos : Pos}
def tXf (i : Nat) (a dd : Addr) (n : Str) : TE := fun σ H Q => σ[i]? = some (some (.ref a)) ∧ ∃ (fs : List (Str × V)) (v : V), H dd = some (.xd fs) ∧ fs.lookup n = some v ∧ Q v H
theorem pe_xf (T : XCtx X i a C dd oe e) {n : Str} {p : Pos} (hno : PySem.W.findIn X.K (.ref C) n = some none) : PE X (.Attribute (.Name e p) n pos) (tXf i a dd n) := by
  refine ⟨fun pins s σ H Q I h => ?_⟩
  obtain ⟨h0, fs, v, hd, hl, q⟩ := h
  refine attr_of rfl (thn ((pe_var (pos := p) (i := i) T.nm T.vi T.d1 T.d2).run pins s σ H (fun v H1 => v = .ref a ∧ H1 = H) I ⟨.ref a, h0, rfl, rfl⟩) fun u s1 ⟨x, H1, I1, rx, ex, eH⟩ => ?_)
  subst ex
  subst eH
  obtain rfl : u = Value.ref a := rx
  obtain ⟨ha, _⟩ := I1.pin (a, oe) (List.mem_append_left _ T.pin)
  obtain ⟨vs, hdat⟩ := T.fl
  have hx : ObjOk X.prog X.w H1 s1.heap dd (.xd fs) := I1.hok dd _ hd
  obtain ⟨mA, hns, hr⟩ := hx
  obtain ⟨od, ho, hlk⟩ := lookIn_ns hns
  obtain ⟨u, hu, ru⟩ := RelO.some_of (v := v) (o := mA n) (by rw [← hl]; exact hr n)
  have J : PySem.W.InstAt s1.heap a oe C (some od) := ⟨ha, T.z.1, by unfold PySem.W.notCls; rw [hdat] <;> rfl, by rw [T.z.2]; exact ho⟩
  exact HandSPX.exc_get I1.kIn J T.xf.ga T.xf.gg T.xf.exC (PySem.W.findObj_own T.xf.hdC hno rfl (by rw [hlk, hu])) (handed_of ru) ⟨v, H1, I1.tok _, ru, q⟩
theorem pa_strs : ∀ {es : List Expr} {cs : List Str}, strsB es cs = true → PA X es (fun _ H Q => Q (cs.map V.str) H)
  | [], [], _ => ⟨fun p pins s σ H Q I h => (pa_nil (X := X)).run p pins s σ H Q I h⟩
  | [], _ :: _, h => by cases h
  | e :: es, cs, h => by
    unfold strsB at h
    split at h
    · contradiction
    · rename_i y k p es' c cs' he
      cases he
      rw [Bool.and_eq_true, decide_eq_true_eq] at h
      obtain ⟨rfl, h⟩ := h
      exact ⟨fun p pins s σ H Q I hq => (pa_cons (pe_str (X := X)) (pa_strs h)).run p pins s σ H Q I hq⟩
    · cases h
theorem inV_strs {z : Str} : ∀ {cs : List Str}, inV (.str z) (cs.map V.str) = decide (z ∈ cs) ∧ (cs.map V.str).all flatV = true
  | [] => ⟨rfl, rfl⟩
  | c :: cs => by
    obtain ⟨a1, a2⟩ := inV_strs (z := z) (cs := cs)
    refine ⟨?_, by rw [List.map_cons, List.all_cons, a2]; rfl⟩
    unfold inV at a1 ⊢
    rw [List.map_cons, List.any_cons, a1]
    show ((c == z) || decide (z ∈ cs)) = decide (z ∈ c :: cs)
    have e : (c == z) = decide (z = c) := by
      by_cases h : z = c
      · subst h
        simp
      · have h' : ¬ c = z := fun q => h q.symm
        simp [h, h']
    rw [e]
    by_cases h1 : z = c
    · simp [h1]
    · simp [h1]
def UpT (Q : Bool → Hp → Prop) (b : Bool) (H : Hp) : Prop := ∀ H', Up H H' → Q b H'
def tTst (i : Nat) (a dd : Addr) (m : MT) : TT := fun σ H Q => σ[i]? = some (some (.ref a)) ∧ ∃ (fs : List (Str × V)) (z : Str), H dd = some (.xd fs) ∧ fs.lookup ("code" : Str) = some (V.str z) ∧ UpT Q (m.ans z) H
theorem pt_test (T : XCtx X i a C dd oe e) (hno : PySem.W.findIn X.K (.ref C) "code" = some none) {t : Expr} {m : MT} (hm : match m with | .inn cs => cs.length ≤ 1000 | .eq _ => True) (h : testB e t m = true) : PT X t (tTst i a dd m) := by
  unfold testB at h
  split at h
  · rename_i n p f p1 es k p2 p3 cs
    simp only [Bool.and_eq_true, decide_eq_true_eq] at h
    obtain ⟨rfl, rfl, h⟩ := h
    have r := pt_cmpR (pos := p3) (op_in_seq (X := X)) (pe_xf (p := p) (pos := p1) T hno) (pe_tup (x1 := k) (pos := p2) (pa_strs (X := X) h)) rfl
    refine ⟨fun pins s σ H Q I hq => r.run pins s σ H Q I ?_⟩
    obtain ⟨h0, fs, z, hd, hl, q⟩ := hq
    refine ⟨h0, fs, .str z, hd, hl, ?_⟩
    refine ⟨by rw [List.length_map, sizeLine_eq]; exact Nat.le_trans hm (by decide), fun pp hp => ?_⟩
    obtain ⟨a1, a2⟩ := inV_strs (z := z) (cs := cs)
    refine ⟨pp, _, rfl, .inr (.of upd_same), rfl, a2, decide (z ∈ cs), by rw [a1]; rfl, q _ (up_upd hp)⟩
  · rename_i n p f p1 y k p2 p3 c
    simp only [Bool.and_eq_true, decide_eq_true_eq] at h
    obtain ⟨rfl, rfl, rfl⟩ := h
    have r := pt_cmpR (pos := p3) (op_eq (X := X)) (pe_xf (p := p) (pos := p1) T hno) (pe_str (X := X) (x := y) (j := k) (pos := p2)) rfl
    refine ⟨fun pins s σ H Q I hq => r.run pins s σ H Q I ?_⟩
    obtain ⟨h0, fs, z, hd, hl, q⟩ := hq
    refine ⟨h0, fs, .str z, hd, hl, rfl, decide (z = y), ?_, q _ (Up.refl _)⟩
    show V.bl (decide (V.str z = V.str y)) = V.bl (decide (z = y))
    congr 1
    rw [Bool.eq_iff_iff]
    simp
  · cases h
theorem pa_attrs (T : XCtx X i a C dd oe e) : ∀ {es : List Expr} {gs : List Str}, attrsB e es gs = true → (∀ g ∈ gs, PySem.W.findIn X.K (.ref C) g = some none) →
    PA X es (fun σ H Q => σ[i]? = some (some (.ref a)) ∧ ∃ (fs : List (Str × V)) (vs : List V), H dd = some (.xd fs) ∧ gs.map (fun g => fs.lookup g) = vs.map some ∧ Q vs H)
  | [], [], _, _ => ⟨fun p pins s σ H Q I ⟨_, fs, vs, _, e, q⟩ => (pa_nil (X := X)).run p pins s σ H Q I (by
      cases vs with
      | nil => exact q
      | cons _ _ => cases e)⟩
  | [], _ :: _, h, _ => by cases h
  | e1 :: es, gs, h, hno => by
    unfold attrsB at h
    split at h
    · contradiction
    · rename_i n p f p1 es' g gs' he
      cases he
      simp only [Bool.and_eq_true, decide_eq_true_eq] at h
      obtain ⟨hn, rfl, h⟩ := h
      replace hn := hn.symm
      subst hn
      refine ⟨fun p2 pins s σ H Q I ⟨h0, fs, vs, hd, ev, q⟩ => (pa_cons (pe_xf (p := p) (pos := p1) T (hno _ (List.mem_cons_self ..))) (pa_attrs T h fun g hg => hno g (List.mem_cons_of_mem _ hg))).run p2 pins s σ H Q I ?_⟩
      cases vs with
      | nil => cases ev
      | cons v vs =>
        injection ev with ev1 ev2
        exact ⟨h0, fs, v, hd, ev1, h0, fs, vs, hd, ev2, q⟩
    · cases h
theorem iteT' {b : Bool} {p q : Prop} (h : b = true) (hp : p) : if b = true then p else q := by rw [if_pos h]; exact hp
theorem iteF' {b : Bool} {p q : Prop} (h : b = false) (hq : q) : if b = true then p else q := by rw [if_neg (by rw [h]; simp)]; exact hq
def FldQ (fs : List (Str × V)) (gs : List Str) (Q : VK) (H : Hp) : Prop := ∃ vs : List V, gs.map (fun g => fs.lookup g) = vs.map some ∧ ∀ H', Up H H' → ∀ p, H' p = none → Q (.ref p) (upd H' p (.tup vs))
theorem FldQ.up {fs : List (Str × V)} {gs : List Str} {Q : VK} {H H' : Hp} (h : FldQ fs gs Q H) (u : Up H H') : FldQ fs gs Q H' := by
  obtain ⟨vs, e, q⟩ := h
  exact ⟨vs, e, fun H2 u2 => q H2 (u.trans u2)⟩
theorem tup_ret (T : XCtx X i a C dd oe e) {es : List Expr} {gs : List Str} {k : Nat} {p p1 : Pos} (h : attrsB e es gs = true) (hno : ∀ g ∈ gs, PySem.W.findIn X.K (.ref C) g = some none) (hl : gs.length ≤ 1000) :
    PE X (.Tuple es k p) (fun σ H Q => σ[i]? = some (some (.ref a)) ∧ ∃ fs : List (Str × V), H dd = some (.xd fs) ∧ FldQ fs gs Q H) := by
  refine ⟨fun pins s σ H Q I ⟨h0, fs, hd, vs, ev, q⟩ => (pe_tup (x1 := k) (pos := p) (pa_attrs T h hno)).run pins s σ H Q I ⟨h0, fs, vs, hd, ev, ?_, fun pp hp => q H (Up.refl _) pp hp⟩⟩
  have e2 := congrArg List.length ev
  rw [List.length_map, List.length_map] at e2
  rw [sizeLine_eq, ← e2]
  exact Nat.le_trans hl (by decide)
theorem fld_ok (T : XCtx X i a C dd oe e) (hno : ∀ g : Str, g ∈ (["code", "value", "key", "name", "line", "most", "subject", "at"] : List Str) → PySem.W.findIn X.K (.ref C) g = some none) : ∀ {body : List Stmt} {ms : List (MT × List Str)} {q : List Str × Str}, fldB e body ms q = true →
    (∀ p ∈ ms, (match p.1 with | .inn cs => cs.length ≤ 1000 | .eq _ => True) ∧ p.2.length ≤ 1000 ∧ ∀ g ∈ p.2, g ∈ (["code", "value", "key", "name", "line", "most", "subject", "at"] : List Str)) → (q.1.length ≤ 1000 ∧ q.2 ∈ (["code", "value", "key", "name", "line", "most", "subject", "at"] : List Str)) →
    PSs X body (fun D σ H => σ[i]? = some (some (.ref a)) ∧ ∃ (fs : List (Str × V)) (z : Str), H dd = some (.xd fs) ∧ fs.lookup ("code" : Str) = some (V.str z) ∧ FldQ fs (fldA z ms q) D.rt H) := by
  intro body
  induction body with
  | nil => intro ms q h; cases ms <;> cases h
  | cons st r ih =>
    intro ms q h hms hq
    unfold fldB at h
    split at h
    · rename_i z' t es k p p1 p2 m gs ms' he
      cases he
      simp only [Bool.and_eq_true] at h
      obtain ⟨h1, h2, h3⟩ := h
      obtain ⟨m1, m2, m3⟩ := hms _ (List.mem_cons_self ..)
      refine ⟨fun pins s σ H D I ⟨h0, fs, z, hd, hl, w⟩ => (pss_cons (ps_if (pt_test T (hno _ (by simp)) m1 h1) (pss_one (ps_ret (tup_ret (p1 := p1) T h2 (fun g hg => hno g (m3 g hg)) m2))) pss_nil) (ih h3 (fun p hp => hms p (List.mem_cons_of_mem _ hp)) hq)).run pins s σ H D I ⟨h0, fs, z, hd, hl, fun H' u => ?_⟩⟩
      unfold fldA at w
      cases hz : m.ans z with
      | true =>
        rw [hz] at w
        exact ⟨h0, fs, u _ _ hd, w.up u⟩
      | false =>
        rw [hz] at w
        exact ⟨h0, fs, z, u _ _ hd, hl, w.up u⟩
    · rename_i t k p es k2 p2 p3 p4 cs f he
      cases he
      rw [Bool.and_eq_true] at h
      refine ⟨fun pins s σ H D I ⟨h0, fs, z, hd, hl, w⟩ => (pss_one (ps_ret (pe_ifExp (pt_test T (hno _ (by simp)) hq.1 h.1) (tup_ret (gs := []) (p1 := p) T rfl (fun g hg => by cases hg) (by simp)) (tup_ret (p1 := p) T h.2 (fun g hg => by
        have e : g = f := by simpa using hg
        rw [e]
        exact hno f hq.2) (by simp))))).run pins s σ H D I ⟨h0, fs, z, hd, hl, fun H' u => ?_⟩⟩
      unfold fldA at w
      cases hz : decide (z ∈ cs) with
      | true =>
        rw [hz] at w
        refine iteT' hz ⟨h0, fs, u _ _ hd, w.up u⟩
      | false =>
        rw [hz] at w
        refine iteF' hz ⟨h0, fs, u _ _ hd, w.up u⟩
    · cases h
end
end EnY

namespace EnY
open PySem PySem.Spec PyProof.Rows L2
def wTup (K : PySem.W.Frag) (cs : List Value) (i : Nat) (ts : Addr → Value → Option Addr → TS) (D : Ends) : WX := fun cls d σ H =>
  PySem.W.exmAny K cls cs = some true ∧ ∀ a, H a = none → ts a cls d { nx := fun σ2 H2 => D.nx (σ2.set i none) H2, rt := D.rt, bk := fun σ2 H2 => D.bk (σ2.set i none) H2, ct := fun σ2 H2 => D.ct (σ2.set i none) H2 } (σ.set i (some (.ref a))) H
theorem fly_push {base h : Heap} {l : List Env} {e : Addr} {Z : Obj → Prop} {o : Obj} (x : HandSPX.FlyingZ base l e Z h) : HandSPX.FlyingZ base l e Z (h.push o) := by
  obtain ⟨k1, k2, k3, oe, vs, T, oT, ts, g1, g2, g3, g4, g5, g6, g7, g8, g9⟩ := x
  exact ⟨fun b u z => Heap.get?_push_of_some _ (k1 b u z), k2, k3.of_keeps fun b u z _ => ⟨u, Heap.get?_push_of_some _ z, rfl⟩, oe, vs, T, oT, ts, Heap.get?_push_of_some _ g1, g2, g3, g4, g5, g6, Heap.get?_push_of_some _ g7, g8, g9⟩
section
variable {X : Cx} {x1 x2 x3 n : Str} {c1 c2 c3 : Value} {i kk : Nat} {body suite : List Stmt} {st0 : Stmt} {q1 q2 q3 tp pos pos' : Pos} {tb : WX → TS} {ts : Addr → Value → Option Addr → TS}
theorem ps_try3 (hs : X.stack = X.env :: X.outer) (hf : X.env.frame = some X.env.locals) (hN : X.N.Nodup) (hi : X.N[i]? = some n) (hln : X.env.kindOf n = some .local) (n1 : Names X x1 c1) (n2 : Names X x2 c2) (n3 : Names X x3 c3)
    (hb : ∀ (W : WX) (pn : List (Addr × Obj)) (xe : Value → Shared → Prop), Takes (X.tr pn xe) W → PassesOwn (model X.prog X.w) X.A X.env xe → PSs (X.tr pn xe) body (tb W))
    (hsu : ∀ (a : Addr) (oe : Obj) (cls : Value) (d : Option Addr) (pn : List (Addr × Obj)), Zc cls d oe → (∃ vs, oe.data = .fields vs) → PSs (X.suite a ((a, oe) :: pn)) (st0 :: suite) (ts a cls d)) :
    PS X (.Try body [.ExceptHandler (some (.Tuple [.Name x1 q1, .Name x2 q2, .Name x3 q3] kk tp)) (some n) (st0 :: suite) pos'] [] [] pos) (fun D σ H => tb (wTup X.K [c1, c2, c3] i ts D) D σ H) := by
  refine ⟨fun pins s σ H D I h => ?_⟩
  have ok := I.ok
  have fr : X.A.frames = some (X.env :: X.outer) := by rw [ok.frames, hs]
  refine wpAny_Try_except ?_
  refine wpAny_mono ((hb (wTup X.K [c1, c2, c3] i ts D) (X.pn ++ pins)
    (fun ex s1 => wpAny (model X.prog X.w) X.A (noteFrame ex X.env) (fun _ s2 => wpAny (model X.prog X.w) X.A (setFlight ex none)
      (fun _ s3 => wpAny (model X.prog X.w) X.A (handleBy ex X.env [.ExceptHandler (some (.Tuple [.Name x1 q1, .Name x2 q2, .Name x3 q3] kk tp)) (some n) (st0 :: suite) pos']) (SP X pins D) X.xe s3) X.xe s2) X.xe s1)
    (fun u s' air => ?_) PassesOwn.looking).run [] s σ H D (I.toTry _) h) (fun fl s1 end_ => ?_) (fun ex s1 q => q)
  · obtain ⟨a, B, sI, pins', σ', H', cls, d, rfl, J', nb, up, sky, na, os, ag, hyes, w⟩ := air
    have J : Inv X pins σ' H' sI := J'.ofTry ok
    rw [show (X.tr _ _).stack = X.env :: X.outer from hs] at sky
    show wpAny (model X.prog X.w) X.A (noteFrame (.ref a) X.env) _ _ _
    refine Sky.land Zc.steady fr hf sky fun g3 fly3 up3 => ?_
    have J3 : Inv X pins σ' H' { s' with heap := g3 } := J.landed nb fly3.1 (up.trans up3) os ag
    obtain ⟨o3, v3, at3, z3, dat3⟩ := fly3.there
    have noFr : a ∉ frs (X.env :: X.outer) := fun hm => by
      obtain ⟨_, o2, e2, nf⟩ := fly3.2.2.1.mem hm
      rw [at3] at e2
      cases e2
      exact nf _ dat3
    have nL : a ≠ X.env.locals := fun z => noFr (List.mem_filterMap.mpr ⟨X.env, List.mem_cons_self, by rw [hf, z]⟩)
    have nF : a ∉ X.fs := fun hm => by
      obtain ⟨en, hen, q⟩ := List.mem_filterMap.mp hm
      exact noFr (List.mem_filterMap.mpr ⟨en, List.mem_cons_of_mem _ hen, q⟩)
    have S3 := J3.suite at3 dat3 na nL nF
    refine wpAny_handleBy_cons (codeAny_handlers_test ?_) (by intro q; cases q)
    have name : ∀ {y : Str} {c : Value} {p : Pos} {Q : Value → Shared → Prop} {E : Value → Shared → Prop}, Names X y c → Q c { s' with heap := g3 } → wpAny (model X.prog X.w) (X.A.mark (some (.ref a))) (eval (.Name y p) X.env) Q E { s' with heap := g3 } := fun {y c p Q E} hn q => by
      obtain ⟨hg, hdb, hm | ⟨hm, hv, hne⟩⟩ := hn
      · exact ld_glob (X := X.suite a ((a, o3) :: (X.pn ++ pins))) S3 hg hm q hdb
      · exact ld_blt (X := X.suite a ((a, o3) :: (X.pn ++ pins))) S3 hg hm hv q hne hdb
    refine wpAny_Tuple_spliced ?_
    refine Calls.spliced_cons ?_
    refine name n1 (Calls.spliced_cons ?_)
    refine name n2 (Calls.spliced_cons ?_)
    refine name n3 (Calls.spliced_nil ⟨by rw [sizeLine_eq]; simp, ?_⟩)
    have fly4 := fly_push (o := { cls := .type "tuple", data := .seq [c1, c2, c3].toArray }) fly3
    have up4 : g3.UpToSlots (g3.push { cls := .type "tuple", data := .seq [c1, c2, c3].toArray }) := fun b o z _ => ⟨o.slots, Heap.get?_push_of_some _ z⟩
    have LT : PySem.W.Looks (model X.prog X.w) (g3.push { cls := .type "tuple", data := .seq [c1, c2, c3].toArray }) (typeOf (.ref a)) cls := fun A Q E sx k q => wpAny_typeOf_ref (k _ _ (Heap.get?_push_of_some _ at3)) (by rw [z3.1]; exact q)
    have LM := PySem.W.exm_tup3 (M := model X.prog X.w) (tp := g3.objs.size) (J3.kIn.keeps fun b o z => Heap.get?_push_of_some _ z) LT (Heap.get?_push_at rfl rfl) hyes
    refine LM.here ?_
    refine codeAny_handlers_suite_as ?_
    refine HandSPX.lands_againZ fly4 fun g5 fly5 up5 => ?_
    have J5 : Inv X pins σ' H' { s' with heap := g5 } := J.landed nb fly5.1 (((up.trans up3).trans up4).trans up5) os ag
    obtain ⟨o5, v5, at5, z5, dat5⟩ := fly5.there
    have S5 := J5.suite at5 dat5 na nL nF
    refine store_ok (X := X.suite a ((a, o5) :: (X.pn ++ pins))) (v := .ref a) S5 hN hi (.inl hln) rfl (fun s6 S6 => ?_) (.inr hln)
    refine wpAny_mono ((hsu a o5 cls d (X.pn ++ pins) z5 ⟨_, dat5⟩).run [] s6 _ H' _ S6 (w a na)) (fun fl s7 sp => ?_) (fun _ _ z => False.elim z)
    have gone : ∀ {σ7 : L2.St} {H7 : Hp} {Q : Shared → Prop}, Inv (X.suite a ((a, o5) :: (X.pn ++ pins))) [] σ7 H7 s7 → (∀ s8, Inv X pins (σ7.set i none) H7 s8 → Q s8) →
        wpAny (model X.prog X.w) X.A (do bindName X.env n .none; unbindBehindTheSuite X.env n pos') (fun _ s8 => Q s8) X.xe s7 := fun S7 hq => gone_ok (S7.unsuite ok) hN hi hln hq
    cases fl with
    | next =>
      obtain ⟨σ7, H7, S7, q7⟩ := sp
      exact gone S7 fun s8 J8 => ⟨_, _, J8, q7⟩
    | brk =>
      obtain ⟨σ7, H7, S7, q7⟩ := sp
      exact gone S7 fun s8 J8 => ⟨_, _, J8, q7⟩
    | cont =>
      obtain ⟨σ7, H7, S7, q7⟩ := sp
      exact gone S7 fun s8 J8 => ⟨_, _, J8, q7⟩
    | ret u =>
      obtain ⟨v7, σ7, H7, S7, r7, q7⟩ := sp
      exact gone S7 fun s8 J8 => ⟨_, _, _, J8, r7, q7⟩
  · cases fl with
    | next =>
      obtain ⟨σ2, H2, J2, q⟩ := end_
      exact wpAny_execs_nil ⟨σ2, H2, J2.ofTry ok, q⟩
    | brk =>
      obtain ⟨σ2, H2, J2, q⟩ := end_
      exact ⟨σ2, H2, J2.ofTry ok, q⟩
    | cont =>
      obtain ⟨σ2, H2, J2, q⟩ := end_
      exact ⟨σ2, H2, J2.ofTry ok, q⟩
    | ret u =>
      obtain ⟨v, σ2, H2, J2, r, q⟩ := end_
      exact ⟨v, σ2, H2, J2.ofTry ok, r, q⟩
end
end EnY

namespace EnY
open PySem PySem.Spec PyProof.Rows L2
structure FnP (P : Program) (w : World) (K : PySem.W.Frag) (mg : Str → Option Value) (base : Heap) (k : Nat) (f : Addr) (fd : FuncData) (ps : List Str) (sp : Addr × Obj → Sp) : Prop where
  len : ∀ p vs H Q E, sp p vs H Q E → vs.length = ps.length
  run : ∀ (A : Around) (outer : List Env) (s : Shared) (H : Hp) (args : Args) (us : List Value) (vs : List V) (Q : VK) (E : XK) (p : Addr × Obj), L2H.RoomH k A → L2H.PinOk outer H s p → Env0 P w K mg base A outer s H → BindsTo s fd args (ps.zip us) → Vals vs us → sp p vs H Q E →
    codeAny (model P w) A (.call (.ref f) args) (CR (L2.CX P w) outer P w H s Q E) s
theorem fnp_of {P : Program} {w : World} {K : PySem.W.Frag} {mg : Str → Option Value} {base : Heap} {k : Nat} {f : Addr} {name qual : Str} {params : Arguments} {body : List Stmt} {scope : Scope} {dV kV doc pm cdv ct oc : Value} {an od : Option Addr}
    {osl : Array (Option Value)} {N ps : List Str} {sp : Addr × Obj → Sp} (lk : K.lookup f = some ⟨oc, od, .func (PySem.W.fnOf name qual params body scope dV kV doc pm an cdv ct), osl⟩) (hcd : PySem.W.codeIn K cdv qual = true) (S : FnScope N ps scope)
    (len : ∀ p vs H Q E, sp p vs H Q E → vs.length = ps.length)
    (hb : ∀ (A : Around) (outer : List Env) (s : Shared) (H : Hp) (vs : List V) (Q : VK) (E : XK) (p : Addr × Obj), sp p vs H Q E →
      ∃ t, PSs (L2H.cxH (L2.CX P w) P w K mg base N qual scope f cdv A outer s H E p) body t ∧ t { nx := fun _ H' => Q .non H', rt := Q } (L2.start N vs) H) :
    FnP P w K mg base (k + 1) f (PySem.W.fnOf name qual params body scope dV kV doc pm an cdv ct) ps sp := by
  refine ⟨len, fun A outer s H args us vs Q E p room pin e0 bi r hsp => ?_⟩
  have lv := len _ _ _ _ _ hsp
  have up : ∀ b o, base.get? b = some o → s.heap.get? b = some o := fun b o e => (e0.bs b o e).1
  have kin : K.In s.heap := e0.mod.kin.keeps up
  have lim : s.heap.NoLimit := e0.mod.nolimit.keeps up
  have kinds : ∀ y ∈ ps.zip us, scope.names.lookup y.1 = some .local ∨ (scope.names.lookup y.1 = some .cell ∧ ((cellsFrom (s.heap.objs.size + 1) scope.names []).lookup y.1).isSome = true) := by
    rintro ⟨m, v⟩ hy
    rcases S.par m (List.of_mem_zip hy).1 with z | z
    · exact .inl z
    · exact .inr ⟨z, PySem.W.cellsFrom_some _ _ _ (.inl z)⟩
  refine codeAny_call_function room.depth (kin _ _ lk) rfl S.co S.gen rfl (PySem.W.codeRec_of kin hcd) (bi _ _ _ _ ?_)
  refine wpAny_newFunctionEnv_cells S.kind kinds fun env henv s1 inn => ?_
  subst henv
  refine ⟨lim.keeps inn.toInCall.keep, codeAny_func ?_⟩
  obtain ⟨t, ht, hq⟩ := hb A outer s H vs Q E p hsp
  have I : Inv (L2H.cxH (L2.CX P w) P w K mg base N qual scope f cdv A outer s H E p) [] (L2.start N vs) H s1 := L2H.inv_startH S pin e0 lv r inn
  refine wpAny_mono (ht.run [] s1 (L2.start N vs) H _ I hq) (fun fl s' out => ?_) fun e s' out => out
  have last : ∀ {σ' : L2.St} {H' : Hp} {v : V} {u : Value}, Inv (L2H.cxH (L2.CX P w) P w K mg base N qual scope f cdv A outer s H E p) [] σ' H' s' → RelV v u → Q v H' → CE outer P w H s Q u s' :=
    fun J rv q => ⟨_, _, J.os, J.bare, J.base, J.hok, rv, q⟩
  cases fl with
  | ret u =>
    obtain ⟨v, σ', H', J, rv, q⟩ := out
    exact last J rv q
  | next =>
    obtain ⟨σ', H', J, q⟩ := out
    exact last (v := V.non) (u := Value.none) J rfl q
  | brk => exact (show False from out.elim fun _ z => z.elim fun _ z => z.2).elim
  | cont => exact (show False from out.elim fun _ z => z.elim fun _ z => z.2).elim
section
variable {X : Cx} {k : Nat} {f : Addr} {fd : FuncData} {ps : List Str} {sp : Addr × Obj → Sp} {x : Str} {e : Expr} {es : List Expr} {t : TA} {q pos : Pos} {p : Addr × Obj}
theorem pe_callP (F : FnP X.prog X.w X.K X.mg X.base k f fd ps sp) (room : L2H.RoomH k X.A) (hp : p ∈ X.pn) (hg : Gl X x) (hm : X.mg x = some (.ref f)) (hk : PySem.W.keepIn X.K (.ref f) = true) (hb : Binds X.K fd ps [])
    (ha : PA X (e :: es) t) (hdb : (x == ("__debug__" : Str)) = false) (he : starEach (e :: es) X.env = (false, eval e X.env) :: starEach es X.env) (hpl : (backTo pos (starEach es X.env)).any (·.1) = false) :
    PE X (.Call (.Name x q) (e :: es) [] pos) (fun σ H Q => t σ H fun vs H1 => sp p vs H1 Q fun _ _ _ => False) := by
  refine ⟨fun pins s σ H Q I h => ?_⟩
  refine wpAny_Call_Name_kw (ld_glob I hg hm ?_ hdb)
  refine PySem.W.callWith_K (h₀ := X.base) I.ok.mod.kin hk (thn (ha.run pos pins s σ H _ I h) fun us s1 ⟨vs, H1, I1, r, w⟩ => ⟨I1.kIn, ?_⟩) he hpl
  have lv := F.len _ _ _ _ _ w
  have b := hb s1 us I1.kIn (by rw [List.append_nil, ← r.length]; exact lv)
  rw [List.append_nil] at b
  have P1 := I1.pin p (List.mem_append_left _ hp)
  have pin : L2H.PinOk X.stack H1 s1 p := ⟨P1.1, P1.2.1, fun z => (List.mem_cons.mp (I1.stkSub p.1 z)).elim P1.2.2.1 P1.2.2.2.1, P1.2.2.2.2⟩
  refine wpAny_call (codeAny_mono (F.run X.A X.stack s1 H1 ⟨us, []⟩ us vs Q (fun _ _ _ => False) p room pin I1.env0 b r w) fun rr s2 out => ?_)
  cases rr with
  | error x =>
    obtain ⟨_, _, _, _, _, _, _, _, _, _, _, _, z⟩ := out
    exact z.elim
  | ok fl =>
    cases fl with
    | ret u => exact I1.after out
    | next => exact False.elim out
    | brk => exact False.elim out
    | cont => exact False.elim out
end
def spFld (K : PySem.W.Frag) (ms : List (MT × List Str)) (q : List Str × Str) (p : Addr × Obj) : Sp := fun vs H Q _ => vs = [.ref p.1] ∧ ∃ (C dd : Addr) (fs : List (Str × V)) (z : Str), Zc (.ref C) (some dd) p.2 ∧ (∃ us, p.2.data = .fields us) ∧ XfC K C ∧
  (∀ g : Str, g ∈ (["code", "value", "key", "name", "line", "most", "subject", "at"] : List Str) → PySem.W.findIn K (.ref C) g = some none) ∧ H dd = some (.xd fs) ∧ fs.lookup ("code" : Str) = some (V.str z) ∧ FldQ fs (fldA z ms q) Q H
def msB (ms : List (MT × List Str)) (q : List Str × Str) : Bool :=
  ms.all (fun p => (match p.1 with | .inn cs => decide (cs.length ≤ 1000) | .eq _ => true) && (decide (p.2.length ≤ 1000) && p.2.all fun g => decide (g ∈ (["code", "value", "key", "name", "line", "most", "subject", "at"] : List Str)))) &&
  (decide (q.1.length ≤ 1000) && decide (q.2 ∈ (["code", "value", "key", "name", "line", "most", "subject", "at"] : List Str)))
theorem fields_ok {P : Program} {w : World} {K : PySem.W.Frag} {mg : Str → Option Value} {base : Heap} {k : Nat} {f : Addr} {name qual e : Str} {params : Arguments} {body : List Stmt} {scope : Scope} {dV kV doc pm cdv ct oc : Value} {an od : Option Addr}
    {osl : Array (Option Value)} {ms : List (MT × List Str)} {q : List Str × Str} (lk : K.lookup f = some ⟨oc, od, .func (PySem.W.fnOf name qual params body scope dV kV doc pm an cdv ct), osl⟩) (hcd : PySem.W.codeIn K cdv qual = true) (S : FnScope [e] [e] scope)
    (hv : scope.names.lookup e = some .local) (d1 : (e == ("__debug__" : Str)) = false) (d2 : (e == ("__classdict__" : Str)) = false) (hb : fldB e body ms q = true) (hm : msB ms q = true) :
    FnP P w K mg base (k + 1) f (PySem.W.fnOf name qual params body scope dV kV doc pm an cdv ct) [e] (spFld K ms q) := by
  refine fnp_of lk hcd S (fun p vs H Q E h => by rw [h.1]; rfl) fun A outer s H vs Q E p h => ?_
  obtain ⟨rfl, C, dd, fs, z, h1, h2, h3, h4, h5, h6, h7⟩ := h
  have T : XCtx (L2H.cxH (L2.CX P w) P w K mg base [e] qual scope f cdv A outer s H E p) 0 p.1 C dd p.2 e := ⟨List.mem_singleton.mpr rfl, h1, h2, h3, rfl, .inl hv, d1, d2⟩
  unfold msB at hm
  rw [Bool.and_eq_true, Bool.and_eq_true, decide_eq_true_eq, decide_eq_true_eq] at hm
  refine ⟨_, fld_ok T h4 hb (fun m hmm => ?_) ⟨hm.2.1, hm.2.2⟩, rfl, fs, z, h5, h6, h7⟩
  have q1 := List.all_eq_true.mp hm.1 m hmm
  simp only [Bool.and_eq_true, decide_eq_true_eq, List.all_eq_true] at q1
  refine ⟨?_, q1.2.1, q1.2.2⟩
  have q2 := q1.1
  obtain ⟨mt, gs⟩ := m
  cases mt with
  | inn cs => exact of_decide_eq_true q2
  | eq c => trivial
end EnY

namespace EnY
open PySem PySem.Spec PyProof.Rows L2
def whyX (K : PySem.W.Frag) (cs : List Value) (ms : List (MT × List Str)) (q : List Str × Str) (cls : Value) (d : Option Addr) (H : Hp) (Q : VK) : Prop :=
  ∃ (C dd : Addr) (fs : List (Str × V)) (z : Str), cls = .ref C ∧ d = some dd ∧ PySem.W.exmAny K (.ref C) cs = some true ∧ XfC K C ∧ (∀ g : Str, g ∈ exNames → PySem.W.findIn K (.ref C) g = some none) ∧ H dd = some (.xd fs) ∧ fs.lookup ("code" : Str) = some (V.str z) ∧
    FldQ fs (fldA z ms q) (fun u H1 => ∀ p, H1 p = none → Q (.ref p) (upd H1 p (.tup [.str z, u]))) H
def whyV (H : Hp) (v : V) (Q : VK) : Prop := ∀ p, H p = none → Q (.ref p) (upd H p (.tup [.str "value", v]))
def spWhy (P : Program) (w : World) (K : PySem.W.Frag) (mg : Str → Option Value) (base : Heap) (k : Nat) (cs : List Value) (ms : List (MT × List Str)) (q : List Str × Str) : Sp := fun vs H Q _ =>
  ∃ (f : Addr) (sp : Hp → VK → XK → Prop), vs = [.ref f] ∧ Callable P w K mg base k f sp ∧ sp H (fun v H1 => whyV H1 v Q) (fun cls d H1 => whyX K cs ms q cls d H1 Q)
def whyB (a e g x1 x2 x3 : Str) : List Stmt → Bool
  | [.Try [.Return (some (.Tuple [.Constant (.str v) _ _, .Call (.Name a' _) [] [] _] _ _)) _] [.ExceptHandler (some (.Tuple [.Name y1 _, .Name y2 _, .Name y3 _] _ _)) (some e') [.Return (some (.Tuple [.Attribute (.Name e2 _) c _, .Call (.Name g' _) [.Name e3 _] [] _] _ _)) _] _] [] [] _] =>
    decide (v = ("value" : Str) ∧ a' = a ∧ y1 = x1 ∧ y2 = x2 ∧ y3 = x3 ∧ e' = e ∧ e2 = e ∧ c = ("code" : Str) ∧ g' = g ∧ e3 = e)
  | _ => false
section
variable {P : Program} {w : World} {K : PySem.W.Frag} {mg : Str → Option Value} {base : Heap} {k : Nat} {f ff c1 c2 c3 : Addr} {name qual a e g x1 x2 x3 : Str} {params : Arguments} {body : List Stmt} {scope : Scope} {fd ffd : FuncData} {ms : List (MT × List Str)} {q : List Str × Str}
theorem why_ok (F : FunD K name qual params body scope [] [] f fd) (S : FnScope [a, e] [a] scope) (hb : whyB a e g x1 x2 x3 body = true)
    (ha : scope.names.lookup a = some .local) (he : scope.names.lookup e = some .local) (hg : scope.names.lookup g = some .globalImplicit) (h1 : scope.names.lookup x1 = some .globalImplicit) (h2 : scope.names.lookup x2 = some .globalImplicit) (h3 : scope.names.lookup x3 = some .globalImplicit)
    (dbg : ∀ y ∈ [a, e, g, x1, x2, x3], (y == ("__debug__" : Str)) = false ∧ (y == ("__classdict__" : Str)) = false)
    (m1 : mg x1 = some (.ref c1)) (m2 : mg x2 = some (.ref c2)) (m3 : mg x3 = some (.ref c3)) (mgf : mg g = some (.ref ff)) (kf : PySem.W.keepIn K (.ref ff) = true) (bf : Binds K ffd [e] []) (FF : FnP P w K mg base k ff ffd [e] (spFld K ms q)) :
    FnOk P w K mg base (L2.CX P w) (k + 1) f fd [a] (spWhy P w K mg base k [.ref c1, .ref c2, .ref c3] ms q) := by
  have dA := dbg a (by simp)
  have dE := dbg e (by simp)
  unfold whyB at hb
  split at hb
  · rename_i v j1 p1 a' p2 p3 j2 p4 p5 y1 p6 y2 p7 y3 p8 j3 p9 e' e2 p10 c p11 g' p12 e3 p13 p14 j4 p15 p16 p17 p18
    obtain ⟨rfl, rfl, rfl, rfl, rfl, rfl, rfl, rfl, rfl, rfl⟩ := of_decide_eq_true hb
    refine F.ok S (fun vs H Q E h => by obtain ⟨_, _, e, _⟩ := h; rw [e]; rfl) fun cdv A outer s H vs Q E hr h => ?_
    obtain ⟨fL, sp, rfl, CL, hsp⟩ := h
    let X : Cx := cxOf (L2.CX P w) P w K mg base [a', e3] qual scope f cdv A outer s H E
    let tb : WX → TS := fun W => tRet (tTup (tCons (tC (.str "value")) (tCons (tClo X k 0 W) tNil)))
    let ts : Addr → Value → Option Addr → TS := fun a cls d D σ H => ∃ (C dd : Addr) (fs : List (Str × V)) (z : Str), cls = .ref C ∧ d = some dd ∧ XfC K C ∧ (∀ g : Str, g ∈ exNames → PySem.W.findIn K (.ref C) g = some none) ∧ σ[1]? = some (some (.ref a)) ∧
      H dd = some (.xd fs) ∧ fs.lookup ("code" : Str) = some (V.str z) ∧ FldQ fs (fldA z ms q) (fun u H1 => ∀ p, H1 p = none → D.rt (.ref p) (upd H1 p (.tup [.str z, u]))) H
    have vA : Vis X.env.scope a' := .inl ha
    have vE : Vis X.env.scope e3 := .inl he
    have body_ : ∀ (W : WX) (pn : List (Addr × Obj)) (xe : Value → Shared → Prop), Takes (X.tr pn xe) W → PassesOwn (model X.prog X.w) X.A X.env xe → PSs (X.tr pn xe) [.Return (some (.Tuple [.Constant (.str "value") j1 p1, .Call (.Name a' p2) [] [] p3] j2 p4)) p5] (tb W) := fun W pn xe tk _ =>
      pss_one (ps_ret (pe_tup (pa_cons (pe_str (X := X.tr pn xe)) (pa_cons (pe_clo (X := X.tr pn xe) (i := 0) hr tk rfl vA dA.1 dA.2) pa_nil))))
    have suite_ : ∀ (a : Addr) (oe : Obj) (cls : Value) (d : Option Addr) (pn : List (Addr × Obj)), Zc cls d oe → (∃ vs, oe.data = .fields vs) → PSs (X.suite a ((a, oe) :: pn)) [.Return (some (.Tuple [.Attribute (.Name e3 p10) "code" p11, .Call (.Name g' p12) [.Name e3 p13] [] p14] j4 p15)) p16] (ts a cls d) := by
      intro a oe cls d pn hz hfl
      refine ⟨fun pins s2 σ2 H2 D I h => ?_⟩
      obtain ⟨C, dd, fs, z, rfl, rfl, hx, hno, hs1, hd, hl, hq⟩ := h
      have T : XCtx (X.suite a ((a, oe) :: pn)) 1 a C dd oe e3 := ⟨List.mem_cons_self .., hz, hfl, hx, rfl, vE, dE.1, dE.2⟩
      have room : L2H.RoomH k (X.suite a ((a, oe) :: pn)).A := ⟨hr.dp, hr.un⟩
      have call := pe_callP (X := X.suite a ((a, oe) :: pn)) (p := (a, oe)) (q := p12) (pos := p14) FF room (List.mem_cons_self ..) hg mgf kf bf (pa_cons (pe_var (X := X.suite a ((a, oe) :: pn)) (i := 1) (pos := p13) rfl vE dE.1 dE.2) pa_nil) (dbg g' (by simp)).1 rfl rfl
      refine (pss_one (ps_ret (pos := p16) (pe_tup (x1 := j4) (pos := p15) (pa_cons (pe_xf (p := p10) (pos := p11) T (hno _ (by simp))) (pa_cons call pa_nil))))).run pins s2 σ2 H2 D I ?_
      obtain ⟨vs, ev, w⟩ := hq
      exact ⟨hs1, fs, .str z, hd, hl, .ref a, hs1, rfl, C, dd, fs, z, hz, hfl, hx, hno, hd, hl, vs, ev, fun H' u p hp => ⟨by rw [sizeLine_eq]; simp, fun p2 hp2 => w H' u p hp p2 hp2⟩⟩
    refine ⟨_, pss_one (ps_try3 (X := X) (c1 := .ref c1) (c2 := .ref c2) (c3 := .ref c3) (i := 1) (ts := ts) rfl rfl S.nd rfl he ⟨h1, (dbg _ (by simp)).1, .inl m1⟩ ⟨h2, (dbg _ (by simp)).1, .inl m2⟩ ⟨h3, (dbg _ (by simp)).1, .inl m3⟩ body_ suite_), ?_⟩
    refine ⟨fL, sp, rfl, CL, CL.mono _ _ _ _ _ hsp (fun v H1 hv => ⟨by rw [sizeLine_eq]; simp, fun p hp => hv p hp⟩) fun cls d H1 hx => ?_⟩
    obtain ⟨C, dd, fs, z, rfl, rfl, hm, hx, hno, hd, hl, hq⟩ := hx
    exact ⟨hm, fun a na => ⟨C, dd, fs, z, rfl, rfl, hx, hno, rfl, hd, hl, hq⟩⟩
  · cases hb
end
end EnY

namespace EnY
open PySem PySem.Spec PyProof.Rows L2
def RunW (K : PySem.W.Frag) (cs : List Value) (ms : List (MT × List Str)) (q : List Str × Str) (a D : Addr) (xs : List V) (Q : VK) : List (Hp → VK → XK → Prop) → List V → Hp → Prop
  | [], _, H => Q (.ref D) H
  | sp :: r, acc, H => acc.length < sizeLine ∧
    sp H (fun v H1 => whyV H1 v fun u H2 => H2 D = some (.lst acc) ∧ SqL K (upd H2 D (.lst (acc ++ [u]))) a xs ∧ RunW K cs ms q a D xs Q r (acc ++ [u]) (upd H2 D (.lst (acc ++ [u]))))
      (fun cls d H1 => whyX K cs ms q cls d H1 fun u H2 => H2 D = some (.lst acc) ∧ SqL K (upd H2 D (.lst (acc ++ [u]))) a xs ∧ RunW K cs ms q a D xs Q r (acc ++ [u]) (upd H2 D (.lst (acc ++ [u]))))
def spWhys (P : Program) (w : World) (K : PySem.W.Frag) (mg : Str → Option Value) (base : Heap) (k : Nat) (cs : List Value) (ms : List (MT × List Str)) (q : List Str × Str) : Sp := fun vs H Q _ =>
  ∃ (a : Addr) (fs : List Addr) (sps : List (Hp → VK → XK → Prop)), vs = [.ref a] ∧ SqL K H a (fs.map V.ref) ∧ sps.length = fs.length ∧ (∀ (j : Nat) f sp, fs[j]? = some f → sps[j]? = some sp → Callable P w K mg base k f sp) ∧
    ∀ D, H D = none → SqL K (upd H D (.lst [])) a (fs.map V.ref) ∧ RunW K cs ms q a D (fs.map V.ref) Q sps [] (upd H D (.lst []))
def whysB (a y g : Str) : List Stmt → Bool
  | [.Return (some (.ListComp (.Call (.Name g' _) [.Name y1 _] [] _) [⟨.Name y2 _, .Name a' _, [], 0⟩] _ _)) _] => decide (g' = g ∧ y1 = y ∧ y2 = y ∧ a' = a)
  | _ => false
def whysS : List Stmt → Scope
  | [.Return (some (.ListComp _ _ sc _)) _] => sc
  | _ => default
theorem FldQ.mono {fs : List (Str × V)} {gs : List Str} {Q Q' : VK} {H : Hp} (h : FldQ fs gs Q H) (m : ∀ v H', Q v H' → Q' v H') : FldQ fs gs Q' H := by
  obtain ⟨vs, e, q⟩ := h
  exact ⟨vs, e, fun H' u p hp => m _ _ (q H' u p hp)⟩
theorem whyX.mono {K : PySem.W.Frag} {cs : List Value} {ms : List (MT × List Str)} {q : List Str × Str} {cls : Value} {d : Option Addr} {H : Hp} {Q Q' : VK} (h : whyX K cs ms q cls d H Q) (m : ∀ v H', Q v H' → Q' v H') : whyX K cs ms q cls d H Q' := by
  obtain ⟨C, dd, fs, z, e1, e2, e3, e4, e5, e6, e7, e8⟩ := h
  exact ⟨C, dd, fs, z, e1, e2, e3, e4, e5, e6, e7, e8.mono fun u H1 w p hp => m _ _ (w p hp)⟩
section
variable {P : Program} {w : World} {K : PySem.W.Frag} {mg : Str → Option Value} {base : Heap} {k : Nat} {f fw : Addr} {name qual a y g yw : Str} {params : Arguments} {body : List Stmt} {scope : Scope} {fd fdw : FuncData} {cs : List Value} {ms : List (MT × List Str)} {q : List Str × Str}
theorem whys_ok (F : FunD K name qual params body scope [] [] f fd) (S : FnScope [a, y] [a] scope) (hb : whysB a y g body = true) (ok : BlkOk [a, y] scope (whysS body) [(y, 1)])
    (ha : scope.names.lookup a = some .local) (hg : (relS (whysS body) scope).names.lookup g = some .globalImplicit) (hy : (relS (whysS body) scope).names.lookup y = some .local)
    (dbg : ∀ z ∈ [a, y, g], (z == ("__debug__" : Str)) = false ∧ (z == ("__classdict__" : Str)) = false)
    (mgf : mg g = some (.ref fw)) (kf : PySem.W.keepIn K (.ref fw) = true) (bf : Binds K fdw [yw] []) (FW : FnOk P w K mg base (L2.CX P w) k fw fdw [yw] (spWhy P w K mg base (k - 1) cs ms q)) :
    FnOk P w K mg base (L2.CX P w) (k + 1) f fd [a] (spWhys P w K mg base (k - 1) cs ms q) := by
  have dA := dbg a (by simp)
  have dY := dbg y (by simp)
  have dG := dbg g (by simp)
  unfold whysB at hb
  split at hb
  · rename_i g' p1 y1 p2 p3 y2 p4 a' p5 csc p6 p7
    obtain ⟨rfl, rfl, e3, rfl⟩ := of_decide_eq_true hb
    subst e3
    refine F.ok S (fun vs H Q E h => by obtain ⟨_, _, _, e, _⟩ := h; rw [e]; rfl) fun cdv A outer s H vs Q E hr h => ?_
    obtain ⟨aL, fs, sps, rfl, hl, hlen, hcal, hrun⟩ := h
    let X : Cx := cxOf (L2.CX P w) P w K mg base [a', y2] qual scope f cdv A outer s H E
    have none_ : ∀ (s : Shared) (H : Hp) (C : Addr) (cl : List (Str × Addr)) (fp : List Addr), Passes (L2.CX P w) (X.blk s H csc (compEnvC csc cl C X.env) fp) (fun _ _ _ => False) := fun s H C cl fp pins σ H2 s2 e s' _ c => by
      obtain ⟨_, _, _, _, _, _, _, _, _, _, _, _, z⟩ := c
      exact z.elim
    refine ⟨_, pss_one (ps_ret (pe_lc (X := X) (own := [(y2, 1)]) rfl S.nd (pi_list (pe_var (X := X) (i := 0) rfl (.inl ha) dA.1 dA.2)) ok (fun s H C cl fp => pg_name (X := X.blk s H csc (compEnvC csc cl C X.env) fp) (i := 1) S.nd rfl (.inl hy) (.inr hy)) (fun s H C cl fp => pts_nil)
      (fun s H C cl fp => pe_call (X := X.blk s H csc (compEnvC csc cl C X.env) fp) FW hr hg mgf kf bf .nil (none_ s H C cl fp) (pa_cons (pe_var (X := X.blk s H csc (compEnvC csc cl C X.env) fp) (i := 1) rfl (.inl hy) dY.1 dY.2) pa_nil) dG.1 rfl rfl) (fun _ => rfl))), ?_⟩
    refine ⟨.ref aL, rfl, aL, rfl, ⟨_, hl⟩, fun D hD => ?_⟩
    refine ⟨fun i m H => m = fs.length - i ∧ i ≤ fs.length ∧ ∃ acc, SqL K H aL (fs.map V.ref) ∧ RunW K cs ms q aL D (fs.map V.ref) Q (sps.drop i) acc H, ⟨fs.length, by simp, Nat.zero_le _, [], (hrun D hD).1, by rw [List.drop_zero]; exact (hrun D hD).2⟩, ?_⟩
    rintro i m H2 ⟨rfl, hi, acc, hsq, hrw⟩
    by_cases hlt : i < fs.length
    · have hf : fs[i]? = some fs[i] := List.getElem?_eq_getElem hlt
      have hs : sps[i]? = some (sps[i]'(by omega)) := List.getElem?_eq_getElem (by omega)
      have hx : (fs.map V.ref)[i]? = some (.ref fs[i]) := by rw [List.getElem?_map, hf]; rfl
      refine .inr ⟨⟨_, _, hsq, hx⟩, fun H' => ∃ acc', SqL K H' aL (fs.map V.ref) ∧ RunW K cs ms q aL D (fs.map V.ref) Q (sps.drop (i + 1)) acc' H', fun H' hN => ⟨fs.length - (i + 1), by omega, rfl, hlt, hN⟩, fun x H' hyl => ?_⟩
      obtain ⟨rfl, hyl⟩ := hyl
      have ex := hyl _ hsq
      rw [hx] at ex
      cases ex
      refine ⟨rfl, ?_⟩
      unfold tYes
      rw [List.drop_eq_getElem_cons (by omega)] at hrw
      obtain ⟨h1, h2⟩ := hrw
      have CL := hcal i _ _ hf hs
      rw [if_pos rfl]
      refine ⟨.ref fs[i], rfl, fs[i], _, rfl, CL, CL.mono _ _ _ _ _ h2 (fun v H1 hv p hp => ?_) fun cls d H1 hx => hx.mono fun u H3 w => ?_⟩
      · obtain ⟨w1, w2, w3⟩ := hv p hp
        exact ⟨acc, w1, h1, _, w2, w3⟩
      · obtain ⟨w1, w2, w3⟩ := w
        exact ⟨acc, w1, h1, _, w2, w3⟩
    · have e : i = fs.length := by omega
      subst e
      rw [List.drop_eq_nil_of_le (by omega)] at hrw
      exact .inl ⟨⟨_, hsq, by rw [List.length_map]; exact Nat.le_refl _⟩, hrw⟩
  · cases hb
end
end EnY

namespace EnY
open PySem PySem.Spec PyProof.Rows L2
abbrev lamO (q : Str) (params : Arguments) (body : Expr) (scope : Scope) (cl : List (Str × Addr)) (dV pm cv ctv : Value) : Obj :=
  { cls := .type "function", data := .func { name := "<lambda>", qualname := q, params := params, body := .expr body, scope := scope, globals := mainGlobals, closure := cl, defaults := dV, kwdefaults := .none, doc := .none, pyModule := pm, annotations := none, code := cv, closureTuple := ctv, builtins := builtinsNs } }
section
variable {M : Model} {A : Around} {E : Value → Shared → Prop} {s : Shared} {q : Str} {params : Arguments} {body : Expr} {scope : Scope} {env : Env} {c P : Addr} {ps : Array Value} {pos : Pos} {fl : Nat} {mg : Str → Option Value} {clos : List (Str × Addr)} {Q : Value → Shared → Prop} {dV : Value}
theorem mk_new (hcl : closureFor scope env = pure clos) (hge : env.globals = mainGlobals) (hg : s.heap.Ns mainGlobals mg) (hcode : env.code = .ref c) (C : PySem.W.CodeHd s.heap c P) (hP : s.heap.get? P = some (PySem.W.tabObj ps)) (ht : TriplesOk ps.toList) (no : codeAmong pos ps.toList = none) (hgP : mainGlobals ≠ P) (hb : s.heap.BuiltinsAt mg P)
    (h : ∀ c' ctv h' tk, Heap.ExtBut P s.heap h' → s.heap.objs.size ≤ c' → c' < h'.objs.size → h'.CodeRec (.ref c') q → h'.get? P = some (PySem.W.tabObj (ps ++ #[rawInt pos.line, rawInt pos.col, .ref c'])) →
      Q (.ref h'.objs.size) { s with heap := h'.push (lamO q params body scope clos dV ((mg "__name__").getD .none) (.ref c') ctv), toks := tk }) :
    wpAny M A (makeTail "<lambda>" q params (.expr body) scope env dV .none none pos fl) Q E s := by
  obtain ⟨bm, ob, b1, b2, _, b3, b4, b5, b6, b7⟩ := hb
  unfold makeTail
  rw [hcl, hge]
  refine wpAny_bind (wpAny_pure ?_)
  have last : ∀ (ctv : Value) (h1 : Heap), (∀ b o, s.heap.get? b = some o → h1.get? b = some o) → s.heap.objs.size ≤ h1.objs.size → h1.get? P = some (PySem.W.tabObj ps) →
      wpAny M A (functionCode env pos fl "<lambda>" q params scope (.expr body)) (fun cv s2 => wpAny M A (builtinsFor mainGlobals env.builtins) (fun bu s3 => wpAny M A (nsGet mainGlobals "__name__") (fun nm s4 => wpAny M A (newObj (.type "function") (.func
        { name := "<lambda>", qualname := q, params := params, body := .expr body, scope := scope, globals := mainGlobals, closure := clos, closureTuple := ctv, code := cv, builtins := bu, defaults := dV, kwdefaults := .none, annotations := none, pyModule := nm.getD .none, doc := .none })) Q E s4) E s3) E s2) E { s with heap := h1 } := by
    intro ctv h1 k1 sz1 hP1
    refine wpAny_functionCodeX hcode ((C.keeps k1).code hP1 ht) ((C.keeps k1).tab hP1) no fun c' h2 tk hx hge2 hlt _ hrec htb _ => ?_
    have hx2 : Heap.ExtBut P s.heap h2 := fun b o hb e => hx b o hb (k1 b o e)
    have hg2 := hg.extBut hx2 hgP
    refine wpAny_builtinsFor hg2 b1 b2 (hx2 _ _ b3 b4) b5 b6 b7 ?_
    refine wpAny_nsGet hg2 ?_
    exact wpAny_newObj_type (h c' ctv h2 tk hx2 (Nat.le_trans sz1 hge2) hlt hrec htb.2) (by size_fits)
  cases clos with
  | nil =>
    simp only [List.isEmpty_nil, if_true]
    refine wpAny_bind (wpAny_pure ?_)
    refine wpAny_bind (wpAny_mono (last .none s.heap (fun _ _ e => e) (Nat.le_refl _) hP) (fun cv s2 h2 => wpAny_bind (wpAny_mono h2 (fun bu s3 h3 => wpAny_bind (wpAny_mono h3 (fun nm s4 h4 => wpAny_bind (wpAny_pure h4)) fun _ _ z => z)) fun _ _ z => z)) fun _ _ z => z)
  | cons y r =>
    simp only [List.isEmpty_cons, Bool.false_eq_true, if_false]
    refine wpAny_bind (wpAny_newTextTuple ?_)
    refine wpAny_bind (wpAny_mono (last _ _ (fun _ _ e => Heap.get?_push_of_some _ e) (by rw [Heap.size_push]; omega) (Heap.get?_push_of_some _ hP)) (fun cv s2 h2 => wpAny_bind (wpAny_mono h2 (fun bu s3 h3 => wpAny_bind (wpAny_mono h3 (fun nm s4 h4 => wpAny_bind (wpAny_pure h4)) fun _ _ z => z)) fun _ _ z => z)) fun _ _ z => z)
theorem mk_hit {cv : Value} (hcl : closureFor scope env = pure clos) (hge : env.globals = mainGlobals) (hg : s.heap.Ns mainGlobals mg) (hcode : env.code = .ref c) (C : PySem.W.CodeHd s.heap c P) (hP : s.heap.get? P = some (PySem.W.tabObj ps)) (ht : TriplesOk ps.toList) (yes : codeAmong pos ps.toList = some cv) (hb : s.heap.BuiltinsAt mg P)
    (h : ∀ (ctv : Value) (h' : Heap) (tk : Nat), (∀ b o, s.heap.get? b = some o → h'.get? b = some o) → s.heap.objs.size ≤ h'.objs.size → Q (.ref h'.objs.size) { s with heap := h'.push (lamO q params body scope clos dV ((mg "__name__").getD .none) cv ctv), toks := tk }) :
    wpAny M A (makeTail "<lambda>" q params (.expr body) scope env dV .none none pos fl) Q E s := by
  obtain ⟨bm, ob, b1, b2, _, b3, b4, b5, b6, b7⟩ := hb
  unfold makeTail
  rw [hcl, hge]
  refine wpAny_bind (wpAny_pure ?_)
  have last : ∀ (ctv : Value) (h1 : Heap), (∀ b o, s.heap.get? b = some o → h1.get? b = some o) → s.heap.objs.size ≤ h1.objs.size → h1.get? P = some (PySem.W.tabObj ps) →
      wpAny M A (functionCode env pos fl "<lambda>" q params scope (.expr body)) (fun cv s2 => wpAny M A (builtinsFor mainGlobals env.builtins) (fun bu s3 => wpAny M A (nsGet mainGlobals "__name__") (fun nm s4 => wpAny M A (newObj (.type "function") (.func
        { name := "<lambda>", qualname := q, params := params, body := .expr body, scope := scope, globals := mainGlobals, closure := clos, closureTuple := ctv, code := cv, builtins := bu, defaults := dV, kwdefaults := .none, annotations := none, pyModule := nm.getD .none, doc := .none })) Q E s4) E s3) E s2) E { s with heap := h1 } := by
    intro ctv h1 k1 sz1 hP1
    refine wpAny_functionCode_hit hcode ((C.keeps k1).code hP1 ht) yes ?_
    have hg2 := hg.keeps k1
    refine wpAny_builtinsFor hg2 b1 b2 (k1 _ _ b4) b5 b6 b7 ?_
    refine wpAny_nsGet hg2 ?_
    exact wpAny_newObj_type (h ctv h1 s.toks k1 sz1) (by size_fits)
  cases clos with
  | nil =>
    simp only [List.isEmpty_nil, if_true]
    refine wpAny_bind (wpAny_pure ?_)
    refine wpAny_bind (wpAny_mono (last .none s.heap (fun _ _ e => e) (Nat.le_refl _) hP) (fun cv s2 h2 => wpAny_bind (wpAny_mono h2 (fun bu s3 h3 => wpAny_bind (wpAny_mono h3 (fun nm s4 h4 => wpAny_bind (wpAny_pure h4)) fun _ _ z => z)) fun _ _ z => z)) fun _ _ z => z)
  | cons y r =>
    simp only [List.isEmpty_cons, Bool.false_eq_true, if_false]
    refine wpAny_bind (wpAny_newTextTuple ?_)
    refine wpAny_bind (wpAny_mono (last _ _ (fun _ _ e => Heap.get?_push_of_some _ e) (by rw [Heap.size_push]; omega) (Heap.get?_push_of_some _ hP)) (fun cv s2 h2 => wpAny_bind (wpAny_mono h2 (fun bu s3 h3 => wpAny_bind (wpAny_mono h3 (fun nm s4 h4 => wpAny_bind (wpAny_pure h4)) fun _ _ z => z)) fun _ _ z => z)) fun _ _ z => z)
end
def funO (f : Addr) (o : Obj) : HO := .ext fun h => h.get? f = some o
theorem funO_ok {P : Program} {w : World} {H : Hp} {h : Heap} {f : Addr} {o : Obj} (e : h.get? f = some o) : ObjOk P w H h f (funO f o) := ⟨e, ⟨_, e⟩, fun h1 h2 z k => k _ z⟩
theorem funO_at {P : Program} {w : World} {H : Hp} {h : Heap} {f : Addr} {o : Obj} (ok : HOk P w H h) (e : H f = some (funO f o)) : h.get? f = some o := by
  have x : ObjOk P w H h f (.ext fun h => h.get? f = some o) := ok f _ e
  exact x.1
def parB (params : Arguments) (scope : Scope) : Bool := match params with
  | ⟨[], [], none, [], [], none, []⟩ => true
  | ⟨[], [a0], none, [], [], none, [.Constant (.int _) _ _]⟩ => decide (scope.names.lookup a0.arg = some .local)
  | _ => false
section
variable {X : Cx} {pins : List (Addr × Obj)} {σ : L2.St} {H : Hp} {s : Shared} {T : List (Addr × Str)} {c P : Addr} {params : Arguments} {body : Expr} {scope : Scope} {pos : Pos} {E : Value → Shared → Prop} {Q : Value → Shared → Prop}
def ExtP (P : Addr) (H H' : Hp) : Prop := ∀ b o, H b = some o → b ≠ P → H' b = some o
theorem lam_fun {dV : Value} (I : Inv X pins σ H s) (TB : LamX.TabB X.base X.mg c P) (hcode : X.env.code = .ref c) (hm : (P, X.env.qual ++ "<lambda>") ∈ T) (hu : ∀ p ∈ T, p.1 = P → p.2 = X.env.qual ++ "<lambda>") (hT : LamX.Tabs T H) (hfree : ∀ y ∈ scope.names, y.2 = .free → ∃ c, X.env.cells.lookup y.1 = some c)
    (h : ∀ (f c' : Addr) (pm ctv : Value) (H1 : Hp) (s' : Shared), Inv X pins σ H1 s' → (LamX.ExtN H H1 ∧ ExtP P H H1) → LamX.Tabs T H1 → H f = none → H1 f = some (funO f (lamO (X.env.qual ++ "<lambda>") params body scope (cloFrom X.env.cells scope.names []) dV pm (.ref c') ctv)) → H1 c' = some (LamX.CodeO c' (X.env.qual ++ "<lambda>")) → Q (.ref f) s') :
    wpAny (model X.prog X.w) X.A (makeTail "<lambda>" (X.env.qual ++ "<lambda>") params (.expr body) scope X.env dV .none none pos pos.line) Q E s := by
  obtain ⟨ps, hP, ht, ha⟩ := hT _ hm
  have bP : s.heap.BuiltinsAt X.mg P := TB.bm.keeps I.bk
  have hP' : s.heap.get? P = some { cls := .none, data := .fields ps } := I.hok P _ hP
  have lay : ∀ {H1 : Hp} {h1 : Heap} {tk : Nat} {o : Obj}, o.isFreed = false → Inv X pins σ H1 { s with heap := h1, toks := tk } → Inv X pins σ (upd H1 h1.objs.size (funO h1.objs.size o)) { s with heap := h1.push o, toks := tk } := fun fr I1 =>
    I1.laid (t' := _) (fun b u e => Heap.get?_push_of_some _ e) (Nat.le_refl _) (funO_ok (Heap.get?_push_size _ fr))
  cases hc : codeAmong pos ps.toList with
  | none =>
    refine mk_new (closure_ok hfree) I.ok.glob (I.mod.glob.keeps I.bk) hcode (TB.code.keeps I.bk) hP' ht hc TB.gP bP fun c' ctv h' tk hx hge hlt hrec htb => ?_
    obtain ⟨c2, oc, vs, t, e2, hoc, hd, hv⟩ := hrec
    cases e2
    have I1 := LamX.inv_table (t' := tk) (q := X.env.qual ++ "<lambda>") I hP hx htb hge ⟨oc, vs, t, hoc, hd, hv⟩
    generalize hH1 : upd (upd H P (.tbl (ps ++ #[rawInt pos.line, rawInt pos.col, .ref c']))) c' (LamX.CodeO c' (X.env.qual ++ "<lambda>")) = H1 at I1
    have nC : H c' = none := I.hok.fresh hge
    have nP : P ≠ c' := ne_of_none hP nC
    have e1 : LamX.ExtN H H1 := fun b o e n => by
      rw [← hH1, upd_ne (ne_of_none e nC), upd_ne (fun z => n ps (Option.some.inj (e.symm.trans (by rw [z]; exact hP))))]
      exact e
    have p1 : ExtP P H H1 := fun b o e n => by
      rw [← hH1, upd_ne (ne_of_none e nC), upd_ne n]
      exact e
    have hc1 : H1 c' = some (LamX.CodeO c' (X.env.qual ++ "<lambda>")) := by rw [← hH1, upd_same]
    have t1 : LamX.Tabs T H1 := fun p hp => by
      by_cases hb : p.1 = P
      · rw [hu p hp hb, hb]
        have eL : (ps ++ #[rawInt pos.line, rawInt pos.col, .ref c']).toList = ps.toList ++ [rawInt pos.line, rawInt pos.col, .ref c'] := by simp
        refine ⟨_, by rw [← hH1, upd_ne nP, upd_same], by rw [eL]; exact PySem.TriplesOk_snoc _ _ _ _ ht, fun p' cv hcv => ?_⟩
        rw [eL] at hcv
        rcases LamX.among_app _ ht hcv with z | z
        · obtain ⟨c0, q1, q2⟩ := ha p' cv z
          exact ⟨c0, q1, e1 _ _ q2 LamX.codeO_ne⟩
        · exact ⟨c', z, hc1⟩
      · obtain ⟨ps', a1, a2, a3⟩ := hT p hp
        refine ⟨ps', by rw [← hH1, upd_ne (ne_of_none a1 nC), upd_ne hb]; exact a1, a2, fun p' cv hcv => ?_⟩
        obtain ⟨c0, q1, q2⟩ := a3 p' cv hcv
        exact ⟨c0, q1, e1 _ _ q2 LamX.codeO_ne⟩
    have hsz : s.heap.objs.size ≤ h'.objs.size := Nat.le_trans hge (Nat.le_of_lt hlt)
    have hf1 : H1 h'.objs.size = none := I1.hok.fresh (Nat.le_refl _)
    have up : ∀ b o, H1 b = some o → upd H1 h'.objs.size (funO h'.objs.size (lamO (X.env.qual ++ "<lambda>") params body scope (cloFrom X.env.cells scope.names []) dV ((X.mg "__name__").getD .none) (.ref c') ctv)) b = some o := fun b o e => by
      rw [upd_ne (ne_of_none e hf1)]
      exact e
    exact h _ c' _ ctv _ _ (lay rfl I1) ⟨e1.trans (LamX.ExtN.of up), fun b o e n => up _ _ (p1 b o e n)⟩ (t1.ext up) (I.hok.fresh hsz) upd_same (up _ _ hc1)
  | some cv =>
    obtain ⟨c', e, hco⟩ := ha pos cv hc
    subst e
    refine mk_hit (closure_ok hfree) I.ok.glob (I.mod.glob.keeps I.bk) hcode (TB.code.keeps I.bk) hP' ht hc bP fun ctv h' tk hx hsz => ?_
    have I1 : Inv X pins σ H { s with heap := h', toks := tk } := I.kept hx
    have hf : H h'.objs.size = none := I.hok.fresh hsz
    have up : ∀ b o, H b = some o → upd H h'.objs.size (funO h'.objs.size (lamO (X.env.qual ++ "<lambda>") params body scope (cloFrom X.env.cells scope.names []) dV ((X.mg "__name__").getD .none) (.ref c') ctv)) b = some o := fun b o e => by
      rw [upd_ne (ne_of_none e hf)]
      exact e
    exact h _ c' _ ctv _ _ (lay rfl I1) ⟨LamX.ExtN.of up, fun b o e _ => up _ _ e⟩ (hT.ext up) hf upd_same (up _ _ hco)
def tLm (X : Cx) (T : List (Addr × Str)) (P : Addr) (params : Arguments) (body : Expr) (scope : Scope) : TE := fun _ H Q => LamX.Tabs T H ∧ ∀ (f c' : Addr) (dV pm ctv : Value) (H1 : Hp), (LamX.ExtN H H1 ∧ ExtP P H H1) → LamX.Tabs T H1 → H f = none →
  H1 f = some (funO f (lamO (X.env.qual ++ "<lambda>") params body scope (cloFrom X.env.cells scope.names []) dV pm (.ref c') ctv)) → H1 c' = some (LamX.CodeO c' (X.env.qual ++ "<lambda>")) → DefH H1 params scope dV → Q (.ref f) H1
theorem pe_lam (TB : LamX.TabB X.base X.mg c P) (hcode : X.env.code = .ref c) (hm : (P, X.env.qual ++ "<lambda>") ∈ T) (hu : ∀ p ∈ T, p.1 = P → p.2 = X.env.qual ++ "<lambda>") (hfree : ∀ y ∈ scope.names, y.2 = .free → scope.names.lookup y.1 = some .free ∧ (X.env.kindOf y.1 = some .cell ∨ X.env.kindOf y.1 = some .free)) (hp : parB params scope = true) :
    PE X (.Lambda params body scope pos) (tLm X T P params body scope) := by
  refine ⟨fun pins s σ H Q I h => ?_⟩
  obtain ⟨hT, h⟩ := h
  have free : ∀ y ∈ scope.names, y.2 = .free → ∃ c, X.env.cells.lookup y.1 = some c := fun y hy e => I.ok.has _ (hfree y hy e).2
  rw [arm_eval_Lambda]
  unfold parB at hp
  split at hp
  · show wpAny _ _ (do let dv ← evalAll []; let kdv ← holding dv (evalAllOpt []); makeFunction "<lambda>" (X.env.qual ++ "<lambda>") ⟨[], [], none, [], [], none, []⟩ (.expr body) scope X.env dv kdv [] pos pos.line) _ _ _
    refine wpAny_bind (wpAny_pure (wpAny_bind (wpAny_holding (wpAny_pure ?_))))
    rw [makeFunction_eq]
    simp only [List.zip_nil_right, List.filterMap_nil, List.isEmpty_nil, if_true, pure_bind]
    exact lam_fun I TB hcode hm hu hT free fun f c' pm ctv H1 s' I1 e1 t1 n1 f1 c1 => ⟨.ref f, H1, I1, rfl, h f c' .none pm ctv H1 e1 t1 n1 f1 c1 (.inl ⟨rfl, rfl⟩)⟩
  · rename_i a0 i k p
    have hl := of_decide_eq_true hp
    show wpAny _ _ (do let dv ← evalAll [eval (.Constant (.int i) k p) X.env]; let kdv ← holding dv (evalAllOpt []); makeFunction "<lambda>" (X.env.qual ++ "<lambda>") ⟨[], [a0], none, [], [], none, [.Constant (.int i) k p]⟩ (.expr body) scope X.env dv kdv [] pos pos.line) _ _ _
    refine wpAny_bind (wpAny_evalAll_cons (thn ((pe_int (X := X) (i := i) (j := k) (pos := p)).run pins s σ H (fun v H1 => v = .int i ∧ H1 = H) I ⟨rfl, rfl⟩) fun u s1 ⟨v, H1, I1, r1, ev, eH⟩ => ?_))
    subst ev
    subst eH
    refine wpAny_evalAll_nil ?_
    refine wpAny_bind (wpAny_holding (wpAny_pure ?_))
    rw [makeFunction_eq]
    simp only [List.zip_nil_right, List.filterMap_nil, List.isEmpty_nil, List.isEmpty_cons, Bool.false_eq_true, if_false, if_true, pure_bind]
    refine wpAny_bind (wpAny_newTextTuple ?_)
    have hn : H1 s1.heap.objs.size = none := I1.hok.fresh (Nat.le_refl _)
    have I2 : Inv X pins σ (upd H1 s1.heap.objs.size (.tup [.int i])) { s1 with heap := s1.heap.push { cls := .type "tuple", data := .seq [u].toArray }, toks := s1.toks } :=
      I1.laid (t' := s1.toks) (fun b o e => Heap.get?_push_of_some _ e) (Nat.le_refl _) ⟨by rw [sizeLine_eq]; simp, [u], .cons r1 .nil, ⟨_, Heap.get?_push_size _ rfl, rfl, _, rfl⟩⟩
    have up : ∀ b o, H1 b = some o → upd H1 s1.heap.objs.size (.tup [.int i]) b = some o := fun b o e => by
      rw [upd_ne (ne_of_none e hn)]
      exact e
    refine lam_fun (dV := .ref s1.heap.objs.size) I2 TB hcode hm hu (hT.ext up) free fun f c' pm ctv H2 s' I3 e1 t1 n1 f1 c1 => ⟨.ref f, H2, I3, rfl, h f c' _ pm ctv H2 ⟨(LamX.ExtN.of up).trans e1.1, fun b o e n => e1.2 b o (up _ _ e) n⟩ t1 ?_ f1 c1 (.inr ⟨a0, _, _, i, rfl, rfl, e1.1 _ _ upd_same (fun ps z => by cases z), hl⟩)⟩
    cases e : H1 f with
    | none => rfl
    | some o => rw [up _ _ e] at n1; cases n1
  · cases hp
end
end EnY

namespace EnY
open PySem PySem.Spec PyProof.Rows L2
def un (fs : List Addr) (H : Hp) : Hp := fun b => if b ∈ fs then none else H b
section
variable {P : Program} {w : World} {H H' : Hp} {fs fr : List Addr} {b : Addr} {u : HO} {h h' : Heap}
theorem un_at (e : H b = some u) (n : b ∉ fs) : un fs H b = some u := by unfold un; rw [if_neg n]; exact e
theorem un_none (e : H b = none) : un fs H b = none := by unfold un; split <;> simp [e]
theorem un_in (e : b ∈ fs) : un fs H b = none := by unfold un; rw [if_pos e]
theorem un_of (e : un fs H b = some u) : H b = some u ∧ b ∉ fs := by
  unfold un at e
  split at e
  · cases e
  · exact ⟨e, by assumption⟩
theorem re_in (e : b ∈ fs) : re fs H H' b = H b := by unfold re; rw [if_pos e]
theorem re_at (hn : ∀ f ∈ fs, H' f = none) (e : H' b = some u) : re fs H H' b = some u := by
  unfold re
  rw [if_neg fun z => by rw [hn b z] at e; cases e]
  exact e
theorem hok_un (ok : HOk P w H h) (hf : ∀ f ∈ fs, ∃ o, H f = some (funO f o)) : HOk P w (un fs H) h := fun a o e => by
  refine (ok a o (un_of e).1).stay (fun _ _ _ z => z) (fun b q => un_at q fun hb => ?_) fun b xs q => un_at q fun hb => ?_
  · obtain ⟨o, z⟩ := hf b hb
    rw [q] at z; cases z
  · obtain ⟨o, z⟩ := hf b hb
    rw [q] at z; cases z
theorem hok_re (ok : HOk P w H' h') (hn : ∀ f ∈ fs, H' f = none) (hf : ∀ f ∈ fs, ∃ o, H f = some (funO f o) ∧ h'.get? f = some o) : HOk P w (re fs H H') h' := fun a o e => by
  by_cases ha : a ∈ fs
  · rw [re_in ha] at e
    obtain ⟨u, e1, e2⟩ := hf a ha
    rw [e1] at e
    cases e
    exact funO_ok e2
  · have e : H' a = some o := by unfold re at e; rw [if_neg ha] at e; exact e
    exact (ok a o e).stay (fun _ _ _ z => z) (fun b q => re_at hn q) fun b xs q => re_at hn q
theorem un_re (U : Un fr [] (un fs H) H' h h') (hf : ∀ f ∈ fs, ∃ o, H f = some (funO f o)) (hn : ∀ f ∈ fs, H' f = none) : Un fr [] H (re fs H H') h h' where
  keep := fun b o e n h1 h2 => U.keep b o e (un_none n) h1 h2
  slot := fun b o e n h1 h2 => U.slot b o e (un_none n) h1 h2
  free := fun b o e n h2 => by
    unfold re
    split
    · exact n
    · exact U.free b o e (un_none n) h2
  there := fun b o e h2 => U.there b o e h2
  tups := fun b xs e => re_at hn (U.tups b xs (un_at e fun z => by obtain ⟨o, q⟩ := hf b z; rw [e] at q; cases q))
  frzs := fun b o v e => re_at hn (U.frzs b o v (un_at e fun z => by obtain ⟨o, q⟩ := hf b z; rw [e] at q; cases q))
  tbls := fun b ps e => by
    obtain ⟨more, q⟩ := U.tbls b ps (un_at e fun z => by obtain ⟨o, q⟩ := hf b z; rw [e] at q; cases q)
    exact ⟨more, re_at hn q⟩
end
open Classical in
theorem restrictZ (h : Heap) (p : Addr → Prop) : ∃ G : Heap, (∀ b, p b → G.get? b = h.get? b) ∧ (∀ b, ¬ p b → G.get? b = none) ∧ G.objs.size = h.objs.size := by
  obtain ⟨l, hl⟩ : ∃ l : List Addr, l = (List.range h.objs.size).filter fun b => !decide (p b) := ⟨_, rfl⟩
  have m1 : ∀ b, b ∈ l → ¬ p b := fun b hb => by
    rw [hl] at hb
    have z := (List.mem_filter.mp hb).2
    simpa using z
  have m2 : ∀ b, b < h.objs.size → ¬ p b → b ∈ l := fun b h1 h2 => by
    rw [hl]
    exact List.mem_filter.mpr ⟨List.mem_range.mpr h1, by simp [h2]⟩
  refine ⟨PySem.W.hideAll h l, fun b hb => ?_, fun b hb => ?_, PySem.W.hideAll_size l h⟩
  · cases e : h.get? b with
    | some o => exact PySem.W.hideAll_get l e fun hm => m1 b hm hb
    | none =>
      cases q : (PySem.W.hideAll h l).get? b with
      | none => rfl
      | some o => rw [PySem.W.of_hideAll l q] at e; cases e
  · cases q : (PySem.W.hideAll h l).get? b with
    | none => rfl
    | some o =>
      rw [PySem.W.hideAll_none l (m2 b (Heap.lt_size (PySem.W.of_hideAll l q)) hb)] at q; cases q
structure BaseL (X : Cx) (σ : L2.St) (H : Hp) (fs : List Addr) (B : Heap) : Prop where
  old : ∀ b o, X.base.get? b = some o → B.get? b = some o
  fn : ∀ f ∈ fs, ∀ o, H f = some (funO f o) → B.get? f = some o
  cell : ∀ y c, X.env.cells.lookup y = some c → ∃ o v, B.get? c = some o ∧ o.data = .cell v
  code : ∀ c q, H c = some (LamX.CodeO c q) → c ∉ fs
  cap : ∀ (i : Nat) y v, X.N[i]? = some y → σ[i]? = some (some v) → X.env.kindOf y = some .cell → ∃ c o u, X.env.cells.lookup y = some c ∧ B.get? c = some o ∧ o.data = .cell (some u) ∧ RelV v u
section
variable {X : Cx} {pins : List (Addr × Obj)} {σ : L2.St} {H : Hp} {s : Shared} {fs : List Addr}
theorem base_at (I : Inv X pins σ H s) (hf : ∀ f ∈ fs, ∃ o, H f = some (funO f o) ∧ ∀ us, o.data ≠ .fields us) (hfn : ∀ y, X.fn y = true) : ∃ B : Heap, BaseL X σ H fs B ∧ Env0 X.prog X.w X.K X.mg B X.A X.stack s (un fs H) := by
  have hf0 : ∀ f ∈ fs, ∃ o, H f = some (funO f o) := fun f hm => let ⟨o, e, _⟩ := hf f hm; ⟨o, e⟩
  obtain ⟨B, h1, h2, h3⟩ := restrictZ s.heap fun b => (∃ o, X.base.get? b = some o) ∨ b ∈ fs ∨ ∃ y, X.env.cells.lookup y = some b
  have of : ∀ b o, B.get? b = some o → ((∃ o, X.base.get? b = some o) ∨ b ∈ fs ∨ ∃ y, X.env.cells.lookup y = some b) ∧ s.heap.get? b = some o := fun b o e => by
    by_cases hp : (∃ o, X.base.get? b = some o) ∨ b ∈ fs ∨ ∃ y, X.env.cells.lookup y = some b
    · exact ⟨hp, by rw [← h1 b hp]; exact e⟩
    · rw [h2 b hp] at e; cases e
  have old : ∀ b o, X.base.get? b = some o → B.get? b = some o := fun b o e => by rw [h1 b (.inl ⟨o, e⟩)]; exact I.bk b o e
  have cellB : ∀ y c, X.env.cells.lookup y = some c → B.get? c = s.heap.get? c := fun y c e => h1 c (.inr (.inr ⟨y, e⟩))
  refine ⟨B, ⟨old, fun f hm o e => by rw [h1 f (.inr (.inl hm))]; exact funO_at I.hok e, fun y c e => ?_, fun c q e hc => ?_, fun i y v e1 e2 e3 => ?_⟩, ?_⟩
  · obtain ⟨v, o, q1, q2⟩ := I.cell y c e
    exact ⟨o, v, by rw [cellB y c e]; exact q1, q2⟩
  · obtain ⟨o, z, nf⟩ := hf c hc
    have xc : ObjOk X.prog X.w H s.heap c (LamX.CodeO c q) := I.hok c _ e
    obtain ⟨⟨oc, us, t, k1, k2, _⟩, _⟩ := xc
    rw [funO_at I.hok z] at k1
    cases k1
    exact nf us k2
  · obtain ⟨m, _, hl⟩ := I.loc
    have hk : X.env.scope.names.lookup y = some .cell := e3
    obtain ⟨u, r, lk⟩ := hl i y v e1 e2 (.inr (.inl hk))
    rcases lk with ⟨z, _⟩ | ⟨_, c, q1, o, q2, q3⟩
    · rw [e3] at z; cases z
    · exact ⟨c, o, u, q1, by rw [cellB y c q1]; exact q2, q3, r⟩
  · refine ⟨I.ok.frames, ⟨I.ok.mod.kin.keeps old, I.ok.mod.glob.keeps old, ?_, I.ok.mod.nolimit.keeps old⟩, fun b o e => ?_, by rw [h3]; exact Nat.le_refl _, funFrames_none I.stack fun L hL => ?_, fun b hb => un_none (I.stkFree b hb), hok_un I.hok hf0, I.bare⟩
    · obtain ⟨mb, q1, q2⟩ := I.ok.mod.blt
      exact ⟨mb, q1.keeps old, q2⟩
    · obtain ⟨hp, e2⟩ := of b o e
      refine ⟨e2, ?_⟩
      rcases hp with ⟨o, z⟩ | z | ⟨y, z⟩
      · exact un_none (I.bs b o z).2
      · exact un_in z
      · exact un_none (I.freeC y b z)
    · refine h2 L fun hp => ?_
      rcases hp with ⟨o, z⟩ | z | ⟨y, z⟩
      · rw [(I.stack.mem hL).1] at z; cases z
      · obtain ⟨o, q, _⟩ := hf L z
        rw [I.stkFree L hL] at q; cases q
      · rcases List.mem_cons.mp (I.stkSub L hL) with e | e
        · exact I.cne y L z e
        · obtain ⟨_, o, ho, _⟩ := I.ok.funs.mem e
          exact absurd (Nat.lt_of_lt_of_le (Heap.lt_size ho) (I.ok.cab y L (hfn y) z)) (Nat.lt_irrefl _)
theorem run_at {k : Nat} {f : Addr} {fd : FuncData} {ps : List Str} {sp : Heap → Sp} {us : List Value} {vs : List V} {Q : VK} (F : ∀ B, FnOk X.prog X.w X.K X.mg B (L2.CX X.prog X.w) k f fd ps (sp B)) (hr : Room k X.A) (hb : Binds X.K fd ps []) (hfn : ∀ y, X.fn y = true) (I : Inv X pins σ H s) (r : Vals vs us)
    (hf : ∀ f ∈ fs, ∃ o, H f = some (funO f o) ∧ ∀ us, o.data ≠ .fields us) (h : ∀ B, BaseL X σ H fs B → sp B vs (un fs H) (fun v H' => (∀ f ∈ fs, H' f = none) → Q v (re fs H H')) (fun _ _ _ => False)) : wpAny (model X.prog X.w) X.A (call (.ref f) us) (EP X pins σ Q) X.xe s := by
  obtain ⟨B, bl, e0⟩ := base_at I hf hfn
  have hs := h B bl
  have hl : (us ++ []).length = ps.length := by rw [List.append_nil, ← r.length]; exact (F B).len _ _ _ _ hs
  have b := hb s us I.kIn hl
  rw [List.append_nil] at b
  refine wpAny_call (codeAny_mono ((F B).run X.A X.stack s (un fs H) ⟨us, []⟩ us vs _ _ hr e0 b r hs) fun r s' hq => ?_)
  cases r with
  | error e =>
    obtain ⟨_, _, _, _, _, _, _, _, _, _, _, _, z⟩ := hq
    exact z.elim
  | ok fl =>
    cases fl with
    | ret u =>
      obtain ⟨v, H', os, bare, U, ok, rv, q⟩ := hq
      have at_ : ∀ f ∈ fs, ∃ o, H f = some (funO f o) ∧ s.heap.get? f = some o := fun f hm => by
        obtain ⟨o, e, _⟩ := hf f hm
        exact ⟨o, e, funO_at I.hok e⟩
      have hn : ∀ f ∈ fs, H' f = none := fun f hm => by
        obtain ⟨o, _, e⟩ := at_ f hm
        exact U.free f o e (un_in hm) (by simp)
      refine I.after ⟨v, re fs H H', os, bare, un_re U (fun f hm => let ⟨o, e, _⟩ := hf f hm; ⟨o, e⟩) hn, hok_re ok hn fun f hm => ?_, rv, q hn⟩
      obtain ⟨o, e1, e2⟩ := at_ f hm
      exact ⟨o, e1, U.keep f o e2 (un_in hm) (fun z => by rw [I.stkFree f z] at e1; cases e1) (by simp)⟩
    | next => exact False.elim hq
    | brk => exact False.elim hq
    | cont => exact False.elim hq
theorem pe_atB {k : Nat} {f : Addr} {fd : FuncData} {ps : List Str} {sp : Heap → Sp} {x : Str} {q pos : Pos} {e : Expr} {t : TE} (F : ∀ B, FnOk X.prog X.w X.K X.mg B (L2.CX X.prog X.w) k f fd ps (sp B)) (hr : Room k X.A) (hfn : ∀ y, X.fn y = true) (hg : Gl X x) (hm : X.mg x = some (.ref f)) (hk : PySem.W.keepIn X.K (.ref f) = true) (hb : Binds X.K fd ps [])
    (ha : PE X e t) (tm : ∀ (σ : L2.St) (H : Hp) (Q Q' : VK), t σ H Q → (∀ v H', Q v H' → Q' v H') → t σ H Q') (hdb : (x == ("__debug__" : Str)) = false) (hst : starEach [e] X.env = (false, eval e X.env) :: starEach [] X.env) (hpl : (backTo pos (starEach ([] : List Expr) X.env)).any (·.1) = false) :
    PE X (.Call (.Name x q) [e] [] pos) (fun σ H Q => t σ H fun v H1 => ∃ fs : List Addr, (∀ f ∈ fs, ∃ o, H1 f = some (funO f o) ∧ ∀ us, o.data ≠ .fields us) ∧ ∀ B, BaseL X σ H1 fs B → sp B [v] (un fs H1) (fun v H' => (∀ f ∈ fs, H' f = none) → Q v (re fs H1 H')) (fun _ _ _ => False)) := by
  refine ⟨fun pins s σ H Q I h => ?_⟩
  refine wpAny_Call_Name_kw (ld_glob I hg hm ?_ hdb)
  refine PySem.W.callWith_K (h₀ := X.base) I.ok.mod.kin hk (thn ((pa_cons ha pa_nil hst).run pos pins s σ H (fun vs H1 => ∃ v, vs = [v] ∧ ∃ fs : List Addr, (∀ f ∈ fs, ∃ o, H1 f = some (funO f o) ∧ ∀ us, o.data ≠ .fields us) ∧ ∀ B, BaseL X σ H1 fs B → sp B [v] (un fs H1) (fun v H' => (∀ f ∈ fs, H' f = none) → Q v (re fs H1 H')) (fun _ _ _ => False)) I ?_) fun us s1 ⟨vs, H1, I1, r, w⟩ => ⟨I1.kIn, ?_⟩) hst hpl
  · exact tm σ H _ _ h fun v H1 z => ⟨v, rfl, z⟩
  · obtain ⟨v, rfl, fs, hf, w⟩ := w
    exact run_at F hr hb hfn I1 r hf w
end
end EnY

namespace En
open PySem PySem.Spec L2


theorem Pre.refl (io : List Addr) : Pre io io := ⟨[], by simp⟩
theorem Pre.trans {a b c : List Addr} (h : Pre a b) (g : Pre b c) : Pre a c := by
  obtain ⟨m, rfl⟩ := h
  obtain ⟨n, rfl⟩ := g
  exact ⟨m ++ n, by simp⟩
theorem Pre.get {a b : List Addr} (h : Pre a b) {n : Nat} {p : Addr} (e : a[n]? = some p) : b[n]? = some p := by
  obtain ⟨m, rfl⟩ := h
  obtain ⟨hn, _⟩ := List.getElem?_eq_some_iff.mp e
  rw [List.getElem?_append_left hn]
  exact e
theorem Same.tup {K : PySem.W.Frag} {H H' : Hp} {a : Addr} {xs : List V} (e : Same H H') (h : SqT K H a xs) : SqT K H' a xs := by
  rcases h with (h | ⟨o, h⟩) | h
  · exact .inl (.inl (e _ _ h))
  · exact .inl (.inr ⟨o, e _ _ h⟩)
  · exact .inr h

section
variable {x : SX} {G G' : Hp} {io io' : List Addr}
mutual
theorem Rp.mono (s : Same G G') (i : Pre io io') : ∀ {d : D} {v : V}, Rp x G io d v → Rp x G' io' d v
  | .non, _, h => h
  | .bl _, _, h => h
  | .int _, _, h => h
  | .str _, _, h => h
  | .lst ds, _, h => by
    obtain ⟨a, vs, e, q, r⟩ := h
    exact ⟨a, vs, e, s _ _ q, RpL.mono s i r⟩
  | .fzl ds, _, h => by
    obtain ⟨a, vs, e, q, r⟩ := h
    exact ⟨a, vs, e, s.seq q, RpL.mono s i r⟩
  | .tup ds, _, h => by
    obtain ⟨a, vs, e, q, r⟩ := h
    exact ⟨a, vs, e, Same.tup s q, RpL.mono s i r⟩
  | .dct ks ds, _, h => by
    obtain ⟨a, vs, o, e, q, l, r⟩ := h
    exact ⟨a, vs, o, e, s _ _ q, l, RpL.mono s i r⟩
  | .obj c ns ds, _, h => by
    obtain ⟨hl, a, dx, vs, e, q, l, r⟩ := h
    exact ⟨hl, a, dx, vs, e, s _ _ q, l, RpL.mono s i r⟩
  | .adr n, _, h => by
    obtain ⟨a, e, q⟩ := h
    exact ⟨a, e, i.get q⟩
theorem RpL.mono (s : Same G G') (i : Pre io io') : ∀ {ds : List D} {vs : List V}, RpL x G io ds vs → RpL x G' io' ds vs
  | [], _, h => h
  | d :: ds, _, h => by
    obtain ⟨v, r, e, q, t⟩ := h
    exact ⟨v, r, e, Rp.mono s i q, RpL.mono s i t⟩
end
theorem RpL.nil : RpL x G io [] [] := rfl
theorem RpL.cons {d : D} {ds : List D} {v : V} {vs : List V} (h : Rp x G io d v) (t : RpL x G io ds vs) : RpL x G io (d :: ds) (v :: vs) := ⟨v, vs, rfl, h, t⟩
theorem RpL.length : ∀ {ds : List D} {vs : List V}, RpL x G io ds vs → vs.length = ds.length
  | [], _, h => by
    have e : _ = [] := h
    rw [e]
    rfl
  | d :: ds, _, h => by
    obtain ⟨v, r, rfl, _, t⟩ := h
    simp [RpL.length t]
theorem RpL.append : ∀ {ds es : List D} {vs us : List V}, RpL x G io ds vs → RpL x G io es us → RpL x G io (ds ++ es) (vs ++ us)
  | [], _, _, _, h, k => by
    have e : _ = [] := h
    rw [e]
    exact k
  | d :: ds, _, _, _, h, k => by
    obtain ⟨v, r, rfl, q, t⟩ := h
    exact ⟨v, r ++ _, rfl, q, RpL.append t k⟩
theorem RpL.get : ∀ {ds : List D} {vs : List V} {i : Nat} {d : D}, RpL x G io ds vs → ds[i]? = some d → ∃ v, vs[i]? = some v ∧ Rp x G io d v
  | [], _, _, _, _, e => by simp at e
  | d :: ds, _, 0, _, h, e => by
    obtain ⟨v, r, rfl, q, t⟩ := h
    simp at e
    subst e
    exact ⟨v, rfl, q⟩
  | d :: ds, _, i + 1, _, h, e => by
    obtain ⟨v, r, rfl, q, t⟩ := h
    simpa using RpL.get (i := i) t (by simpa using e)
theorem RpL.of_get {ds : List D} {vs : List V} {i : Nat} {v : V} (h : RpL x G io ds vs) (e : vs[i]? = some v) : ∃ d, ds[i]? = some d ∧ Rp x G io d v := by
  obtain ⟨hi, _⟩ := List.getElem?_eq_some_iff.mp e
  rw [h.length] at hi
  obtain ⟨u, e2, r⟩ := h.get (List.getElem?_eq_getElem hi)
  rw [e] at e2
  cases e2
  exact ⟨_, List.getElem?_eq_getElem hi, r⟩
theorem RpL.take : ∀ {ds : List D} {vs : List V} (n : Nat), RpL x G io ds vs → RpL x G io (ds.take n) (vs.take n)
  | ds, _, 0, h => by simp; exact .nil
  | [], _, n + 1, h => by
    have e : _ = [] := h
    subst e
    simp
    exact .nil
  | d :: ds, _, n + 1, h => by
    obtain ⟨v, r, rfl, q, t⟩ := h
    exact ⟨v, r.take n, rfl, q, RpL.take n t⟩
theorem RpL.drop : ∀ {ds : List D} {vs : List V} (n : Nat), RpL x G io ds vs → RpL x G io (ds.drop n) (vs.drop n)
  | ds, _, 0, h => by simpa using h
  | [], _, n + 1, h => by
    have e : _ = [] := h
    subst e
    simp
    exact .nil
  | d :: ds, _, n + 1, h => by
    obtain ⟨v, r, rfl, q, t⟩ := h
    exact RpL.drop n t
theorem RpL.set : ∀ {ds : List D} {vs : List V} (n : Nat) {d : D} {v : V}, RpL x G io ds vs → Rp x G io d v → RpL x G io (ds.set n d) (vs.set n v)
  | [], _, n, _, _, h, _ => by
    have e : _ = [] := h
    subst e
    simp
    exact .nil
  | d :: ds, _, 0, _, _, h, k => by
    obtain ⟨v, r, rfl, q, t⟩ := h
    exact ⟨_, r, rfl, k, t⟩
  | d :: ds, _, n + 1, _, _, h, k => by
    obtain ⟨v, r, rfl, q, t⟩ := h
    exact ⟨v, _, rfl, q, RpL.set n t k⟩
end

def IsFz (u : HO) : Prop := ∃ o w, u = .frz o w
def zOf (H : Hp) : Hp := fun b => match H b with
  | some (.frz o u) => some (.frz o u)
  | _ => none
theorem zOf_at {H : Hp} {b : Addr} {u : HO} (h : zOf H b = some u) : H b = some u ∧ IsFz u := by
  unfold zOf at h
  split at h
  · rename_i o w e
    cases h
    exact ⟨e, _, _, rfl⟩
  · cases h
theorem zOf_of {H : Hp} {b : Addr} {o : Obj} {u : HO} (h : H b = some (.frz o u)) : zOf H b = some (.frz o u) := by
  unfold zOf
  rw [h]

def OwnL (x : SX) (F : Fr) (G : Hp) (io : List Addr) (H : Hp) (ds : List D) (a : Addr) : Prop :=
  ∃ vs, H a = some (.lst vs) ∧ G a = none ∧ F.h a = none ∧ RpL x G io ds vs
def OwnD (x : SX) (F : Fr) (G : Hp) (io : List Addr) (H : Hp) (ks : List Key) (ds : List D) (a : Addr) : Prop :=
  ∃ vs, H a = some (.dK (ks.zip vs)) ∧ G a = none ∧ F.h a = none ∧ vs.length = ks.length ∧ RpL x G io ds vs
def LamV (x : SX) (G H : Hp) (k : Nat × List Nat) (v : V) : Prop := ∃ (f c' : Addr) (q : Str) (params : Arguments) (body : Expr) (scope : Scope) (dV pm ctv : Value) (capN : List Str), v = .ref f ∧ G f = none ∧
  H f = some (EnY.funO f (EnY.lamO q params body scope (cloFrom x.hc scope.names []) dV pm (.ref c') ctv)) ∧ H c' = some (LamX.CodeO c' q) ∧ EnY.DefH H params scope dV ∧ k.2.map (fun i => x.hN[i]?) = capN.map some ∧ x.lm k.1 capN params body scope
def LamL (x : SX) (G H : Hp) : List (Nat × List Nat) → List V → Prop
  | [], vs => vs = []
  | k :: ks, vs => ∃ v r, vs = v :: r ∧ LamV x G H k v ∧ LamL x G H ks r
def Stay (o : HO) : Prop := (∃ φ, o = .ext φ) ∨ ∃ xs, o = .tup xs
theorem LamV.mono {x : SX} {G H G' H' : Hp} {k : Nat × List Nat} {v : V} (h : LamV x G H k v) (hH : ∀ b o, H b = some o → Stay o → H' b = some o) (hG : ∀ b φ, H b = some (.ext φ) → G b = none → G' b = none) : LamV x G' H' k v := by
  obtain ⟨f, c', q, params, body, scope, dV, pm, ctv, capN, e1, e2, e3, e4, e5, e6, e7⟩ := h
  refine ⟨f, c', q, params, body, scope, dV, pm, ctv, capN, e1, hG f _ e3 e2, hH _ _ e3 (.inl ⟨_, rfl⟩), hH _ _ e4 (.inl ⟨_, rfl⟩), ?_, e6, e7⟩
  rcases e5 with z | ⟨a0, e0, T, i, z1, z2, z3, z4⟩
  · exact .inl z
  · exact .inr ⟨a0, e0, T, i, z1, z2, hH _ _ z3 (.inr ⟨_, rfl⟩), z4⟩
theorem LamL.mono {x : SX} {G H G' H' : Hp} (hH : ∀ b o, H b = some o → Stay o → H' b = some o) (hG : ∀ b φ, H b = some (.ext φ) → G b = none → G' b = none) : ∀ {ks : List (Nat × List Nat)} {vs : List V}, LamL x G H ks vs → LamL x G' H' ks vs
  | [], _, h => h
  | _ :: _, _, h => by
    obtain ⟨v, r, e, q, t⟩ := h
    exact ⟨v, r, e, q.mono hH hG, LamL.mono hH hG t⟩
def OwnM (x : SX) (F : Fr) (G H : Hp) (ks : List (Nat × List Nat)) (a : Addr) : Prop := ∃ vs, H a = some (.lst vs) ∧ G a = none ∧ F.h a = none ∧ LamL x G H ks vs
theorem tabs_keep {x : SX} {G H H' : Hp} (t : TbG x G H) (k : ∀ b o, H b = some o → ((∃ ps, o = .tbl ps) ∨ ∃ φ, o = .ext φ) → H' b = some o) : TbG x G H' := ⟨fun p hp => by
  obtain ⟨ps, h1, h2, h3⟩ := t.1 p hp
  refine ⟨ps, k _ _ h1 (.inl ⟨_, rfl⟩), h2, fun pos cv hc => ?_⟩
  obtain ⟨c, e1, e2⟩ := h3 pos cv hc
  exact ⟨c, e1, k _ _ e2 (.inr ⟨_, rfl⟩)⟩, t.2⟩
theorem tab_at {x : SX} {G H : Hp} {b : Addr} (t : TbG x G H) (h : b ∈ tbA x) : ∃ ps, H b = some (.tbl ps) := by
  obtain ⟨p, hp, e⟩ := List.mem_map.mp h
  obtain ⟨ps, q, _⟩ := t.1 p hp
  exact ⟨ps, by rw [← e]; exact q⟩
theorem TbG.set {x : SX} {G H : Hp} {a : Addr} {o : HO} (t : TbG x G H) (h : a ∉ tbA x) : TbG x (upd G a o) H := ⟨t.1, fun b hb => by
  rw [upd_ne (fun z => h (by rw [← z]; exact hb))]
  exact t.2 b hb⟩
def CellR (x : SX) (F : Fr) (G : Hp) (io : List Addr) (H : Hp) : Cell → V → Prop
  | .val d, v => Rp x G io d v
  | .ol ds, v => ∃ a, v = .ref a ∧ a ∉ io ∧ OwnL x F G io H ds a
  | .od ks ds, v => ∃ a, v = .ref a ∧ a ∉ io ∧ OwnD x F G io H ks ds a
  | .lms ks, v => ∃ a, v = .ref a ∧ a ∉ io ∧ OwnM x F G H ks a
def isOwn : Cell → Bool
  | .val _ => false
  | _ => true
def MO.isL : MO → Bool
  | .dl _ _ => true
  | .ll _ => true
  | _ => false
theorem MoH.nx {x : SX} {o : MO} {vs : List V} {h : HO} (hM : MoH x o vs h) : ∀ φ, h ≠ .ext φ := by
  rintro φ rfl
  cases o with
  | bx ds => cases hM
  | ob c ns ds => obtain ⟨_, dx, e⟩ := hM; cases e
  | dx ks ds => cases hM
  | dl ks ds => obtain ⟨_, e⟩ := hM; cases e
  | ll ds => obtain ⟨_, e⟩ := hM; cases e
theorem MoH.ns {x : SX} {o : MO} {vs : List V} {h : HO} (hM : MoH x o vs h) : ¬ Stay h := by
  rintro (⟨φ, e⟩ | ⟨xs, rfl⟩)
  · exact hM.nx φ e
  · cases o with
    | bx ds => cases hM
    | ob c ns ds => obtain ⟨_, dx, e⟩ := hM; cases e
    | dx ks ds => cases hM
    | dl ks ds => obtain ⟨_, e⟩ := hM; cases e
    | ll ds => obtain ⟨_, e⟩ := hM; cases e
theorem MoH.nt {x : SX} {o : MO} {vs : List V} {h : HO} (hM : MoH x o vs h) : ∀ ps, h ≠ .tbl ps := by
  rintro ps rfl
  cases o with
  | bx ds => cases hM
  | ob c ns ds => obtain ⟨_, dx, e⟩ := hM; cases e
  | dx ks ds => cases hM
  | dl ks ds => obtain ⟨_, e⟩ := hM; cases e
  | ll ds => obtain ⟨_, e⟩ := hM; cases e
theorem MoH.nfz {x : SX} {o : MO} {vs : List V} {h : HO} (ho : o.isL = false) (hM : MoH x o vs h) : ¬ IsFz h := by
  rintro ⟨q, w, rfl⟩
  cases o with
  | bx ds => cases hM
  | ob c ns ds => obtain ⟨_, dx, e⟩ := hM; cases e
  | dx ks ds => cases hM
  | dl ks ds => cases ho
  | ll ds => cases ho
def Own (x : SX) (F : Fr) (G : Hp) (io : List Addr) (H : Hp) (o : MO) (a : Addr) : Prop := ∃ vs h, H a = some h ∧ G a = none ∧ F.h a = none ∧ RpL x G io o.ds vs ∧ MoH x o vs h ∧ MoL o
theorem Own.l {x : SX} {F : Fr} {G : Hp} {io : List Addr} {H : Hp} {ds : List D} {a : Addr} (h : Own x F G io H (.bx ds) a) : OwnL x F G io H ds a := by
  obtain ⟨vs, _, q1, q2, q3, q4, rfl, _⟩ := h
  exact ⟨vs, q1, q2, q3, q4⟩
theorem OwnL.o {x : SX} {F : Fr} {G : Hp} {io : List Addr} {H : Hp} {ds : List D} {a : Addr} (h : OwnL x F G io H ds a) : Own x F G io H (.bx ds) a := by
  obtain ⟨vs, q1, q2, q3, q4⟩ := h
  exact ⟨vs, _, q1, q2, q3, q4, rfl, trivial⟩
theorem fast_rp {x : SX} {G : Hp} {io : List Addr} {o : MO} {a : Addr} {vs : List V} {h : HO} (hx : o.isX = false) (hM : MoH x o vs h) (hL : MoL o) (r : RpL x G io o.ds vs) (e : G a = some h) : Rp x G io o.d (.ref a) := by
  cases o with
  | bx ds => cases hM; exact ⟨a, vs, rfl, e, r⟩
  | ob c ns ds =>
    obtain ⟨hl, dx, rfl⟩ := hM
    exact ⟨hl, a, dx, vs, rfl, e, by rw [r.length]; exact hL, r⟩
  | dx ks ds => cases hx
  | dl ks ds => obtain ⟨o, rfl⟩ := hM; exact ⟨a, vs, o, rfl, e, by rw [r.length]; exact hL, r⟩
  | ll ds => cases hx
structure StR (x : SX) (F : Fr) (s : S) (G : Hp) (io : List Addr) (σ : St) (H : Hp) : Prop where
  gh : Same G H
  len : s.r.length = σ.length
  slot : ∀ (i : Nat) (c : Cell), s.r[i]? = some (some c) → ∃ v, σ[i]? = some (some v) ∧ CellR x F G io H c v
  own : ∀ (i j : Nat) (c c' : Cell) (v : V), i ≠ j → s.r[i]? = some (some c) → s.r[j]? = some (some c') → isOwn c = true → isOwn c' = true → σ[i]? = some (some v) → σ[j]? = some (some v) → False
  mem : MemA x G io H s.m
  kh : ∀ b o, F.h b = some o → b ∉ F.i → b ∉ tbA x → H b = some o
  kg : ∀ b, F.h b ≠ none → G b = F.g b
  ki : Pre F.i io
  ni : ∀ (n : Nat) (a : Addr), F.i.length ≤ n → io[n]? = some a → F.h a = none
  zl : ∀ b u, F.z b = some u → H b = some u ∧ IsFz u
  tb : TbG x G H

def Post (x : SX) (F : Fr) (W : WX) (G : Hp) (io : List Addr) (o : Res) (σ : St) (Q : VK) : Prop :=
  match o with
  | some (.val d, s) => ∀ v H' G' io', Same G G' → Pre io io' → StR x F s G' io' σ H' → Rp x G' io' d v → Q v H'
  | some (.fr o, s) => ∀ a H' G' io', Same G G' → Pre io io' → StR x F s G' io' σ H' → a ∉ io' → Own x F G' io' H' o a →
      (∀ (i : Nat) (c : Cell), s.r[i]? = some (some c) → isOwn c = true → σ[i]? ≠ some (some (.ref a))) → Q (.ref a) H'
  | some (.exc c ns ds, s) => ∀ cls dd H' G' io', Same G G' → Pre io io' → StR x F s G' io' σ H' → ExcR x G' io' c ns ds cls dd H' → W cls dd σ H'
  | _ => False

def PostA (x : SX) (F : Fr) (W : WX) (G : Hp) (io : List Addr) (o : Res) (σ : St) (Q : List V → Hp → Prop) : Prop :=
  match o with
  | some (.vals ds, s) => ∀ vs H' G' io', Same G G' → Pre io io' → StR x F s G' io' σ H' → RpL x G' io' ds vs → Q vs H'
  | some (.exc c ns ds, s) => ∀ cls dd H' G' io', Same G G' → Pre io io' → StR x F s G' io' σ H' → ExcR x G' io' c ns ds cls dd H' → W cls dd σ H'
  | _ => False

def PostS (x : SX) (F : Fr) (W : WX) (G : Hp) (io : List Addr) (o : Res) (D : Ends) : Prop :=
  match o with
  | some (.nx, s) => ∀ σ' H' G' io', Same G G' → Pre io io' → StR x F s G' io' σ' H' → D.nx σ' H'
  | some (.bk, s) => ∀ σ' H' G' io', Same G G' → Pre io io' → StR x F s G' io' σ' H' → D.bk σ' H'
  | some (.ct, s) => ∀ σ' H' G' io', Same G G' → Pre io io' → StR x F s G' io' σ' H' → D.ct σ' H'
  | some (.rt d, s) => ∀ v σ' H' G' io', Same G G' → Pre io io' → StR x F s G' io' σ' H' → Rp x G' io' d v → D.rt v H'
  | some (.rtf o, s) => ∀ a σ' H' G' io', Same G G' → Pre io io' → StR x F s G' io' σ' H' → a ∉ io' → Own x F G' io' H' o a → D.rt (.ref a) H'
  | some (.exc c ns ds, s) => ∀ cls dd σ' H' G' io', Same G G' → Pre io io' → StR x F s G' io' σ' H' → ExcR x G' io' c ns ds cls dd H' → W cls dd σ' H'
  | _ => False

section
variable {x : SX} {F : Fr} {W : WX} {G G1 H : Hp} {io io1 : List Addr} {σ : St} {s : S}

theorem Post.anti {o : Res} {Q : VK} (h : Post x F W G io o σ Q) (a : Same G G1) (b : Pre io io1) : Post x F W G1 io1 o σ Q := by
  unfold Post at h ⊢
  split at h
  · exact fun v H' G' io' c d => h v H' G' io' (a.trans c) (b.trans d)
  · exact fun v H' G' io' c d => h v H' G' io' (a.trans c) (b.trans d)
  · exact fun v dd H' G' io' c d => h v dd H' G' io' (a.trans c) (b.trans d)
  · exact h.elim
theorem PostA.anti {o : Res} {Q : List V → Hp → Prop} (h : PostA x F W G io o σ Q) (a : Same G G1) (b : Pre io io1) : PostA x F W G1 io1 o σ Q := by
  unfold PostA at h ⊢
  split at h
  · exact fun v H' G' io' c d => h v H' G' io' (a.trans c) (b.trans d)
  · exact fun v dd H' G' io' c d => h v dd H' G' io' (a.trans c) (b.trans d)
  · exact h.elim
theorem PostS.anti {o : Res} {D : Ends} (h : PostS x F W G io o D) (a : Same G G1) (b : Pre io io1) : PostS x F W G1 io1 o D := by
  unfold PostS at h ⊢
  split at h
  · exact fun v H' G' io' c d => h v H' G' io' (a.trans c) (b.trans d)
  · exact fun v H' G' io' c d => h v H' G' io' (a.trans c) (b.trans d)
  · exact fun v H' G' io' c d => h v H' G' io' (a.trans c) (b.trans d)
  · exact fun v dd H' G' io' c d => h v dd H' G' io' (a.trans c) (b.trans d)
  · exact fun v dd H' G' io' c d => h v dd H' G' io' (a.trans c) (b.trans d)
  · exact fun v dd σ' H' G' io' c d => h v dd σ' H' G' io' (a.trans c) (b.trans d)
  · exact h.elim

theorem same_upd {p : Addr} {o : HO} (h : H p = none) : Same H (upd H p o) := fun b u e => by
  rw [upd_ne (ne_of_none e h)]
  exact e
theorem StR.grow {H' : Hp} (t : StR x F s G io σ H) (k : Same H H') : StR x F s G io σ H' where
  gh := t.gh.trans k
  len := t.len
  slot := fun i c e => by
    obtain ⟨v, e1, r⟩ := t.slot i c e
    refine ⟨v, e1, ?_⟩
    cases c with
    | val d => exact r
    | ol ds =>
      obtain ⟨a, q1, q2, vs, q3, q4⟩ := r
      exact ⟨a, q1, q2, vs, k _ _ q3, q4⟩
    | od ks ds =>
      obtain ⟨a, q1, q2, vs, q3, q4⟩ := r
      exact ⟨a, q1, q2, vs, k _ _ q3, q4⟩
    | lms ks =>
      obtain ⟨a, q1, q2, vs, q3, q4, q5, q6⟩ := r
      exact ⟨a, q1, q2, vs, k _ _ q3, q4, q5, q6.mono (fun b o e _ => k b o e) fun _ _ _ e => e⟩
  own := t.own
  mem := ⟨t.mem.1, t.mem.2.1, fun n o a e1 e2 => by
    have q := t.mem.2.2 n o a e1 e2
    obtain ⟨vs, h, q1, q2⟩ := q
    exact ⟨vs, h, k _ _ q1, q2⟩⟩
  kh := fun b o e n nt => k _ _ (t.kh b o e n nt)
  kg := t.kg
  ki := t.ki
  ni := t.ni
  zl := fun b u e => ⟨k _ _ (t.zl b u e).1, (t.zl b u e).2⟩
  tb := tabs_keep t.tb fun b o e _ => k b o e
theorem StR.fast {a : Addr} {o : HO} (t : StR x F s G io σ H) (nx : ∀ φ, o ≠ .ext φ) (nt : a ∉ tbA x) (ha : H a = some o) (hg : G a = none) (hf : F.h a = none) (hi : a ∉ io)
    (ho : ∀ (i : Nat) (c : Cell), s.r[i]? = some (some c) → isOwn c = true → σ[i]? ≠ some (some (.ref a))) : StR x F s (upd G a o) io σ H := by
  have sg : Same G (upd G a o) := same_upd hg
  refine ⟨fun b u e => ?_, t.len, fun i c e => ?_, t.own, ⟨t.mem.1, t.mem.2.1, fun n u b e1 e2 => ?_⟩, t.kh, fun b hb => ?_, t.ki, t.ni, t.zl, t.tb.set nt⟩
  · by_cases hb : b = a
    · subst hb
      rw [upd_same] at e
      cases e
      exact ha
    · rw [upd_ne hb] at e
      exact t.gh _ _ e
  · obtain ⟨v, e1, r⟩ := t.slot i c e
    refine ⟨v, e1, ?_⟩
    cases c with
    | val d => exact Rp.mono sg (Pre.refl _) r
    | ol ds =>
      obtain ⟨b, rfl, q2, vs, q3, q4, q5, q6⟩ := r
      have nb : b ≠ a := fun z => ho i _ e rfl (by rw [← z]; exact e1)
      exact ⟨b, rfl, q2, vs, q3, by rw [upd_ne nb]; exact q4, q5, RpL.mono sg (Pre.refl _) q6⟩
    | od ks ds =>
      obtain ⟨b, rfl, q2, vs, q3, q4, q5, q6, q7⟩ := r
      have nb : b ≠ a := fun z => ho i _ e rfl (by rw [← z]; exact e1)
      exact ⟨b, rfl, q2, vs, q3, by rw [upd_ne nb]; exact q4, q5, q6, RpL.mono sg (Pre.refl _) q7⟩
    | lms ks =>
      obtain ⟨b, rfl, q2, vs, q3, q4, q5, q6⟩ := r
      have nb : b ≠ a := fun z => ho i _ e rfl (by rw [← z]; exact e1)
      refine ⟨b, rfl, q2, vs, q3, by rw [upd_ne nb]; exact q4, q5, q6.mono (fun _ _ e _ => e) fun c φ e1 e2 => ?_⟩
      rw [upd_ne (fun z => by rw [z, ha] at e1; exact nx φ (Option.some.inj e1))]
      exact e2
  · have q := t.mem.2.2 n u b e1 e2
    have nb : b ≠ a := fun z => hi (by rw [← z]; exact List.mem_of_getElem? e2)
    obtain ⟨vs, h, q1, q2, q3, q4⟩ := q
    exact ⟨vs, h, q1, by rw [upd_ne nb]; exact q2, RpL.mono sg (Pre.refl _) q3, q4⟩
  · have nb : b ≠ a := fun z => hb (by rw [z]; exact hf)
    rw [upd_ne nb]
    exact t.kg b hb
end
theorem StR.push {x : SX} {F : Fr} {G H : Hp} {io : List Addr} {σ : L2.St} {s : S} {o1 : MO} {p : Addr} (t : StR x F s G io σ H) (ni : p ∉ io) (ow : Own x F G io H o1 p)
    (no : ∀ (j : Nat) (c : Cell), s.r[j]? = some (some c) → isOwn c = true → σ[j]? ≠ some (some (.ref p))) : StR x F { r := s.r, m := s.m ++ [o1] } G (io ++ [p]) σ H where
  gh := t.gh
  len := t.len
  slot := fun j c e => by
    obtain ⟨v, e1, q⟩ := t.slot j c e
    refine ⟨v, e1, ?_⟩
    have pr : Pre io (io ++ [p]) := ⟨[p], rfl⟩
    cases c with
    | val d => exact Rp.mono (Same.refl _) pr q
    | ol es =>
      obtain ⟨a, rfl, q1, vs, q2, q3, q4, q5⟩ := q
      have ne : a ≠ p := fun z => no j _ e rfl (by rw [← z]; exact e1)
      exact ⟨a, rfl, by simp [q1, ne], vs, q2, q3, q4, q5.mono (Same.refl _) pr⟩
    | od ks es =>
      obtain ⟨a, rfl, q1, vs, q2, q3, q4, q5, q6⟩ := q
      have ne : a ≠ p := fun z => no j _ e rfl (by rw [← z]; exact e1)
      exact ⟨a, rfl, by simp [q1, ne], vs, q2, q3, q4, q5, q6.mono (Same.refl _) pr⟩
    | lms ks =>
      obtain ⟨a, rfl, q1, vs, q2, q3, q4, q5⟩ := q
      have ne : a ≠ p := fun z => no j _ e rfl (by rw [← z]; exact e1)
      exact ⟨a, rfl, by simp [q1, ne], vs, q2, q3, q4, q5⟩
  own := t.own
  mem := by
    have pr : Pre io (io ++ [p]) := ⟨[p], rfl⟩
    obtain ⟨vs, ho, q1, q2, q3, q4, qM, qL⟩ := ow
    refine ⟨by simp [t.mem.1], ?_, fun n mo a e1 e2 => ?_⟩
    · rw [List.nodup_append]
      exact ⟨t.mem.2.1, by simp, fun a ha b hb => by simp at hb; rw [hb]; exact fun z => ni (by rw [← z]; exact ha)⟩
    · by_cases hn : n < io.length
      · rw [List.getElem?_append_left (by rw [t.mem.1]; exact hn)] at e1
        rw [List.getElem?_append_left hn] at e2
        have q := t.mem.2.2 n mo a e1 e2
        obtain ⟨ws, h, w1, w2, w3, w4⟩ := q
        exact ⟨ws, h, w1, w2, w3.mono (Same.refl _) pr, w4⟩
      · rw [List.getElem?_append_right (by rw [t.mem.1]; omega)] at e1
        rw [List.getElem?_append_right (by omega)] at e2
        rw [t.mem.1] at e1
        cases hk : n - io.length with
        | zero =>
          rw [hk] at e1 e2
          cases e1
          cases e2
          exact ⟨vs, ho, q1, q2, q4.mono (Same.refl _) pr, qM, qL⟩
        | succ k => rw [hk] at e2; simp at e2
  kh := t.kh
  kg := t.kg
  ki := t.ki.trans ⟨[p], rfl⟩
  ni := fun n a hn e => by
    by_cases hl : n < io.length
    · rw [List.getElem?_append_left hl] at e
      exact t.ni n a hn e
    · rw [List.getElem?_append_right (by omega)] at e
      cases hk : n - io.length with
      | zero => rw [hk] at e; cases e; exact ow.elim fun vs q => q.elim fun _ q => q.2.2.1
      | succ k => rw [hk] at e; simp at e
  zl := t.zl
  tb := t.tb
theorem fr_rp {x : SX} {F : Fr} {G H : Hp} {io : List Addr} {σ : L2.St} {s : S} {o1 : MO} {p : Addr} (t : StR x F s G io σ H) (ni : p ∉ io) (ow : Own x F G io H o1 p)
    (no : ∀ (j : Nat) (c : Cell), s.r[j]? = some (some c) → isOwn c = true → σ[j]? ≠ some (some (.ref p))) :
    ∃ G2 io2, Same G G2 ∧ Pre io io2 ∧ StR x F (frD o1 s).2 G2 io2 σ H ∧ Rp x G2 io2 (frD o1 s).1 (.ref p) := by
  cases hx : o1.isX with
  | true =>
    cases o1 with
    | dx ks ds => exact ⟨G, io ++ [p], Same.refl _, ⟨[p], rfl⟩, t.push ni ow no, ⟨p, rfl, by rw [t.mem.1]; simp⟩⟩
    | ll ds => exact ⟨G, io ++ [p], Same.refl _, ⟨[p], rfl⟩, t.push ni ow no, ⟨p, rfl, by rw [t.mem.1]; simp⟩⟩
    | _ => cases hx
  | false =>
    obtain ⟨vs, ho, e1, e2, e3, r, hM, hL⟩ := ow
    have s2 : Same G (upd G p ho) := same_upd e2
    have t' := t.fast hM.nx (fun z => by
      obtain ⟨ps, q⟩ := tab_at t.tb z
      rw [e1] at q
      exact hM.nt ps (Option.some.inj q)) e1 e2 e3 ni no
    have q := fast_rp hx hM hL (r.mono s2 (Pre.refl _)) (upd_same (H := G) (a := p) (o := ho))
    cases o1 with
    | dx ks ds => cases hx
    | ll ds => cases hx
    | _ => exact ⟨_, io, s2, Pre.refl _, t', q⟩
section
variable {x : SX} {F : Fr} {W : WX} {G G1 H : Hp} {io io1 : List Addr} {σ : St} {s : S}
theorem StR.newfast {a : Addr} {o : HO} (t : StR x F s G io σ H) (ha : H a = none) (nx : ∀ φ, o ≠ .ext φ := by intro φ z; cases z) : StR x F s (upd G a o) io σ (upd H a o) ∧ Same G (upd G a o) := by
  have hg : G a = none := by
    cases e : G a with
    | none => rfl
    | some u => rw [t.gh _ _ e] at ha; cases ha
  have hi : a ∉ io := fun hm => by
    obtain ⟨n, hn, e⟩ := List.getElem_of_mem hm
    have e2 : io[n]? = some a := by rw [List.getElem?_eq_getElem hn, e]
    have hl : n < s.m.length := by rw [t.mem.1]; exact hn
    have q := t.mem.2.2 n _ a (List.getElem?_eq_getElem hl) e2
    obtain ⟨vs, h, q1, _⟩ := q
    rw [ha] at q1; cases q1
  have hf : F.h a = none := by
    cases e : F.h a with
    | none => rfl
    | some u =>
      by_cases hm : a ∈ F.i
      · obtain ⟨m, hm2⟩ := t.ki
        exact absurd (by rw [hm2]; exact List.mem_append_left _ hm) hi
      · by_cases ht : a ∈ tbA x
        · obtain ⟨ps, q⟩ := tab_at t.tb ht
          rw [ha] at q; cases q
        · rw [t.kh _ _ e hm ht] at ha; cases ha
  refine ⟨(t.grow (same_upd ha)).fast nx (fun z => by
    obtain ⟨ps, q⟩ := tab_at t.tb z
    rw [ha] at q; cases q) upd_same hg hf hi fun i c e ho z => ?_, same_upd hg⟩
  obtain ⟨v, e1, r⟩ := t.slot i c e
  rw [z] at e1
  cases e1
  cases c with
  | val d => cases ho
  | ol ds =>
    obtain ⟨b, e2, _, vs, q3, _⟩ := r
    cases e2
    rw [ha] at q3; cases q3
  | od ks ds =>
    obtain ⟨b, e2, _, vs, q3, _⟩ := r
    cases e2
    rw [ha] at q3; cases q3
  | lms ks =>
    obtain ⟨b, e2, _, vs, q3, _⟩ := r
    cases e2
    rw [ha] at q3; cases q3
theorem StR.new {a : Addr} {o : HO} (t : StR x F s G io σ H) (ha : H a = none) : StR x F s G io σ (upd H a o) ∧ G a = none ∧ F.h a = none ∧ a ∉ io ∧
    ∀ (i : Nat) (c : Cell), s.r[i]? = some (some c) → isOwn c = true → σ[i]? ≠ some (some (.ref a)) := by
  have hg : G a = none := by
    cases e : G a with
    | none => rfl
    | some u => rw [t.gh _ _ e] at ha; cases ha
  have hi : a ∉ io := fun hm => by
    obtain ⟨n, hn, e⟩ := List.getElem_of_mem hm
    have e2 : io[n]? = some a := by rw [List.getElem?_eq_getElem hn, e]
    have hl : n < s.m.length := by rw [t.mem.1]; exact hn
    have q := t.mem.2.2 n _ a (List.getElem?_eq_getElem hl) e2
    obtain ⟨vs, h, q1, _⟩ := q
    rw [ha] at q1; cases q1
  have hf : F.h a = none := by
    cases e : F.h a with
    | none => rfl
    | some u =>
      by_cases hm : a ∈ F.i
      · obtain ⟨m, hm2⟩ := t.ki
        exact absurd (by rw [hm2]; exact List.mem_append_left _ hm) hi
      · by_cases ht : a ∈ tbA x
        · obtain ⟨ps, q⟩ := tab_at t.tb ht
          rw [ha] at q; cases q
        · rw [t.kh _ _ e hm ht] at ha; cases ha
  refine ⟨t.grow (same_upd ha), hg, hf, hi, fun i c e ho z => ?_⟩
  obtain ⟨v, e1, r⟩ := t.slot i c e
  rw [z] at e1
  cases e1
  cases c with
  | val d => cases ho
  | ol ds =>
    obtain ⟨b, e2, _, vs, q3, _⟩ := r
    cases e2
    rw [ha] at q3; cases q3
  | od ks ds =>
    obtain ⟨b, e2, _, vs, q3, _⟩ := r
    cases e2
    rw [ha] at q3; cases q3
  | lms ks =>
    obtain ⟨b, e2, _, vs, q3, _⟩ := r
    cases e2
    rw [ha] at q3; cases q3
end

section
variable {x : SX} {F : Fr} {W : WX} {G G1 H : Hp} {io io1 : List Addr} {σ : St} {s : S}
theorem Post.bnd {o : Res} {k : D → S → Res} {Q Q1 : VK} (h : Post x F W G io (bnd o k) σ Q)
    (hk : ∀ d s v H' G' io', Same G G' → Pre io io' → StR x F s G' io' σ H' → Rp x G' io' d v → Post x F W G' io' (k d s) σ Q → Q1 v H') : Post x F W G io o σ Q1 := by
  unfold Post
  split
  · exact fun v H' G' io' a b t r => hk _ _ v H' G' io' a b t r (h.anti a b)
  · rename_i o1 s
    refine fun a H' G' io' sg sp t ni ow no => ?_
    obtain ⟨G2, io2, a1, a2, a3, a4⟩ := fr_rp t ni ow no
    exact hk _ _ (.ref a) H' G2 io2 (sg.trans a1) (sp.trans a2) a3 a4 (h.anti (sg.trans a1) (sp.trans a2))
  · exact h
  · rename_i h1 h2 h3
    unfold En.bnd at h
    split at h
    · exact h1 _ _ rfl
    · exact h2 _ _ rfl
    · exact h3 _ _ _ _ rfl
    · exact h
theorem Post.bndA {o : Res} {k : List D → S → Res} {Q : VK} {Q1 : List V → Hp → Prop} (h : Post x F W G io (bndA o k) σ Q)
    (hk : ∀ d s v H' G' io', Same G G' → Pre io io' → StR x F s G' io' σ H' → RpL x G' io' d v → Post x F W G' io' (k d s) σ Q → Q1 v H') : PostA x F W G io o σ Q1 := by
  unfold PostA
  split
  · exact fun v H' G' io' a b t r => hk _ _ v H' G' io' a b t r (h.anti a b)
  · exact h
  · rename_i h1 h3
    unfold En.bndA at h
    split at h
    · exact h1 _ _ rfl
    · exact h3 _ _ _ _ rfl
    · exact h
theorem PostA.bnd {o : Res} {k : D → S → Res} {Q : List V → Hp → Prop} {Q1 : VK} (h : PostA x F W G io (bnd o k) σ Q)
    (hk : ∀ d s v H' G' io', Same G G' → Pre io io' → StR x F s G' io' σ H' → Rp x G' io' d v → PostA x F W G' io' (k d s) σ Q → Q1 v H') : Post x F W G io o σ Q1 := by
  unfold Post
  split
  · exact fun v H' G' io' a b t r => hk _ _ v H' G' io' a b t r (h.anti a b)
  · rename_i o1 s
    refine fun a H' G' io' sg sp t ni ow no => ?_
    obtain ⟨G2, io2, a1, a2, a3, a4⟩ := fr_rp t ni ow no
    exact hk _ _ (.ref a) H' G2 io2 (sg.trans a1) (sp.trans a2) a3 a4 (h.anti (sg.trans a1) (sp.trans a2))
  · exact h
  · rename_i h1 h2 h3
    unfold En.bnd at h
    split at h
    · exact h1 _ _ rfl
    · exact h2 _ _ rfl
    · exact h3 _ _ _ _ rfl
    · exact h
theorem PostA.bndA {o : Res} {k : List D → S → Res} {Q Q1 : List V → Hp → Prop} (h : PostA x F W G io (bndA o k) σ Q)
    (hk : ∀ d s v H' G' io', Same G G' → Pre io io' → StR x F s G' io' σ H' → RpL x G' io' d v → PostA x F W G' io' (k d s) σ Q → Q1 v H') : PostA x F W G io o σ Q1 := by
  unfold PostA
  split
  · exact fun v H' G' io' a b t r => hk _ _ v H' G' io' a b t r (h.anti a b)
  · exact h
  · rename_i h1 h3
    unfold En.bndA at h
    split at h
    · exact h1 _ _ rfl
    · exact h3 _ _ _ _ rfl
    · exact h
end
end En

namespace En
open PySem PySem.Spec L2
section
variable {α : Type} {le : α → α → Bool}
theorem insB_perm (x : α) : ∀ l : List α, (insB le x l).Perm (x :: l)
  | [] => .refl _
  | y :: ys => by
    unfold insB
    split
    · exact .refl _
    · exact ((insB_perm x ys).cons y).trans (.swap x y ys)
theorem srtB_perm : ∀ l : List α, (srtB le l).Perm l
  | [] => .refl _
  | x :: xs => (insB_perm x _).trans ((srtB_perm xs).cons x)
theorem insB_pw (tot : ∀ a b, le a b = true ∨ le b a = true) (tr : ∀ a b c, le a b = true → le b c = true → le a c = true) (x : α) : ∀ l : List α, l.Pairwise (fun a b => le a b = true) → (insB le x l).Pairwise (fun a b => le a b = true)
  | [], _ => by simp [insB]
  | y :: ys, h => by
    have h0 := List.pairwise_cons.mp h
    unfold insB
    split
    · rename_i hxy
      refine List.pairwise_cons.mpr ⟨fun z hz => ?_, h⟩
      rcases List.mem_cons.mp hz with rfl | hz
      · exact hxy
      · exact tr _ _ _ hxy (h0.1 z hz)
    · rename_i hxy
      have hyx : le y x = true := (tot x y).resolve_left hxy
      refine List.pairwise_cons.mpr ⟨fun z hz => ?_, insB_pw tot tr x ys h0.2⟩
      rcases List.mem_cons.mp ((insB_perm x ys).mem_iff.mp hz) with rfl | hz
      · exact hyx
      · exact h0.1 z hz
theorem srtB_pw (tot : ∀ a b, le a b = true ∨ le b a = true) (tr : ∀ a b c, le a b = true → le b c = true → le a c = true) : ∀ l : List α, (srtB le l).Pairwise (fun a b => le a b = true)
  | [] => .nil
  | x :: xs => insB_pw tot tr x _ (srtB_pw tot tr xs)
theorem srt_uniq (asy : ∀ a b, le a b = true → le b a = true → a = b) : ∀ {ys zs : List α}, ys.Perm zs → ys.Pairwise (fun a b => le a b = true) → zs.Pairwise (fun a b => le a b = true) → ys = zs
  | [], zs, p, _, _ => p.nil_eq
  | y :: ys, [], p, _, _ => by cases p.length_eq
  | y :: ys, z :: zs, p, h1, h2 => by
    have a1 := List.pairwise_cons.mp h1
    have a2 := List.pairwise_cons.mp h2
    have e : y = z := by
      rcases List.mem_cons.mp (p.mem_iff.mp (List.mem_cons_self ..)) with e | hy
      · exact e
      · rcases List.mem_cons.mp (p.mem_iff.mpr (List.mem_cons_self ..)) with e | hz
        · exact e.symm
        · exact asy _ _ (a1.1 z hz) (a2.1 y hy)
    subst e
    rw [srt_uniq asy ((List.perm_cons y).mp p) a1.2 a2.2]
end
theorem leI_tot (a b : Int) : leI a b = true ∨ leI b a = true := by
  unfold leI
  rcases Int.le_total a b with h | h
  · exact .inl (decide_eq_true h)
  · exact .inr (decide_eq_true h)
theorem leI_tr (a b c : Int) (h1 : leI a b = true) (h2 : leI b c = true) : leI a c = true :=
  decide_eq_true (Int.le_trans (of_decide_eq_true h1) (of_decide_eq_true h2))
theorem leI_asy (a b : Int) (h1 : leI a b = true) (h2 : leI b a = true) : a = b := Int.le_antisymm (of_decide_eq_true h1) (of_decide_eq_true h2)
theorem leS_iff {a b : Str} : leS a b = true ↔ a.cps.toList ≤ b.cps.toList := by
  unfold leS
  rw [PyProof.Rows.ltCps_eq, Bool.not_eq_true', decide_eq_false_iff_not]
  exact Iff.rfl
theorem leS_tot (a b : Str) : leS a b = true ∨ leS b a = true := by
  rw [leS_iff, leS_iff]
  exact List.le_total _ _
theorem leS_tr (a b c : Str) (h1 : leS a b = true) (h2 : leS b c = true) : leS a c = true := by
  rw [leS_iff] at *
  exact List.le_trans h1 h2
theorem leS_asy (a b : Str) (h1 : leS a b = true) (h2 : leS b a = true) : a = b := by
  rw [leS_iff] at h1 h2
  have e := List.le_antisymm h1 h2
  obtain ⟨x⟩ := a
  obtain ⟨y⟩ := b
  have e : x.toList = y.toList := e
  rw [Array.toList_inj.mp e]
theorem rising_pw : ∀ {p : Str} {l : List Str}, PyProof.Rows.risingS p l = true → (p :: l).Pairwise (fun a b => leS a b = true)
  | p, [], _ => by simp
  | p, x :: r, h => by
    have h : (leS p x && PyProof.Rows.risingS x r) = true := h
    rw [Bool.and_eq_true] at h
    have ih := rising_pw h.2
    refine List.pairwise_cons.mpr ⟨fun z hz => ?_, ih⟩
    rcases List.mem_cons.mp hz with rfl | hz
    · exact h.1
    · exact leS_tr _ _ _ h.1 ((List.pairwise_cons.mp ih).1 z hz)
theorem sorted_pw : ∀ {l : List Str}, PyProof.Rows.sortedS l = true → l.Pairwise (fun a b => leS a b = true)
  | [], _ => .nil
  | x :: r, h => rising_pw h
theorem srtS_eq {ys xs : List Str} (p : ys.Perm xs) (h : PyProof.Rows.sortedS ys = true) : ys = srtB leS xs := srt_uniq leS_asy (p.trans (srtB_perm xs).symm) (sorted_pw h) (srtB_pw leS_tot leS_tr xs)
theorem srtI_eq {ys xs : List Int} (p : ys.Perm xs) (h : ys.Pairwise (· ≤ ·)) : ys = srtB leI xs := srt_uniq leI_asy (p.trans (srtB_perm xs).symm) (h.imp fun h => decide_eq_true h) (srtB_pw leI_tot leI_tr xs)
end En

namespace EnX
open PySem PySem.Spec PySem.W PySem.Calls PyProof.Rows
open Builtin Builtin.ObjectAttr

structure XB (B newId initId : String) (bmB : List Value) : Prop where
  fb : ExcBaseFacts B newId initId bmB
  kf : KxsFacts B initId
  sf : StoreFacts B bmB "object.__setattr__" "object"
theorem xbV : XB "ValueError" "ValueError.__new__" "ValueError.__init__" [.type "ValueError", .type "Exception", .type "BaseException", .type "object"] := ⟨F.excBase_ValueError, kxs_ValueError, F.store_ValueError⟩
theorem xbL : XB "LookupError" "LookupError.__new__" "LookupError.__init__" [.type "LookupError", .type "Exception", .type "BaseException", .type "object"] := ⟨F.excBase_LookupError, kxs_LookupError, F.store_LookupError⟩
theorem xbI : XB "IndexError" "IndexError.__new__" "IndexError.__init__" [.type "IndexError", .type "LookupError", .type "Exception", .type "BaseException", .type "object"] := ⟨F.excBase_IndexError, kxs_IndexError, F.store_IndexError⟩

section
variable {prog : Program} {w : World} {A : Around} {E : Value → Shared → Prop} {R : Result → Shared → Prop} {hp : Heap} {gs : Array GenState} {dr : Drawn} {tk : Nat} {os : OsState} {K : Frag} {x C : Addr} {bmB : List Value} {B : String} {name : Str} {tn : Tok} {v : Value}
theorem dict_yes {cd : ClassData} (h : hasDictIn K C = true) (hc : clsIn K C = some cd) : cd.hasDict = true := by
  unfold hasDictIn at h
  rw [hc] at h
  exact h
theorem xst_new {flds : Array Value} {cd : ClassData} (kin : K.In hp) (at_ : hp.get? x = some { cls := .ref C, data := .fields flds }) (sf : StoreFacts B bmB "object.__setattr__" "object") (ov : excOver K C bmB = true) (no : takerIn K C name = some none)
    (hd : hasDictIn K C = true) (hc : clsIn K C = some cd)
    (q : ∀ h2 t2 dx, (∀ b o, b ≠ x → hp.get? b = some o → h2.get? b = some o) → hp.objs.size ≤ dx → dx ≠ x → h2.get? x = some { cls := .ref C, dict := some dx, data := .fields flds } →
      h2.Ns1 dx (fun y => if y = name then some v else none) → R (.ok (.ret .none)) ⟨h2, gs, dr, t2, os⟩) :
    codeAny (model prog w) A (.call (.builtin "object.__setattr__") ⟨[.ref x, .str name tn, v], []⟩) R ⟨hp, gs, dr, tk, os⟩ := by
  have inst : InstAt hp x { cls := .ref C, data := .fields flds } C none := ⟨at_, rfl, rfl, trivial⟩
  have lt : x ≠ hp.objs.size := Nat.ne_of_lt (Heap.lt_size at_)
  have lc : Looks (model prog w) hp (classData C) cd := looks_clsIn kin hc
  have hh := dict_yes hd hc
  refine osa_openX (s := ⟨hp, gs, dr, tk, os⟩) sf kin inst ov no fun b => ?_
  show wpAny _ _ (storeInOwnDict (.ref x) (.ref C) (.str name tn) name v b) _ _ _
  obtain ⟨c1, c2, c3, c4, c5, c6, c7, c8, c9, c10, c11⟩ := cd
  dsimp only at hh
  subst hh
  unfold storeInOwnDict ownDictForStores
  repeat (first
    | with_reducible refine HandSPX.store_in_new ?_ ?_
    | with_reducible refine wpAny_loadPart_at at_ ?_
    | with_reducible refine lc.at ?_
    | wp_step)
  · exact ⟨_, #[], _, (Heap.get?_update_ne _ _ _ _ lt.symm).trans (Heap.get?_push_at rfl rfl), rfl, fun e he => absurd he (by simp), fun _ => rfl⟩
  · intro h2 t2 hn2 same
    have at2 : (hp.push { cls := .type "dict", data := .dict #[] }).get? x = some { cls := .ref C, data := .fields flds } := Heap.get?_push_of_some _ at_
    refine q h2 t2 hp.objs.size (fun b o hb ho => ?_) (Nat.le_refl _) lt.symm ?_ hn2
    · exact (same.2 b (Nat.ne_of_lt (Heap.lt_size ho))).trans ((Heap.get?_update_ne _ _ _ _ hb).trans (Heap.get?_push_of_some _ ho))
    · exact (same.2 x lt).trans (Heap.get?_update_self _ at2 rfl)
theorem xst_old {flds : Array Value} {cd : ClassData} {dx : Addr} {m0 : Str → Option Value} {names : List Str} (kin : K.In hp) (at_ : hp.get? x = some { cls := .ref C, dict := some dx, data := .fields flds }) (ns : hp.Ns1 dx m0) (wi : Within m0 names) (few : names.length ≤ 1000)
    (sf : StoreFacts B bmB "object.__setattr__" "object") (ov : excOver K C bmB = true) (no : takerIn K C name = some none) (hd : hasDictIn K C = true) (hc : clsIn K C = some cd)
    (q : ∀ h2 t2, (∀ b o, b ≠ dx → hp.get? b = some o → h2.get? b = some o) → h2.Ns1 dx (fun y => if y = name then some v else m0 y) → R (.ok (.ret .none)) ⟨h2, gs, dr, t2, os⟩) :
    codeAny (model prog w) A (.call (.builtin "object.__setattr__") ⟨[.ref x, .str name tn, v], []⟩) R ⟨hp, gs, dr, tk, os⟩ := by
  obtain ⟨od, _, _, hod, _, _⟩ := ns.count wi
  have inst : InstAt hp x { cls := .ref C, dict := some dx, data := .fields flds } C (some od) := ⟨at_, rfl, rfl, hod⟩
  have lc : Looks (model prog w) hp (classData C) cd := looks_clsIn kin hc
  have hh := dict_yes hd hc
  refine osa_openX (s := ⟨hp, gs, dr, tk, os⟩) sf kin inst ov no fun b => ?_
  show wpAny _ _ (storeInOwnDict (.ref x) (.ref C) (.str name tn) name v b) _ _ _
  obtain ⟨c1, c2, c3, c4, c5, c6, c7, c8, c9, c10, c11⟩ := cd
  dsimp only at hh
  subst hh
  unfold storeInOwnDict ownDictForStores
  repeat (first
    | with_reducible refine OEX.store_in_old ns wi few ?_
    | with_reducible refine wpAny_loadPart_at at_ ?_
    | with_reducible refine lc.at ?_
    | wp_step)
  intro h2 t2 hn2 same
  exact q h2 t2 (fun b o hb ho => (same.2 b hb).trans ho) hn2
end
open En (XV)
def XFs (hp h : Heap) (L x C : Addr) : List (Str × Value) → Prop
  | [] => ∃ t : Addr, h.get? x = some (excObj C t none .none)
  | fs => ∃ (t dx : Addr) (mA : Str → Option Value), h.get? x = some (excObj C t (some dx) .none) ∧ dx ≠ L ∧ dx ≠ x ∧ hp.get? dx = none ∧ h.Ns1 dx mA ∧ ∀ f, mA f = fs.lookup f
def XvR (us : List Value) : XV → Value → Prop
  | .cst z, u => ∃ t, u = .str z t
  | .arg i, u => us[i]? = some u
inductive XvRs (us : List Value) : List (Str × XV) → List (Str × Value) → Prop
  | nil : XvRs us [] []
  | cons {f : Str} {v : XV} {u : Value} {vs : List (Str × XV)} {l : List (Str × Value)} (h : XvR us v u) (t : XvRs us vs l) : XvRs us ((f, v) :: vs) (l ++ [(f, u)])
theorem look_cons {f g : Str} {u : Value} {fs : List (Str × Value)} : ((f, u) :: fs).lookup g = if g = f then some u else fs.lookup g := by
  by_cases h : g = f
  · subst h
    simp [List.lookup]
  · have e : (g == f) = false := by simpa using h
    rw [if_neg h]
    simp [List.lookup, e]
theorem look_within : ∀ {fs : List (Str × Value)} {mA : Str → Option Value}, (∀ f, mA f = fs.lookup f) → Within mA (fs.map (·.1)) := fun {fs mA} e y hy => by
  rw [e] at hy
  clear e
  induction fs with
  | nil => exact absurd rfl hy
  | cons p fs ih =>
    obtain ⟨f, u⟩ := p
    rw [look_cons] at hy
    by_cases z : y = f
    · rw [z]
      exact List.mem_cons_self ..
    · rw [if_neg z] at hy
      exact List.mem_cons_of_mem _ (ih hy)
structure XSt (K : Frag) (C : Addr) (B : String) (bmB : List Value) : Prop where
  sf : StoreFacts B bmB "object.__setattr__" "object"
  ov : excOver K C bmB = true
  hd : hasDictIn K C = true
  sa : findIn K (.ref C) "__setattr__" = some (some (.builtin "object.__setattr__"))
section
variable {prog : Program} {w : World} {A : Around} {E : Value → Shared → Prop} {K : Frag} {x C L : Addr} {bmB : List Value} {B : String} {hp : Heap} {m : Str → Option Value} {env : Env} {self : Str} {ps : List Str} {us : List Value}
theorem frBut {h h2 : Heap} {a : Addr} (F : Fr hp L h m) (na : a ≠ L) (nh : hp.get? a = none) (k : ∀ b o, b ≠ a → h.get? b = some o → h2.get? b = some o) : Fr hp L h2 m := by
  obtain ⟨oL, es, ep, hL, r⟩ := F.ns
  exact ⟨⟨oL, es, ep, k _ _ (Ne.symm na) hL, r⟩, fun b o e => k b o (fun z => by rw [z, nh] at e; cases e) (F.keep b o e), F.above⟩
theorem cls_some (h : hasDictIn K C = true) : ∃ cd, clsIn K C = some cd := by
  unfold hasDictIn at h
  cases e : clsIn K C with
  | none => rw [e] at h; cases h
  | some cd => exact ⟨cd, rfl⟩
theorem xset {s : Shared} {f : Str} {u : Value} {fs : List (Str × Value)} {Q : Unit → Shared → Prop} (T : XSt K C B bmB) (kin : K.In hp) (F : Fr hp L s.heap m) (xL : x ≠ L) (xh : hp.get? x = none) (few : fs.length ≤ 900) (no : takerIn K C f = some none) (X : XFs hp s.heap L x C fs)
    (q : ∀ h2 t2, Fr hp L h2 m → XFs hp h2 L x C ((f, u) :: fs) → Q () ⟨h2, s.gens, s.drawn, t2, s.os⟩) : wpAny (model prog w) A (setAttr (.ref x) f u) Q E s := by
  obtain ⟨cd, hc⟩ := cls_some T.hd
  obtain ⟨hh, gs, dr, tk, os⟩ := s
  have kin2 : K.In hh := kin.keeps F.keep
  cases fs with
  | nil =>
    obtain ⟨t, at_⟩ := X
    refine set_plain kin2 (ox := excObj C t none .none) (od := none) ⟨at_, rfl, rfl, trivial⟩ T.sa ?_
    refine xst_new kin2 at_ T.sf T.ov no T.hd hc fun h2 t2 dx k lt ne at2 ns => ?_
    have dL : dx ≠ L := fun z => by
      obtain ⟨oL, _, _, hL, _⟩ := F.ns
      have := Heap.lt_size hL
      rw [← z] at this
      exact absurd this (Nat.not_lt.mpr lt)
    have dh : hp.get? dx = none := by
      cases e : hp.get? dx with
      | none => rfl
      | some o => exact absurd (Heap.lt_size (F.keep _ _ e)) (Nat.not_lt.mpr lt)
    exact q h2 t2 (frBut F xL xh k) ⟨t, dx, _, at2, dL, ne, dh, ns, fun g => by rw [look_cons]; rfl⟩
  | cons p fs =>
    obtain ⟨t, dx, mA, at_, dL, ne, dh, ns, e⟩ := X
    obtain ⟨od, _, _, hod, _, _⟩ := ns.count (look_within e)
    refine set_plain kin2 (ox := excObj C t (some dx) .none) (od := some od) ⟨at_, rfl, rfl, hod⟩ T.sa ?_
    refine xst_old kin2 at_ ns (look_within e) (by rw [List.length_map]; omega) T.sf T.ov no T.hd hc fun h2 t2 k ns2 => ?_
    exact q h2 t2 (frBut F dL dh k) ⟨t, dx, _, k _ _ (Ne.symm ne) at_, dL, ne, dh, ns2, fun g => by rw [look_cons, ← e g]⟩
theorem XvRs.app {vs : List (Str × XV)} {l : List (Str × Value)} (h : XvRs us vs l) : l.length = vs.length := by
  induction h with
  | nil => rfl
  | cons _ _ ih => simp [ih]
theorem xbody_run (T : XSt K C B bmB) (kin : K.In hp) (xL : x ≠ L) (xh : hp.get? x = none) (eL : env.locals = L) (ek : env.scope.kind = .function) (k0 : env.kindOf self = some .local) (d0 : (self == ("__debug__" : Str)) = false) (m0 : m self = some (.ref x))
    (kp : ∀ (i : Nat) y, ps[i]? = some y → env.kindOf y = some .local ∧ (y == ("__debug__" : Str)) = false ∧ ∃ u, us[i]? = some u ∧ m y = some u) :
    ∀ (body : List Stmt) (vs : List (Str × XV)) (fs : List (Str × Value)) (s : Shared), xBody self ps body vs = true → (∀ p ∈ vs, takerIn K C p.1 = some none) → fs.length + vs.length ≤ 900 → Fr hp L s.heap m → XFs hp s.heap L x C fs →
      wpAny (model prog w) A (execs body env) (fun fl s' => fl = .next ∧ s'.gens = s.gens ∧ s'.os = s.os ∧ Fr hp L s'.heap m ∧ ∃ l, XvRs us vs l ∧ XFs hp s'.heap L x C (l ++ fs)) E s := by
  intro body
  induction body with
  | nil =>
    intro vs fs s hb _ _ F X
    cases vs with
    | nil => exact wpAny_execs_nil ⟨rfl, rfl, rfl, F, [], .nil, X⟩
    | cons _ _ => cases hb
  | cons st r ih =>
    intro vs fs s hb hn hl F X
    have step : ∀ {f : Str} {v : XV} {vs' : List (Str × XV)} {u : Value} {s1 s2 : Shared}, vs = (f, v) :: vs' → XvR us v u → xBody self ps r vs' = true → s2.gens = s.gens → s2.os = s.os → Fr hp L s2.heap m → XFs hp s2.heap L x C ((f, u) :: fs) →
        wpAny (model prog w) A (execs r env) (fun fl s' => fl = .next ∧ s'.gens = s.gens ∧ s'.os = s.os ∧ Fr hp L s'.heap m ∧ ∃ l, XvRs us vs l ∧ XFs hp s'.heap L x C (l ++ fs)) E s2 := by
      intro f v vs' u s1 s2 ev hv hb' g1 o1 F2 X2
      subst ev
      refine wpAny_mono (ih vs' ((f, u) :: fs) s2 hb' (fun p hp => hn p (List.mem_cons_of_mem _ hp)) (by simp at hl ⊢; omega) F2 X2) (fun fl s' hq => ?_) fun _ _ z => z
      obtain ⟨e1, e2, e3, F3, l, h1, h2⟩ := hq
      exact ⟨e1, e2.trans g1, e3.trans o1, F3, l ++ [(f, u)], .cons hv h1, by rw [List.append_assoc]; exact h2⟩
    have ldself : ∀ {p : Pos} {Q : Value → Shared → Prop} {s1 : Shared}, Fr hp L s1.heap m → Q (.ref x) s1 → wpAny (model prog w) A (eval (.Name self p) env) Q E s1 := fun F1 q =>
      wpAny_Name (wpAny_loadName_local ek k0 (by rw [eL]; exact F1.ns) m0 q) d0
    unfold xBody at hb
    split at hb
    · contradiction
    · rename_i o p1 f p2 y k p3 p4 r' g z vs' e1
      cases e1
      simp only [Bool.and_eq_true, decide_eq_true_eq] at hb
      obtain ⟨rfl, rfl, rfl, hb⟩ := hb
      refine wpAny_execs_cons (plainObj_wpAny_Assign_Attribute (Calls.Constant_str (ldself (s1 := { s with toks := s.toks + 1 }) F (xset (s := { s with toks := s.toks + 1 }) T kin F xL xh (by simp at hl; omega) (hn _ (List.mem_cons_self ..)) X fun h2 t2 F2 X2 => ?_))))
      exact step (s1 := s) rfl ⟨_, rfl⟩ hb rfl rfl F2 X2
    · rename_i o p1 f p2 y p3 p4 r' g i vs' e1
      cases e1
      simp only [Bool.and_eq_true, decide_eq_true_eq] at hb
      obtain ⟨rfl, rfl, hy, hb⟩ := hb
      obtain ⟨ky, dy, u, hu, hm⟩ := kp i y hy
      refine wpAny_execs_cons (plainObj_wpAny_Assign_Attribute (wpAny_Name (wpAny_loadName_local ek ky (by rw [eL]; exact F.ns) hm (ldself F (xset T kin F xL xh (by simp at hl; omega) (hn _ (List.mem_cons_self ..)) X fun h2 t2 F2 X2 => ?_))) dy))
      exact step (s1 := s) rfl hu hb rfl rfl F2 X2
    · cases hb
end
section
variable {prog : Program} {w : World} {A : Around} {E : Value → Shared → Prop} {K : Frag} {x C L cc cda fI : Addr} {hp : Heap} {m : Str → Option Value} {mg : Str → Option Value} {base : Heap}
structure XSup (prog : Program) (K : Frag) (C fI cda cc : Addr) (B newId initId : String) (bmB : List Value) (slf : Str) (scope : Scope) : Prop where
  xb : XB B newId initId bmB
  q : excInitIn K C bmB newId = true
  sup : ks_superIn K C C "__init__" = some (some (.builtin initId))
  sB : subIn K (.ref C) (.type B) = some true
  sC : mroIn K C (.ref C) = some true
  op : nsIn K cStatics "thirdparty.any" = some none
  cell : ∃ cl cld csl, K.lookup cc = some ⟨cl, cld, .cell (some (.ref C)), csl⟩
  code : ∃ ccl cdd cvs ccs file tf, K.lookup cda = some ⟨ccl, cdd, .fields cvs, ccs⟩ ∧ cvs[2]? = some (.str file tf) ∧ ((prog.main.file : Str) == file) = true
  fn : ∃ oc od fd osl ar, K.lookup fI = some ⟨oc, od, .func fd, osl⟩ ∧ (fd.params.posonlyargs ++ fd.params.args).head? = some ar ∧ ar.arg = slf
  ks : scope.names.lookup ("super" : Str) = some .globalImplicit
  kc : scope.names.lookup ("__class__" : Str) = some .free
  ka : scope.names.lookup slf = some .local
  kf : scope.kind = .function
  top : (prog.main.scope.names.lookup ("super" : Str)).isSome = false
theorem sup_call {msg : Str} {k : Nat} {p0 p1 p2 p3 p4 : Pos} {env : Env} (hl : (p2.endLine == p4.line) = true) :
    eval (.Call (.Attribute (.Call (.Name "super" p0) [] [] p1) "__init__" p2) [.Constant (.str msg) k p3] [] p4) env = (do
      let ov ← attributeBase (.Call (.Name "super" p0) [] [] p1) "__init__" env (eval (.Call (.Name "super" p0) [] [] p1) env)
      standAt p2.atName
      let (f, first) ← holding [ov] (getMethod ov "__init__" (do return (← importBound (.Call (.Name "super" p0) [] [] p1) env).getD true))
      callWith p4 f first (backTo p4 (starEach [.Constant (.str msg) k p3] env)) []) := by
  rw [arm_eval_Call]
  have e : ∀ ov, methodCall (.Call (.Name "super" p0) [] [] p1) "__init__" p2 p4 env ov ([Expr.Constant (.str msg) k p3].length + ([] : List Keyword).length) (backTo p4 (starEach [.Constant (.str msg) k p3] env)) (backToKw p4 (keywordEach [] env)) = (do
      let (f, first) ← holding [ov] (getMethod ov "__init__" (do return (← importBound (.Call (.Name "super" p0) [] [] p1) env).getD true))
      callWith p4 f first (backTo p4 (starEach [.Constant (.str msg) k p3] env)) []) := fun ov => by
    unfold methodCall
    rw [show methodCallForm ([Expr.Constant (.str msg) k p3].length + ([] : List Keyword).length) (backTo p4 (starEach [.Constant (.str msg) k p3] env)) (backToKw p4 (keywordEach [] env)) = true from rfl]
    have z : methodCallPos true (.Call (.Name "super" p0) [] [] p1) env p2 p4 = pure p4 := by
      unfold methodCallPos
      rw [if_pos (by rw [hl]; rfl)]
    rw [z]
    rfl
  simp only [e]
theorem boot_super : bootBuiltins "super" = some (.type "super") := by first | rfl | kernel_rfl
theorem xsuper {self qual : Str} {scope : Scope} {B newId initId : String} {bmB : List Value} {body : List Stmt} {s : Shared} {t : Addr} {msg : Str} {k : Nat} {p0 p1 p2 p3 p4 p5 : Pos} (T : XSup prog K C fI cda cc B newId initId bmB self scope) (hln : (p2.endLine == p4.line) = true) (kin : K.In hp)
    (hg : hp.Ns mainGlobals mg) (hb : ∃ mb, hp.Ns builtinsNs mb ∧ ∀ y : Str, y ≠ "__name__" → mb y = bootBuiltins y) (hm : mg "super" = none) (F : Fr hp L s.heap m) (xL : x ≠ L) (xh : hp.get? x = none) (m0 : m self = some (.ref x)) (at_ : s.heap.get? x = some (excObj C t none .none)) :
    _root_.PySem.wpAt (model prog w) A (.func body (ksEnv qual scope L fI (.ref cda) cc)) (exec (.Expr (.Call (.Attribute (.Call (.Name "super" p0) [] [] p1) "__init__" p2) [.Constant (.str msg) k p3] [] p4) p5) (ksEnv qual scope L fI (.ref cda) cc))
      (fun fl s' => fl = .next ∧ s'.gens = s.gens ∧ s'.os = s.os ∧ Fr hp L s'.heap m ∧ ∃ t' : Addr, s'.heap.get? x = some (excObj C t' none .none)) E s := by
  obtain ⟨oc, od, fd, osl, ar, hf, har, rfl⟩ := T.fn
  obtain ⟨ccl, cdd, cvs, ccs, file, tf, hcd, hv2, hfile⟩ := T.code
  obtain ⟨cl, cld, csl, hcell⟩ := T.cell
  have kin2 : K.In s.heap := kin.keeps F.keep
  have N0 : News hp L s.heap [(x, excObj C t none .none)] := fun p hp' => by
    have e : p = (x, excObj C t none .none) := by simpa using hp'
    subst e
    exact ⟨at_, xL, xh⟩
  have inst : InstAt s.heap x (excObj C t none .none) C none := ⟨at_, rfl, rfl, trivial⟩
  obtain ⟨cdD, hcl⟩ : ∃ cd, clsIn K C = some cd := by
    have h := T.sup
    unfold ks_superIn at h
    cases e : clsIn K C with
    | none => rw [e] at h; cases h
    | some cd => exact ⟨cd, rfl⟩
  refine ks_wpAt_Expr_any (hi := by unfold interactive; simp [T.kf]) (ks_wpAt_MethodCall ?_ (sup_call hln))
  refine ks_wpAt_super_base (env := ksEnv qual scope L fI (.ref cda) cc) T.ks T.kc rfl rfl (kin2 _ _ hf) rfl har rfl (kin2 _ _ hcd) rfl hv2 hfile T.top ?_
  obtain ⟨mb, b1, b2⟩ := hb
  refine ks_loadName_global T.kf T.ks (Calls.loadGlobal_builtin (env := ksEnv qual scope L fI (.ref cda) cc) (hg.keeps F.keep) hm (b1.keeps F.keep) ((b2 _ (by decide)).trans boot_super) ⟨rfl, ?_⟩)
  refine wpAny_loadName_free T.kf T.kc rfl ⟨_, kin2 _ _ hcell, rfl⟩ ?_
  refine wpAny_loadName_local T.kf T.ka F.ns m0 ?_
  obtain ⟨oD, hD1, hD2⟩ : ∃ oD, s.heap.get? C = some oD ∧ oD.data = .cls cdD := by
    unfold clsIn at hcl
    split at hcl
    · rename_i ho
      cases hcl
      exact ⟨_, kin2 _ _ ho, rfl⟩
    · cases hcl
  obtain ⟨hh, gs, dr, tk, os⟩ := s
  refine ks_wpAny_isType_cls hD1 hD2 ⟨rfl, ?_⟩
  refine ks_wpAny_call_super hD1 hD2 at_ rfl (fun c e => by cases e) (looks_mroIn kin2 T.sC) fun h1 e1 k1 => ?_
  obtain ⟨F1, N1, l1⟩ := ks_newsPush (s := ⟨hh, gs, dr, tk, os⟩) (o := ks_superObj C x C) F N0 rfl e1 k1
  have inst1 : InstAt h1 x (excObj C t none .none) C none := ⟨k1 _ _ at_, rfl, rfl, trivial⟩
  refine kxs_method (s := ⟨h1, gs, dr, tk, os⟩) T.xb.kf F1 kin N1 (List.mem_cons_self ..) inst1 T.op T.sup T.sB (by decide) fun u h2 F2 N2 l2 => ?_
  refine kxs_callWith1 (s := ⟨h2, gs, dr, tk + 1, os⟩) N2 (List.mem_cons_self ..) ?_
  refine Calls.spliced_cons ?_
  show wpAny _ _ (eval (.Constant (.str msg) k p3) _) _ _ _
  refine Calls.Constant_str (Calls.spliced_nil ⟨kxs_at N2 (List.mem_cons_self ..), ?_⟩)
  have ne1 : hh.objs.size ≠ x := fun z => by
    have := Heap.lt_size at_
    rw [z] at this
    exact absurd this (Nat.lt_irrefl _)
  have ne2 : u ≠ x := fun z => by
    have := l2 (x, excObj C t none .none) (by simp)
    rw [z] at this
    exact absurd this (Nat.lt_irrefl _)
  refine kxs_call (s := ⟨h2, gs, dr, tk + 1 + 1, os⟩) F2 kin N2 T.xb.fb T.q (List.mem_cons_self ..) (UpdF.tail ne2 (UpdF.tail ne1 (UpdF.head (by simp)))) (by simp [sizeLine_eq]) fun t' h3 F3 N3 l3 => ?_
  exact ⟨rfl, rfl, rfl, F3, t', (N3 (x, excObj C t' none .none) (by simp)).1⟩
end
open L2 (V RelV RelO Vals)
def xval (ys : List V) : XV → Option V
  | .cst z => some (.str z)
  | .arg i => ys[i]?
theorem relO_app {a : List (Str × V)} {b : List (Str × Value)} {g : Str} {y : V} {u : Value} (h : ∀ f, RelO (a.lookup f) (b.lookup f)) (r : RelV y u) : ∀ f, RelO ((a ++ [(g, y)]).lookup f) ((b ++ [(g, u)]).lookup f) := fun f => by
  rw [List.lookup_append, List.lookup_append]
  have q := h f
  cases e1 : a.lookup f with
  | some v =>
    cases e2 : b.lookup f with
    | some w => rw [e1, e2] at q; exact q
    | none => rw [e1, e2] at q; exact q.elim
  | none =>
    cases e2 : b.lookup f with
    | some w => rw [e1, e2] at q; exact q.elim
    | none =>
      show RelO (List.lookup f [(g, y)]) (List.lookup f [(g, u)])
      by_cases z : f = g
      · subst z
        simp [List.lookup]
        exact r
      · have e : (f == g) = false := by simpa using z
        simp [List.lookup, e]
        trivial
theorem xv_rel {us : List Value} {ys : List V} (r : Vals ys us) {vs : List (Str × XV)} {l : List (Str × Value)} (h : XvRs us vs l) :
    ∃ fv : List V, vs.reverse.map (fun p => xval ys p.2) = fv.map some ∧ ∀ f, RelO (((vs.reverse.map (·.1)).zip fv).lookup f) (l.lookup f) := by
  induction h with
  | nil => exact ⟨[], rfl, fun f => trivial⟩
  | @cons f v u vs l h t ih =>
    obtain ⟨fv, e1, e2⟩ := ih
    have hy : ∃ y, xval ys v = some y ∧ RelV y u := by
      cases v with
      | cst z =>
        obtain ⟨t, rfl⟩ := h
        exact ⟨_, rfl, ⟨t, rfl⟩⟩
      | arg i =>
        have h : us[i]? = some u := h
        have hi : i < ys.length := by
          have := (List.getElem?_eq_some_iff.mp h).1
          rw [← r.length] at this
          exact this
        obtain ⟨u', h1, h2⟩ := r.get (List.getElem?_eq_getElem hi)
        rw [h] at h1
        cases h1
        exact ⟨_, List.getElem?_eq_getElem hi, h2⟩
    obtain ⟨y, y1, y2⟩ := hy
    have hlen : (vs.reverse.map (·.1)).length = fv.length := by
      have := congrArg List.length e1
      simp at this ⊢
      exact this
    refine ⟨fv ++ [y], ?_, ?_⟩
    · rw [List.reverse_cons, List.map_append, List.map_append, e1]
      simp [y1]
    · rw [List.reverse_cons, List.map_append, List.zip_append hlen]
      exact relO_app e2 y2
structure XCl (prog : Program) (K : Frag) (C fI cda cc : Addr) (B newId initId : String) (bmB : List Value) (slf : Str) (ps : List Str) (vs : List (Str × XV)) (fd : FuncData) (ds : List Value) : Prop where
  sup : XSup prog K C fI cda cc B newId initId bmB slf fd.scope
  st : XSt K C B bmB
  iC : findIn K (.ref C) "__init__" = some (some (.ref fI))
  tI : typeIn K (.ref fI) = some (.type "function")
  exC : subIn K (.ref C) (.type "BaseException") = some true
  tyC : typeIn K (.ref C) = some (.type "type")
  kC : keepIn K (.ref C) = true
  no : ∀ p ∈ vs, takerIn K C p.1 = some none
  few : vs.length ≤ 900
  some_ : vs ≠ []
  lk : ∃ oc od osl, K.lookup fI = some ⟨oc, od, .func fd, osl⟩
  cl : fd.closure = [(("__class__" : Str), cc)]
  gl : fd.globals = mainGlobals
  bl : fd.builtins = builtinsNs
  cdv : fd.code = .ref cda
  cd : codeIn K (.ref cda) fd.qualname = true
  body : ∃ p0 p1 p2 p3 p4 p5 msg k body, fd.body = .stmts (.Expr (.Call (.Attribute (.Call (.Name "super" p0) [] [] p1) "__init__" p2) [.Constant (.str msg) k p3] [] p4) p5 :: body) ∧ (p2.endLine == p4.line) = true ∧ xBody slf ps body vs = true
  bd : L2.Binds K fd (slf :: ps) ds
  nd : (slf :: ps).Nodup
  loc : ∀ y ∈ slf :: ps, fd.scope.names.lookup y = some .local ∧ (y == ("__debug__" : Str)) = false
  nocell : ∀ y ∈ fd.scope.names, y.2 ≠ .cell
  co : fd.scope.isCoroutine = false
  gen : fd.scope.isGenerator = false
theorem zip_rev_get {P : List Str} {us : List Value} {i : Nat} {y : Str} {u : Value} (nd : P.Nodup) (h1 : P[i]? = some y) (h2 : us[i]? = some u) : (P.zip us).reverse.lookup y = some u := by
  have key : ∀ (P : List Str) (us : List Value) (i : Nat) (acc : List (Str × Value)), P.Nodup → P[i]? = some y → us[i]? = some u → ((P.zip us).reverse ++ acc).lookup y = some u := by
    intro P
    induction P with
    | nil => intro us i acc _ h; simp at h
    | cons p P ih =>
      intro us i acc nd h1 h2
      cases us with
      | nil => simp at h2
      | cons w us =>
        rw [List.zip_cons_cons, List.reverse_cons, List.append_assoc]
        cases i with
        | zero =>
          simp at h1 h2
          subst h1 h2
          rw [List.lookup_append]
          have hn : (P.zip us).reverse.lookup p = none := by
            rw [List.lookup_eq_none_iff]
            intro q hq
            have hm := (List.of_mem_zip (List.mem_reverse.mp hq)).1
            have : p ≠ q.1 := fun z => (List.nodup_cons.mp nd).1 (by rw [z]; exact hm)
            simpa using this
          rw [hn]
          simp [List.lookup]
        | succ i =>
          exact ih us i _ (List.nodup_cons.mp nd).2 (by simpa using h1) (by simpa using h2)
  have := key P us i [] nd h1 h2
  simpa using this
section
variable {X : L2.Cx} {pins : List (Addr × Obj)} {σ : L2.St} {H : L2.Hp} {s : Shared} {Q : L2.XK}
theorem xcall {C fI cda cc : Addr} {B newId initId : String} {bmB : List Value} {slf : Str} {ps : List Str} {vs : List (Str × XV)} {fd : FuncData} {ds us : List Value} {ys dys : List V} {k : Nat} (T : XCl X.prog X.K C fI cda cc B newId initId bmB slf ps vs fd ds) (I : L2.Inv X pins σ H s) (hm : X.mg "super" = none)
    (hr : L2.Room (k + 1) X.A) (r : Vals ys us) (rd : Vals dys ds) (hl : us.length + ds.length = ps.length) (hus : us.length ≤ sizeLine)
    (q : ∀ (d : Addr) (fv : List V), H d = none → vs.reverse.map (fun p => xval (ys ++ dys) p.2) = fv.map some → Q (.ref C) (some d) (L2.upd H d (.xd ((vs.reverse.map (·.1)).zip fv)))) :
    wpAny (model X.prog X.w) X.A (call (.ref C) us) (L2.MkP X pins σ Q) X.xe s := by
  obtain ⟨oc, od, osl, hI⟩ := T.lk
  obtain ⟨p0, p1, p2, p3, p4, p5, msg, kk, body, hbody, hln, hxb⟩ := T.body
  obtain ⟨nm, N, qn, bs, bm, hdct, sn, sub, ab, col, dd, k0, k1, k2, k3, k5, hC, hT⟩ := excInit_of I.kIn T.sup.q
  obtain ⟨hp, gs, dr, tk, os⟩ := s
  have kin : X.K.In hp := I.kIn
  have bs' := I.bk
  refine wpAny_call (HandSPX.call_own T.sup.xb.fb hT hC (looks_findIn kin T.iC) (fun self => bind_fn kin self T.tI) hus ?_)
  have kk2 : ∀ b o, hp.get? b = some o → ((hp.push (kdv_tup us)).push (HandSPX.excO C hp.objs.size)).get? b = some o := fun b o e => Heap.get?_push_of_some _ (Heap.get?_push_of_some _ e)
  have at1 : ((hp.push (kdv_tup us)).push (HandSPX.excO C hp.objs.size)).get? (hp.objs.size + 1) = some (HandSPX.excO C hp.objs.size) := by heap_get
  have sz1 : ((hp.push (kdv_tup us)).push (HandSPX.excO C hp.objs.size)).objs.size = hp.objs.size + 2 := by rw [Heap.size_push, Heap.size_push]
  generalize hh1 : (hp.push (kdv_tup us)).push (HandSPX.excO C hp.objs.size) = h1 at kk2 at1 sz1 ⊢
  have xh : hp.get? (hp.objs.size + 1) = none := by
    cases e : hp.get? (hp.objs.size + 1) with
    | none => rfl
    | some o => exact absurd (Heap.lt_size e) (Nat.not_lt.mpr (Nat.le_succ _))
  have b := T.bd ⟨h1, gs, dr, tk, os⟩ (.ref (hp.objs.size + 1) :: us) (kin.keeps kk2) (by rw [List.length_append, List.length_cons, List.length_cons]; omega)
  rw [List.cons_append] at b
  have hget : ∀ (i : Nat) y, ps[i]? = some y → ∃ u, (us ++ ds)[i]? = some u ∧ ((slf :: ps).zip (.ref (hp.objs.size + 1) :: (us ++ ds))).reverse.lookup y = some u := fun i y hy => by
    have hi : i < (us ++ ds).length := by
      have := (List.getElem?_eq_some_iff.mp hy).1
      rw [List.length_append]
      omega
    exact ⟨_, List.getElem?_eq_getElem hi, zip_rev_get (i := i + 1) T.nd (by simpa using hy) (by simpa using List.getElem?_eq_getElem hi)⟩
  have m0 : ((slf :: ps).zip (.ref (hp.objs.size + 1) :: (us ++ ds))).reverse.lookup slf = some (.ref (hp.objs.size + 1)) := zip_rev_get (i := 0) T.nd rfl rfl
  have loc := T.loc
  have envE : ∀ L, callEnv fd L fI = ksEnv fd.qualname fd.scope L fI (.ref cda) cc := fun L => by
    unfold callEnv
    rw [T.cl, T.gl, T.bl, T.cdv]
    rfl
  refine ks_codeAny_call_defAt (fd := fd) (hr.make C us []).depth (kin.keeps kk2 _ _ hI) rfl (I.nolimit.keeps kk2) (by rw [T.cdv]; exact codeRec_of (kin.keeps kk2) T.cd) hbody b T.nocell (fun y hy => (loc y.1 (List.of_mem_zip hy).1).1) (fun h2 ns2 k2 => ?_) T.co T.gen T.sup.kf
  rw [envE]
  have L_x : hp.objs.size + 1 ≠ h1.objs.size := by omega
  have ns0 : Fr hp h1.objs.size h2 (fun y => ((slf :: ps).zip (.ref (hp.objs.size + 1) :: (us ++ ds))).reverse.lookup y) := ⟨ns2, fun b o e => k2 b o (kk2 b o e), by omega⟩
  refine ks_wpAt_execs_cons (ks_wpAt_mono (xsuper (t := hp.objs.size) (m := fun y => ((slf :: ps).zip (.ref (hp.objs.size + 1) :: (us ++ ds))).reverse.lookup y) T.sup hln kin (I.mod.glob.keeps bs') (by
      obtain ⟨mb, b1, b2⟩ := I.mod.blt
      exact ⟨mb, b1.keeps bs', b2⟩) hm ns0 L_x xh m0 (k2 _ _ at1)) (fun fl s1 h3 => ?_) fun _ _ z => z)
  obtain ⟨rfl, g1, o1, F1, t1, at3⟩ := h3
  refine wpAt_of_wpAny (wpAny_mono (xbody_run (env := ksEnv fd.qualname fd.scope h1.objs.size fI (.ref cda) cc) (ps := ps) (us := us ++ ds) (self := slf) T.st kin L_x xh rfl T.sup.kf (loc slf (List.mem_cons_self ..)).1 (loc slf (List.mem_cons_self ..)).2 m0 (fun i y hy => ?_) body vs [] s1 hxb T.no (by simpa using T.few) F1 ⟨t1, at3⟩) (fun fl s2 h4 => ?_) fun _ _ z => z)
  · obtain ⟨u, e1, e2⟩ := hget i y hy
    have z := loc y (List.mem_cons_of_mem _ (List.mem_of_getElem? hy))
    exact ⟨z.1, z.2, u, e1, e2⟩
  · obtain ⟨rfl, g2, o2, F2, l, hr2, hx⟩ := h4
    rw [List.append_nil] at hx
    obtain ⟨fv, e1, e2⟩ := xv_rel (r.append rd) hr2
    have hle := XvRs.app hr2
    cases l with
    | nil => exact absurd (List.length_eq_zero_iff.mp (by simpa using hle.symm)) T.some_
    | cons p l =>
      obtain ⟨t2, dx, mA, at4, dL, dne, dh, ns4, eA⟩ := hx
      obtain ⟨G, gk1, gk2⟩ := L2.restrict s2.heap fun b => decide (b ≠ hp.objs.size + 1)
      have gk : ∀ b, b ≠ hp.objs.size + 1 → G.get? b = s2.heap.get? b := fun b hb => gk1 b (decide_eq_true hb)
      have ge : G.get? (hp.objs.size + 1) = none := gk2 _ (by simp)
      have Hd : H dx = none := L2.HOk.gone I.hok dh
      have He : H (hp.objs.size + 1) = none := I.hok.fresh (Nat.le_succ _)
      have J : L2.Inv X pins σ (L2.upd H dx (.xd ((vs.reverse.map (·.1)).zip fv))) ⟨G, gs, dr, tk, os⟩ :=
        I.laidN (t' := tk) (fun b u z => (gk b (fun y => by rw [y, xh] at z; cases z)).trans (F2.keep b u z)) dh Hd ⟨mA, ns4.at fun o z => (gk dx dne).trans z, fun f => by rw [eA f]; exact e2 f⟩
      refine ⟨rfl, hp.objs.size + 1, _, _, ⟨G, gs, dr, tk, os⟩, _, .ref C, some dx, rfl, J, fun b o z => ?_, ge, at4, ⟨rfl, rfl⟩, rfl, rfl, ?_, o2.trans o1, ?_, L2.raises_own T.exC T.tyC, q dx fv Hd e1⟩
      · by_cases hb : b = hp.objs.size + 1
        · rw [hb, ge] at z
          cases z
        · exact (gk b hb).symm.trans z
      · rw [L2.upd_ne (Ne.symm dne)]
        exact He
      · rw [g2.trans g1]
        exact I.bare
end
end EnX

namespace En
open PySem PySem.Spec L2

def pairE (ds es : List D) (j : Nat) : Bool := match ds[j]?, es[j]? with
  | some a, some b => eqD a b
  | _, _ => false
theorem pairE_all : ∀ (ds es : List D), ds.length = es.length → (List.range ds.length).all (pairE ds es) = eqDs ds es
  | [], [], _ => rfl
  | [], _ :: _, h => by simp at h
  | _ :: _, [], h => by simp at h
  | a :: ds, b :: es, h => by
    have ih := pairE_all ds es (by simpa using h)
    rw [List.length_cons, List.range_succ_eq_map, List.all_cons, List.all_map]
    have e1 : pairE (a :: ds) (b :: es) 0 = eqD a b := rfl
    have e2 : (pairE (a :: ds) (b :: es) ∘ Nat.succ) = pairE ds es := by
      funext j
      simp [pairE, Function.comp]
    rw [e1, e2, ih, eqDs]
theorem eqDs_len : ∀ (ds es : List D), ds.length ≠ es.length → eqDs ds es = false
  | [], [], h => absurd rfl h
  | [], _ :: _, _ => rfl
  | _ :: _, [], _ => rfl
  | a :: ds, b :: es, h => by
    rw [eqDs, eqDs_len ds es (by simpa using h), Bool.and_false]
theorem pairE_tup : ∀ (ds es : List D), ((List.range (min ds.length es.length)).all (pairE ds es) && ds.length == es.length) = eqDs ds es
  | ds, es => by
    by_cases h : ds.length = es.length
    · rw [h, Nat.min_self, ← h, pairE_all ds es h]
      simp
    · rw [eqDs_len ds es h]
      simp [h]

section
variable {X : Cx} {pins : List (Addr × Obj)} {σ : L2.St} {H G : Hp} {s : Shared} {x : SX} {io : List Addr}
def Deq (n : Nat) (X : Cx) (x : SX) (G : Hp) (io : List Addr) (s : Shared) : Prop :=
  ∀ (d e : D) (v w : V) (u t : Value) (A : Around), okD n d = true → okD n e = true → Rp x G io d v → Rp x G io e w → RelV v u → RelV w t → A.units + n < cLine →
    SeqAt.EqAt A s u t (eqD d e) ∧ SeqAt.RcAt A s u t (eqD d e) ∧ SeqAt.RcNeAt A s u t (!eqD d e)
theorem lstAt (I : Inv X pins σ H s) (gh : Same G H) {a : Addr} {vs : List V} (h : G a = some (.lst vs)) : ∃ its : List Value, Vals vs its ∧ s.heap.IsList a its.toArray ∧ vs.length ≤ sizeLine := by
  obtain ⟨its, r, p, l⟩ := I.list (xs := vs) (SqL.of (gh _ _ h))
  exact ⟨its, r, p.isList, l⟩
theorem tupAt (I : Inv X pins σ H s) (ek : X.K = x.K) (gh : Same G H) {a : Addr} {vs : List V} (h : SqT x.K G a vs) : ∃ its : List Value, Vals vs its ∧ s.heap.IsTuple a its.toArray ∧ vs.length ≤ sizeLine := by
  have h' : SqT X.K H a vs := by rw [ek]; exact Same.tup gh h
  exact I.tuple h'
theorem deq_items {n : Nat} (ih : Deq n X x G io s) {A : Around} {ds es : List D} {vs ws : List V} {us ts : List Value} (o1 : ds.all (okD n) = true) (o2 : es.all (okD n) = true)
    (r1 : RpL x G io ds vs) (r2 : RpL x G io es ws) (q1 : Vals vs us) (q2 : Vals ws ts) (hu : A.units + (n + 1) < cLine) :
    ∀ j (h1 : j < us.toArray.size) (h2 : j < ts.toArray.size), SeqAt.EqAt A.in1 s us.toArray[j] ts.toArray[j] (pairE ds es j) := fun j h1 h2 => by
  have l1 : us.toArray.size = ds.length := by rw [List.size_toArray, ← q1.length, r1.length]
  have l2 : ts.toArray.size = es.length := by rw [List.size_toArray, ← q2.length, r2.length]
  have e1 : ds[j]? = some ds[j] := List.getElem?_eq_getElem (by omega)
  have e2 : es[j]? = some es[j] := List.getElem?_eq_getElem (by omega)
  obtain ⟨v, v1, v2⟩ := r1.get e1
  obtain ⟨w, w1, w2⟩ := r2.get e2
  obtain ⟨u, u1, u2⟩ := q1.get v1
  obtain ⟨t, t1, t2⟩ := q2.get w1
  have z1 : us.toArray[j] = u := by
    have : us[j]? = some us.toArray[j] := by simp
    rw [u1] at this; exact (Option.some.inj this).symm
  have z2 : ts.toArray[j] = t := by
    have : ts[j]? = some ts.toArray[j] := by simp
    rw [t1] at this; exact (Option.some.inj this).symm
  rw [z1, z2]
  have ep : pairE ds es j = eqD ds[j] es[j] := by simp [pairE, e1, e2]
  rw [ep]
  refine (ih _ _ v w u t A.in1 ?_ ?_ v2 w2 u2 t2 (by show A.units + 1 + n < cLine; omega)).1
  · exact List.all_eq_true.mp o1 _ (List.getElem_mem _)
  · exact List.all_eq_true.mp o2 _ (List.getElem_mem _)
theorem deq_flat (n : Nat) {d e : D} {v w : V} {u t : Value} {A : Around} (f1 : flat d = true) (f2 : flat e = true) (r1 : Rp x G io d v) (r2 : Rp x G io e w) (q1 : RelV v u) (q2 : RelV w t) :
    SeqAt.EqAt A s u t (eqD d e) ∧ SeqAt.RcAt A s u t (eqD d e) ∧ SeqAt.RcNeAt A s u t (!eqD d e) := by
  cases d with
  | non =>
    cases (show v = .non from r1)
    cases (show u = Value.none from q1)
    cases e with
    | non => cases (show w = .non from r2); cases (show t = Value.none from q2); exact ⟨SeqAt.EqAt.same _, SeqAt.RcAt.none_none, SeqAt.RcNeAt.none_none⟩
    | bl b => cases (show w = .bl b from r2); cases (show t = Value.bool b from q2); exact ⟨SeqAt.EqAt.none_bool b, SeqAt.RcAt.none_bool b, SeqAt.RcNeAt.none_bool b⟩
    | int i => cases (show w = .int i from r2); obtain ⟨k, rfl⟩ := (show ∃ k, t = Value.int i k from q2); exact ⟨SeqAt.EqAt.none_int i k, SeqAt.RcAt.none_int i k, SeqAt.RcNeAt.none_int i k⟩
    | str i => cases (show w = .str i from r2); obtain ⟨k, rfl⟩ := (show ∃ k, t = Value.str i k from q2); exact ⟨SeqAt.EqAt.none_str i k, SeqAt.RcAt.none_str i k, SeqAt.RcNeAt.none_str i k⟩
    | _ => cases f2
  | bl a =>
    cases (show v = .bl a from r1)
    cases (show u = Value.bool a from q1)
    cases e with
    | non => cases (show w = .non from r2); cases (show t = Value.none from q2); exact ⟨SeqAt.EqAt.bool_none a, SeqAt.RcAt.bool_none a, SeqAt.RcNeAt.bool_none a⟩
    | bl b => cases (show w = .bl b from r2); cases (show t = Value.bool b from q2); exact ⟨SeqAt.EqAt.bool_bool a b, SeqAt.RcAt.bool_bool a b, SeqAt.RcNeAt.bool_bool a b⟩
    | int i => cases (show w = .int i from r2); obtain ⟨k, rfl⟩ := (show ∃ k, t = Value.int i k from q2); exact ⟨SeqAt.EqAt.bool_int a i k, SeqAt.RcAt.bool_int a i k, SeqAt.RcNeAt.bool_int a i k⟩
    | str i => cases (show w = .str i from r2); obtain ⟨k, rfl⟩ := (show ∃ k, t = Value.str i k from q2); exact ⟨SeqAt.EqAt.bool_str a i k, SeqAt.RcAt.bool_str a i k, SeqAt.RcNeAt.bool_str a i k⟩
    | _ => cases f2
  | int a =>
    cases (show v = .int a from r1)
    obtain ⟨m, rfl⟩ := (show ∃ k, u = Value.int a k from q1)
    cases e with
    | non => cases (show w = .non from r2); cases (show t = Value.none from q2); exact ⟨SeqAt.EqAt.int_none a m, SeqAt.RcAt.int_none a m, SeqAt.RcNeAt.int_none a m⟩
    | bl b => cases (show w = .bl b from r2); cases (show t = Value.bool b from q2); exact ⟨SeqAt.EqAt.int_bool a m b, SeqAt.RcAt.int_bool a m b, SeqAt.RcNeAt.int_bool a m b⟩
    | int i => cases (show w = .int i from r2); obtain ⟨k, rfl⟩ := (show ∃ k, t = Value.int i k from q2); exact ⟨SeqAt.EqAt.int_int a m i k, SeqAt.RcAt.int_int a m i k, SeqAt.RcNeAt.int_int a m i k⟩
    | str i => cases (show w = .str i from r2); obtain ⟨k, rfl⟩ := (show ∃ k, t = Value.str i k from q2); exact ⟨SeqAt.EqAt.int_str a m i k, SeqAt.RcAt.int_str a m i k, SeqAt.RcNeAt.int_str a m i k⟩
    | _ => cases f2
  | str a =>
    cases (show v = .str a from r1)
    obtain ⟨m, rfl⟩ := (show ∃ k, u = Value.str a k from q1)
    cases e with
    | non => cases (show w = .non from r2); cases (show t = Value.none from q2); exact ⟨SeqAt.EqAt.str_none a m, SeqAt.RcAt.str_none a m, SeqAt.RcNeAt.str_none a m⟩
    | bl b => cases (show w = .bl b from r2); cases (show t = Value.bool b from q2); exact ⟨SeqAt.EqAt.str_bool a m b, SeqAt.RcAt.str_bool a m b, SeqAt.RcNeAt.str_bool a m b⟩
    | int i => cases (show w = .int i from r2); obtain ⟨k, rfl⟩ := (show ∃ k, t = Value.int i k from q2); exact ⟨SeqAt.EqAt.str_int a m i k, SeqAt.RcAt.str_int a m i k, SeqAt.RcNeAt.str_int a m i k⟩
    | str i => cases (show w = .str i from r2); obtain ⟨k, rfl⟩ := (show ∃ k, t = Value.str i k from q2); exact ⟨SeqAt.EqAt.str_str a m i k, SeqAt.RcAt.str_str a m i k, SeqAt.RcNeAt.str_str a m i k⟩
    | _ => cases f2
  | _ => cases f1
theorem eqD_self (K : PySem.W.Frag) (I : Inv X pins σ H s) (ek : X.K = x.K) (gh : Same G H) : ∀ (n : Nat) (d e : D) (v : V), okD n d = true → okD n e = true → Rp x G io d v → Rp x G io e v → eqD d e = true
  | n, d, e, v, o1, o2, r1, r2 => by
    have all : ∀ (n : Nat), (∀ d e v, okD n d = true → okD n e = true → Rp x G io d v → Rp x G io e v → eqD d e = true) → ∀ (ds es : List D) (vs : List V), ds.all (okD n) = true → es.all (okD n) = true → RpL x G io ds vs → RpL x G io es vs → eqDs ds es = true := by
      intro n ih ds
      induction ds with
      | nil =>
        intro es vs _ _ r1 r2
        have e1 : vs = [] := r1
        subst e1
        cases es with
        | nil => rfl
        | cons e es => obtain ⟨_, _, z, _⟩ := r2; cases z
      | cons d ds ihl =>
        intro es vs o1 o2 r1 r2
        obtain ⟨v, r, rfl, q, t⟩ := r1
        cases es with
        | nil => have z : v :: r = [] := r2; cases z
        | cons e es =>
          obtain ⟨v', r', z, q', t'⟩ := r2
          cases z
          rw [List.all_cons, Bool.and_eq_true] at o1 o2
          rw [eqDs, ih d e v o1.1 o2.1 q q', ihl es r o1.2 o2.2 t t']
          rfl
    cases n with
    | zero =>
      cases d <;> cases e <;> simp_all [okD, Rp, eqD] <;> (try (have z := r1.symm.trans r2; first | (injection z with z; simp [z]) | cases z))
    | succ n =>
      have ih := fun d e v => eqD_self K I ek gh n d e v
      cases d with
      | lst ds =>
        obtain ⟨a, vs, rfl, h, r⟩ := r1
        cases e with
        | lst es =>
          obtain ⟨b, ws, z, h', r'⟩ := r2
          cases z
          rw [h] at h'
          cases h'
          exact all n ih ds es vs o1 o2 r r'
        | tup es =>
          obtain ⟨b, ws, z, h', r'⟩ := r2
          cases z
          obtain ⟨its, _, p1, _⟩ := lstAt I gh h
          obtain ⟨its2, _, p2, _⟩ := tupAt I ek gh h'
          obtain ⟨o, e1, e2, _⟩ := p1
          obtain ⟨o', e3, e4, _⟩ := p2
          rw [e1] at e3; cases e3
          rw [e2] at e4; exact absurd e4 (by decide)
        | non => cases r2
        | bl b => cases r2
        | int b => cases r2
        | str b => cases r2
        | _ => cases o2
      | tup ds =>
        obtain ⟨a, vs, rfl, h, r⟩ := r1
        cases e with
        | tup es =>
          obtain ⟨b, ws, z, h', r'⟩ := r2
          cases z
          have h1 : SqT X.K H a vs := by rw [ek]; exact Same.tup gh h
          have h2 : SqT X.K H a ws := by rw [ek]; exact Same.tup gh h'
          have z := I.tuple_inj h1 h2
          subst z
          exact all n ih ds es vs o1 o2 r r'
        | lst es =>
          obtain ⟨b, ws, z, h', r'⟩ := r2
          cases z
          obtain ⟨its, _, p1, _⟩ := lstAt I gh h'
          obtain ⟨its2, _, p2, _⟩ := tupAt I ek gh h
          obtain ⟨o, e1, e2, _⟩ := p1
          obtain ⟨o', e3, e4, _⟩ := p2
          rw [e1] at e3; cases e3
          rw [e2] at e4; exact absurd e4 (by decide)
        | non => cases r2
        | bl b => cases r2
        | int b => cases r2
        | str b => cases r2
        | _ => cases o2
      | non => cases e <;> simp_all [okD, Rp, eqD] <;> (try (have z := r1.symm.trans r2; cases z))
      | bl b => cases e <;> simp_all [okD, Rp, eqD] <;> (try (have z := r1.symm.trans r2; first | (injection z with z; simp [z]) | cases z))
      | int b => cases e <;> simp_all [okD, Rp, eqD] <;> (try (have z := r1.symm.trans r2; first | (injection z with z; simp [z]) | cases z))
      | str b => cases e <;> simp_all [okD, Rp, eqD] <;> (try (have z := r1.symm.trans r2; first | (injection z with z; simp [z]) | cases z))
      | _ => cases o1
end
end En

namespace En
open PySem PySem.Spec L2
section
variable {X : Cx} {pins : List (Addr × Obj)} {σ : L2.St} {H G : Hp} {s : Shared} {x : SX} {io : List Addr}
theorem deq (I : Inv X pins σ H s) (ek : X.K = x.K) (gh : Same G H) : ∀ n, Deq n X x G io s
  | n, d, e, v, w, u, t, A, o1, o2, r1, r2, q1, q2, hu => by
    by_cases f1 : flat d = true
    · by_cases f2 : flat e = true
      · exact deq_flat n f1 f2 r1 r2 q1 q2
      · have hu' : A.units < cLine := by omega
        cases e with
        | lst es =>
          obtain ⟨b, ws, rfl, h', r'⟩ := r2
          cases (show t = Value.ref b from q2)
          obtain ⟨its, _, p, _⟩ := lstAt I gh h'
          cases d with
          | non => cases (show v = .non from r1); cases (show u = Value.none from q1); exact ⟨.none_list p hu', .none_list p hu', .none_list p hu'⟩
          | bl a => cases (show v = .bl a from r1); cases (show u = Value.bool a from q1); exact ⟨.bool_list a p hu', .bool_list a p hu', .bool_list a p hu'⟩
          | int a => cases (show v = .int a from r1); obtain ⟨k, rfl⟩ := (show ∃ k, u = Value.int a k from q1); exact ⟨.int_list a k p hu', .int_list a k p hu', .int_list a k p hu'⟩
          | str a => cases (show v = .str a from r1); obtain ⟨k, rfl⟩ := (show ∃ k, u = Value.str a k from q1); exact ⟨.str_list a k p hu', .str_list a k p hu', .str_list a k p hu'⟩
          | _ => cases f1
        | tup es =>
          obtain ⟨b, ws, rfl, h', r'⟩ := r2
          cases (show t = Value.ref b from q2)
          obtain ⟨its, _, p, _⟩ := tupAt I ek gh h'
          cases d with
          | non => cases (show v = .non from r1); cases (show u = Value.none from q1); exact ⟨.none_tuple p hu', .none_tuple p hu', .none_tuple p hu'⟩
          | bl a => cases (show v = .bl a from r1); cases (show u = Value.bool a from q1); exact ⟨.bool_tuple a p hu', .bool_tuple a p hu', .bool_tuple a p hu'⟩
          | int a => cases (show v = .int a from r1); obtain ⟨k, rfl⟩ := (show ∃ k, u = Value.int a k from q1); exact ⟨.int_tuple a k p hu', .int_tuple a k p hu', .int_tuple a k p hu'⟩
          | str a => cases (show v = .str a from r1); obtain ⟨k, rfl⟩ := (show ∃ k, u = Value.str a k from q1); exact ⟨.str_tuple a k p hu', .str_tuple a k p hu', .str_tuple a k p hu'⟩
          | _ => cases f1
        | non => exact absurd rfl f2
        | bl _ => exact absurd rfl f2
        | int _ => exact absurd rfl f2
        | str _ => exact absurd rfl f2
        | _ => cases n <;> cases o2
    · have hu' : A.units < cLine := by omega
      cases d with
      | lst ds =>
        cases n with
        | zero => cases o1
        | succ n =>
          obtain ⟨a, vs, rfl, h, r⟩ := id r1
          cases (show u = Value.ref a from q1)
          obtain ⟨its, rv, p, _⟩ := lstAt I gh h
          cases e with
          | non => cases (show w = .non from r2); cases (show t = Value.none from q2); exact ⟨.list_none p hu', .list_none p hu', .list_none p hu'⟩
          | bl b => cases (show w = .bl b from r2); cases (show t = Value.bool b from q2); exact ⟨.list_bool b p hu', .list_bool b p hu', .list_bool b p hu'⟩
          | int b => cases (show w = .int b from r2); obtain ⟨k, rfl⟩ := (show ∃ k, t = Value.int b k from q2); exact ⟨.list_int b k p hu', .list_int b k p hu', .list_int b k p hu'⟩
          | str b => cases (show w = .str b from r2); obtain ⟨k, rfl⟩ := (show ∃ k, t = Value.str b k from q2); exact ⟨.list_str b k p hu', .list_str b k p hu', .list_str b k p hu'⟩
          | tup es =>
            obtain ⟨b, ws, rfl, h', r'⟩ := r2
            cases (show t = Value.ref b from q2)
            obtain ⟨its2, _, p2, _⟩ := tupAt I ek gh h'
            exact ⟨.list_tuple p p2 hu', .list_tuple p p2 hu', .list_tuple p p2 hu'⟩
          | lst es =>
            obtain ⟨b, ws, rfl, h', r'⟩ := id r2
            cases (show t = Value.ref b from q2)
            obtain ⟨its2, rv2, p2, _⟩ := lstAt I gh h'
            have l1 : its.toArray.size = ds.length := by rw [List.size_toArray, ← rv.length, r.length]
            have l2 : its2.toArray.size = es.length := by rw [List.size_toArray, ← rv2.length, r'.length]
            have both : SeqAt.RcAt A s (.ref a) (.ref b) (eqD (.lst ds) (.lst es)) ∧ SeqAt.RcNeAt A s (.ref a) (.ref b) (!eqD (.lst ds) (.lst es)) := by
              by_cases hl : ds.length = es.length
              · have he := deq_items (deq I ek gh n) (A := A) o1 o2 r r' rv rv2 hu
                have z1 := SeqAt.RcAt.lists p p2 (by omega) hu' he
                have z2 := SeqAt.RcNeAt.lists p p2 (by omega) hu' he
                rw [l1, pairE_all ds es hl] at z1 z2
                exact ⟨z1, z2⟩
              · have hb : (its.toArray.size != its2.toArray.size) = true := by rw [l1, l2]; simpa using hl
                have z1 := SeqAt.RcAt.lists_lengths p p2 hb hu'
                have z2 := SeqAt.RcNeAt.lists_lengths p p2 hb hu'
                rw [show eqD (.lst ds) (.lst es) = false from eqDs_len ds es hl]
                exact ⟨z1, z2⟩
            refine ⟨?_, both⟩
            by_cases hab : a = b
            · subst hab
              rw [eqD_self X.K I ek gh (n + 1) (.lst ds) (.lst es) (.ref a) o1 o2 r1 r2]
              exact .same _
            · exact .of_refs hab both.1
          | _ => cases o2
      | tup ds =>
        cases n with
        | zero => cases o1
        | succ n =>
          obtain ⟨a, vs, rfl, h, r⟩ := id r1
          cases (show u = Value.ref a from q1)
          obtain ⟨its, rv, p, _⟩ := tupAt I ek gh h
          cases e with
          | non => cases (show w = .non from r2); cases (show t = Value.none from q2); exact ⟨.tuple_none p hu', .tuple_none p hu', .tuple_none p hu'⟩
          | bl b => cases (show w = .bl b from r2); cases (show t = Value.bool b from q2); exact ⟨.tuple_bool b p hu', .tuple_bool b p hu', .tuple_bool b p hu'⟩
          | int b => cases (show w = .int b from r2); obtain ⟨k, rfl⟩ := (show ∃ k, t = Value.int b k from q2); exact ⟨.tuple_int b k p hu', .tuple_int b k p hu', .tuple_int b k p hu'⟩
          | str b => cases (show w = .str b from r2); obtain ⟨k, rfl⟩ := (show ∃ k, t = Value.str b k from q2); exact ⟨.tuple_str b k p hu', .tuple_str b k p hu', .tuple_str b k p hu'⟩
          | lst es =>
            obtain ⟨b, ws, rfl, h', r'⟩ := r2
            cases (show t = Value.ref b from q2)
            obtain ⟨its2, _, p2, _⟩ := lstAt I gh h'
            exact ⟨.tuple_list p p2 hu', .tuple_list p p2 hu', .tuple_list p p2 hu'⟩
          | tup es =>
            obtain ⟨b, ws, rfl, h', r'⟩ := id r2
            cases (show t = Value.ref b from q2)
            obtain ⟨its2, rv2, p2, _⟩ := tupAt I ek gh h'
            have l1 : its.toArray.size = ds.length := by rw [List.size_toArray, ← rv.length, r.length]
            have l2 : its2.toArray.size = es.length := by rw [List.size_toArray, ← rv2.length, r'.length]
            have he := deq_items (deq I ek gh n) (A := A) o1 o2 r r' rv rv2 hu
            have z1 := SeqAt.RcAt.tuples p p2 hu' he
            have z2 := SeqAt.RcNeAt.tuples p p2 hu' he
            rw [l1, l2, pairE_tup ds es] at z1 z2
            refine ⟨?_, z1, z2⟩
            by_cases hab : a = b
            · subst hab
              rw [eqD_self X.K I ek gh (n + 1) (.tup ds) (.tup es) (.ref a) o1 o2 r1 r2]
              exact .same _
            · exact .of_refs hab z1
          | _ => cases o2
      | non => exact absurd rfl f1
      | bl _ => exact absurd rfl f1
      | int _ => exact absurd rfl f1
      | str _ => exact absurd rfl f1
      | _ => cases n <;> cases o1
end
end En

namespace En
open PySem PySem.Spec L2
theorem big_line {n : Nat} (h : n ≤ big) : n ≤ sizeLine := by rw [sizeLine_eq]; exact h
theorem big_lt {n : Nat} (h : n < big) : n < sizeLine := by rw [sizeLine_eq]; exact h
section
variable {x : SX} {F : Fr} {W : WX} {G H : Hp} {io : List Addr} {σ : L2.St} {s : S}
theorem Post.v {d : D} {v : V} {Q : VK} (h : Post x F W G io (some (.val d, s)) σ Q) (t : StR x F s G io σ H) (r : Rp x G io d v) : Q v H := h v H G io (Same.refl _) (Pre.refl _) t r
theorem Post.f {ds : List D} {vs : List V} {Q : VK} (h : Post x F W G io (some (.fr (.bx ds), s)) σ Q) (t : StR x F s G io σ H) (r : RpL x G io ds vs) : ∀ p, H p = none → Q (.ref p) (upd H p (.lst vs)) := fun p hp => by
  obtain ⟨t', hg, hf, hi, ho⟩ := t.new (o := .lst vs) hp
  exact h p _ G io (Same.refl _) (Pre.refl _) t' hi ⟨vs, _, upd_same, hg, hf, r, rfl, trivial⟩ ho
theorem Post.fD {ks : List Key} {ds : List D} {vs : List V} {Q : VK} (h : Post x F W G io (some (.fr (.dx ks ds), s)) σ Q) (t : StR x F s G io σ H) (hl : ds.length = ks.length) (r : RpL x G io ds vs) : ∀ p, H p = none → Q (.ref p) (upd H p (.dK (ks.zip vs))) := fun p hp => by
  obtain ⟨t', hg, hf, hi, ho⟩ := t.new (o := .dK (ks.zip vs)) hp
  exact h p _ G io (Same.refl _) (Pre.refl _) t' hi ⟨vs, _, upd_same, hg, hf, r, rfl, hl⟩ ho
theorem Post.tn {ds : List D} {vs : List V} {Q : VK} (h : Post x F W G io (some (.val (.tup ds), s)) σ Q) (t : StR x F s G io σ H) (r : RpL x G io ds vs) : ∀ p, H p = none → Q (.ref p) (upd H p (.tup vs)) := fun p hp => by
  obtain ⟨t', sg⟩ := t.newfast (o := .tup vs) hp
  exact h _ _ _ io sg (Pre.refl _) t' ⟨p, vs, rfl, .of upd_same, r.mono sg (Pre.refl _)⟩
theorem view_lst {d : D} {ds : List D} {v : V} (t : StR x F s G io σ H) (h : viewL s d = some ds) (r : Rp x G io d v) : ∃ a vs, v = .ref a ∧ Rd H a (.lst vs) ∧ RpL x G io ds vs := by
  cases d with
  | lst es =>
    cases h
    obtain ⟨a, vs, e, q, r⟩ := r
    exact ⟨a, vs, e, .inl (t.gh _ _ q), r⟩
  | adr n =>
    obtain ⟨a, e, q⟩ := r
    simp only [viewL] at h
    cases hm : s.m[n]? with
    | none => rw [hm] at h; cases h
    | some mo =>
      rw [hm] at h
      cases mo with
      | bx es =>
        cases h
        obtain ⟨vs, h, q1, _, q3, rfl, _⟩ := t.mem.2.2 n _ a hm q
        exact ⟨a, vs, e, .inl q1, q3⟩
      | ll es =>
        cases h
        obtain ⟨vs, h, q1, _, q3, ⟨o, rfl⟩, _⟩ := t.mem.2.2 n _ a hm q
        exact ⟨a, vs, e, .inr ⟨o, q1⟩, q3⟩
      | _ => cases h
  | _ => cases h
theorem bx_lst {d : D} {ds : List D} {v : V} (t : StR x F s G io σ H) (h : bxL s d = some ds) (r : Rp x G io d v) : ∃ a vs, v = .ref a ∧ H a = some (.lst vs) ∧ RpL x G io ds vs := by
  cases d with
  | lst es =>
    cases h
    obtain ⟨a, vs, e, q, r⟩ := r
    exact ⟨a, vs, e, t.gh _ _ q, r⟩
  | adr n =>
    obtain ⟨a, e, q⟩ := r
    simp only [bxL] at h
    cases hm : s.m[n]? with
    | none => rw [hm] at h; cases h
    | some mo =>
      rw [hm] at h
      cases mo with
      | bx es =>
        cases h
        obtain ⟨vs, h, q1, _, q3, rfl, _⟩ := t.mem.2.2 n _ a hm q
        exact ⟨a, vs, e, q1, q3⟩
      | _ => cases h
  | _ => cases h
theorem view_seq {d : D} {ds : List D} {v : V} (t : StR x F s G io σ H) (h : viewQ s d = some ds) (r : Rp x G io d v) : ∃ a vs, v = .ref a ∧ (Rd H a (.lst vs) ∨ SqT x.K H a vs) ∧ RpL x G io ds vs := by
  cases d with
  | tup es =>
    cases h
    obtain ⟨a, vs, e, q, r⟩ := r
    exact ⟨a, vs, e, .inr (Same.tup t.gh q), r⟩
  | lst es =>
    obtain ⟨a, vs, e, q, r⟩ := view_lst t (d := .lst es) h r
    exact ⟨a, vs, e, .inl q, r⟩
  | adr n =>
    obtain ⟨a, vs, e, q, r⟩ := view_lst t (d := .adr n) h r
    exact ⟨a, vs, e, .inl q, r⟩
  | _ => cases h
def rB (x : SX) (F : Fr) (W : WX) (f : D → D → S → Res) : R2 := fun v w H Q => ∃ σ s G io d e, StR x F s G io σ H ∧ Rp x G io d v ∧ Rp x G io e w ∧ Post x F W G io (f d e s) σ Q
def opOf : Bop → Operator
  | .add => .Add
  | .sub => .Sub
  | .mul => .Mult
  | .div => .FloorDiv
  | .mod => .Mod
  | .pow => .Pow
theorem RpL.nil_iff : ∀ {ds : List D} {vs : List V}, RpL x G io ds vs → (vs = [] ↔ ds = [])
  | [], _, h => by
    have e : _ = [] := h
    simp [e]
  | d :: ds, _, h => by
    obtain ⟨v, r, rfl, _⟩ := h
    simp
theorem RpL.reps {ds : List D} {vs : List V} (r : RpL x G io ds vs) : ∀ n, RpL x G io (List.replicate n ds).flatten (List.replicate n vs).flatten
  | 0 => by simp; exact .nil
  | n + 1 => by
    rw [List.replicate_succ, List.replicate_succ, List.flatten_cons, List.flatten_cons]
    exact r.append (r.reps n)
end
theorem keyD_rp {x : SX} {G : Hp} {io : List Addr} {d : D} {v : V} {k : Key} (r : Rp x G io d v) (h : keyD d = some k) : v = kV k := by
  cases d with
  | int i => cases h; exact r
  | str s => cases h; exact r
  | _ => cases h
theorem look_rp {x : SX} {G : Hp} {io : List Addr} {k : Key} : ∀ {ks : List Key} {ds : List D} {vs : List V} {d : D}, RpL x G io ds vs → lookK k ks ds = some d → ∃ v, valV (ks.zip vs) k = some v ∧ Rp x G io d v
  | [], _, _, _, _, h => by simp [lookK] at h
  | _ :: _, [], _, _, _, h => by simp [lookK] at h
  | a :: ks, e :: ds, _, d, r, h => by
    obtain ⟨v, vs, rfl, q, t⟩ := r
    rw [lookK] at h
    by_cases z : a = k
    · rw [if_pos z] at h
      cases h
      exact ⟨v, by simp [valV, z], q⟩
    · rw [if_neg z] at h
      obtain ⟨w, e1, e2⟩ := look_rp t h
      exact ⟨w, by simpa [valV, z] using e1, e2⟩
theorem has_rp {k : Key} : ∀ {ks : List Key} {vs : List V}, vs.length = ks.length → (valV (ks.zip vs) k).isSome = ks.any fun a => decide (a = k)
  | [], _, _ => by simp [valV]
  | a :: ks, [], h => by simp at h
  | a :: ks, v :: vs, h => by
    have ih := has_rp (k := k) (ks := ks) (vs := vs) (by simpa using h)
    by_cases z : a = k
    · simp [valV, z]
    · simp [valV, z] at ih ⊢
      exact ih
theorem view_map {x : SX} {F : Fr} {s : S} {G H : Hp} {io : List Addr} {σ : L2.St} {d : D} {ks : List Key} {ds : List D} {v : V} (t : StR x F s G io σ H) (h : viewM s d = some (ks, ds)) (r : Rp x G io d v) :
    ∃ a vs, v = .ref a ∧ Rd H a (.dK (ks.zip vs)) ∧ vs.length = ks.length ∧ RpL x G io ds vs := by
  cases d with
  | dct ks' ds' =>
    cases h
    obtain ⟨a, vs, ob, rfl, e1, hl, rr⟩ := r
    exact ⟨a, vs, rfl, .inr ⟨ob, t.gh _ _ e1⟩, hl, rr⟩
  | adr n =>
    obtain ⟨a, rfl, q⟩ := r
    unfold viewM at h
    dsimp only at h
    split at h
    · rename_i ks' ds' hm
      cases h
      obtain ⟨vs, ho, q1, _, q3, rfl, q5⟩ := t.mem.2.2 n _ a hm q
      exact ⟨a, vs, rfl, .inl q1, by rw [q3.length]; exact q5, q3⟩
    · rename_i ks' ds' hm
      cases h
      obtain ⟨vs, ho, q1, _, q3, ⟨o, rfl⟩, q5⟩ := t.mem.2.2 n _ a hm q
      exact ⟨a, vs, rfl, .inr ⟨o, q1⟩, by rw [q3.length]; exact q5, q3⟩
    · cases h
  | _ => cases h
section
variable {X : Cx} {x : SX} {F : Fr} {W : WX}
theorem bop_ok (ek : X.K = x.K) (o : Bop) : OpR X (binaryOp (opOf o)) (rB x F W (bopF o)) := by
  intro pins s' σ' H v w u t Q I r1 r2 h
  obtain ⟨σ, s, G, io, d, e, st, q1, q2, hp⟩ := h
  unfold bopF at hp
  split at hp
  · rename_i i j; cases (show v = .int i from q1); cases (show w = .int j from q2)
    exact op_add pins s' σ' H _ _ u t Q I r1 r2 ⟨i, j, rfl, rfl, hp.v st rfl⟩
  · rename_i a b; cases (show v = .str a from q1); cases (show w = .str b from q2)
    split at hp
    · rename_i hl
      exact op_add_str pins s' σ' H _ _ u t Q I r1 r2 ⟨a, b, rfl, rfl, big_line hl, hp.v st rfl⟩
    · exact hp.elim
  · rename_i a b
    obtain ⟨p, vs, rfl, e1, k1⟩ := q1
    obtain ⟨p', ws, rfl, e2, k2⟩ := q2
    split at hp
    · rename_i hl
      exact op_cat pins s' σ' H _ _ u t Q I r1 r2 ⟨p, p', vs, ws, rfl, rfl, st.gh _ _ e1, st.gh _ _ e2, by rw [k1.length, k2.length]; exact big_line hl, hp.f st (k1.append k2)⟩
    · exact hp.elim
  · rename_i a b
    obtain ⟨p, vs, rfl, e1, k1⟩ := id q1
    obtain ⟨p', ws, rfl, e2, k2⟩ := id q2
    split at hp
    · rename_i hl
      refine op_catT pins s' σ' H _ _ u t Q I r1 r2 ⟨p, p', vs, ws, rfl, rfl, by rw [ek]; exact Same.tup st.gh e1, by rw [ek]; exact Same.tup st.gh e2, fun z => hl.2 (k1.nil_iff.mp z), by rw [k1.length, k2.length]; exact big_line hl.1, fun z => ?_, fun _ => hp.tn st (k1.append k2)⟩
      have z' := k2.nil_iff.mp z
      subst z'
      rw [List.append_nil] at hp
      exact hp.v st q1
    · exact hp.elim
  · unfold addL at hp
    split at hp
    · rename_i ha hb
      obtain ⟨p, vs, rfl, e1, k1⟩ := bx_lst st ha q1
      obtain ⟨p', ws, rfl, e2, k2⟩ := bx_lst st hb q2
      split at hp
      · rename_i hl
        exact op_cat pins s' σ' H _ _ u t Q I r1 r2 ⟨p, p', vs, ws, rfl, rfl, e1, e2, by rw [k1.length, k2.length]; exact big_line hl, hp.f st (k1.append k2)⟩
      · exact hp.elim
    · exact hp.elim
  · rename_i i j; cases (show v = .int i from q1); cases (show w = .int j from q2)
    exact op_sub pins s' σ' H _ _ u t Q I r1 r2 ⟨i, j, rfl, rfl, hp.v st rfl⟩
  · rename_i i j; cases (show v = .int i from q1); cases (show w = .int j from q2)
    split at hp
    · rename_i hc
      exact op_mul pins s' σ' H _ _ u t Q I r1 r2 ⟨i, j, rfl, rfl, hc, hp.v st rfl⟩
    · exact hp.elim
  · rename_i a k
    obtain ⟨p, vs, rfl, e1, k1⟩ := q1
    cases (show w = .int k from q2)
    split at hp
    · rename_i hl
      exact op_rep pins s' σ' H _ _ u t Q I r1 r2 ⟨p, k, vs, rfl, rfl, st.gh _ _ e1, hl.1, hl.2.1, by rw [k1.length]; exact big_line hl.2.2, hp.f st (k1.reps _)⟩
    · exact hp.elim
  · rename_i i j; cases (show v = .int i from q1); cases (show w = .int j from q2)
    split at hp
    · rename_i hc
      exact op_fdiv pins s' σ' H _ _ u t Q I r1 r2 ⟨i, j, rfl, rfl, hc, hp.v st rfl⟩
    · exact hp.elim
  · rename_i i j; cases (show v = .int i from q1); cases (show w = .int j from q2)
    split at hp
    · rename_i hc
      exact op_mod pins s' σ' H _ _ u t Q I r1 r2 ⟨i, j, rfl, rfl, hc, hp.v st rfl⟩
    · exact hp.elim
  · rename_i i j; cases (show v = .int i from q1); cases (show w = .int j from q2)
    split at hp
    · rename_i hc
      exact op_pow pins s' σ' H _ _ u t Q I r1 r2 ⟨i, j, rfl, rfl, hc, hp.v st rfl⟩
    · exact hp.elim
  · exact hp.elim

def copOf : Cop → CmpOp
  | .eq => .Eq
  | .ne => .NotEq
  | .lt => .Lt
  | .le => .LtE
  | .gt => .Gt
  | .ge => .GtE
  | .isin => .In
  | .notin => .NotIn
def rC (x : SX) (F : Fr) (o : Cop) : R2 := fun v w H Q => ∃ σ s G io d e b, StR x F s G io σ H ∧ Rp x G io d v ∧ Rp x G io e w ∧ cmpF o d e s = some b ∧ Q (.bl b) H
theorem op_inK (hu : X.A.units + 1 < cLine) : OpR X (compareOp .In) (fun y x H Q => ∃ a o, x = .ref a ∧ DGet H a y o ∧ Q (.bl o.isSome) H) := by
  intro pins s σ H y x v u Q I ry rx h
  obtain ⟨a, ov, ex, g, q⟩ := h
  subst ex
  obtain rfl : u = Value.ref a := rx
  exact d_in hu I g ry fun s3 I3 => ⟨.bl ov.isSome, H, I3, rfl, q⟩
theorem op_notInK (hu : X.A.units + 1 < cLine) : OpR X (compareOp .NotIn) (fun y x H Q => ∃ a o, x = .ref a ∧ DGet H a y o ∧ Q (.bl (!o.isSome)) H) := by
  intro pins s σ H y x v u Q I ry rx h
  obtain ⟨a, ov, ex, g, q⟩ := h
  subst ex
  obtain rfl : u = Value.ref a := rx
  exact d_notIn hu I g ry fun s3 I3 => ⟨.bl (!ov.isSome), H, I3, rfl, q⟩
theorem ix_dct (hu : X.A.units + 1 < cLine) : IxR X (fun x y H Q => ∃ a v, x = .ref a ∧ DGet H a y (some v) ∧ Q v H) := by
  intro value slice pins s σ H x y v u Q I rx ry h hs
  obtain ⟨a, w, ex, g, q⟩ := h
  subst ex
  obtain rfl : v = Value.ref a := rx
  exact PyProof.Rows.tail_any (dict_typeIs I g) PySem.F.slot_dict_getitem.lookup (d_getItem hu I g ry fun w' s3 I3 rw' => ⟨w, H, I3, rw', q⟩) hs
theorem flat_fv {G : Hp} {io : List Addr} {d : D} {v : V} (r : Rp x G io d v) (f : flat d = true) : flatV v = true := by
  cases d with
  | non => cases (show v = .non from r); rfl
  | bl b => cases (show v = .bl b from r); rfl
  | int b => cases (show v = .int b from r); rfl
  | str b => cases (show v = .str b from r); rfl
  | _ => cases f
theorem flat_eqV {G : Hp} {io : List Addr} {d e : D} {v w : V} (r : Rp x G io d v) (q : Rp x G io e w) (f : flat d = true) (g : flat e = true) : eqV w v = eqD e d := by
  cases d with
  | non => cases (show v = .non from r); cases e <;> first | (cases g; done) | (cases (show w = _ from q); rfl)
  | bl b => cases (show v = .bl b from r); cases e <;> first | (cases g; done) | (cases (show w = _ from q); rfl)
  | int b => cases (show v = .int b from r); cases e <;> first | (cases g; done) | (cases (show w = _ from q); rfl)
  | str b => cases (show v = .str b from r); cases e <;> first | (cases g; done) | (cases (show w = _ from q); rfl)
  | _ => cases f
theorem inV_eq {G : Hp} {io : List Addr} {d : D} {v : V} (r : Rp x G io d v) (f : flat d = true) : ∀ {es : List D} {ws : List V}, RpL x G io es ws → es.all flat = true → ws.all flatV = true ∧ inV v ws = es.any fun z => eqD z d
  | [], _, h, _ => by
    have e : _ = [] := h
    subst e
    exact ⟨rfl, rfl⟩
  | e :: es, _, h, g => by
    obtain ⟨w, ws, rfl, q, t⟩ := h
    rw [List.all_cons, Bool.and_eq_true] at g
    obtain ⟨a1, a2⟩ := inV_eq r f t g.2
    refine ⟨by rw [List.all_cons, flat_fv q g.1, a1]; rfl, ?_⟩
    unfold inV at a2 ⊢
    rw [List.any_cons, List.any_cons, a2, flat_eqV r q f g.1]
theorem cmp_ok (ek : X.K = x.K) (hu : X.A.units + 64 < cLine) (o : Cop) : OpR X (compareOp (copOf o)) (rC x F o) := by
  intro pins s' σ' H v w u t Q I r1 r2 h
  obtain ⟨σ, s, G, io, d, e, b, st, q1, q2, hc, q⟩ := h
  have hin : ∀ b', inF d e s = some b' → (∃ a o, w = .ref a ∧ DGet H a v o ∧ b' = o.isSome) ∨ (∃ (c : Nat) (z : Str), v = .str ⟨#[c]⟩ ∧ w = .str z ∧ b' = decide (c ∈ z.cps.toList)) ∨
      (∃ p xs, w = .ref p ∧ (SqL X.K H p xs ∨ SqT X.K H p xs) ∧ flatV v = true ∧ xs.all flatV = true ∧ b' = inV v xs) := by
    intro b' hb
    unfold inF at hb
    split at hb
    · rename_i a z
      cases (show v = .str a from q1); cases (show w = .str z from q2)
      split at hb
      · rename_i c hc
        cases hb
        refine .inr (.inl ⟨c, z, ?_, rfl, rfl⟩)
        obtain ⟨arr⟩ := a
        have : arr = #[c] := by
          apply Array.ext'
          simpa using hc
        rw [this]
      · cases hb
    · unfold inQ at hb
      split at hb
      · rename_i ks ds hv
        split at hb
        · rename_i k hk
          cases hb
          obtain ⟨a, vs, rfl, hr, hl, rr⟩ := view_map st hv q2
          exact .inl ⟨a, _, rfl, .inl ⟨_, k, hr, keyD_rp q1 hk, rfl⟩, (has_rp hl).symm⟩
        · cases hb
      · split at hb
        · rename_i ds hv
          split at hb
          · rename_i hf
            rw [Bool.and_eq_true] at hf
            cases hb
            obtain ⟨a, vs, rfl, hq, hr⟩ := view_seq st hv q2
            obtain ⟨a1, a2⟩ := inV_eq q1 hf.1 hr hf.2
            refine .inr (.inr ⟨a, vs, rfl, ?_, flat_fv q1 hf.1, a1, a2.symm⟩)
            rcases hq with hq | hq
            · exact .inl (.inl hq)
            · exact .inr (by rw [ek]; exact hq)
          · cases hb
        · cases hb
  unfold cmpF at hc
  split at hc
  · split at hc
    · rename_i _ ho
      rw [Bool.and_eq_true] at ho
      cases hc
      exact ((deq I ek st.gh 8 d e v w u t X.A ho.1 ho.2 q1 q2 r1 r2 (by omega)).2.1) _ _ _ _ ⟨.bl _, H, I, rfl, q⟩
    · cases hc
  · split at hc
    · rename_i _ ho
      rw [Bool.and_eq_true] at ho
      cases hc
      exact ((deq I ek st.gh 8 d e v w u t X.A ho.1 ho.2 q1 q2 r1 r2 (by omega)).2.2) _ _ _ _ ⟨.bl _, H, I, rfl, q⟩
    · cases hc
  · rename_i i j; cases (show v = .int i from q1); cases (show w = .int j from q2); cases hc
    exact op_lt pins s' σ' H _ _ u t Q I r1 r2 ⟨i, j, rfl, rfl, q⟩
  · rename_i i j; cases (show v = .int i from q1); cases (show w = .int j from q2); cases hc
    exact op_le pins s' σ' H _ _ u t Q I r1 r2 ⟨i, j, rfl, rfl, q⟩
  · rename_i i j; cases (show v = .int i from q1); cases (show w = .int j from q2); cases hc
    exact op_gt pins s' σ' H _ _ u t Q I r1 r2 ⟨i, j, rfl, rfl, q⟩
  · rename_i i j; cases (show v = .int i from q1); cases (show w = .int j from q2); cases hc
    exact op_ge pins s' σ' H _ _ u t Q I r1 r2 ⟨i, j, rfl, rfl, q⟩
  · rcases hin b hc with ⟨a, ov, rfl, g, rfl⟩ | ⟨c, z, rfl, rfl, rfl⟩ | ⟨p, xs, rfl, a1, a2, a3, rfl⟩
    · exact op_inK (by omega) pins s' σ' H _ _ u t Q I r1 r2 ⟨a, ov, rfl, g, q⟩
    · exact op_in_sign pins s' σ' H _ _ u t Q I r1 r2 ⟨c, z, rfl, rfl, q⟩
    · exact op_in_seq pins s' σ' H _ _ u t Q I r1 r2 ⟨p, xs, rfl, a1, a2, a3, q⟩
  · obtain ⟨b', hb, rfl⟩ := Option.map_eq_some_iff.mp hc
    rcases hin b' hb with ⟨a, ov, rfl, g, rfl⟩ | ⟨c, z, rfl, rfl, rfl⟩ | ⟨p, xs, rfl, a1, a2, a3, rfl⟩
    · exact op_notInK (by omega) pins s' σ' H _ _ u t Q I r1 r2 ⟨a, ov, rfl, g, q⟩
    · exact op_notIn_sign pins s' σ' H _ _ u t Q I r1 r2 ⟨c, z, rfl, rfl, q⟩
    · exact op_notIn_seq pins s' σ' H _ _ u t Q I r1 r2 ⟨p, xs, rfl, a1, a2, a3, q⟩
  · cases hc

def rX (x : SX) (F : Fr) : R2 := fun v w H Q => ∃ σ s G io d e y, StR x F s G io σ H ∧ Rp x G io d v ∧ Rp x G io e w ∧ ixF d e s = some y ∧ ∀ z, Rp x G io y z → Q z H
theorem atI_rp {G : Hp} {io : List Addr} {ds : List D} {vs : List V} {i : Int} {y : D} (r : RpL x G io ds vs) (h : atI ds i = some y) : ∃ z, atI vs i = some z ∧ Rp x G io y z := by
  unfold atI at h ⊢
  rw [r.length]
  cases hj : ixN ds.length i with
  | none => rw [hj] at h; cases h
  | some j =>
    rw [hj] at h
    exact r.get (by simpa using h)
theorem ix_ok (ek : X.K = x.K) (hu : X.A.units + 64 < cLine) : IxR X (rX x F) := by
  intro value slice pins s' σ' H v w u t Q I r1 r2 h hs
  obtain ⟨σ, s, G, io, d, e, y, st, q1, q2, hc, q⟩ := h
  unfold ixF at hc
  split at hc
  · rename_i z i; cases (show v = .str z from q1); cases (show w = .int i from q2)
    split at hc
    · rename_i hl
      obtain ⟨c, hc2, rfl⟩ := Option.map_eq_some_iff.mp hc
      exact ix_str value slice pins s' σ' H _ _ u t Q I r1 r2 ⟨z, i, c, rfl, rfl, big_line hl, hc2, q _ rfl⟩ hs
    · cases hc
  · split at hc
    · rename_i ks ds hv
      split at hc
      · rename_i k hk
        obtain ⟨a, vs, rfl, hr, hl, rr⟩ := view_map st hv q1
        obtain ⟨z, e2, rz⟩ := look_rp rr hc
        exact ix_dct (by omega) value slice pins s' σ' H _ _ u t Q I r1 r2 ⟨a, z, rfl, .inl ⟨_, k, hr, keyD_rp q2 hk, e2.symm⟩, q z rz⟩ hs
      · cases hc
    · split at hc
      · rename_i i _; cases (show w = .int i from q2)
        split at hc
        · rename_i ds hv
          obtain ⟨a, vs, rfl, hq, hr⟩ := view_seq st hv q1
          obtain ⟨z, hz, rz⟩ := atI_rp hr hc
          rcases hq with hq | hq
          · exact ix_list value slice pins s' σ' H _ _ u t Q I r1 r2 ⟨a, vs, i, z, rfl, rfl, .inl hq, hz, q z rz⟩ hs
          · exact ix_tup value slice pins s' σ' H _ _ u t Q I r1 r2 ⟨a, vs, i, z, rfl, rfl, by rw [ek]; exact hq, hz, q z rz⟩ hs
        · cases hc
      · cases hc
def rS (x : SX) (F : Fr) (W : WX) : V → Option Int → Option Int → Hp → VK → Prop := fun v lo hi H Q => ∃ σ s G io d, StR x F s G io σ H ∧ Rp x G io d v ∧ Post x F W G io (slF d lo hi s) σ Q
theorem cut_rp {G : Hp} {io : List Addr} {ds : List D} {vs : List V} (lo hi : Option Int) (r : RpL x G io ds vs) : RpL x G io (cutD ds lo hi) (cutV vs lo hi) := by
  unfold cutD cutV
  rw [r.length]
  exact (r.drop _).take _
theorem sl_ok (ek : X.K = x.K) : SlR X (rS x F W) := by
  intro pins s' σ' H v u vl vu lo hi sl Q I r1 hs pl pu h
  obtain ⟨σ, s, G, io, d, st, q1, hp⟩ := h
  unfold slF at hp
  split at hp
  · rename_i z; cases (show v = .str z from q1)
    split at hp
    · rename_i hl
      exact sl_str pins s' σ' H _ u vl vu lo hi sl Q I r1 hs pl pu ⟨z, rfl, big_line hl, hp.v st rfl⟩
    · exact hp.elim
  · rename_i ds
    obtain ⟨a, vs, rfl, hq, hr⟩ := id q1
    have hq' : SqT X.K H a vs := by rw [ek]; exact Same.tup st.gh hq
    refine sl_tupA pins s' σ' H _ u vl vu lo hi sl Q I r1 hs pl pu ⟨a, vs, rfl, hq', fun hw => ?_, fun _ => hp.tn st (cut_rp lo hi hr)⟩
    have e : cutD ds lo hi = ds := by
      unfold cutD
      rw [← hr.length, hw.1, hw.2, List.drop_zero, Nat.sub_zero, hr.length, List.take_length]
    rw [e] at hp
    exact hp.v st q1
  · rename_i ds
    obtain ⟨a, vs, rfl, hq, hr⟩ := id q1
    exact sl_list pins s' σ' H _ u vl vu lo hi sl Q I r1 hs pl pu ⟨a, vs, rfl, by rw [ek]; exact st.gh.seq hq, hp.f st (cut_rp lo hi hr)⟩
  · split at hp
    · rename_i ds hv
      obtain ⟨a, vs, rfl, hq, hr⟩ := view_lst st hv q1
      exact sl_list pins s' σ' H _ u vl vu lo hi sl Q I r1 hs pl pu ⟨a, vs, rfl, .inl hq, hp.f st (cut_rp lo hi hr)⟩
    · exact hp.elim
end
end En

namespace En
open PySem PySem.Spec L2
section
variable {x : SX} {G H : Hp} {io : List Addr}
theorem bls_rp : ∀ {ds : List D} {bs : List Bool} {vs : List V}, blsOf ds = some bs → RpL x G io ds vs → vs = bs.map V.bl
  | [], _, _, h, r => by
    cases h
    exact r
  | d :: ds, _, _, h, r => by
    obtain ⟨v, r, rfl, q, t⟩ := r
    cases d with
    | bl b =>
      simp only [blsOf] at h
      obtain ⟨bs, hb, rfl⟩ := Option.map_eq_some_iff.mp h
      rw [bls_rp hb t, show v = .bl b from q]
      rfl
    | _ => cases h
theorem ints_rpL : ∀ {ds : List D} {is : List Int} {vs : List V}, intsOf ds = some is → RpL x G io ds vs → vs = is.map V.int
  | [], _, _, h, r => by
    cases h
    exact r
  | d :: ds, _, _, h, r => by
    obtain ⟨v, r, rfl, q, t⟩ := r
    cases d with
    | int b =>
      simp only [intsOf] at h
      obtain ⟨bs, hb, rfl⟩ := Option.map_eq_some_iff.mp h
      rw [ints_rpL hb t, show v = .int b from q]
      rfl
    | _ => cases h
theorem keyV_rp : ∀ (l : List Key), RpL x G io (l.map keyV) (l.map kV)
  | [] => rfl
  | k :: l => ⟨kV k, _, rfl, by cases k <;> exact rfl, keyV_rp l⟩
theorem keys_zip {ks : List Key} {ws : List V} (h : ws.length = ks.length) : (ks.zip ws).map (fun kv => kV kv.1) = ks.map kV := by
  have e : (ks.zip ws).map (fun kv => kV kv.1) = ((ks.zip ws).map Prod.fst).map kV := by rw [List.map_map]; rfl
  rw [e, List.map_fst_zip (Nat.le_of_eq h.symm)]
theorem strL_rp : ∀ (l : List Str), RpL x G io (l.map D.str) (l.map V.str)
  | [] => rfl
  | z :: l => ⟨.str z, _, rfl, rfl, strL_rp l⟩
theorem intL_rp : ∀ (l : List Int), RpL x G io (l.map D.int) (l.map V.int)
  | [] => rfl
  | z :: l => ⟨.int z, _, rfl, rfl, intL_rp l⟩
theorem strs_rp : ∀ {ds : List D} {bs : List Str} {vs : List V}, strsOf ds = some bs → RpL x G io ds vs → vs = bs.map V.str
  | [], _, _, h, r => by
    cases h
    exact r
  | d :: ds, _, _, h, r => by
    obtain ⟨v, r, rfl, q, t⟩ := r
    cases d with
    | str b =>
      simp only [strsOf] at h
      obtain ⟨bs, hb, rfl⟩ := Option.map_eq_some_iff.mp h
      rw [strs_rp hb t, show v = .str b from q]
      rfl
    | _ => cases h
end
def biV : Bi → Value
  | .len => .builtin "len"
  | .int => .type "int"
  | .all => .builtin "all"
  | .any => .builtin "any"
  | .list => .type "list"
  | .tuple => .type "tuple"
  | .str => .type "str"
  | .bool => .type "bool"
  | .repr => .builtin "repr"
  | .sorted => .builtin "sorted"
  | .dict => .type "dict"
def biN : Bi → Str
  | .len => "len"
  | .int => "int"
  | .all => "all"
  | .any => "any"
  | .list => "list"
  | .tuple => "tuple"
  | .str => "str"
  | .bool => "bool"
  | .repr => "repr"
  | .sorted => "sorted"
  | .dict => "dict"
def rBi (x : SX) (F : Fr) (W : WX) (b : Bi) : List V → Hp → VK → Prop := fun vs H Q => ∃ σ s G io ds, StR x F s G io σ H ∧ RpL x G io ds vs ∧ Post x F W G io (biF b ds s) σ Q
theorem RpL.one {x : SX} {G : Hp} {io : List Addr} {d : D} {vs : List V} (h : RpL x G io [d] vs) : ∃ v, vs = [v] ∧ Rp x G io d v := by
  obtain ⟨v, r, rfl, q, t⟩ := h
  have e : r = [] := t
  subst e
  exact ⟨v, rfl, q⟩
section
variable {X : Cx} {x : SX} {F : Fr} {W : WX}
theorem bi_ok (ek : X.K = x.K) (hc : X.calm = true) (b : Bi) : CallR X (biV b) (rBi x F W b) := by
  intro pins s' σ' H vs us Q I r h
  obtain ⟨σ, s, G, io, ds, st, q1, hp⟩ := h
  unfold biF at hp
  split at hp
  · rename_i z
    obtain ⟨v, rfl, q⟩ := q1.one
    cases (show v = .str z from q)
    split at hp
    · rename_i hl
      exact call_len_str pins s' σ' H _ us Q I r ⟨z, rfl, big_line hl, hp.v st rfl⟩
    · exact hp.elim
  · rename_i d _
    obtain ⟨v, rfl, q⟩ := q1.one
    split at hp
    · rename_i ks es hv
      obtain ⟨a, ws, rfl, e, hl, rr⟩ := view_map st hv q
      obtain ⟨u, rfl, ru⟩ := vals1 r
      cases ru
      have el : (ks.zip ws).length = ks.length := by rw [List.length_zip, hl, Nat.min_self]
      refine d_len I e fun t s2 I' => ⟨.int (ks.zip ws).length, H, I', ⟨t, rfl⟩, ?_⟩
      rw [el]
      exact hp.v st rfl
    · split at hp
      · rename_i es hv
        obtain ⟨a, ws, rfl, hq, hr⟩ := view_seq st hv q
        refine call_len_seq pins s' σ' H _ us Q I r ⟨a, ws, rfl, ?_, by rw [hr.length]; exact hp.v st rfl⟩
        rcases hq with hq | hq
        · exact .inl (.inl hq)
        · exact .inr (by rw [ek]; exact hq)
      · exact hp.elim
  · rename_i i
    obtain ⟨v, rfl, q⟩ := q1.one
    cases (show v = .int i from q)
    exact call_int1 pins s' σ' H _ us Q I r (.inl ⟨i, rfl, hp.v st rfl⟩)
  · rename_i b
    obtain ⟨v, rfl, q⟩ := q1.one
    cases (show v = .bl b from q)
    exact call_int1 pins s' σ' H _ us Q I r (.inr ⟨b, rfl, hp.v st rfl⟩)
  · obtain ⟨v, rfl, q⟩ := q1.one
    split at hp
    · rename_i es hv
      split at hp
      · rename_i bs hb
        obtain ⟨a, ws, rfl, hq, hr⟩ := view_lst st hv q
        have e := bls_rp hb hr
        subst e
        exact cr_all hc pins s' σ' H _ us Q I r ⟨a, bs, rfl, .inl hq, hp.v st rfl⟩
      · exact hp.elim
    · exact hp.elim
  · obtain ⟨v, rfl, q⟩ := q1.one
    split at hp
    · rename_i es hv
      split at hp
      · rename_i bs hb
        obtain ⟨a, ws, rfl, hq, hr⟩ := view_lst st hv q
        have e := bls_rp hb hr
        subst e
        exact cr_any hc pins s' σ' H _ us Q I r ⟨a, bs, rfl, .inl hq, hp.v st rfl⟩
      · exact hp.elim
    · exact hp.elim
  · obtain ⟨v, rfl, q⟩ := q1.one
    split at hp
    · rename_i ks es hv
      obtain ⟨a, ws, rfl, e, hl, rr⟩ := view_map st hv q
      refine call_listD hc pins s' σ' H _ us Q I r ⟨a, _, rfl, e, fun p hn => ?_⟩
      rw [keys_zip hl]
      exact hp.f st (keyV_rp ks) p hn
    · split at hp
      · rename_i es hv
        obtain ⟨a, ws, rfl, hq, hr⟩ := view_seq st hv q
        refine call_list_of pins s' σ' H _ us Q I r ⟨a, ws, rfl, ?_, hp.f st hr⟩
        rcases hq with hq | hq
        · exact .inl (.inl hq)
        · exact .inr (by rw [ek]; exact hq)
      · exact hp.elim
  · obtain ⟨v, rfl, q⟩ := q1.one
    split at hp
    · rename_i ks es hv
      obtain ⟨a, ws, rfl, e, hl, rr⟩ := view_map st hv q
      split at hp
      · rename_i hle
        refine call_dictD pins s' σ' H _ us Q I r ⟨a, _, rfl, e, fun p hn => ?_⟩
        exact Post.fD hp st hle rr p hn
      · exact hp.elim
    · exact hp.elim
  · rename_i es
    obtain ⟨v, rfl, q⟩ := q1.one
    obtain ⟨a, ws, rfl, hq, hr⟩ := id q
    exact call_tuple_of pins s' σ' H _ us Q I r ⟨a, ws, rfl, .inr ⟨by rw [ek]; exact Same.tup st.gh hq, hp.v st q⟩⟩
  · obtain ⟨v, rfl, q⟩ := q1.one
    split at hp
    · rename_i es hv
      obtain ⟨a, ws, rfl, hq, hr⟩ := view_lst st hv q
      exact call_tuple_of pins s' σ' H _ us Q I r ⟨a, ws, rfl, .inl ⟨.inl hq, hp.tn st hr⟩⟩
    · exact hp.elim
  · rename_i i
    obtain ⟨v, rfl, q⟩ := q1.one
    cases (show v = .int i from q)
    split at hp
    · rename_i hl
      exact call_str_int pins s' σ' H _ us Q I r ⟨i, rfl, hl, hp.v st rfl⟩
    · exact hp.elim
  · rename_i b
    obtain ⟨v, rfl, q⟩ := q1.one
    cases (show v = .bl b from q)
    exact call_bool1 pins s' σ' H _ us Q I r (.inr ⟨b, rfl, hp.v st rfl⟩)
  · obtain ⟨v, rfl, q⟩ := q1.one
    split at hp
    · rename_i es hv
      obtain ⟨a, ws, rfl, hq, hr⟩ := view_lst st hv q
      unfold srtD at hp
      split at hp
      · rename_i zs hz
        split at hz
        · rename_i ys hy
          have e := strs_rp hy hr
          subst e
          split at hz
          · rename_i hl
            cases hz
            refine cr_sortedS pins s' σ' H _ us Q I r ⟨a, ys, rfl, .inl hq, hl, fun zs p hp1 hs hn => ?_⟩
            rw [srtS_eq hp1 hs]
            exact hp.f st (strL_rp _) p hn
          · cases hz
        · split at hz
          · rename_i is hi
            have e := ints_rpL hi hr
            subst e
            cases hz
            refine cr_sortedI pins s' σ' H _ us Q I r ⟨a, is, rfl, .inl hq, fun zs p hp1 hs hn => ?_⟩
            rw [srtI_eq hp1 hs]
            exact hp.f st (intL_rp _) p hn
          · cases hz
      · exact hp.elim
    · exact hp.elim
  · exact hp.elim

def tyN : Ty → Str
  | .int => "int"
  | .bool => "bool"
  | .str => "str"
  | .list => "list"
  | .tuple => "tuple"
  | .dict => "dict"
  | .own _ => ""
def tyB : Ty → String
  | .int => "int"
  | .bool => "bool"
  | .str => "str"
  | .list => "list"
  | .tuple => "tuple"
  | .dict => "dict"
  | .own _ => ""
def tyV (x : SX) : Ty → Value
  | .own c => .ref (x.ca c)
  | t => .type (tyB t)
structure ClF (K : PySem.W.Frag) (C : Addr) : Prop where
  cl : Cls K C
  ha : PySem.W.findIn K (.ref C) "__class__" = some (some (.builtin "object.__class__"))
  hm : PySem.W.mroIn K C (.type "object") = some true
  ne : PySem.W.findIn K (.ref C) "__ne__" = some (some (.builtin "object.__ne__"))
  kb : ∀ n ∈ tyNames, PySem.W.kitOne K (.type n) (.ref C) = some false ∧ PySem.W.kitOne K (.ref C) (.type n) = some false
structure ClO (x : SX) : Prop where
  hn : PySem.W.specialIn x.K (.builtin "object.__class__") "__get__" = some (some (.builtin "getset_descriptor.__get__"))
  ht : PySem.W.takesIn x.K (.builtin "object.__class__") = some true
  cl : ∀ c, x.live c = true → ClF x.K (x.ca c)
  cc : ∀ c k, x.live c = true → x.live k = true → PySem.W.kitOne x.K (.ref (x.ca c)) (.ref (x.ca k)) = some (subC c k)
def clD (x : SX) : D → Option Value
  | .non => some (.type "NoneType")
  | .bl _ => some (.type "bool")
  | .int _ => some (.type "int")
  | .str _ => some (.type "str")
  | .lst _ => some (.type "list")
  | .tup _ => some (.type "tuple")
  | .dct _ _ => some (.type "dict")
  | .obj c _ _ => some (.ref (x.ca c))
  | _ => none
def lvD (x : SX) : D → Bool
  | .obj c _ _ => x.live c
  | _ => true
def lvT (x : SX) : Ty → Bool
  | .own c => x.live c
  | _ => true
theorem tyx_of (k : ClO x) {s : S} {G H : Hp} {io : List Addr} {σ : L2.St} {d : D} {v : V} {c : Value} (t : StR x F s G io σ H) (r : Rp x G io d v) (h : clD x (s.v d) = some c) : TyX x.K H v c ∧ lvD x (s.v d) = true := by
  have ins : ∀ {n : Nat} {a dx : Addr} {fs : List (Str × V)}, x.live n = true → H a = some (.ins (x.ca n) dx fs) → TyX x.K H (.ref a) (.ref (x.ca n)) := fun {n a dx fs} hl e =>
    .base (.ins e (k.cl n hl).cl (k.cl n hl).ha k.hn k.ht (k.cl n hl).hm)
  cases d with
  | non => cases h; cases (show v = .non from r); exact ⟨.base .non, rfl⟩
  | bl b => cases h; cases (show v = .bl b from r); exact ⟨.base (.bl b), rfl⟩
  | int b => cases h; cases (show v = .int b from r); exact ⟨.base (.int b), rfl⟩
  | str b => cases h; cases (show v = .str b from r); exact ⟨.base (.str b), rfl⟩
  | lst ds =>
    cases h
    obtain ⟨a, vs, rfl, e, _⟩ := r
    exact ⟨.base (.lst (t.gh _ _ e)), rfl⟩
  | tup ds =>
    cases h
    obtain ⟨a, vs, rfl, e, _⟩ := r
    refine ⟨?_, rfl⟩
    rcases Same.tup t.gh e with (e | ⟨o, e⟩) | ⟨o, its, n, e1, e2, _⟩
    · exact .base (.tup e)
    · exact .fTuple e
    · exact .kTuple e1 e2
  | dct ks ds =>
    cases h
    obtain ⟨a, vs, o, rfl, e, _⟩ := r
    exact ⟨.fDict (t.gh _ _ e), rfl⟩
  | obj n ns ds =>
    cases h
    obtain ⟨hl, a, dx, vs, rfl, e, _⟩ := r
    exact ⟨ins hl (t.gh _ _ e), hl⟩
  | adr j =>
    obtain ⟨a, rfl, q⟩ := r
    unfold S.v at h ⊢
    dsimp only at h ⊢
    split at h
    · rename_i o hm
      obtain ⟨vs, ho, q1, _, _, q4, _⟩ := t.mem.2.2 j o a hm q
      cases o with
      | bx ds => cases h; cases q4; exact ⟨.base (.lst q1), rfl⟩
      | ob n ns ds => cases h; obtain ⟨hl, dx, rfl⟩ := q4; exact ⟨ins hl q1, hl⟩
      | dx ks ds => cases h; cases q4; exact ⟨.base (.dK q1), rfl⟩
      | dl ks ds => cases h; obtain ⟨o, rfl⟩ := q4; exact ⟨.fDict q1, rfl⟩
      | ll ds => cases h
    · cases h
  | _ => cases h
theorem tyIs_kit (k : ClO x) {d : D} {t : Ty} {b : Bool} (hd : lvD x d = true) (hl : lvT x t = true) (h : tyIs d t = some b) : ∃ c, clD x d = some c ∧ PySem.W.kitOne x.K c (tyV x t) = some b := by
  have bt : ∀ {n : String} {c : Nat}, n ∈ tyNames → lvT x (.own c) = true → PySem.W.kitOne x.K (.type n) (.ref (x.ca c)) = some false := fun hn hc => ((k.cl _ hc).kb _ hn).1
  cases d with
  | obj c ns ds =>
    cases t with
    | own k' => cases h; exact ⟨_, rfl, k.cc c k' hd hl⟩
    | _ => cases h; exact ⟨_, rfl, ((k.cl c hd).kb _ (by decide)).2⟩
  | _ =>
    cases t <;> simp only [tyIs] at h <;> first
      | (cases h; done)
      | (cases h; exact ⟨_, rfl, bt (by decide) hl⟩)
      | (cases h; exact ⟨_, rfl, kit_ty (by decide +kernel)⟩)
theorem tyAny_kit (k : ClO x) {d : D} {c : Value} (hd : lvD x d = true) (hcl : clD x d = some c) : ∀ {ts : List Ty} {b : Bool}, (ts.all (lvT x)) = true → tyAny d ts = some b → PySem.W.kitAny x.K c (ts.map (tyV x)) = some b
  | [], b, _, h => by
    cases h
    rfl
  | t :: ts, b, hl, h => by
    rw [List.all_cons, Bool.and_eq_true] at hl
    simp only [tyAny] at h
    split at h
    · rename_i b1 b2 h1 h2
      cases h
      obtain ⟨c', e1, e2⟩ := tyIs_kit k hd hl.1 h1
      rw [hcl] at e1; cases e1
      refine kitAny_cons e2 (fun z => ?_) (fun z => by rw [z]; rfl)
      rw [z, Bool.false_or]
      exact tyAny_kit k hd hcl hl.2 h2
    · cases h
theorem tyIs_cl {d : D} {t : Ty} {b : Bool} (h : tyIs d t = some b) : ∃ c, clD x d = some c := by
  cases d <;> first | exact ⟨_, rfl⟩ | (cases t <;> cases h)
theorem tyAny_cl {d : D} {t : Ty} {ts : List Ty} {b : Bool} (h : tyAny d (t :: ts) = some b) : ∃ c, clD x d = some c := by
  simp only [tyAny] at h
  split at h
  · rename_i b1 b2 h1 h2
    exact tyIs_cl h1
  · cases h
end
end En

namespace En
open PySem PySem.Spec L2
def isStar : Expr → Bool
  | .Starred _ _ => true
  | _ => false
def isComp : Expr → Bool
  | .ListComp _ _ _ _ => true
  | .SetComp _ _ _ _ => true
  | .DictComp _ _ _ _ _ => true
  | _ => false
def isSet : Expr → Bool
  | .Set _ _ _ => true
  | _ => false
def isSl : Expr → Bool
  | .Slice _ _ _ _ => true
  | _ => false
def isSup : Expr → Bool
  | .Call (.Name _ _) [] [] _ => true
  | _ => false
def plainT : Expr → Bool
  | .UnaryOp .Not _ _ => false
  | .BoolOp _ _ _ => false
  | .IfExp _ _ _ _ => false
  | .Compare _ _ _ _ => false
  | _ => true
theorem star_no {e : Expr} {es : List Expr} {env : Env} (h : isStar e = false) : starEach (e :: es) env = (false, eval e env) :: starEach es env := by
  cases e <;> first | rfl | cases h
theorem star_any {es : List Expr} {env : Env} {pos : Pos} (h : es.all (fun e => !isStar e) = true) : (backTo pos (starEach es env)).any (·.1) = false := by
  induction es with
  | nil => rfl
  | cons e es ih =>
    rw [List.all_cons, Bool.and_eq_true] at h
    have he : isStar e = false := by simpa using h.1
    rw [star_no he]
    have ih' := ih h.2
    unfold backTo at ih' ⊢
    simp only [List.map_cons, List.any_cons]
    simpa using ih'
theorem swaps_no {e : Expr} {t : Option Expr} {l : Nat} {env : Env} (h : isComp e = false) : swapsWith e t l env = pure false := by
  cases e <;> first | rfl | cases h
theorem swapsSole_no {e : Expr} {ts : List Expr} {l : Nat} {env : Env} (h : isComp e = false) : swapsWithSole ts e l env = pure false := by
  cases ts with
  | nil => rfl
  | cons t ts =>
    cases ts with
    | nil => exact swaps_no h
    | cons _ _ => rfl
theorem swaps_att {e l : Expr} {m : Str} {q : Pos} {n : Nat} {env : Env} : swapsWith e (some (.Attribute l m q)) n env = pure false := by cases e <;> rfl
theorem swaps_sub {e l r : Expr} {q : Pos} {n : Nat} {env : Env} : swapsWithSole [.Subscript l r q] e n env = pure false := by cases e <;> rfl
theorem marks_no {op : CmpOp} {e : Expr} (h : isSet e = false) : behindInMarks op e = false := by
  cases e <;> first | rfl | cases h
theorem folded_no {e : Expr} {env : Env} (h : isSet e = false) : ∀ v, foldedSetIterable e env v = pure v := by
  cases e <;> first | (intro v; rfl) | cases h
theorem ix_plain {e : Expr} (h : isSl e = false) : PlainIx e := by
  cases e <;> first | exact fun _ _ => rfl | exact Bool.noConfusion h
theorem isTrue_plain {e : Expr} {env : Env} (h : plainT e = true) : ∀ whole, isTrue e env whole = (do let v ← whole; standAt e.pos; holding [v] (truthy v)) := by
  cases e with
  | UnaryOp op a p => cases op <;> first | (intro w; rfl) | cases h
  | BoolOp op a p => cases h
  | IfExp a b c p => cases h
  | Compare a b c p => cases h
  | _ => intro w; rfl
theorem base_no {e : Expr} {f : Str} {env : Env} (h : isSup e = false) : attributeBase e f env (eval e env) = eval e env := by
  cases e with
  | Call g as ks p =>
    cases g <;> first
      | rfl
      | (cases as <;> cases ks <;> first | rfl | cases h)
  | _ => rfl

structure CC where
  N : List Str
  sc : Scope
  loc : List Str
  lam : Bool := false
def vis (cc : CC) (i : Nat) (x : Str) : Bool :=
  decide (cc.N[i]? = some x) && (decide (cc.sc.names.lookup x = some .local) || decide (cc.sc.names.lookup x = some .cell) || decide (cc.sc.names.lookup x = some .free)) &&
    !(x == ("__debug__" : Str)) && !(x == ("__classdict__" : Str))
def glo (cc : CC) (x : Str) : Bool := decide (cc.sc.names.lookup x = some .globalImplicit) && !(x == ("__debug__" : Str)) && !decide (x = ("__name__" : Str))
def tgt (cc : CC) (i : Nat) (x : Str) : Bool := decide (cc.N[i]? = some x) && decide (x ∈ cc.loc)
def bltNames : List Str := ["len", "int", "all", "any", "list", "tuple", "str", "bool", "isinstance", "dict", "range", "enumerate", "zip", "sorted", "min", "max", "repr", "sum", "super"]
def CC.blk (cc : CC) (scope : Scope) : CC :=
  { N := cc.N, sc := relS scope cc.sc, loc := (scope.names.filter fun p => decide (p.2 = .local) || decide (p.2 = .cell)).map (·.1) }
def CC.fn (N : List Str) (sc : Scope) : CC := { N := N, sc := sc, loc := (sc.names.map (·.1)).filter fun y => decide (sc.names.lookup y = some .local) || decide (sc.names.lookup y = some .cell) }

theorem not_tb {x : SX} {G H : Hp} {b : Addr} {o : HO} (t : TbG x G H) (e : H b = some o) (n : ∀ ps, o ≠ .tbl ps) : b ∉ tbA x := fun h => by
  obtain ⟨ps, q⟩ := tab_at t h
  rw [e] at q
  exact n ps (Option.some.inj q)
theorem StR.gt {x : SX} {F : Fr} {s : S} {G H : Hp} {io : List Addr} {σ : L2.St} (t : StR x F s G io σ H) : Gh x G H := ⟨t.gh, t.tb⟩
def spP (x : SX) (Pf : List D → List MO → Option (Out × List MO)) (n : Nat) : Sp := fun vs H Q E => vs.length = n ∧ ∃ ds m G io, Gh x G H ∧ MemA x G io H m ∧ RpL x G io ds vs ∧ PostF x H G io (Pf ds m) Q E
def spOf (T : Tb) (f n : Nat) : Sp := spP T.x (T.P f) n
def FnAt (T : Tb) (f : Nat) : Prop := ∃ (a : Addr) (fd : FuncData) (ps : List Str), T.mg (T.nt.fnm f) = some (.ref a) ∧ PySem.W.keepIn T.x.K (.ref a) = true ∧
  FnOk T.prog T.w T.x.K T.mg T.base (L2.CX T.prog T.w) T.lv a fd ps (spOf T f ps.length) ∧ Binds T.x.K fd ps [] ∧ ∀ ds m r, T.P f ds m = some r → ds.length = ps.length
def Cal (T : Tb) (i n : Nat) (kk : List Str) (a : Addr) : Prop := ∃ k : Nat, k + 3 ≤ T.lv ∧ ∀ (A : Around) (outer : List Env) (s : Shared) (H : Hp) (us ws : List Value) (vs zs : List V) (Q : VK) (E : XK), Room k A → Env0 T.prog T.w T.x.K T.mg T.base A outer s H → Vals vs us → Vals zs ws → vs.length = n → zs.length = kk.length →
  (∃ ds es m G io, Gh T.x G H ∧ MemA T.x G io H m ∧ RpL T.x G io ds vs ∧ RpL T.x G io es zs ∧ PostF T.x H G io (T.P i (ds ++ es) m) Q E) → codeAny (model T.prog T.w) A (.call (.ref a) ⟨us, kk.zip ws⟩) (CR (L2.CX T.prog T.w) outer T.prog T.w H s Q E) s
def FnAtK (T : Tb) (f : Nat) : Prop := ∃ a : Addr, T.mg (T.nt.fnm f) = some (.ref a) ∧ PySem.W.keepIn T.x.K (.ref a) = true ∧ Cal T f (T.nt.kn f) (T.nt.kk f) a
def FnAtE (T : Tb) (c i : Nat) (m : Str) (n : Nat) (kk : List Str) : Prop := ∃ a : Addr, Meth T.x.K (T.x.ca c) m a ∧ Cal T i (n + 1) kk a
theorem Cal.mk {T : Tb} {j n : Nat} {kk : List Str} {Pf : List D → List MO → Option (Out × List MO)} {a : Addr} {fd : FuncData} {ps : List Str} {g : List Value → List Value → List Value} {gV : List V → List V → List V}
    {k : Nat} (hkl : k + 3 ≤ T.lv) (F : FnOk T.prog T.w T.x.K T.mg T.base (L2.CX T.prog T.w) k a fd ps (spP T.x Pf ps.length)) (hb : KBn T.x.K fd ps n kk g gV)
    (h : ∀ (G : Hp) (io : List Addr) ds es vs zs, vs.length = n → zs.length = kk.length → RpL T.x G io ds vs → RpL T.x G io es zs → (gV vs zs).length = ps.length ∧ ∃ ds', RpL T.x G io ds' (gV vs zs) ∧ ∀ m, T.P j (ds ++ es) m = Pf ds' m) : Cal T j n kk a := by
  refine ⟨k, hkl, ?_⟩
  rintro A outer s H us ws vs zs Q E hr e0 r rz l1 l2 ⟨ds, es, m, G, io, gh, hmem, r1, r2, hp⟩
  obtain ⟨q1, ds', q2, q3⟩ := h G io ds es vs zs l1 l2 r1 r2
  rw [q3] at hp
  exact F.run A outer s H ⟨us, kk.zip ws⟩ (g us ws) (gV vs zs) Q E hr e0 (hb.to s us ws (e0.mod.kin.keeps fun b o e => (e0.bs b o e).1) (r.length.symm.trans l1) (rz.length.symm.trans l2)) (hb.rel r rz) ⟨q1, ds', m, G, io, gh, hmem, q2, hp⟩
def FnAtM (T : Tb) (f : Nat) : Prop := ∃ (C fI : Addr) (k : Nat) (fd : FuncData) (ps : List Str) (g : List Value → List Value → List Value) (gV : List V → List V → List V) (sp : Sp), T.mg (T.nt.fnm f) = some (.ref C) ∧ Mk T.x.K C fI ∧ k + 3 ≤ T.lv ∧
  FnOk T.prog T.w T.x.K T.mg T.base (L2.CX T.prog T.w) k fI fd ps sp ∧ KBn T.x.K fd ps (T.nt.kn f + 1) (T.nt.kk f) g gV ∧
  ∀ vs zs H Q E, vs.length = T.nt.kn f → zs.length = (T.nt.kk f).length → (∃ ds es m G io, Gh T.x G H ∧ MemA T.x G io H m ∧ RpL T.x G io ds vs ∧ RpL T.x G io es zs ∧ PostF T.x H G io (T.P f (ds ++ es) m) Q E) →
    ∀ x dx, H x = none → H dx = none → dx ≠ x → sp (gV (.ref x :: vs) zs) (upd (upd H dx (.own x)) x (.ins C dx [])) (fun v H2 => v = .non ∧ Q (.ref x) H2) E
inductive XMatch (n : Nat) (dys : List V) : List XV → List XV → Prop
  | nil : XMatch n dys [] []
  | cst {z : Str} {a b : List XV} (t : XMatch n dys a b) : XMatch n dys (.cst z :: a) (.cst z :: b)
  | arg {i : Nat} {a b : List XV} (h : i < n) (t : XMatch n dys a b) : XMatch n dys (.arg i :: a) (.arg i :: b)
  | dfl {i : Nat} {z : Str} {a b : List XV} (h : n ≤ i) (e : dys[i - n]? = some (.str z)) (t : XMatch n dys a b) : XMatch n dys (.arg i :: a) (.cst z :: b)
def XAt (T : Tb) (x : Str) (n c : Nat) (ns : List Nat) (vs : List XV) : Prop := T.mg x = some (.ref (T.x.ca c)) ∧ ∃ (fI cda cc : Addr) (B newId initId : String) (bmB : List Value) (slf : Str) (ps : List Str) (vs0 : List (Str × XV)) (fd : FuncData) (ds : List Value) (dys : List V),
  EnX.XCl T.prog T.x.K (T.x.ca c) fI cda cc B newId initId bmB slf ps vs0 fd ds ∧ Vals dys ds ∧ n + ds.length = ps.length ∧ n ≤ 1000 ∧ vs0.reverse.map (·.1) = ns.map T.x.nm ∧ XMatch n dys (vs0.reverse.map (·.2)) vs
structure TOk (T : Tb) : Prop where
  fn : ∀ f, T.nt.isF f = true → FnAt T f
  fk : ∀ f, T.nt.isK f = true → FnAtK T f
  fm : ∀ f, T.nt.isM f = true → FnAtM T f
  nm : T.x.nm = T.nt.nm
  nd : T.nt.fl.Nodup
  lv : T.x.live = T.nt.live
  ko : ClO T.x
  fa : ∀ c f, T.nt.fa c f = true → NoAttr T.x.K (T.x.ca c) (T.nt.nm f)
  me : ∀ c i m n kk, T.nt.me c i = some (m, n, kk) → FnAtE T c i m n kk
  gone : ∀ i, T.nt.gone i = true → ∀ ds m, T.P i ds m = none
  cn : ∀ c, T.nt.cn c ≠ "" → T.mg (T.nt.cn c) = some (.ref (T.x.ca c)) ∧ T.nt.live c = true
  gv : ∀ g, T.nt.gvn g ≠ "" → ∃ u v, T.mg (T.nt.gvn g) = some u ∧ RelV v u ∧ ∀ G io, Rp T.x G io (T.Gm g) v
  bl : ∀ n ∈ bltNames, T.mg n = none
  xq : ∀ x n c ns vs, T.nt.xq x n = some (c, ns, vs) → XAt T x n c ns vs
  lp : 1 ≤ T.lv
theorem TOk.nmI {T : Tb} (t : TOk T) {f : Nat} (h : T.nt.nm f ≠ "") : ∀ i, T.x.nm i = T.x.nm f → i = f := fun i hi => by
  rw [t.nm] at hi
  unfold NT.nm at h hi
  rw [List.getD_eq_getElem?_getD] at h hi hi
  have hf : f < T.nt.fl.length := by
    by_cases hf : f < T.nt.fl.length
    · exact hf
    · rw [List.getElem?_eq_none (by omega)] at h; exact absurd rfl h
  have hI : i < T.nt.fl.length := by
    by_cases hI : i < T.nt.fl.length
    · exact hI
    · rw [List.getElem?_eq_none (show T.nt.fl.length ≤ i by omega)] at hi; exact absurd hi.symm h
  rw [List.getElem?_eq_getElem hf, List.getElem?_eq_getElem hI] at hi
  exact (List.getElem_inj t.nd).mp hi
theorem TOk.noF {T : Tb} (t : TOk T) {m : Str} (h1 : m ≠ "") (h2 : m ∉ T.nt.fl) : ∀ (ns : List Nat) (vs : List V), ((ns.map T.x.nm).zip vs).lookup m = none
  | [], _ => rfl
  | _ :: _, [] => rfl
  | n :: ns, v :: vs => by
    rw [List.map_cons, List.zip_cons_cons, List.lookup_cons]
    have hne : (m == T.x.nm n) = false := by
      cases hb : (m == T.x.nm n) with
      | false => rfl
      | true =>
        exfalso
        have e := beq_iff_eq.mp hb
        rw [t.nm] at e
        unfold NT.nm at e
        rw [List.getD_eq_getElem?_getD] at e
        by_cases hn : n < T.nt.fl.length
        · rw [List.getElem?_eq_getElem hn] at e
          exact h2 (by rw [e]; exact List.getElem_mem hn)
        · rw [List.getElem?_eq_none (by omega)] at e
          exact h1 e
    rw [hne]
    exact t.noF h1 h2 ns vs
structure WhyOk (x : SX) (cs : List Value) (ms : List (EnY.MT × List Str)) (q : List Str × Str) (wc : WhyC) : Prop where
  cls : ∀ c ∈ wc.cls, PySem.W.exmAny x.K (.ref (x.ca c)) cs = some true ∧ XfC x.K (x.ca c) ∧ ∀ g : Str, g ∈ EnY.exNames → PySem.W.findIn x.K (.ref (x.ca c)) g = some none
  cid : x.nm wc.cid = ("code" : Str) ∧ ∀ i, x.nm i = x.nm wc.cid → i = wc.cid
  tab : ∀ z gs, wc.tab.lookup z = some gs → gs.map x.nm = EnY.fldA z ms q ∧ ∀ g ∈ gs, ∀ i, x.nm i = x.nm g → i = g
structure ScL (hc : List (Str × Addr)) (capN : List Str) (scope : Scope) : Prop where
  kind : scope.kind = .function
  co : scope.isCoroutine = false
  gen : scope.isGenerator = false
  nocell : ∀ y ∈ scope.names, y.2 ≠ .cell
  cap : ∀ y ∈ capN, scope.names.lookup y = some .free
  free : ∀ y ∈ scope.names, y.2 = .free → ∃ c, hc.lookup y.1 = some c
def LamOk (T : Tb) : Prop := ∀ (j : Nat) (capN : List Str) (params : Arguments) (body : Expr) (scope : Scope), T.x.lm j capN params body scope → ScL T.x.hc capN scope ∧
  ∀ (B : Heap) (vs : List V) (cl : List (Str × Addr)) (q : Str) (f c' : Addr) (dV pm ctv : Value), (∀ b o, T.base.get? b = some o → B.get? b = some o) → B.get? f = some (EnY.lamO q params body scope cl dV pm (.ref c') ctv) → EnY.CloS B capN vs cl scope →
    EnY.Callable T.prog T.w T.x.K T.mg B (T.lv - 3) f (spL T.x (T.P j) vs c' q params scope dV)
def WhyAt (T : Tb) (wc : WhyC) : Prop := ∃ (k : Nat) (a : Str) (fw : Addr) (fd : FuncData) (cs : List Value) (ms : List (EnY.MT × List Str)) (q : List Str × Str), k ≤ T.lv ∧ T.mg "_law_whys" = some (.ref fw) ∧ PySem.W.keepIn T.x.K (.ref fw) = true ∧ Binds T.x.K fd [a] [] ∧
  (∀ B, FnOk T.prog T.w T.x.K T.mg B (L2.CX T.prog T.w) k fw fd [a] (EnY.spWhys T.prog T.w T.x.K T.mg B (T.lv - 3) cs ms q)) ∧ WhyOk T.x cs ms q wc
def WhyAt1 (T : Tb) (wc : WhyC) : Prop := ∃ (k : Nat) (a : Str) (fw : Addr) (fd : FuncData) (cs : List Value) (ms : List (EnY.MT × List Str)) (q : List Str × Str), k ≤ T.lv ∧ T.mg "_law_why" = some (.ref fw) ∧ PySem.W.keepIn T.x.K (.ref fw) = true ∧ Binds T.x.K fd [a] [] ∧
  (∀ B, FnOk T.prog T.w T.x.K T.mg B (L2.CX T.prog T.w) k fw fd [a] (EnY.spWhy T.prog T.w T.x.K T.mg B (T.lv - 3) cs ms q)) ∧ WhyOk T.x cs ms q wc
structure HomeOk (T : Tb) (X : Cx) : Prop where
  fn : ∀ y, X.fn y = true
  hc : T.x.hc = X.env.cells
  hN : T.x.hN = X.N
  inj : ∀ x y c, X.env.cells.lookup x = some c → X.env.cells.lookup y = some c → x = y
  cel : ∀ j capN params body scope, T.x.lm j capN params body scope → ∀ y ∈ capN, X.env.kindOf y = some .cell
  lam : LamOk T
  tab : ∃ c P, LamX.TabB X.base X.mg c P ∧ X.env.code = .ref c ∧ (P, X.env.qual ++ "<lambda>") ∈ T.x.tbs ∧ ∀ p ∈ T.x.tbs, p.1 = P → p.2 = X.env.qual ++ "<lambda>"
  made : ∀ (j : Nat) (capN : List Str) (params : Arguments) (body : Expr) (scope : Scope), T.nt.lmk j capN params body scope = true → T.x.lm j capN params body scope
  wy : ∀ wc, T.nt.wc = some wc → WhyAt T wc
  wy1 : ∀ wc, T.nt.wc1 = some wc → WhyAt1 T wc
structure XOk (T : Tb) (cc : CC) (X : Cx) (W : WX) : Prop where
  prog : X.prog = T.prog
  w : X.w = T.w
  K : X.K = T.x.K
  mg : X.mg = T.mg
  base : X.base = T.base
  N : X.N = cc.N
  nd : X.N.Nodup
  sc : X.env.scope = cc.sc
  calm : X.calm = true
  tk : Takes X W
  po : PassesOwn (model X.prog X.w) X.A X.env X.xe
  room : Room T.lv X.A
  loc : ∀ y ∈ cc.loc, Loc X.env.scope y ∧ (X.fn y = true ∨ X.env.scope.names.lookup y = some .local)
  hom : cc.lam = true → HomeOk T X := by intro h; cases h
section
variable {T : Tb} {cc : CC} {X : Cx} {W : WX}
theorem XOk.vis (o : XOk T cc X W) {i : Nat} {y : Str} (h : vis cc i y = true) : X.N[i]? = some y ∧ Vis X.env.scope y ∧ (y == ("__debug__" : Str)) = false ∧ (y == ("__classdict__" : Str)) = false := by
  unfold En.vis at h
  simp only [Bool.and_eq_true, Bool.or_eq_true, decide_eq_true_eq, Bool.not_eq_true'] at h
  obtain ⟨⟨⟨h1, h2⟩, h3⟩, h4⟩ := h
  refine ⟨by rw [o.N]; exact h1, ?_, h3, h4⟩
  unfold Vis
  rw [o.sc]
  rcases h2 with (h2 | h2) | h2
  · exact .inl h2
  · exact .inr (.inl h2)
  · exact .inr (.inr h2)
theorem XOk.glo (o : XOk T cc X W) {y : Str} (h : glo cc y = true) : Gl X y ∧ (y == ("__debug__" : Str)) = false ∧ y ≠ ("__name__" : Str) := by
  unfold En.glo at h
  simp only [Bool.and_eq_true, decide_eq_true_eq, Bool.not_eq_true', decide_eq_false_iff_not] at h
  refine ⟨?_, h.1.2, h.2⟩
  show X.env.scope.names.lookup y = _
  rw [o.sc]
  exact h.1.1
theorem XOk.tgt (o : XOk T cc X W) {i : Nat} {y : Str} (h : tgt cc i y = true) : X.N[i]? = some y ∧ Loc X.env.scope y ∧ (X.fn y = true ∨ X.env.scope.names.lookup y = some .local) := by
  unfold En.tgt at h
  simp only [Bool.and_eq_true, decide_eq_true_eq] at h
  exact ⟨by rw [o.N]; exact h.1, o.loc y h.2⟩
theorem XOk.blt (o : XOk T cc X W) (t : TOk T) {y : Str} (h : y ∈ bltNames) : X.mg y = none := by rw [o.mg]; exact t.bl y h
theorem XOk.hu (o : XOk T cc X W) : X.A.units + 64 < cLine := o.room.units
end
theorem StR.call {x : SX} {F : Fr} {s : S} {G G' H H' : Hp} {io io' : List Addr} {σ : L2.St} {m' : List MO} (t : StR x F s G io σ H) (f : FF x H G io m' H' G' io') :
    StR x F { s with m := m' } G' io' σ H' ∧ Same G G' := by
  obtain ⟨f1, f2, f3, f4, f5, f6, f7⟩ := f
  have sg : Same G G' := fun b o e => by rw [f4 b (by rw [t.gh _ _ e]; simp)]; exact e
  have mem : ∀ {b : Addr}, b ∈ io → ∃ o, H b = some o := fun {b} hb => by
    obtain ⟨n, hn, e⟩ := List.getElem_of_mem hb
    have hl : n < s.m.length := by rw [t.mem.1]; exact hn
    have q := t.mem.2.2 n _ b (List.getElem?_eq_getElem hl) (by rw [List.getElem?_eq_getElem hn, e])
    obtain ⟨vs, h, q1, _⟩ := q
    exact ⟨_, q1⟩
  have fh : ∀ {b : Addr}, H b = none → F.h b = none := fun {b} e => by
    cases z : F.h b with
    | none => rfl
    | some o =>
      by_cases hm : b ∈ F.i
      · obtain ⟨k, hk⟩ := t.ki
        obtain ⟨o', e'⟩ := mem (b := b) (by rw [hk]; exact List.mem_append_left _ hm)
        rw [e] at e'; cases e'
      · by_cases ht : b ∈ tbA x
        · obtain ⟨ps, q⟩ := tab_at t.tb ht
          rw [e] at q; cases q
        · rw [t.kh _ _ z hm ht] at e; cases e
  have nio : ∀ {b : Addr}, b ∉ io → H b ≠ none → b ∉ io' := fun {b} h1 h2 hm => by
    obtain ⟨n, hn, e⟩ := List.getElem_of_mem hm
    by_cases hl : n < io.length
    · obtain ⟨k, hk⟩ := f5
      apply h1
      have : io'[n] = io[n] := by simp [hk, List.getElem_append_left hl]
      rw [← e, this]
      exact List.getElem_mem _
    · exact h2 (f6 n b (by omega) (by rw [List.getElem?_eq_getElem hn, e]))
  have nTb : ∀ {b : Addr} {o : HO}, H b = some o → (∀ ps, o ≠ .tbl ps) → b ∉ tbA x := fun {b o} e n h => by
    obtain ⟨ps, q⟩ := tab_at t.tb h
    rw [e] at q
    exact n ps (Option.some.inj q)
  have nSt : ∀ {b : Addr} {o : HO}, H b = some o → Stay o → b ∉ io := fun {b o} e st hb => by
    obtain ⟨n, hn, e2⟩ := List.getElem_of_mem hb
    have hl : n < s.m.length := by rw [t.mem.1]; exact hn
    obtain ⟨vs, h, q1, _, _, q4, _⟩ := t.mem.2.2 n _ b (List.getElem?_eq_getElem hl) (by rw [List.getElem?_eq_getElem hn, e2])
    rw [e] at q1
    cases q1
    exact q4.ns st
  refine ⟨⟨f1.1, t.len, fun i c e => ?_, t.own, f2, fun b o e n nt => ?_, fun b hb => ?_, t.ki.trans f5, fun n a hn e => ?_, fun b u e => ?_, f1.2⟩, sg⟩
  · obtain ⟨v, e1, r⟩ := t.slot i c e
    refine ⟨v, e1, ?_⟩
    cases c with
    | val d => exact Rp.mono sg f5 r
    | ol ds =>
      obtain ⟨a, q1, q2, vs, q3, q4, q5, q6⟩ := r
      have hn : H a ≠ none := by rw [q3]; simp
      exact ⟨a, q1, nio q2 hn, vs, f3 _ _ q3 q2 (nTb q3 fun ps z => by cases z), by rw [f4 a hn]; exact q4, q5, q6.mono sg f5⟩
    | od ks ds =>
      obtain ⟨a, q1, q2, vs, q3, q4, q5, q6, q7⟩ := r
      have hn : H a ≠ none := by rw [q3]; simp
      exact ⟨a, q1, nio q2 hn, vs, f3 _ _ q3 q2 (nTb q3 fun ps z => by cases z), by rw [f4 a hn]; exact q4, q5, q6, q7.mono sg f5⟩
    | lms ks =>
      obtain ⟨a, q1, q2, vs, q3, q4, q5, q6⟩ := r
      have hn : H a ≠ none := by rw [q3]; simp
      refine ⟨a, q1, nio q2 hn, vs, f3 _ _ q3 q2 (nTb q3 fun ps z => by cases z), by rw [f4 a hn]; exact q4, q5, q6.mono (fun b o e st => f3 _ _ e (nSt e st) (nTb e fun ps z => ?_)) fun b φ e g => by rw [f4 b (by rw [e]; simp)]; exact g⟩
      rcases st with ⟨φ, y⟩ | ⟨xs, y⟩ <;> rw [y] at z <;> cases z
  · refine f3 _ _ (t.kh b o e n nt) (fun hm => ?_) nt
    obtain ⟨k, hk, e2⟩ := List.getElem_of_mem hm
    by_cases hl : k < F.i.length
    · obtain ⟨z, hz⟩ := t.ki
      apply n
      have : io[k] = F.i[k] := by simp [hz, List.getElem_append_left hl]
      rw [← e2, this]
      exact List.getElem_mem _
    · rw [t.ni k b (by omega) (by rw [List.getElem?_eq_getElem hk, e2])] at e; cases e
  · rw [f4 b (fun z => hb (fh z)), t.kg b hb]
  · by_cases hl : n < io.length
    · obtain ⟨k, hk⟩ := f5
      refine t.ni n a hn ?_
      rw [hk, List.getElem?_append_left hl] at e
      exact e
    · exact fh (f6 n a (by omega) e)
  · obtain ⟨e1, o, w, rfl⟩ := t.zl b u e
    exact ⟨f7 _ _ _ e1, o, w, rfl⟩
end En

namespace En
open PySem PySem.Spec L2
theorem PE.wk {X : Cx} {e : Expr} {t t' : TE} (h : PE X e t) (i : ∀ σ H Q, t' σ H Q → t σ H Q) : PE X e t' := ⟨fun pins s σ H Q I q => h.run pins s σ H Q I (i σ H Q q)⟩
theorem PT.wk {X : Cx} {e : Expr} {t t' : TT} (h : PT X e t) (i : ∀ σ H Q, t' σ H Q → t σ H Q) : PT X e t' := ⟨fun pins s σ H Q I q => h.run pins s σ H Q I (i σ H Q q)⟩
theorem PW.wk {X : Cx} {e : Expr} {t t' : TT} (h : PW X e t) (i : ∀ σ H Q, t' σ H Q → t σ H Q) : PW X e t' := ⟨fun wh pins s σ H Q I q => h.run wh pins s σ H Q I (i σ H Q q)⟩
theorem PA.wk {X : Cx} {e : List Expr} {t t' : TA} (h : PA X e t) (i : ∀ σ H Q, t' σ H Q → t σ H Q) : PA X e t' := ⟨fun p pins s σ H Q I q => h.run p pins s σ H Q I (i σ H Q q)⟩
theorem PS.wk {X : Cx} {e : Stmt} {t t' : TS} (h : PS X e t) (i : ∀ D σ H, t' D σ H → t D σ H) : PS X e t' := ⟨fun pins s σ H D I q => h.run pins s σ H D I (i D σ H q)⟩
theorem PSs.wk {X : Cx} {e : List Stmt} {t t' : TS} (h : PSs X e t) (i : ∀ D σ H, t' D σ H → t D σ H) : PSs X e t' := ⟨fun pins s σ H D I q => h.run pins s σ H D I (i D σ H q)⟩
theorem PG.wk {X : Cx} {e : Expr} {t t' : TG} (h : PG X e t) (i : ∀ v σ H Q, t' v σ H Q → t v σ H Q) : PG X e t' := ⟨fun pins s σ H v u Q I r q => h.run pins s σ H v u Q I r (i v σ H Q q)⟩
theorem PGs.wk {X : Cx} {e : List Expr} {t t' : TGs} (h : PGs X e t) (i : ∀ v σ H Q, t' v σ H Q → t v σ H Q) : PGs X e t' := ⟨fun pins s σ H v u Q I r q => h.run pins s σ H v u Q I r (i v σ H Q q)⟩
theorem PI.wk {X : Cx} {tg e : Expr} {t t' : TI} (h : PI X tg e t) (i : ∀ σ H R, t' σ H R → t σ H R) : PI X tg e t' := ⟨fun pins s σ H R I q => h.run pins s σ H R I (i σ H R q)⟩
theorem PE.or {X : Cx} {e : Expr} {t u : TE} (h : PE X e t) (k : PE X e u) : PE X e (fun σ H Q => t σ H Q ∨ u σ H Q) := ⟨fun pins s σ H Q I q => q.elim (h.run pins s σ H Q I) (k.run pins s σ H Q I)⟩
theorem PG.or {X : Cx} {e : Expr} {t u : TG} (h : PG X e t) (k : PG X e u) : PG X e (fun v σ H Q => t v σ H Q ∨ u v σ H Q) := ⟨fun pins s σ H v w Q I r q => q.elim (h.run pins s σ H v w Q I r) (k.run pins s σ H v w Q I r)⟩
theorem PI.or {X : Cx} {tg e : Expr} {t u : TI} (h : PI X tg e t) (k : PI X tg e u) : PI X tg e (fun σ H R => t σ H R ∨ u σ H R) := ⟨fun pins s σ H R I q => q.elim (h.run pins s σ H R I) (k.run pins s σ H R I)⟩

section
variable (T : Tb) (F : Fr) (W : WX)
def rd (c : E) : TE := fun σ H Q => ∃ s G io, StR T.x F s G io σ H ∧ Post T.x F W G io (ev T.P T.Gm c s) σ Q
def rdT (c : E) : TT := fun σ H Q => rd T F W c σ H fun v H' => ∃ b, v = .bl b ∧ Q b H'
def rdA (c : E) : TA := fun σ H Q => ∃ s G io, StR T.x F s G io σ H ∧ PostA T.x F W G io (ev T.P T.Gm c s) σ Q
def rdS (c : E) : TS := fun D σ H => ∃ s G io, StR T.x F s G io σ H ∧ PostS T.x F W G io (ev T.P T.Gm c s) D
end
structure WalkD (x : SX) (Z G0 : Hp) (io0 : List Addr) (J : It) (ds : List D) : Prop where
  go : ∀ (i : Nat) H, i < ds.length → Same G0 H → (∀ b u, Z b = some u → H b = some u) → J.go i H
  stop : ∀ H, Same G0 H → (∀ b u, Z b = some u → H b = some u) → J.stop ds.length H
  yld : ∀ (i : Nat) H v H' d, Same G0 H → (∀ b u, Z b = some u → H b = some u) → ds[i]? = some d → J.yld i H v H' →
    (H' = H ∧ (∀ G io, Same G0 G → Pre io0 io → Rp x G io d v)) ∨ ∃ p vs es, H p = none ∧ H' = upd H p (.tup vs) ∧ v = .ref p ∧ d = .tup es ∧ ∀ G io, Same G0 G → Pre io0 io → RpL x G io es vs
def PostI (x : SX) (F : Fr) (W : WX) (G : Hp) (io : List Addr) (o : Res) (σ : L2.St) (R : It → Hp → Prop) : Prop :=
  match o with
  | some (.vals ds, s) => ∀ J H' G' io', Same G G' → Pre io io' → StR x F s G' io' σ H' → WalkD x (zOf H') G' io' J ds → R J H'
  | some (.exc c ns ds, s) => ∀ cls dd H' G' io', Same G G' → Pre io io' → StR x F s G' io' σ H' → ExcR x G' io' c ns ds cls dd H' → W cls dd σ H'
  | _ => False
def rdI (T : Tb) (F : Fr) (W : WX) (c : E) : TI := fun σ H R => ∃ s G io, StR T.x F s G io σ H ∧ PostI T.x F W G io (ev T.P T.Gm c s) σ R
def tgIx : E → List Nat
  | .tn i => [i]
  | .tt is => is
  | _ => []
theorem wipe_set {σ : L2.St} {i : Nat} {v : Option V} : ∀ {js : List Nat}, i ∈ js → wipe (σ.set i v) js = wipe σ js
  | [], h => by cases h
  | j :: js, h => by
    have key : ∀ (js : List Nat) (σ : L2.St) (v : Option V), (wipe (σ.set i v) js).set i none = (wipe σ js).set i none := by
      intro js
      induction js with
      | nil => intro σ v; simp [wipe]
      | cons k js ih =>
        intro σ v
        unfold wipe
        by_cases hk : k = i
        · subst hk
          rw [List.set_set, List.set_set]
          exact ih σ v
        · rw [List.set_comm _ _ hk, List.set_comm _ _ hk, ih σ v]
    by_cases hj : i ∈ js
    · unfold wipe
      rw [wipe_set hj]
    · have e : i = j := by
        rcases List.mem_cons.mp h with h | h
        · exact h
        · exact absurd h hj
      subst e
      unfold wipe
      exact key js σ v
def rdG (T : Tb) (F : Fr) (c : E) : TG := fun v σ H Q => ∃ s G io d s', StR T.x F s G io σ H ∧ Rp T.x G io d v ∧ store c d s = some s' ∧ ∀ σ', StR T.x F s' G io σ' H → (∀ js, (∀ j ∈ tgIx c, j ∈ js) → wipe σ' js = wipe σ js) → Q σ' H
def rdGs (T : Tb) (F : Fr) (is : List Nat) : TGs := fun vs σ H Q => ∃ s G io ds s', StR T.x F s G io σ H ∧ RpL T.x G io ds vs ∧ storeAll is ds s = some s' ∧ ∀ σ', StR T.x F s' G io σ' H → (∀ js, (∀ j ∈ is, j ∈ js) → wipe σ' js = wipe σ js) → Q σ' H

section
variable {x : SX} {F : Fr} {W : WX} {G G1 H : Hp} {io io1 : List Addr} {σ : L2.St} {s : S}
theorem PostI.anti {o : Res} {R : It → Hp → Prop} (h : PostI x F W G io o σ R) (a : Same G G1) (b : Pre io io1) : PostI x F W G1 io1 o σ R := by
  unfold PostI at h ⊢
  split at h
  · exact fun v H' G' io' c d => h v H' G' io' (a.trans c) (b.trans d)
  · exact fun v dd H' G' io' c d => h v dd H' G' io' (a.trans c) (b.trans d)
  · exact h.elim
theorem PostI.bnd {o : Res} {k : D → S → Res} {Q : It → Hp → Prop} {Q1 : VK} (h : PostI x F W G io (bnd o k) σ Q)
    (hk : ∀ d s v H' G' io', Same G G' → Pre io io' → StR x F s G' io' σ H' → Rp x G' io' d v → PostI x F W G' io' (k d s) σ Q → Q1 v H') : Post x F W G io o σ Q1 := by
  unfold Post
  split
  · exact fun v H' G' io' a b t r => hk _ _ v H' G' io' a b t r (h.anti a b)
  · rename_i o1 s
    refine fun a H' G' io' sg sp t ni ow no => ?_
    obtain ⟨G2, io2, a1, a2, a3, a4⟩ := fr_rp t ni ow no
    exact hk _ _ (.ref a) H' G2 io2 (sg.trans a1) (sp.trans a2) a3 a4 (h.anti (sg.trans a1) (sp.trans a2))
  · exact h
  · rename_i h1 h2 h3
    unfold En.bnd at h
    split at h
    · exact h1 _ _ rfl
    · exact h2 _ _ rfl
    · exact h3 _ _ _ _ rfl
    · exact h
theorem PostS.bnd {o : Res} {k : D → S → Res} {D : Ends} {Q1 : VK} (h : PostS x F W G io (bnd o k) D)
    (hk : ∀ d s v H' G' io', Same G G' → Pre io io' → StR x F s G' io' σ H' → Rp x G' io' d v → PostS x F W G' io' (k d s) D → Q1 v H') : Post x F W G io o σ Q1 := by
  unfold Post
  split
  · exact fun v H' G' io' a b t r => hk _ _ v H' G' io' a b t r (h.anti a b)
  · rename_i o1 s
    refine fun a H' G' io' sg sp t ni ow no => ?_
    obtain ⟨G2, io2, a1, a2, a3, a4⟩ := fr_rp t ni ow no
    exact hk _ _ (.ref a) H' G2 io2 (sg.trans a1) (sp.trans a2) a3 a4 (h.anti (sg.trans a1) (sp.trans a2))
  · exact fun cls dd H' G' io' a b t r => h cls dd σ H' G' io' a b t r
  · rename_i h1 h2 h3
    unfold En.bnd at h
    split at h
    · exact h1 _ _ rfl
    · exact h2 _ _ rfl
    · exact h3 _ _ _ _ rfl
    · exact h
theorem PostS.bndI {o : Res} {k : List D → S → Res} {D : Ends} {R : It → Hp → Prop} (h : PostS x F W G io (bndA o k) D)
    (hk : ∀ ds s J H' G' io', Same G G' → Pre io io' → StR x F s G' io' σ H' → WalkD x (zOf H') G' io' J ds → PostS x F W G' io' (k ds s) D → R J H') : PostI x F W G io o σ R := by
  unfold PostI
  split
  · exact fun v H' G' io' a b t r => hk _ _ v H' G' io' a b t r (h.anti a b)
  · exact fun cls dd H' G' io' a b t r => h cls dd σ H' G' io' a b t r
  · rename_i h1 h3
    unfold En.bndA at h
    split at h
    · exact h1 _ _ rfl
    · exact h3 _ _ _ _ rfl
    · exact h
theorem Post.bndI {o : Res} {k : List D → S → Res} {Q : VK} {R : It → Hp → Prop} (h : Post x F W G io (En.bndA o k) σ Q)
    (hk : ∀ ds s J H' G' io', Same G G' → Pre io io' → StR x F s G' io' σ H' → WalkD x (zOf H') G' io' J ds → Post x F W G' io' (k ds s) σ Q → R J H') : PostI x F W G io o σ R := by
  unfold PostI
  split
  · exact fun v H' G' io' a b t r => hk _ _ v H' G' io' a b t r (h.anti a b)
  · exact h
  · rename_i h1 h3
    unfold En.bndA at h
    split at h
    · exact h1 _ _ rfl
    · exact h3 _ _ _ _ rfl
    · exact h
theorem StR.setv {i : Nat} {d : D} {v : V} (t : StR x F s G io σ H) (r : Rp x G io d v) : StR x F (s.set i (some (.val d))) G io (σ.set i (some v)) H where
  gh := t.gh
  len := by simp [S.set, t.len]
  slot := fun j c e => by
    have e : (s.r.set i (some (.val d)))[j]? = some (some c) := e
    by_cases hj : i = j
    · subst hj
      by_cases hi : i < s.r.length
      · rw [List.getElem?_set_self hi] at e
        cases e
        refine ⟨v, ?_, r⟩
        rw [List.getElem?_set_self (by rw [← t.len]; exact hi)]
      · rw [List.getElem?_eq_none (by simpa using hi)] at e; cases e
    · rw [List.getElem?_set_ne hj] at e
      obtain ⟨w, e1, q⟩ := t.slot j c e
      exact ⟨w, by rw [List.getElem?_set_ne hj]; exact e1, q⟩
  own := fun j k c c' w hjk e1 e2 o1 o2 z1 z2 => by
    have e1 : (s.r.set i (some (.val d)))[j]? = some (some c) := e1
    have e2 : (s.r.set i (some (.val d)))[k]? = some (some c') := e2
    have nv : ∀ {j : Nat} {c : Cell}, (s.r.set i (some (.val d)))[j]? = some (some c) → isOwn c = true → i ≠ j := fun {j c} e o z => by
      subst z
      by_cases hi : i < s.r.length
      · rw [List.getElem?_set_self hi] at e; cases e; cases o
      · rw [List.getElem?_eq_none (by simpa using hi)] at e; cases e
    have h1 := nv e1 o1
    have h2 := nv e2 o2
    rw [List.getElem?_set_ne h1] at e1 z1
    rw [List.getElem?_set_ne h2] at e2 z2
    exact t.own j k c c' w hjk e1 e2 o1 o2 z1 z2
  mem := t.mem
  kh := t.kh
  kg := t.kg
  ki := t.ki
  ni := t.ni
  zl := t.zl
  tb := t.tb
theorem StR.weak {r' : List (Option Cell)} (t : StR x F s G io σ H) (hl : r'.length = s.r.length) (h : ∀ (i : Nat) c, r'[i]? = some (some c) → s.r[i]? = some (some c)) : StR x F { s with r := r' } G io σ H where
  gh := t.gh
  len := hl.trans t.len
  slot := fun i c e => t.slot i c (h i c e)
  own := fun i j c c' v a e1 e2 => t.own i j c c' v a (h i c e1) (h j c' e2)
  mem := t.mem
  kh := t.kh
  kg := t.kg
  ki := t.ki
  ni := t.ni
  zl := t.zl
  tb := t.tb
end

section
variable {T : Tb} {cc : CC} {X : Cx} {W : WX} {F : Fr}
theorem g_name (o : XOk T cc X W) {i : Nat} {y : Str} {p : Pos} (h : tgt cc i y = true) : PG X (.Name y p) (rdG T F (.tn i)) := by
  obtain ⟨h1, h2, h3⟩ := o.tgt h
  refine PG.wk (pg_name (i := i) o.nd h1 h2 h3) fun v σ H Q hq => ?_
  obtain ⟨s, G, io, d, s', t, r, e, q⟩ := hq
  cases e
  exact q _ (t.setv r) fun js hj => wipe_set (hj i (by simp [tgIx]))
def tgtAll (cc : CC) : List Nat → List Expr → Bool
  | [], [] => true
  | i :: is, .Name y _ :: es => tgt cc i y && tgtAll cc is es
  | _, _ => false
theorem g_names (o : XOk T cc X W) : ∀ {is : List Nat} {es : List Expr}, tgtAll cc is es = true → PGs X es (rdGs T F is)
  | [], [], _ => PGs.wk pgs_nil fun v σ H Q hq => by
    obtain ⟨s, G, io, ds, s', t, r, e, q⟩ := hq
    cases ds with
    | nil =>
      cases e
      exact ⟨r, q σ t fun _ _ => rfl⟩
    | cons _ _ => cases e
  | i :: is, e :: es, h => by
    cases e with
    | Name y p =>
      rw [tgtAll, Bool.and_eq_true] at h
      refine PGs.wk (pgs_cons (g_name (F := F) o h.1) (g_names o h.2)) fun v σ H Q hq => ?_
      obtain ⟨s, G, io, ds, s', t, r, e, q⟩ := hq
      cases ds with
      | nil => cases e
      | cons d ds =>
        obtain ⟨v, rest, rfl, r1, r2⟩ := r
        exact ⟨v, rest, rfl, s, G, io, d, _, t, r1, rfl, fun σ' t' w => ⟨_, G, io, ds, s', t', r2, e, fun σ2 t2 w2 => q σ2 t2 fun js hj => (w2 js fun j h => hj j (List.mem_cons_of_mem _ h)).trans (w js fun j h => hj j (by simp [tgIx] at h; subst h; exact List.mem_cons_self))⟩⟩
    | _ => cases h
  | [], _ :: _, h => by cases h
  | _ :: _, [], h => by cases h
theorem asg_len {env : Env} {cc : CC} : ∀ {is : List Nat} {es : List Expr}, tgtAll cc is es = true → (assignEach es env).length = is.length ∧ List.findIdx? (fun x => x.1) (assignEach es env) = none
  | [], [], _ => ⟨rfl, rfl⟩
  | i :: is, e :: es, h => by
    cases e with
    | Name y p =>
      rw [tgtAll, Bool.and_eq_true] at h
      obtain ⟨a, b⟩ := asg_len (env := env) h.2
      refine ⟨by simp only [assignEach, List.length_cons, a], ?_⟩
      simp only [assignEach, List.findIdx?_cons, b]
      rfl
    | _ => cases h
  | [], _ :: _, h => by cases h
  | _ :: _, [], h => by cases h
theorem storeAll_len : ∀ {is : List Nat} {ds : List D} {s s' : S}, storeAll is ds s = some s' → ds.length = is.length
  | [], [], _, _, _ => rfl
  | i :: is, d :: ds, _, _, h => by rw [List.length_cons, List.length_cons, storeAll_len (is := is) h]
  | [], _ :: _, _, _, h => by cases h
  | _ :: _, [], _, _, h => by cases h
theorem g_tup (o : XOk T cc X W) {is : List Nat} {es : List Expr} {k : Nat} {p : Pos} (h : tgtAll cc is es = true) : PG X (.Tuple es k p) (rdG T F (.tt is)) := by
  refine PG.wk (PG.or (pg_tup (n := is.length) o.calm (g_names (F := F) o h) (asg_len h).1 (asg_len h).2) (pg_lst (n := is.length) o.calm (g_names (F := F) o h) (asg_len h).1 (asg_len h).2)) fun v σ H Q hq => ?_
  obtain ⟨s, G, io, d, s', t, r, e, q⟩ := hq
  cases d with
  | tup ds =>
    obtain ⟨a, vs, rfl, q1, rr⟩ := r
    exact .inl ⟨a, vs, rfl, by rw [o.K]; exact Same.tup t.gh q1, by rw [rr.length, storeAll_len e], s, G, io, ds, s', t, rr, e, q⟩
  | lst ds =>
    obtain ⟨a, vs, rfl, q1, rr⟩ := r
    exact .inr ⟨a, vs, rfl, .of (t.gh _ _ q1), by rw [rr.length, storeAll_len e], s, G, io, ds, s', t, rr, e, q⟩
  | _ => cases e
end
end En

namespace En
open PySem PySem.Spec L2
section
variable {T : Tb} {cc : CC} {X : Cx} {W : WX} {F : Fr} {e l r c : Expr} {es : List Expr} {a b : E} {pos : Pos}
theorem s_var (o : XOk T cc X W) {i : Nat} {y : Str} (h : vis cc i y = true) : PE X (.Name y pos) (rd T F W (.var i)) := by
  obtain ⟨h1, h2, h3, h4⟩ := o.vis h
  refine PE.wk (pe_var h1 h2 h3 h4) fun σ H Q hq => ?_
  obtain ⟨s, G, io, t, hp⟩ := hq
  simp only [ev] at hp
  split at hp
  · rename_i d hd
    obtain ⟨v, e1, q⟩ := t.slot i _ hd
    exact ⟨v, e1, hp.v t q⟩
  · exact hp.elim
theorem s_mv (o : XOk T cc X W) {i : Nat} {y : Str} (h : vis cc i y = true) : PE X (.Name y pos) (rd T F W (.mv i)) := by
  obtain ⟨h1, h2, h3, h4⟩ := o.vis h
  refine PE.wk (pe_var h1 h2 h3 h4) fun σ H Q hq => ?_
  obtain ⟨s, G, io, t, hp⟩ := hq
  simp only [ev] at hp
  split at hp
  · rename_i ds hd
    obtain ⟨v, e1, a, rfl, q1, q2⟩ := t.slot i _ hd
    refine ⟨_, e1, hp a H G io (Same.refl _) (Pre.refl _) (t.weak (by simp) fun j c e => ?_) q1 q2.o fun j c e ho z => ?_⟩
    · by_cases hj : i = j
      · subst hj
        by_cases hi : i < s.r.length
        · rw [List.getElem?_set_self hi] at e; cases e
        · rw [List.getElem?_eq_none (by simpa using hi)] at e; cases e
      · rw [List.getElem?_set_ne hj] at e; exact e
    · have e : (s.r.set i none)[j]? = some (some c) := e
      by_cases hj : i = j
      · subst hj
        by_cases hi : i < s.r.length
        · rw [List.getElem?_set_self hi] at e; cases e
        · rw [List.getElem?_eq_none (by simpa using hi)] at e; cases e
      · rw [List.getElem?_set_ne hj] at e
        exact t.own i j _ _ _ hj hd e rfl ho e1 z
  · exact hp.elim
theorem s_cst {d : D} {k : Const} {j : Nat} (h : (match d, k with
    | .non, .none => true
    | .bl b, .bool c => b == c
    | .int i, .int m => i == m
    | .str x, .str y => decide (x = y)
    | _, _ => false) = true) : PE X (.Constant k j pos) (rd T F W (.cst d)) := by
  have fin : ∀ {v : V}, (∀ G io, Rp T.x G io d v) → flat d = true → ∀ σ H Q, rd T F W (.cst d) σ H Q → Q v H := fun {v} r f σ H Q hq => by
    obtain ⟨s, G, io, t, hp⟩ := hq
    simp only [ev, f, if_true] at hp
    exact hp.v t (r _ _)
  split at h
  · exact PE.wk pe_non (fin (fun _ _ => rfl) rfl)
  · have e := eq_of_beq h
    subst e
    exact PE.wk pe_bl (fin (fun _ _ => rfl) rfl)
  · have e := eq_of_beq h
    subst e
    exact PE.wk pe_int (fin (fun _ _ => rfl) rfl)
  · have e := of_decide_eq_true h
    subst e
    exact PE.wk pe_str (fin (fun _ _ => rfl) rfl)
  · cases h
theorem s_gv (o : XOk T cc X W) (t : TOk T) {g : Nat} {y : Str} (h : glo cc y = true) (hn : T.nt.gvn g = y) (h0 : y ≠ "") : PE X (.Name y pos) (rd T F W (.gv g)) := by
  obtain ⟨h1, h2, _⟩ := o.glo h
  obtain ⟨u, v, e1, e2, e3⟩ := t.gv g (by rw [hn]; exact h0)
  rw [hn, ← o.mg] at e1
  refine PE.wk (pe_glob h1 e1 e2 h2) fun σ H Q hq => ?_
  obtain ⟨s, G, io, t, hp⟩ := hq
  exact hp.v t (e3 G io)
theorem s_bop (o : XOk T cc X W) {op : Bop} (ha : PE X l (rd T F W a)) (hb : PE X r (rd T F W b)) : PE X (.BinOp l (opOf op) r pos) (rd T F W (.bop op a b)) := by
  refine PE.wk (pe_op (bop_ok (F := F) (W := W) o.K op) ha hb) fun σ H Q ⟨s, G, io, t, hp⟩ => ⟨s, G, io, t, ?_⟩
  refine Post.bnd hp fun d s v H1 G1 io1 sg si t1 r1 hp1 => ⟨s, G1, io1, t1, ?_⟩
  refine Post.bnd hp1 fun d2 s2 v2 H2 G2 io2 sg2 si2 t2 r2 hp2 => ?_
  exact ⟨σ, s2, G2, io2, d, d2, t2, r1.mono sg2 si2, r2, hp2⟩
theorem s_neg (o : XOk T cc X W) (ha : PE X l (rd T F W a)) : PE X (.UnaryOp .USub l pos) (rd T F W (.neg a)) := by
  refine PE.wk (pe_un un_neg ha) fun σ H Q ⟨s, G, io, t, hp⟩ => ⟨s, G, io, t, ?_⟩
  refine Post.bnd hp fun d s v H1 G1 io1 sg si t1 r1 hp1 => ?_
  split at hp1
  · rename_i i
    exact ⟨i, r1, hp1.v t1 rfl⟩
  · exact hp1.elim
theorem s_nt (ha : PE X l (rd T F W a)) : PE X (.UnaryOp .Not l pos) (rd T F W (.nt a)) := by
  refine PE.wk (pe_not ha) fun σ H Q ⟨s, G, io, t, hp⟩ => ⟨s, G, io, t, ?_⟩
  refine Post.bnd hp fun d s v H1 G1 io1 sg si t1 r1 hp1 => ?_
  split at hp1
  · rename_i i
    exact ⟨i, r1, hp1.v t1 rfl⟩
  · exact hp1.elim
theorem t_nt (ha : PT X l (rdT T F W a)) : PT X (.UnaryOp .Not l pos) (rdT T F W (.nt a)) := by
  refine PT.wk (pt_not ha) fun σ H Q ⟨s, G, io, t, hp⟩ => ⟨s, G, io, t, ?_⟩
  refine Post.bnd hp fun d s v H1 G1 io1 sg si t1 r1 hp1 => ?_
  split at hp1
  · rename_i i
    obtain ⟨b, e, q⟩ := hp1.v t1 rfl
    cases e
    exact ⟨i, r1, q⟩
  · exact hp1.elim
theorem s_band {es : List Expr} (ha : PE X l (rd T F W a)) (hb : PE X (.BoolOp .And (r :: es) pos) (rd T F W b)) : PE X (.BoolOp .And (l :: r :: es) pos) (rd T F W (.band a b)) := by
  refine PE.wk (pe_and ha hb) fun σ H Q ⟨s, G, io, t, hp⟩ => ⟨s, G, io, t, ?_⟩
  refine Post.bnd hp fun d s v H1 G1 io1 sg si t1 r1 hp1 => ?_
  split at hp1
  · rename_i k
    refine ⟨k, r1, ?_⟩
    cases k with
    | true => exact iteT ⟨s, G1, io1, t1, hp1⟩
    | false => exact iteF (hp1.v t1 rfl)
  · exact hp1.elim
theorem s_bor {es : List Expr} (ha : PE X l (rd T F W a)) (hb : PE X (.BoolOp .Or (r :: es) pos) (rd T F W b)) : PE X (.BoolOp .Or (l :: r :: es) pos) (rd T F W (.bor a b)) := by
  refine PE.wk (pe_or ha hb) fun σ H Q ⟨s, G, io, t, hp⟩ => ⟨s, G, io, t, ?_⟩
  refine Post.bnd hp fun d s v H1 G1 io1 sg si t1 r1 hp1 => ?_
  split at hp1
  · rename_i k
    refine ⟨k, r1, ?_⟩
    cases k with
    | true => exact iteT (hp1.v t1 rfl)
    | false => exact iteF ⟨s, G1, io1, t1, hp1⟩
  · exact hp1.elim
theorem w_band {es : List Expr} (ha : PT X l (rdT T F W a)) (hb : PW X (.BoolOp .And (r :: es) pos) (rdT T F W b)) : PW X (.BoolOp .And (l :: r :: es) pos) (rdT T F W (.band a b)) := by
  refine PW.wk (pw_and ha hb) fun σ H Q ⟨s, G, io, t, hp⟩ => ⟨s, G, io, t, ?_⟩
  refine Post.bnd hp fun d s v H1 G1 io1 sg si t1 r1 hp1 => ?_
  split at hp1
  · rename_i k
    refine ⟨k, r1, ?_⟩
    cases k with
    | true => exact iteT ⟨s, G1, io1, t1, hp1⟩
    | false =>
      obtain ⟨b, e, q⟩ := hp1.v t1 rfl
      cases e
      exact iteF q
  · exact hp1.elim
theorem w_bor {es : List Expr} (ha : PT X l (rdT T F W a)) (hb : PW X (.BoolOp .Or (r :: es) pos) (rdT T F W b)) : PW X (.BoolOp .Or (l :: r :: es) pos) (rdT T F W (.bor a b)) := by
  refine PW.wk (pw_or ha hb) fun σ H Q ⟨s, G, io, t, hp⟩ => ⟨s, G, io, t, ?_⟩
  refine Post.bnd hp fun d s v H1 G1 io1 sg si t1 r1 hp1 => ?_
  split at hp1
  · rename_i k
    refine ⟨k, r1, ?_⟩
    cases k with
    | true =>
      obtain ⟨b, e, q⟩ := hp1.v t1 rfl
      cases e
      exact iteT q
    | false => exact iteF ⟨s, G1, io1, t1, hp1⟩
  · exact hp1.elim
theorem w_one_and (ha : PT X l (rdT T F W a)) : PW X (.BoolOp .And [l] pos) (rdT T F W (.one a)) := pw_and1 ha
theorem w_one_or (ha : PT X l (rdT T F W a)) : PW X (.BoolOp .Or [l] pos) (rdT T F W (.one a)) := pw_or1 ha
theorem s_one {op : BoolOp} (ha : PE X l (rd T F W a)) : PE X (.BoolOp op [l] pos) (rd T F W (.one a)) := pe_one ha
theorem s_ite {k : E} (hc : PT X c (rdT T F W k)) (ha : PE X l (rd T F W a)) (hb : PE X r (rd T F W b)) : PE X (.IfExp c l r pos) (rd T F W (.ite k a b)) := by
  refine PE.wk (pe_ifExp hc ha hb) fun σ H Q ⟨s, G, io, t, hp⟩ => ⟨s, G, io, t, ?_⟩
  refine Post.bnd hp fun d s v H1 G1 io1 sg si t1 r1 hp1 => ?_
  split at hp1
  · rename_i k
    refine ⟨k, r1, ?_⟩
    cases k with
    | true => exact iteT ⟨s, G1, io1, t1, hp1⟩
    | false => exact iteF ⟨s, G1, io1, t1, hp1⟩
  · exact hp1.elim
theorem t_plain (ha : PE X e (rd T F W a)) (h : plainT e = true) : PT X e (rdT T F W a) := pt_val ha (isTrue_plain h)
theorem s_cmp (o : XOk T cc X W) {op : Cop} (hm : isSet r = false) (ha : PE X l (rd T F W a)) (hb : PE X r (rd T F W b)) : PE X (.Compare l [copOf op] [r] pos) (rd T F W (.cmp op a b)) := by
  refine PE.wk (pe_cmpR (cmp_ok (F := F) o.K o.hu op) ha hb (marks_no hm)) fun σ H Q ⟨s, G, io, t, hp⟩ => ⟨s, G, io, t, ?_⟩
  refine Post.bnd hp fun d s v H1 G1 io1 sg si t1 r1 hp1 => ⟨s, G1, io1, t1, ?_⟩
  refine Post.bnd hp1 fun d2 s2 v2 H2 G2 io2 sg2 si2 t2 r2 hp2 => ?_
  cases hc : cmpF op d d2 s2 with
  | none => rw [hc] at hp2; exact hp2.elim
  | some k =>
    rw [hc] at hp2
    exact ⟨σ, s2, G2, io2, d, d2, k, t2, r1.mono sg2 si2, r2, hc, hp2.v t2 rfl⟩
theorem t_cmp (o : XOk T cc X W) {op : Cop} (hm : isSet r = false) (ha : PE X l (rd T F W a)) (hb : PE X r (rd T F W b)) : PT X (.Compare l [copOf op] [r] pos) (rdT T F W (.cmp op a b)) := by
  refine PT.wk (pt_cmpR (cmp_ok (F := F) o.K o.hu op) ha hb (marks_no hm)) fun σ H Q ⟨s, G, io, t, hp⟩ => ⟨s, G, io, t, ?_⟩
  refine Post.bnd hp fun d s v H1 G1 io1 sg si t1 r1 hp1 => ⟨s, G1, io1, t1, ?_⟩
  refine Post.bnd hp1 fun d2 s2 v2 H2 G2 io2 sg2 si2 t2 r2 hp2 => ?_
  cases hc : cmpF op d d2 s2 with
  | none => rw [hc] at hp2; exact hp2.elim
  | some k =>
    rw [hc] at hp2
    exact ⟨σ, s2, G2, io2, d, d2, k, t2, r1.mono sg2 si2, r2, hc, hp2.v t2 rfl⟩
theorem isn_key {σ : L2.St} {H : Hp} {Q : VK} (hq : rd T F W (.isn a) σ H Q) : tIsN (rd T F W a) σ H Q := by
  obtain ⟨s, G, io, t, hp⟩ := hq
  refine ⟨s, G, io, t, ?_⟩
  refine Post.bnd hp fun d s v H1 G1 io1 sg si t1 r1 hp1 => ?_
  have key : ∀ b, (decide (v = V.non)) = b → Post T.x F W G1 io1 (some (.val (.bl b), s)) σ Q → Q (.bl (decide (v = V.non))) H1 := fun b e h => by rw [e]; exact h.v t1 rfl
  split at hp1
  · cases (show v = .non from r1)
    exact hp1.v t1 rfl
  · rename_i hd
    refine key false (decide_eq_false fun z => ?_) hp1
    subst z
    cases d with
    | non => exact hd rfl
    | bl b => cases r1
    | int b => cases r1
    | str b => cases r1
    | lst ds => obtain ⟨_, _, z, _⟩ := r1; cases z
    | fzl ds => obtain ⟨_, _, z, _⟩ := r1; cases z
    | tup ds => obtain ⟨_, _, z, _⟩ := r1; cases z
    | dct ks ds => obtain ⟨_, _, _, z, _⟩ := r1; cases z
    | obj k ns ds => obtain ⟨_, _, _, _, z, _⟩ := r1; cases z
    | adr n => obtain ⟨_, z, _⟩ := r1; cases z
theorem nin_key {σ : L2.St} {H : Hp} {Q : VK} (hq : rd T F W (.nin a) σ H Q) : tNotN (rd T F W a) σ H Q := by
  obtain ⟨s, G, io, t, hp⟩ := hq
  refine ⟨s, G, io, t, ?_⟩
  refine Post.bnd hp fun d s v H1 G1 io1 sg si t1 r1 hp1 => ?_
  have key : ∀ b, (!decide (v = V.non)) = b → Post T.x F W G1 io1 (some (.val (.bl b), s)) σ Q → Q (.bl (!decide (v = V.non))) H1 := fun b e h => by rw [e]; exact h.v t1 rfl
  split at hp1
  · cases (show v = .non from r1)
    exact hp1.v t1 rfl
  · rename_i hd
    refine key true (by
      rw [decide_eq_false fun z => ?_]; rfl
      subst z
      cases d with
      | non => exact hd rfl
      | bl b => cases r1
      | int b => cases r1
      | str b => cases r1
      | lst ds => obtain ⟨_, _, z, _⟩ := r1; cases z
      | fzl ds => obtain ⟨_, _, z, _⟩ := r1; cases z
      | tup ds => obtain ⟨_, _, z, _⟩ := r1; cases z
      | dct ks ds => obtain ⟨_, _, _, z, _⟩ := r1; cases z
      | obj k ns ds => obtain ⟨_, _, _, _, z, _⟩ := r1; cases z
      | adr n => obtain ⟨_, z, _⟩ := r1; cases z) hp1
theorem s_isn (ha : PE X l (rd T F W a)) {j : Nat} {p' : Pos} : PE X (.Compare l [.Is] [.Constant .none j p'] pos) (rd T F W (.isn a)) := PE.wk (pe_cmp (pc_isN ha) rfl) fun σ H Q hq => isn_key hq
theorem s_nin (ha : PE X l (rd T F W a)) {j : Nat} {p' : Pos} : PE X (.Compare l [.IsNot] [.Constant .none j p'] pos) (rd T F W (.nin a)) := PE.wk (pe_cmp (pc_notN ha) rfl) fun σ H Q hq => nin_key hq
theorem s_isn2 (ha : PE X l (rd T F W a)) {j : Nat} {p' : Pos} : PE X (.Compare l [.Is] [.Constant .none j p'] pos) (rd T F W (.isn a)) ∧ PT X (.Compare l [.Is] [.Constant .none j p'] pos) (rdT T F W (.isn a)) :=
  ⟨s_isn ha, PT.wk (pt_cmp (pc_isN ha) rfl) fun σ H Q hq => isn_key hq⟩
theorem s_nin2 (ha : PE X l (rd T F W a)) {j : Nat} {p' : Pos} : PE X (.Compare l [.IsNot] [.Constant .none j p'] pos) (rd T F W (.nin a)) ∧ PT X (.Compare l [.IsNot] [.Constant .none j p'] pos) (rdT T F W (.nin a)) :=
  ⟨s_nin ha, PT.wk (pt_cmp (pc_notN ha) rfl) fun σ H Q hq => nin_key hq⟩
end
end En

namespace En
open PySem PySem.Spec L2
theorem lastMarks_no {o p : CmpOp} {l r : Expr} (h : isSet r = false) : lastMarks [o, p] [l, r] = false := marks_no h
section
variable {T : Tb} {cc : CC} {X : Cx} {W : WX} {F : Fr} {e l r c : Expr} {es : List Expr} {a b : E} {pos : Pos}
theorem s_chn (o : XOk T cc X W) {op op2 : Cop} {k : E} (hm : isSet c = false) (ha : PE X l (rd T F W a)) (hb : PE X r (rd T F W b)) (hc : PE X c (rd T F W k)) :
    PE X (.Compare l [copOf op, copOf op2] [r, c] pos) (rd T F W (.chn op op2 a b k)) ∧ PT X (.Compare l [copOf op, copOf op2] [r, c] pos) (rdT T F W (.chn op op2 a b k)) := by
  have key : ∀ σ H Q, rd T F W (.chn op op2 a b k) σ H Q → tChain (rC T.x F op) (rC T.x F op2) (rd T F W a) (rd T F W b) (rd T F W k) σ H Q := fun σ H Q ⟨s, G, io, t, hp⟩ => ⟨s, G, io, t, by
    refine Post.bnd hp fun d s v H1 G1 io1 sg si t1 r1 hp1 => ⟨s, G1, io1, t1, ?_⟩
    refine Post.bnd hp1 fun d2 s2 v2 H2 G2 io2 sg2 si2 t2 r2 hp2 => ?_
    split at hp2
    · rename_i hcm
      refine ⟨σ, s2, G2, io2, d, d2, true, t2, r1.mono sg2 si2, r2, hcm, true, rfl, iteT ⟨s2, G2, io2, t2, ?_⟩⟩
      refine Post.bnd hp2 fun d3 s3 v3 H3 G3 io3 sg3 si3 t3 r3 hp3 => ?_
      cases hc3 : cmpF op2 d2 d3 s3 with
      | none => rw [hc3] at hp3; exact hp3.elim
      | some q =>
        rw [hc3] at hp3
        exact ⟨σ, s3, G3, io3, d2, d3, q, t3, r2.mono sg3 si3, r3, hc3, hp3.v t3 rfl⟩
    · rename_i hcm
      exact ⟨σ, s2, G2, io2, d, d2, false, t2, r1.mono sg2 si2, r2, hcm, false, rfl, iteF (hp2.v t2 rfl)⟩
    · exact hp2.elim⟩
  refine ⟨PE.wk (pe_chain (cmp_ok (F := F) o.K o.hu op) (cmp_ok (F := F) o.K o.hu op2) ha hb hc (lastMarks_no hm)) key, PT.wk (pt_chain (cmp_ok (F := F) o.K o.hu op) (cmp_ok (F := F) o.K o.hu op2) ha hb hc (lastMarks_no hm)) fun σ H Q hq => ?_⟩
  exact key σ H _ hq
theorem s_ix (o : XOk T cc X W) (hs : PlainIx r) (ha : PE X l (rd T F W a)) (hb : PE X r (rd T F W b)) : PE X (.Subscript l r pos) (rd T F W (.ix a b)) := by
  refine PE.wk (pe_ix (ix_ok (F := F) o.K o.hu) ha hb hs) fun σ H Q ⟨s, G, io, t, hp⟩ => ⟨s, G, io, t, ?_⟩
  refine Post.bnd hp fun d s v H1 G1 io1 sg si t1 r1 hp1 => ⟨s, G1, io1, t1, ?_⟩
  refine Post.bnd hp1 fun d2 s2 v2 H2 G2 io2 sg2 si2 t2 r2 hp2 => ?_
  cases hc : ixF d d2 s2 with
  | none => rw [hc] at hp2; exact hp2.elim
  | some y =>
    rw [hc] at hp2
    exact ⟨σ, s2, G2, io2, d, d2, y, t2, r1.mono sg2 si2, r2, hc, fun z rz => hp2.v t2 rz⟩
def rdO (T : Tb) (F : Fr) (W : WX) (c : E) : TO := fun σ H Q => match isAbs c with
  | true => Q none H
  | false => rd T F W c σ H fun v H' => ∃ i, v = .int i ∧ Q (some i) H'
theorem o_abs : PO X none (rdO T F W .abs) := (po_none : PO X none tNoPart)
theorem o_some (h : PE X e (rd T F W a)) (hn : isAbs a = false) : PO X (some e) (rdO T F W a) := by
  have h := po_some h
  exact ⟨fun pins s σ H Q I q => h.run pins s σ H Q I (by
    unfold rdO at q
    rw [hn] at q
    exact q)⟩
theorem part_step {G H : Hp} {io : List Addr} {σ : L2.St} {s : S} {k : Option Int → S → Res} {Q : VK} {R : Option Int → Hp → Prop} (t : StR T.x F s G io σ H) (hp : Post T.x F W G io (prt (isAbs a) (ev T.P T.Gm a s) s k) σ Q)
    (hk : ∀ l s' H' G' io', Same G G' → Pre io io' → StR T.x F s' G' io' σ H' → Post T.x F W G' io' (k l s') σ Q → R l H') : rdO T F W a σ H R := by
  unfold rdO
  unfold prt at hp
  cases h : isAbs a with
  | true =>
    rw [h] at hp
    exact hk none s H G io (Same.refl _) (Pre.refl _) t hp
  | false =>
    rw [h] at hp
    refine ⟨s, G, io, t, ?_⟩
    refine Post.bnd hp fun d s v H1 G1 io1 sg si t1 r1 hp1 => ?_
    split at hp1
    · rename_i i
      exact ⟨i, r1, hk _ _ _ _ _ sg si t1 hp1⟩
    · exact hp1.elim
theorem s_sl (o : XOk T cc X W) {lo hi : E} {p2 : Pos} {ol oh : Option Expr} (ha : PE X l (rd T F W a)) (hl : PO X ol (rdO T F W lo)) (hh : PO X oh (rdO T F W hi)) : PE X (.Subscript l (.Slice ol oh none p2) pos) (rd T F W (.sl a lo hi)) := by
  refine PE.wk (pe_slice (sl_ok (F := F) (W := W) o.K) ha hl hh) fun σ H Q ⟨s, G, io, t, hp⟩ => ⟨s, G, io, t, ?_⟩
  refine Post.bnd hp fun d s v H1 G1 io1 sg si t1 r1 hp1 => ?_
  refine part_step t1 hp1 fun l s2 H2 G2 io2 sg2 si2 t2 hp2 => ?_
  refine part_step t2 hp2 fun h s3 H3 G3 io3 sg3 si3 t3 hp3 => ?_
  exact ⟨σ, s3, G3, io3, d, t3, (r1.mono sg2 si2).mono sg3 si3, hp3⟩
theorem a_nil : PA X [] (rdA T F W .nil) := PA.wk pa_nil fun σ H Q ⟨s, G, io, t, hp⟩ => hp [] H G io (Same.refl _) (Pre.refl _) t .nil
theorem a_cns {es : List Expr} (hs : isStar e = false) (ha : PE X e (rd T F W a)) (hb : PA X es (rdA T F W b)) : PA X (e :: es) (rdA T F W (.cns a b)) := by
  refine PA.wk (pa_cons ha hb (star_no hs)) fun σ H Q ⟨s, G, io, t, hp⟩ => ⟨s, G, io, t, ?_⟩
  refine PostA.bnd hp fun d s v H1 G1 io1 sg si t1 r1 hp1 => ⟨s, G1, io1, t1, ?_⟩
  refine PostA.bndA hp1 fun ds s2 vs H2 G2 io2 sg2 si2 t2 r2 hp2 => ?_
  exact hp2 _ H2 G2 io2 (Same.refl _) (Pre.refl _) t2 (.cons (r1.mono sg2 si2) r2)
theorem s_lst {es : List Expr} (ha : PA X es (rdA T F W a)) : PE X (.List es pos) (rd T F W (.lst a)) := by
  refine PE.wk (pe_lst ha) fun σ H Q ⟨s, G, io, t, hp⟩ => ⟨s, G, io, t, ?_⟩
  refine Post.bndA hp fun ds s vs H1 G1 io1 sg si t1 r1 hp1 => ?_
  split at hp1
  · rename_i hl
    exact ⟨by rw [r1.length]; exact big_line hl, hp1.f t1 r1⟩
  · exact hp1.elim
theorem s_tpl {es : List Expr} {k : Nat} (ha : PA X es (rdA T F W a)) : PE X (.Tuple es k pos) (rd T F W (.tpl a)) := by
  refine PE.wk (pe_tup ha) fun σ H Q ⟨s, G, io, t, hp⟩ => ⟨s, G, io, t, ?_⟩
  refine Post.bndA hp fun ds s vs H1 G1 io1 sg si t1 r1 hp1 => ?_
  split at hp1
  · rename_i hl
    exact ⟨by rw [r1.length]; exact big_line hl, hp1.tn t1 r1⟩
  · exact hp1.elim
theorem s_bi (o : XOk T cc X W) (t : TOk T) {k : Bi} {p : Pos} {es : List Expr} (hg : glo cc (biN k) = true) (hs : (e :: es).all (fun e => !isStar e) = true) (ha : PA X (e :: es) (rdA T F W a)) :
    PE X (.Call (.Name (biN k) p) (e :: es) [] pos) (rd T F W (.bi k a)) := by
  obtain ⟨h1, h2, h3⟩ := o.glo hg
  rw [List.all_cons, Bool.and_eq_true] at hs
  have hs1 : isStar e = false := by simpa using hs.1
  have hm : X.mg (biN k) = none := o.blt t (by cases k <;> decide +kernel)
  have key : ∀ σ H Q, rd T F W (.bi k a) σ H Q → tCB (rBi T.x F W k) (rdA T F W a) σ H Q := fun σ H Q ⟨s, G, io, t, hp⟩ => ⟨s, G, io, t, by
    refine Post.bndA hp fun ds s vs H1 G1 io1 sg si t1 r1 hp1 => ?_
    exact ⟨σ, s, G1, io1, ds, t1, r1, hp1⟩⟩
  have B := bi_ok (F := F) (W := W) o.K o.calm k
  have hst := star_no (es := es) (env := X.env) hs1
  have hpl := star_any (env := X.env) (pos := pos) hs.2
  cases k with
  | len => exact PE.wk (pe_callB B h1 hm PySem.boot_len ha h3 h2 hst hpl) key
  | all => exact PE.wk (pe_callB B h1 hm (by decide +kernel) ha h3 h2 hst hpl) key
  | sorted => exact PE.wk (pe_callB B h1 hm (by decide +kernel) ha h3 h2 hst hpl) key
  | any => exact PE.wk (pe_callB B h1 hm (by decide +kernel) ha h3 h2 hst hpl) key
  | int => exact PE.wk (pe_callTy B h1 hm (by decide +kernel) ha h3 h2 hst hpl) key
  | list => exact PE.wk (pe_callTy B h1 hm (by decide +kernel) ha h3 h2 hst hpl) key
  | dict => exact PE.wk (pe_callTy B h1 hm (by decide +kernel) ha h3 h2 hst hpl) key
  | tuple => exact PE.wk (pe_callTy B h1 hm (by decide +kernel) ha h3 h2 hst hpl) key
  | str => exact PE.wk (pe_callTy B h1 hm (by decide +kernel) ha h3 h2 hst hpl) key
  | bool => exact PE.wk (pe_callTy B h1 hm (by decide +kernel) ha h3 h2 hst hpl) key
  | repr => exact PE.wk (pe_callB B h1 hm (by decide +kernel) ha h3 h2 hst hpl) key
def tyC (nt : NT) : Ty → Str
  | .own c => nt.cn c
  | t => tyN t
def tyW (x : SX) : Ty → V
  | .own c => .ref (x.ca c)
  | t => .ty (tyB t)
theorem tyW_cls (x : SX) (k : Ty) : ClsV (tyW x k) (tyV x k) := by
  cases k <;> first | exact .ty _ | exact .own _
theorem s_ty (o : XOk T cc X W) (t : TOk T) {k : Ty} {p : Pos} (hk : tyC T.nt k ≠ "") (hg : glo cc (tyC T.nt k) = true) : lvT T.x k = true ∧ PE X (.Name (tyC T.nt k) p) (tC (tyW T.x k)) := by
  obtain ⟨h1, h2, h3⟩ := o.glo hg
  cases k with
  | own c =>
    obtain ⟨e1, e2⟩ := t.cn c hk
    exact ⟨by show T.x.live c = true; rw [t.lv]; exact e2, pe_glob h1 (by rw [o.mg]; exact e1) rfl h2⟩
  | int => exact ⟨rfl, pe_bltn h1 (o.blt t (show ("int" : Str) ∈ bltNames by decide +kernel)) (show bootBuiltins ("int" : Str) = some (.type "int") by decide +kernel) rfl h3 h2⟩
  | bool => exact ⟨rfl, pe_bltn h1 (o.blt t (show ("bool" : Str) ∈ bltNames by decide +kernel)) (show bootBuiltins ("bool" : Str) = some (.type "bool") by decide +kernel) rfl h3 h2⟩
  | str => exact ⟨rfl, pe_bltn h1 (o.blt t (show ("str" : Str) ∈ bltNames by decide +kernel)) (show bootBuiltins ("str" : Str) = some (.type "str") by decide +kernel) rfl h3 h2⟩
  | list => exact ⟨rfl, pe_bltn h1 (o.blt t (show ("list" : Str) ∈ bltNames by decide +kernel)) (show bootBuiltins ("list" : Str) = some (.type "list") by decide +kernel) rfl h3 h2⟩
  | tuple => exact ⟨rfl, pe_bltn h1 (o.blt t (show ("tuple" : Str) ∈ bltNames by decide +kernel)) (show bootBuiltins ("tuple" : Str) = some (.type "tuple") by decide +kernel) rfl h3 h2⟩
  | dict => exact ⟨rfl, pe_bltn h1 (o.blt t (show ("dict" : Str) ∈ bltNames by decide +kernel)) (show bootBuiltins ("dict" : Str) = some (.type "dict") by decide +kernel) rfl h3 h2⟩
theorem s_isi (o : XOk T cc X W) (t : TOk T) {k : Ty} {p p2 : Pos} (hs : isStar e = false) (hi : glo cc "isinstance" = true) (hk : tyC T.nt k ≠ "") (hg : glo cc (tyC T.nt k) = true) (ha : PE X e (rd T F W a)) :
    PE X (.Call (.Name "isinstance" p) [e, .Name (tyC T.nt k) p2] [] pos) (rd T F W (.isi a [k])) := by
  obtain ⟨h1, h2, h3⟩ := o.glo hi
  obtain ⟨e1, hn⟩ := s_ty (p := p2) o t hk hg
  have hm : X.mg "isinstance" = none := o.blt t (by decide +kernel)
  refine PE.wk (pe_callB call_isi h1 hm (by decide +kernel) (pa_cons ha (pa_cons hn pa_nil) (star_no hs)) h3 h2 (star_no hs)) fun σ H Q ⟨s, G, io, st, hp⟩ => ⟨s, G, io, st, ?_⟩
  refine Post.bnd hp fun d s v H1 G1 io1 sg si t1 r1 hp1 => ?_
  cases hc : tyAny (s.v d) [k] with
  | none => rw [hc] at hp1; exact hp1.elim
  | some q =>
    rw [hc] at hp1
    obtain ⟨c, hcl⟩ := tyAny_cl (x := T.x) hc
    obtain ⟨ty, hd⟩ := tyx_of t.ko t1 r1 hcl
    have hone : PySem.W.kitOne T.x.K c (tyV T.x k) = some q := by
      simp only [tyAny] at hc
      split at hc
      · rename_i b1 b2 z1 z2
        cases hc
        cases z2
        obtain ⟨c', z3, z4⟩ := tyIs_kit t.ko hd e1 z1
        rw [hcl] at z3; cases z3
        rw [Bool.or_false]
        exact z4
      · cases hc
    rw [← o.K] at ty hone
    exact ⟨v, tyW T.x k, c, tyV T.x k, q, rfl, tyW_cls _ _, ty, hone, hp1.v t1 rfl⟩
end
end En

namespace En
open PySem PySem.Spec L2
section
variable {T : Tb} {cc : CC} {X : Cx} {W : WX} {F : Fr} {e l r c : Expr} {es : List Expr} {a b : E} {pos : Pos}
def tysAre (nt : NT) : List Ty → List Expr → Bool
  | [], [] => true
  | t :: ts, .Name y _ :: es => decide (tyC nt t = y) && decide (y ≠ "") && tysAre nt ts es
  | _, _ => false
theorem s_tys (o : XOk T cc X W) (t : TOk T) : ∀ {ts : List Ty} {es : List Expr}, tysAre T.nt ts es = true → (ts.all fun k => glo cc (tyC T.nt k)) = true → ∃ cs, PA X es (fun σ H Q => Q cs H) ∧ Paired ClsV cs (ts.map (tyV T.x)) ∧ ts.all (lvT T.x) = true
  | [], [], _, _ => ⟨[], pa_nil, .nil, rfl⟩
  | k :: ts, e :: es, h, g => by
    cases e with
    | Name y p =>
      simp only [tysAre, Bool.and_eq_true, decide_eq_true_eq] at h
      obtain ⟨⟨h1, h2⟩, h3⟩ := h
      rw [List.all_cons, Bool.and_eq_true] at g
      subst h1
      obtain ⟨cs, q1, q2, q3⟩ := s_tys o t h3 g.2
      obtain ⟨e1, hn⟩ := s_ty (p := p) o t h2 g.1
      refine ⟨tyW T.x k :: cs, PA.wk (pa_cons hn q1 (star_no rfl)) fun σ H Q hq => hq, .cons (tyW_cls _ _) q2, ?_⟩
      rw [List.all_cons, e1, q3]
      rfl
    | _ => cases h
  | [], _ :: _, h, _ => by cases h
  | _ :: _, [], h, _ => by cases h
theorem s_isis (o : XOk T cc X W) (t : TOk T) {k : Ty} {ts : List Ty} {p p2 : Pos} {es : List Expr} {j : Nat} (hs : isStar e = false) (hi : glo cc "isinstance" = true) (hk : tysAre T.nt (k :: ts) es = true) (hg : ((k :: ts).all fun k => glo cc (tyC T.nt k)) = true)
    (hl : (k :: ts).length ≤ 1000) (ha : PE X e (rd T F W a)) : PE X (.Call (.Name "isinstance" p) [e, .Tuple es j p2] [] pos) (rd T F W (.isi a (k :: ts))) := by
  obtain ⟨h1, h2, h3⟩ := o.glo hi
  obtain ⟨cs, q1, q2, q3⟩ := s_tys o t hk hg
  have hm : X.mg "isinstance" = none := o.blt t (by decide +kernel)
  refine PE.wk (pe_callB call_isiT h1 hm (by decide +kernel) (pa_cons ha (pa_cons (pe_tup q1) pa_nil) (star_no hs)) h3 h2 (star_no hs)) fun σ H Q ⟨s, G, io, st, hp⟩ => ⟨s, G, io, st, ?_⟩
  refine Post.bnd hp fun d s v H1 G1 io1 sg si t1 r1 hp1 => ?_
  cases hc : tyAny (s.v d) (k :: ts) with
  | none => rw [hc] at hp1; exact hp1.elim
  | some q =>
    rw [hc] at hp1
    have lc : cs.length ≤ sizeLine := by
      have := Paired.length q2
      rw [this, List.length_map]
      exact Nat.le_of_lt (small1000 hl)
    refine ⟨lc, fun tp hn => ?_⟩
    obtain ⟨c, hcl⟩ := tyAny_cl (x := T.x) hc
    obtain ⟨t2, sg2⟩ := t1.newfast (o := .tup cs) hn
    obtain ⟨ty, hd⟩ := tyx_of t.ko t2 (r1.mono sg2 (Pre.refl _)) hcl
    have hk2 := tyAny_kit t.ko hd hcl q3 hc
    rw [← o.K] at ty hk2
    exact ⟨v, tp, cs, c, _, q, rfl, upd_same, q2, ty, hk2, (hp1.anti sg2 (Pre.refl _)).v t2 rfl⟩
theorem pe_callSD0 {CX : CXT} {k : Nat} {f : Addr} {fd : FuncData} {ps : List Str} {sp : Sp} {dvs : List V} {ds : List Value} {E : L2.St → XK} {x : Str} {p : Pos} (Fn : FnOk X.prog X.w X.K X.mg X.base CX k f fd ps sp) (hr : Room k X.A) (hg : Gl X x) (hm : X.mg x = some (.ref f))
    (hk : PySem.W.keepIn X.K (.ref f) = true) (hb : Binds X.K fd ps ds) (hd : Vals dvs ds) (hx : ∀ σ, PassesAt CX X σ (E σ)) (hdb : (x == ("__debug__" : Str)) = false) : PE X (.Call (.Name x p) [] [] pos) (tCallSD sp dvs E tNil) := by
  refine ⟨fun pins s σ H Q I h => ?_⟩
  refine wpAny_Call_Name_kw (ld_glob I hg hm ?_ hdb)
  exact PySem.W.callWith_K0 I.kIn hk (run_fnSD (us := []) Fn hr hb hd (hx σ) I .nil h)
theorem post_call {f n : Nat} {σ : L2.St} {s : S} {G H : Hp} {io : List Addr} {ds : List D} {vs : List V} {Q : VK} (t : StR T.x F s G io σ H) (r : RpL T.x G io ds vs) (hn : ∀ ds m r, T.P f ds m = some r → ds.length = n) (hp : Post T.x F W G io (callF T.P f ds s) σ Q) :
    spOf T f n vs H Q (WE W σ) := by
  have hl : vs.length = n := by
    rw [r.length]
    cases hc : T.P f ds s.m with
    | none => unfold callF at hp; rw [hc] at hp; exact hp.elim
    | some q => exact hn _ _ _ hc
  refine ⟨hl, ds, s.m, G, io, t.gt, t.mem, r, ?_⟩
  unfold callF at hp
  unfold PostF
  split at hp
  · rename_i d m he
    try rw [he]
    intro v H' G' io' ff rv
    obtain ⟨t', sg⟩ := t.call ff
    exact hp v H' G' io' sg ff.2.2.2.2.1 t' rv
  · rename_i d m he
    try rw [he]
    intro p H' G' io' ff ni hn ⟨ws, h, e1, e2, e3⟩
    obtain ⟨t', sg⟩ := t.call ff
    obtain ⟨_, _, hf, _, ho⟩ := t.new (a := p) (o := .lst []) hn
    exact hp p H' G' io' sg ff.2.2.2.2.1 t' ni ⟨ws, h, e1, e2, hf, e3⟩ ho
  · rename_i k ns es m he
    try rw [he]
    intro cls dd H' G' io' ff ex
    obtain ⟨t', sg⟩ := t.call ff
    exact hp cls dd H' G' io' sg ff.2.2.2.2.1 t' ex
  · exact hp.elim
theorem s_cal (o : XOk T cc X W) (t : TOk T) {f : Nat} {p : Pos} {es : List Expr} (hg : glo cc (T.nt.fnm f) = true) (hlv : T.nt.isF f = true) (hne : es.isEmpty = false) (hs : es.all (fun e => !isStar e) = true) (ha : PA X es (rdA T F W a)) :
    PE X (.Call (.Name (T.nt.fnm f) p) es [] pos) (rd T F W (.cal f a)) := by
  obtain ⟨h1, h2, h3⟩ := o.glo hg
  obtain ⟨g, fd, ps, hm, hk, hF, hb, har⟩ := t.fn f hlv
  have hm' : X.mg (T.nt.fnm f) = some (.ref g) := by rw [o.mg]; exact hm
  have hF' : FnOk X.prog X.w X.K X.mg X.base (L2.CX X.prog X.w) T.lv g fd ps (spOf T f ps.length) := by
    rw [o.prog, o.w, o.K, o.mg, o.base]
    exact hF
  have hk' : PySem.W.keepIn X.K (.ref g) = true := by rw [o.K]; exact hk
  have hb' : Binds X.K fd ps [] := by rw [o.K]; exact hb
  have hr := o.room
  have key : ∀ σ H Q, rd T F W (.cal f a) σ H Q → tCallSD (spOf T f ps.length) [] (WE W) (rdA T F W a) σ H Q := fun σ H Q ⟨s, G, io, t, hp⟩ => ⟨s, G, io, t, by
    refine Post.bndA hp fun ds s vs H1 G1 io1 sg si t1 r1 hp1 => ?_
    have q := post_call (n := ps.length) t1 r1 har hp1
    rw [List.append_nil]
    exact q⟩
  cases es with
  | nil => cases hne
  | cons e es =>
    rw [List.all_cons, Bool.and_eq_true] at hs
    have hs1 : isStar e = false := by simpa using hs.1
    exact PE.wk (pe_callSD hF' hr h1 hm' hk' hb' .nil (fun σ => passAt o.tk σ) ha h2 (star_no hs1) (star_any hs.2)) key
theorem s_cal0 (o : XOk T cc X W) (t : TOk T) {f : Nat} {p : Pos} (hg : glo cc (T.nt.fnm f) = true) (hlv : T.nt.isF f = true) : PE X (.Call (.Name (T.nt.fnm f) p) [] [] pos) (rd T F W (.cal f .nil)) := by
  obtain ⟨h1, h2, h3⟩ := o.glo hg
  obtain ⟨g, fd, ps, hm, hk, hF, hb, har⟩ := t.fn f hlv
  have hm' : X.mg (T.nt.fnm f) = some (.ref g) := by rw [o.mg]; exact hm
  have hF' : FnOk X.prog X.w X.K X.mg X.base (L2.CX X.prog X.w) T.lv g fd ps (spOf T f ps.length) := by
    rw [o.prog, o.w, o.K, o.mg, o.base]
    exact hF
  have hk' : PySem.W.keepIn X.K (.ref g) = true := by rw [o.K]; exact hk
  have hb' : Binds X.K fd ps [] := by rw [o.K]; exact hb
  refine PE.wk (pe_callSD0 hF' (o.room) h1 hm' hk' hb' .nil (fun σ => passAt o.tk σ) h2) fun σ H Q ⟨s, G, io, t, hp⟩ => ?_
  exact post_call (n := ps.length) t .nil har hp
end
end En

namespace En
open PySem PySem.Spec PyProof.Rows L2
set_option maxHeartbeats 1000000 in
theorem enu_new {v : Value} {o : Obj} {J : Heap → Prop} (B : Begins v o J) :
    Meets (Builtin.«enumerate.__new__» ⟨[.type "enumerate", v], []⟩) (fun _ R s => J s.heap ∧
      R (.ok (.ret (.ref (s.heap.push o).objs.size))) { s with heap := (s.heap.push o).push { cls := .type "enumerate", data := .fields #[.none, .bool false, .ref s.heap.objs.size, rawInt 0, .none, .none] } }) :=
  .of_wp fun pr wd Ar Rs st hyp => by
    obtain ⟨hp, gn, dr, tk, os⟩ := st
    obtain ⟨hj, hyp⟩ := hyp
    have hsub := sub_enumerate
    have q1 : ∀ {A' : Around} {E : Value → Shared → Prop} {Q : Value → Shared → Prop}, Q (.ref hp.objs.size) ⟨hp.push o, gn, dr, tk, os⟩ → wpAny (model pr wd) A' (pyIter v) Q E ⟨hp, gn, dr, tk, os⟩ :=
      fun q => B.iter pr wd _ _ ⟨hp, gn, dr, tk, os⟩ _ hj q
    wp_walk using q1
    refine wpAny_stack_any fun st => wpAny_pure ?_
    split
    · rename_i c _ _ _ _ _
      by_cases hc : (c == Value.type "enumerate") = true <;> simp only [hc] <;> (wp_walk using q1) <;> exact ⟨_, rfl, hyp⟩
    · (wp_walk using q1) <;> exact ⟨_, rfl, hyp⟩
section
variable {prog : Program} {w : World} {A : Around} {E : Value → Shared → Prop} {s : Shared}
theorem enu_call {v : Value} {o : Obj} {J : Heap → Prop} {Q : Value → Shared → Prop} (B : Begins v o J) (hj : J s.heap)
    (h : ∀ h', IsEnum h' (s.heap.objs.size + 1) s.heap.objs.size 0 .none → h'.get? s.heap.objs.size = some o → h'.objs.size = s.heap.objs.size + 2 →
      (∀ b u, s.heap.get? b = some u → h'.get? b = some u) → Q (.ref (s.heap.objs.size + 1)) { s with heap := h' }) :
    wpAny (model prog w) A (call (.type "enumerate") [v]) Q E s := by
  refine callType_new F.called_enumerate (by decide) (F.typeCall_enumerate_1 _) (F.newCall_enumerate_1 _) (fun obj => F.args_object_init_2 obj _) F.entry_enumerate_new (enu_new B) ⟨hj, ?_⟩
  have hz : (s.heap.push o).objs.size = s.heap.objs.size + 1 := Heap.size_push ..
  show _ ∧ _
  rw [hz]
  have he : IsEnum ((s.heap.push o).push { cls := .type "enumerate", data := .fields #[.none, .bool false, .ref s.heap.objs.size, rawInt 0, .none, .none] }) (s.heap.objs.size + 1) s.heap.objs.size 0 .none := by
    have z := Heap.get?_push_size (s.heap.push o) (o := { cls := .type "enumerate", data := .fields #[.none, .bool false, .ref s.heap.objs.size, rawInt 0, .none, .none] }) rfl
    rw [hz] at z
    exact z
  exact ⟨⟨_, he, rfl⟩, h _ he (Heap.get?_push_of_some _ (Heap.get?_push_size _ B.free)) (by rw [Heap.size_push, hz]) fun b u z => Heap.get?_push_of_some _ (Heap.get?_push_of_some _ z)⟩
end
def IteT (K : PySem.W.Frag) (a : Addr) : It :=
  ⟨fun i H => ∃ (xs : List V) (x : V), SqT K H a xs ∧ xs[i]? = some x, fun i H v H' => ∃ T x, v = .ref T ∧ H T = none ∧ H' = upd H T (.tup [.int (i : Nat), x]) ∧ ∀ xs, SqT K H a xs → xs[i]? = some x, fun i H => ∃ xs : List V, SqT K H a xs ∧ xs.length ≤ i⟩
theorem turn_enuT {P : Program} {w : World} {K : PySem.W.Frag} {elts : List Expr} {kk : Nat} {tpos : Pos} (a e it : Addr) :
    Turn P w K (.Tuple elts kk tpos) (IteT K a) [e, it] e (fun i h => (∃ old, IsEnum h e it ((i : Nat) : Int) old) ∧ h.IsTupleIter it a i ∧ e ≠ it ∧ a ≠ it ∧ e ≠ a) where
  mem := by simp
  obj := fun i h st b hb => by
    obtain ⟨⟨old, he⟩, ⟨o, ho, hc, hd⟩, _⟩ := st
    rcases (show b = e ∨ b = it by simpa using hb) with z | z
    · rw [z]; exact ⟨_, he, fun v q => nomatch q⟩
    · rw [z]; exact ⟨o, ho, fun v q => by rw [hd] at q; cases q⟩
  keep := fun i h h' st k => by
    obtain ⟨⟨old, he⟩, hi, n1⟩ := st
    exact ⟨⟨old, k e (by simp) _ he⟩, hi.at fun o q => k it (by simp) o q, n1⟩
  item := by
    intro X hP hw hK hc i pins s σ H E I hf st hg
    subst hP hw hK
    obtain ⟨⟨old, he⟩, hit, n1, n2, n3⟩ := st
    obtain ⟨xs, x, hq, hx⟩ := hg
    obtain ⟨its, rv, p, hz⟩ := I.tuple hq
    obtain ⟨u, hu, ru⟩ := rv.get hx
    have hel : e < s.heap.objs.size := Heap.lt_size he
    have hil : it < s.heap.objs.size := by obtain ⟨_, q, _⟩ := hit; exact Heap.lt_size q
    have hh : X.A.in1.handled = none := I.ok.hd hc
    have hlt : i < its.toArray.size := by
      obtain ⟨z, _⟩ := List.getElem?_eq_some_iff.mp hu
      simpa using z
    refine wpAny_pyNext_enum_itemD (Draws.tuple hh it a n2 its.toArray) he ⟨hit, p⟩ hlt n1 (by simp [n1, n3]) fun y h' tk hy ho hst hT hsz hk => ?_
    have ey : y = u := by
      have z : its.toArray[i]? = some u := by simpa using hu
      rw [show its.toArray[i]? = some y from hy] at z
      exact Option.some.inj z
    subst ey
    refine ⟨_, rfl, wpAny_letOwnedTupleGo_enum (s := { s with heap := h', toks := tk + 1 }) ho fun h'' he' sb => ?_⟩
    have hT2 : h''.get? s.heap.objs.size = some { cls := .type "tuple", data := .seq #[.int i tk, y] } := (sb.2 _ (Nat.ne_of_gt hel)).trans hT
    have new : ObjOk X.prog X.w (upd H s.heap.objs.size (.tup [.int (i : Nat), x])) h'' s.heap.objs.size (.tup [.int (i : Nat), x]) :=
      ⟨by show 2 ≤ sizeLine; decide, [.int i tk, y], .cons ⟨_, rfl⟩ (.cons ru .nil), ⟨_, hT2, rfl, _, rfl⟩⟩
    have I1 : Inv X pins σ (upd H s.heap.objs.size (.tup [.int (i : Nat), x])) { s with heap := h'', toks := tk + 1 } :=
      I.turnedNew (ch := [e, it]) (fun b o hb q => (sb.2 b (fun z => hb (by simp [z]))).trans (hk b o (fun z => hb (by simp [z])) (fun z => hb (by simp [z])) q)) hf (Nat.le_refl _) new
    refine ⟨.ref s.heap.objs.size, _, I1, rfl, ⟨_, x, rfl, I.hok.fresh (Nat.le_refl _), rfl, fun ys hy => by rw [I.tuple_inj hy hq]; exact hx⟩, ⟨⟨y, ?_⟩, hst.1.at fun o q => (sb.2 it (Ne.symm n1)).trans q, n1, n2, n3⟩, fun b hb => ?_⟩
    · have e1 : ((i + 1 : Nat) : Int) = (i : Int) + 1 := by omega
      rw [e1]
      exact he'
    · have hb' : b < s.heap.objs.size := by
        rcases (show b = e ∨ b = it by simpa using hb) with z | z
        · rw [z]; exact hel
        · rw [z]; exact hil
      rw [upd_ne (Nat.ne_of_lt hb')]
      exact (hf b hb).1
  done := by
    intro X hP hw hK hc i pins s σ H E I hf st hg
    subst hP hw hK
    obtain ⟨⟨old, he⟩, hit, n1, n2, n3⟩ := st
    obtain ⟨xs, hq, hx⟩ := hg
    obtain ⟨its, rv, p, hz⟩ := I.tuple hq
    obtain ⟨f0, f1, f2, f3, f4, f5⟩ := hf it (by simp)
    have hl := rv.length
    have hh : X.A.in1.handled = none := I.ok.hd hc
    have hT : s.TypeIs (.ref e) "enumerate" := ⟨_, he, rfl⟩
    unfold pyNext
    refine wpAny_bind (wpAny_attempt (wpAny_callSpecial?_slot (name := Str.ofString "__next__") hT F.slot_enumerate_next (wpAny_call_entry F.slot_enumerate_next hT F.entry_enumerate_next ?_ (F.args_enumerate_next_1 _))))
    show wpAny _ _ (field (.ref e) 2 >>= _) _ _ _
    refine wpAny_bind (wpAny_field he rfl (x := .ref it) rfl ?_)
    refine wpAny_bind (wpAny_nextOf_tuple_end hh hit p (by simp; omega) fun h' x he' hx' => ?_)
    obtain ⟨o, ho, hcl⟩ := hx'
    refine wpAny_bind (wpAny_isInstance (T := "StopIteration") (b := true) ⟨o, ho, hcl⟩ isSubtype_stop ?_)
    exact wpAny_pure ⟨rfl, I.turned (t' := s.toks) (fun b ob hb q => he' b ob hb q) f0 f1 f3 f4 f5⟩
  self := fun A i s Q E st h => let ⟨⟨_, he⟩, _⟩ := st; wpAny_pyIter_enum he h
def iEnuA (K : PySem.W.Frag) (ta : TA) : TI := fun σ H R => ta σ H fun vs H1 => ∃ a xs, vs = [.ref a] ∧ ((SqL K H1 a xs ∧ R (Ite K a) H1) ∨ (SqT K H1 a xs ∧ R (IteT K a) H1))
theorem pi_enuA {X : Cx} {e : Expr} {ta : TA} {p pos tpos : Pos} {elts : List Expr} {kk : Nat} (hg : Gl X "enumerate") (hm : X.mg "enumerate" = none) (ha : PA X [e] ta) (hs : starEach [e] X.env = [(false, eval e X.env)] := by rfl) :
    PI X (.Tuple elts kk tpos) (.Call (.Name "enumerate" p) [e] [] pos) (iEnuA X.K ta) := by
  refine ⟨fun pins s σ H R I h => ?_⟩
  refine Call_ (ld_blt I hg hm boot_enumerate (PyProof.Rows.callWith_type1 (thn (ha.run pos pins s σ H _ I h) fun us s1 ⟨vs, H1, I1, r1, q1⟩ => ?_) hs rfl))
  obtain ⟨a, xs, ex, q1⟩ := q1
  subst ex
  cases r1 with
  | cons r rr =>
    cases rr
    cases r
    have fp : ∀ b, b ∈ [s1.heap.objs.size + 1, s1.heap.objs.size] → FpOk X pins H1 b := fun b hb => by
      have hle : s1.heap.objs.size ≤ b := by
        rcases (show b = s1.heap.objs.size + 1 ∨ b = s1.heap.objs.size by simpa using hb) with z | z
        · rw [z]; exact Nat.le_succ _
        · rw [z]; exact Nat.le_refl _
      exact I1.fpOk hle (I1.hok.fresh hle)
    rcases q1 with ⟨hq, q⟩ | ⟨hq, q⟩
    · obtain ⟨its, rv, p', hz⟩ := I1.list hq
      refine enu_call (begins_list a its.toArray) p'.isList fun h' he hit hsz hk => wpAny_pyIter_enum he ?_
      have I2 : Inv X pins σ H1 { s1 with heap := h' } := I1.kept (t' := s1.toks) hk
      exact ⟨s1.heap.objs.size + 1, [s1.heap.objs.size + 1, s1.heap.objs.size], _, _, H1, rfl, I2, turn_enum a (s1.heap.objs.size + 1) s1.heap.objs.size, ⟨⟨.none, he⟩, ⟨_, hit, rfl, rfl⟩, Nat.succ_ne_self _⟩, fp, q⟩
    · obtain ⟨its, rv, p', hz⟩ := I1.tuple hq
      obtain ⟨ob, hob, _⟩ := id p'
      have hlt : a < s1.heap.objs.size := Heap.lt_size hob
      refine enu_call (begins_tuple a its.toArray) p' fun h' he hit hsz hk => wpAny_pyIter_enum he ?_
      have I2 : Inv X pins σ H1 { s1 with heap := h' } := I1.kept (t' := s1.toks) hk
      exact ⟨s1.heap.objs.size + 1, [s1.heap.objs.size + 1, s1.heap.objs.size], _, _, H1, rfl, I2, turn_enuT a (s1.heap.objs.size + 1) s1.heap.objs.size,
        ⟨⟨.none, he⟩, ⟨_, hit, rfl, rfl⟩, Nat.succ_ne_self _, Nat.ne_of_lt hlt, Nat.ne_of_gt (Nat.lt_succ_of_lt hlt)⟩, fp, q⟩
end En

namespace En
open PySem PySem.Spec L2
section
variable {x : SX} {Z G0 : Hp} {io0 : List Addr}
theorem RpL.at {ds : List D} {vs : List V} {G : Hp} {io : List Addr} {i : Nat} {v : V} {d : D} (r : RpL x G io ds vs) (e : vs[i]? = some v) (h : ds[i]? = some d) : Rp x G io d v := by
  obtain ⟨w, e1, q⟩ := r.get h
  rw [e] at e1
  cases e1
  exact q
theorem walk_lst {a : Addr} {ds : List D} {vs : List V} (h : G0 a = some (.lst vs)) (r : RpL x G0 io0 ds vs) : WalkD x Z G0 io0 (Itl x.K a) ds where
  go := fun i H hi sg _ => ⟨vs, vs[i]'(by rw [r.length]; exact hi), .of (sg _ _ h), List.getElem?_eq_getElem _⟩
  stop := fun H sg _ => ⟨vs, .of (sg _ _ h), by rw [r.length]; exact Nat.le_refl _⟩
  yld := fun i H v H' d sg zh hd hy => by
    obtain ⟨rfl, hy⟩ := hy
    have e := hy vs (.of (sg _ _ h))
    exact .inl ⟨rfl, fun G io s p => (r.at e hd).mono s p⟩
theorem walk_ll {a : Addr} {ds : List D} {vs : List V} (h : ∀ H, Same G0 H → (∀ b u, Z b = some u → H b = some u) → Rd H a (.lst vs)) (r : RpL x G0 io0 ds vs) : WalkD x Z G0 io0 (Itl x.K a) ds where
  go := fun i H hi sg zh => ⟨vs, vs[i]'(by rw [r.length]; exact hi), .inl (h H sg zh), List.getElem?_eq_getElem _⟩
  stop := fun H sg zh => ⟨vs, .inl (h H sg zh), by rw [r.length]; exact Nat.le_refl _⟩
  yld := fun i H v H' d sg zh hd hy => by
    obtain ⟨rfl, hy⟩ := hy
    have e := hy vs (.inl (h _ sg zh))
    exact .inl ⟨rfl, fun G io s p => (r.at e hd).mono s p⟩
theorem walk_tup {a : Addr} {ds : List D} {vs : List V} (h : SqT x.K G0 a vs) (r : RpL x G0 io0 ds vs) : WalkD x Z G0 io0 (Itt x.K a) ds where
  go := fun i H hi sg _ => ⟨vs, vs[i]'(by rw [r.length]; exact hi), Same.tup sg h, List.getElem?_eq_getElem _⟩
  stop := fun H sg _ => ⟨vs, Same.tup sg h, by rw [r.length]; exact Nat.le_refl _⟩
  yld := fun i H v H' d sg zh hd hy => by
    obtain ⟨rfl, hy⟩ := hy
    have e := hy vs (Same.tup sg h)
    exact .inl ⟨rfl, fun G io s p => (r.at e hd).mono s p⟩
theorem walk_str {z : Str} : WalkD x Z G0 io0 (Its z) (z.cps.toList.map fun c => .str ⟨#[c]⟩) where
  go := fun i H hi sg _ => by show i < z.cps.size; simpa using hi
  stop := fun H sg _ => by show z.cps.size ≤ _; simp
  yld := fun i H v H' d sg zh hd hy => by
    obtain ⟨rfl, c, e, rfl⟩ := hy
    refine .inl ⟨rfl, fun G io s p => ?_⟩
    rw [List.getElem?_map] at hd
    have e' : z.cps.toList[i]? = some c := by simpa using e
    rw [e'] at hd
    cases hd
    rfl
theorem walk_rng {lo : Int} {n : Nat} : WalkD x Z G0 io0 (Itr lo n) ((List.range n).map fun (k : Nat) => .int (lo + k)) where
  go := fun i H hi sg _ => by show i < n; simpa using hi
  stop := fun H sg _ => by show n ≤ _; simp
  yld := fun i H v H' d sg zh hd hy => by
    obtain ⟨rfl, rfl⟩ := hy
    refine .inl ⟨rfl, fun G io s p => ?_⟩
    rw [List.getElem?_map] at hd
    by_cases hi : i < n
    · rw [List.getElem?_range hi] at hd
      cases hd
      rfl
    · rw [List.getElem?_eq_none (by simpa using hi)] at hd
      cases hd
theorem enumF_len : ∀ (n : Nat) (ds : List D), (enumF n ds).length = ds.length
  | _, [] => rfl
  | n, d :: ds => by simp [enumF, enumF_len (n + 1) ds]
theorem enumF_get : ∀ (n i : Nat) (ds : List D), (enumF n ds)[i]? = ds[i]?.map fun d => .tup [.int ((n + i : Nat) : Int), d]
  | _, _, [] => by simp [enumF]
  | n, 0, d :: ds => by simp [enumF]
  | n, i + 1, d :: ds => by
    rw [enumF, List.getElem?_cons_succ, List.getElem?_cons_succ, enumF_get (n + 1) i ds]
    have : n + 1 + i = n + (i + 1) := by omega
    rw [this]
theorem walk_enm {a : Addr} {ds : List D} {vs : List V} (h : G0 a = some (.lst vs)) (r : RpL x G0 io0 ds vs) : WalkD x Z G0 io0 (Ite x.K a) (enumF 0 ds) where
  go := fun i H hi sg _ => ⟨vs, vs[i]'(by rw [r.length]; rw [enumF_len] at hi; exact hi), .of (sg _ _ h), List.getElem?_eq_getElem _⟩
  stop := fun H sg _ => ⟨vs, .of (sg _ _ h), by rw [r.length, enumF_len]; exact Nat.le_refl _⟩
  yld := fun i H v H' d sg zh hd hy => by
    obtain ⟨p, w, rfl, hn, rfl, hy⟩ := hy
    have e := hy vs (.of (sg _ _ h))
    rw [enumF_get, Nat.zero_add] at hd
    obtain ⟨d', hd', rfl⟩ := Option.map_eq_some_iff.mp hd
    exact .inr ⟨p, _, _, hn, rfl, rfl, rfl, fun G io s q => .cons rfl (.cons ((r.at e hd').mono s q) .nil)⟩
theorem walk_enmT {a : Addr} {ds : List D} {vs : List V} (h : SqT x.K G0 a vs) (r : RpL x G0 io0 ds vs) : WalkD x Z G0 io0 (IteT x.K a) (enumF 0 ds) where
  go := fun i H hi sg _ => ⟨vs, vs[i]'(by rw [r.length]; rw [enumF_len] at hi; exact hi), Same.tup sg h, List.getElem?_eq_getElem _⟩
  stop := fun H sg _ => ⟨vs, Same.tup sg h, by rw [r.length, enumF_len]; exact Nat.le_refl _⟩
  yld := fun i H v H' d sg zh hd hy => by
    obtain ⟨p, w, rfl, hn, rfl, hy⟩ := hy
    have e := hy vs (Same.tup sg h)
    rw [enumF_get, Nat.zero_add] at hd
    obtain ⟨d', hd', rfl⟩ := Option.map_eq_some_iff.mp hd
    exact .inr ⟨p, _, _, hn, rfl, rfl, rfl, fun G io s q => .cons rfl (.cons ((r.at e hd').mono s q) .nil)⟩
theorem walk_zp {a b : Addr} {ds es : List D} {vs ws : List V} (h : G0 a = some (.lst vs)) (r : RpL x G0 io0 ds vs) (h2 : G0 b = some (.lst ws)) (r2 : RpL x G0 io0 es ws) :
    WalkD x Z G0 io0 (Itz x.K a b) (List.zipWith (fun p q => .tup [p, q]) ds es) where
  go := fun i H hi sg _ => by
    rw [List.length_zipWith] at hi
    exact ⟨vs, ws, vs[i]'(by rw [r.length]; omega), ws[i]'(by rw [r2.length]; omega), .of (sg _ _ h), .of (sg _ _ h2), List.getElem?_eq_getElem _, List.getElem?_eq_getElem _⟩
  stop := fun H sg _ => ⟨vs, ws, .of (sg _ _ h), .of (sg _ _ h2), by rw [r.length, r2.length, List.length_zipWith]; omega⟩
  yld := fun i H v H' d sg zh hd hy => by
    obtain ⟨p, w, w2, rfl, hn, rfl, hy1, hy2⟩ := hy
    have e := hy1 vs (.of (sg _ _ h))
    have e2 := hy2 ws (.of (sg _ _ h2))
    rw [List.getElem?_zipWith] at hd
    cases q1 : ds[i]? with
    | none => rw [q1] at hd; cases hd
    | some d1 =>
      cases q2 : es[i]? with
      | none => rw [q1, q2] at hd; cases hd
      | some d2 =>
        rw [q1, q2] at hd
        cases hd
        exact .inr ⟨p, _, _, hn, rfl, rfl, rfl, fun G io s q => .cons ((r.at e q1).mono s q) (.cons ((r2.at e2 q2).mono s q) .nil)⟩
theorem walk_zpT {H0 : Hp} {a b : Addr} {ds es : List D} {vs ws : List V} (gh : Same G0 H0) (h : SqT x.K G0 a vs) (r : RpL x G0 io0 ds vs) (h2 : SqT x.K G0 b ws) (r2 : RpL x G0 io0 es ws) :
    WalkD x Z G0 io0 (RZ.ItzT x.K a b) (List.zipWith (fun p q => .tup [p, q]) ds es) where
  go := fun i H hi sg _ => by
    rw [List.length_zipWith] at hi
    exact ⟨vs, ws, vs[i]'(by rw [r.length]; omega), ws[i]'(by rw [r2.length]; omega), Same.tup sg h, Same.tup sg h2, List.getElem?_eq_getElem _, List.getElem?_eq_getElem _⟩
  stop := fun H sg _ => ⟨vs, ws, Same.tup sg h, Same.tup sg h2, by rw [r.length, r2.length, List.length_zipWith]; omega⟩
  yld := fun i H v H' d sg zh hd hy => by
    obtain ⟨p, w, w2, rfl, hn, rfl, hy1, hy2⟩ := hy
    have e := hy1 vs (Same.tup sg h)
    have e2 := hy2 ws (Same.tup sg h2)
    rw [List.getElem?_zipWith] at hd
    cases q1 : ds[i]? with
    | none => rw [q1] at hd; cases hd
    | some d1 =>
      cases q2 : es[i]? with
      | none => rw [q1, q2] at hd; cases hd
      | some d2 =>
        rw [q1, q2] at hd
        cases hd
        exact .inr ⟨p, _, _, hn, rfl, rfl, rfl, fun G io s q => .cons ((r.at e q1).mono s q) (.cons ((r2.at e2 q2).mono s q) .nil)⟩
theorem keys_at {ks : List Key} {vs : List V} (hl : vs.length = ks.length) {i : Nat} {k : Key} {v : V} (e : (ks.zip vs)[i]? = some (k, v)) : ks[i]? = some k := by
  obtain ⟨h1, h2⟩ := List.getElem?_eq_some_iff.mp e
  rw [List.getElem_zip] at h2
  have hi : i < ks.length := by rw [List.length_zip, hl, Nat.min_self] at h1; exact h1
  rw [List.getElem?_eq_getElem hi]
  exact congrArg some (congrArg Prod.fst h2)
theorem walk_keys {d : Addr} {o : Obj} {ks : List Key} {vs : List V} (hl : vs.length = ks.length) (h : ∀ H, Same G0 H → (∀ b u, Z b = some u → H b = some u) → H d = some (.frz o (.dK (ks.zip vs)))) : WalkD x Z G0 io0 (Itk d o (ks.zip vs)) (ks.map keyV) where
  go := fun i H hi sg zh => ⟨h H sg zh, by rw [List.length_zip, hl, Nat.min_self]; simpa using hi⟩
  stop := fun H sg zh => ⟨h H sg zh, by rw [List.length_zip, hl, Nat.min_self, List.length_map]; exact Nat.le_refl _⟩
  yld := fun i H v H' d sg zh hd hy => by
    obtain ⟨rfl, k, w, e, rfl⟩ := hy
    rw [List.getElem?_map, keys_at hl e] at hd
    cases hd
    refine .inl ⟨rfl, fun G io s p => ?_⟩
    cases k <;> exact rfl
end
section
variable {T : Tb} {cc : CC} {X : Cx} {W : WX} {F : Fr} {e l r c tg : Expr} {es : List Expr} {a b : E} {pos : Pos}
theorem PostI.vals {x : SX} {G H : Hp} {io : List Addr} {σ : L2.St} {s : S} {ds : List D} {R : It → Hp → Prop} {J : It} (h : PostI x F W G io (some (.vals ds, s)) σ R) (t : StR x F s G io σ H) (w : WalkD x (zOf H) G io J ds) : R J H :=
  h J H G io (Same.refl _) (Pre.refl _) t w
theorem i_it (o : XOk T cc X W) (ha : PE X e (rd T F W a)) : PI X tg e (rdI T F W (.it a)) := by
  refine PI.wk (PI.or (pi_list ha) (PI.or (pi_tup ha) (PI.or (pi_str ha) (pi_keys ha)))) fun σ H R ⟨s, G, io, t, hp⟩ => ?_
  -- the value, told by what a comes to
  have step : ∀ (Q1 : VK), (∀ d s1 v H1 G1 io1, bnd (ev T.P T.Gm a s) (fun d s => some (.val d, s)) = some (.val d, s1) → StR T.x F s1 G1 io1 σ H1 → Rp T.x G1 io1 d v → PostI T.x F W G1 io1 (match itF d s1 with | some ds => some (.vals ds, s1) | none => none) σ R → Q1 v H1) → rd T F W a σ H Q1 := by
    intro Q1 hk
    refine ⟨s, G, io, t, ?_⟩
    have hp' : PostI T.x F W G io (bnd (ev T.P T.Gm a s) fun x s => match itF x s with | some ds => some (.vals ds, s) | none => none) σ R := hp
    unfold Post
    unfold bnd at hp' hk
    split
    · rename_i d s1 he
      rw [he] at hp' hk
      exact fun v H' G' io' sg si t' r' => hk d s1 v H' G' io' rfl t' r' (hp'.anti sg si)
    · rename_i ds s1 he
      rw [he] at hp' hk
      intro p H' G' io' sg si t' ni ow no
      obtain ⟨G2, io2, a1, a2, a3, a4⟩ := fr_rp t' ni ow no
      exact hk _ _ (.ref p) H' G2 io2 rfl a3 a4 (hp'.anti (sg.trans a1) (si.trans a2))
    · rename_i k ns ds s1 he
      rw [he] at hp'
      exact hp'
    · rename_i h1 h2 h3
      split at hp'
      · exact h1 _ _ (by assumption)
      · exact h2 _ _ (by assumption)
      · exact h3 _ _ _ _ (by assumption)
      · exact hp'
  generalize hB : bnd (ev T.P T.Gm a s) (fun d s => some (.val d, s)) = B at step
  have kind : (∃ ds s1, B = some (.val (.lst ds), s1)) ∨ (∃ ds s1, B = some (.val (.tup ds), s1)) ∨ (∃ ks ds s1, B = some (.val (.dct ks ds), s1)) ∨ (∃ n ds s1, B = some (.val (.adr n), s1) ∧ s1.m[n]? = some (.ll ds)) ∨ (∃ n s1, B = some (.val (.adr n), s1) ∧ ∀ ds, s1.m[n]? ≠ some (.ll ds)) ∨
      ∀ d s1, B = some (.val d, s1) → (∀ ds, d ≠ .lst ds) ∧ (∀ ds, d ≠ .tup ds) ∧ (∀ ks ds, d ≠ .dct ks ds) ∧ ∀ n, d ≠ .adr n := by
    by_cases h : ∃ d s1, B = some (.val d, s1)
    · obtain ⟨d, s1, rfl⟩ := h
      cases d with
      | lst ds => exact .inl ⟨_, _, rfl⟩
      | tup ds => exact .inr (.inl ⟨_, _, rfl⟩)
      | dct ks ds => exact .inr (.inr (.inl ⟨_, _, _, rfl⟩))
      | adr n =>
        by_cases hl : ∃ ds, s1.m[n]? = some (.ll ds)
        · obtain ⟨ds, hl⟩ := hl
          exact .inr (.inr (.inr (.inl ⟨_, _, _, rfl, hl⟩)))
        · exact .inr (.inr (.inr (.inr (.inl ⟨_, _, rfl, fun ds e => hl ⟨ds, e⟩⟩))))
      | _ => exact .inr (.inr (.inr (.inr (.inr fun d' s' e => by cases e; exact ⟨fun _ z => (by cases z), fun _ z => (by cases z), fun _ _ z => (by cases z), fun _ z => (by cases z)⟩))))
    · exact .inr (.inr (.inr (.inr (.inr fun d s1 e => absurd ⟨d, s1, e⟩ h))))
  rcases kind with ⟨ds, s1, rfl⟩ | ⟨ds, s1, rfl⟩ | ⟨ks, ds, s1, rfl⟩ | ⟨n, es, s1, rfl, hll⟩ | ⟨n, s1, rfl, nll⟩ | no
  · refine .inl (step _ fun d s2 v H1 G1 io1 he2 t1 r1 hp1 => ?_)
    cases he2
    obtain ⟨p, vs, rfl, e1, rr⟩ := r1
    refine ⟨p, rfl, ⟨vs, .of (t1.gh _ _ e1)⟩, ?_⟩
    rw [o.K]
    exact hp1.vals t1 (walk_lst e1 rr)
  · refine .inr (.inl (step _ fun d s2 v H1 G1 io1 he2 t1 r1 hp1 => ?_))
    cases he2
    obtain ⟨p, vs, rfl, e1, rr⟩ := r1
    refine ⟨p, rfl, ⟨vs, by rw [o.K]; exact Same.tup t1.gh e1⟩, ?_⟩
    rw [o.K]
    exact hp1.vals t1 (walk_tup e1 rr)
  · refine .inr (.inr (.inr (step _ fun d s2 v H1 G1 io1 he2 t1 r1 hp1 => ?_)))
    cases he2
    obtain ⟨p, vs, ob, rfl, e1, hl, rr⟩ := r1
    exact ⟨p, ob, rfl, .inl ⟨_, t1.gh _ _ e1, hp1.vals t1 (walk_keys hl fun H sg _ => sg _ _ e1)⟩⟩
  · refine .inl (step _ fun d s2 v H1 G1 io1 he2 t1 r1 hp1 => ?_)
    cases he2
    obtain ⟨p, rfl, hpo⟩ := r1
    have e : itF (.adr n) s1 = some es := by
      unfold itF
      dsimp only
      rw [hll]
    rw [e] at hp1
    obtain ⟨vs, ho, q1, _, q3, ⟨ob, rfl⟩, q5⟩ := t1.mem.2.2 n _ p hll hpo
    refine ⟨p, rfl, ⟨vs, .inl (.inr ⟨ob, q1⟩)⟩, ?_⟩
    rw [o.K]
    exact hp1.vals t1 (walk_ll (fun H sg zh => .inr ⟨ob, zh _ _ (zOf_of q1)⟩) q3)
  · refine .inr (.inr (.inr (step _ fun d s2 v H1 G1 io1 he2 t1 r1 hp1 => ?_)))
    cases he2
    obtain ⟨p, rfl, hpo⟩ := r1
    unfold itF at hp1
    dsimp only at hp1
    cases hm : s1.m[n]? with
    | none => rw [hm] at hp1; exact hp1.elim
    | some mo =>
      rw [hm] at hp1
      cases mo with
      | dl ks ds =>
        obtain ⟨vs, ho, q1, _, q3, ⟨ob, rfl⟩, q5⟩ := t1.mem.2.2 n _ p hm hpo
        have hl : vs.length = ks.length := by rw [q3.length]; exact q5
        exact ⟨p, ob, rfl, .inl ⟨_, q1, hp1.vals t1 (walk_keys hl fun H sg zh => zh _ _ (zOf_of q1))⟩⟩
      | ll ds => exact absurd hm (nll _)
      | _ => exact hp1.elim
  · refine .inr (.inr (.inl (step _ fun d s2 v H1 G1 io1 he2 t1 r1 hp1 => ?_)))
    obtain ⟨n1, n2, n3, n4⟩ := no _ _ he2
    cases d with
    | lst ds => exact absurd rfl (n1 _)
    | tup ds => exact absurd rfl (n2 _)
    | dct ks ds => exact absurd rfl (n3 _ _)
    | adr n => exact absurd rfl (n4 _)
    | str z =>
      cases (show v = .str z from r1)
      exact ⟨z, rfl, hp1.vals t1 walk_str⟩
    | _ => exact hp1.elim
theorem i_rng (o : XOk T cc X W) (t : TOk T) {p : Pos} (hs : isStar e = false) (hi : glo cc "range" = true) (ha : PE X e (rd T F W a)) : PI X tg (.Call (.Name "range" p) [e] [] pos) (rdI T F W (.rng a)) := by
  obtain ⟨h1, h2, h3⟩ := o.glo hi
  refine PI.wk (pi_range1 h1 (o.blt t (by decide +kernel)) (pa_cons ha pa_nil (star_no hs)) (star_no hs)) fun σ H R ⟨s, G, io, t, hp⟩ => ⟨s, G, io, t, ?_⟩
  refine PostI.bnd hp fun d s v H1 G1 io1 sg si t1 r1 hp1 => ?_
  split at hp1
  · rename_i j
    cases (show v = .int j from r1)
    split at hp1
    · rename_i hj
      refine ⟨j, rfl, hj.1, hj.2, ?_⟩
      have w := walk_rng (x := T.x) (Z := zOf H1) (G0 := G1) (io0 := io1) (lo := 0) (n := j.toNat)
      simp only [Int.zero_add] at w
      exact hp1.vals t1 w
    · exact hp1.elim
  · exact hp1.elim
theorem i_rng2 (o : XOk T cc X W) (t : TOk T) {p : Pos} (hs : isStar l = false) (hs2 : isStar r = false) (hi : glo cc "range" = true) (ha : PE X l (rd T F W a)) (hb : PE X r (rd T F W b)) : PI X tg (.Call (.Name "range" p) [l, r] [] pos) (rdI T F W (.rng2 a b)) := by
  obtain ⟨h1, h2, h3⟩ := o.glo hi
  refine PI.wk (pi_range2 h1 (o.blt t (by decide +kernel)) (pa_cons ha (pa_cons hb pa_nil (star_no hs2)) (star_no hs)) ((star_no hs).trans (by rw [star_no hs2]; rfl)) (star_no hs2)) fun σ H R ⟨s, G, io, t, hp⟩ => ⟨s, G, io, t, ?_⟩
  refine PostI.bnd hp fun d s v H1 G1 io1 sg si t1 r1 hp1 => ⟨s, G1, io1, t1, ?_⟩
  refine PostI.bnd hp1 fun d2 s2 v2 H2 G2 io2 sg2 si2 t2 r2 hp2 => ?_
  split at hp2
  · rename_i i j
    cases (show v = .int i from r1)
    cases (show v2 = .int j from r2)
    split at hp2
    · rename_i hj
      refine ⟨i, j, rfl, hj, ?_⟩
      exact hp2.vals t2 walk_rng
    · exact hp2.elim
  · exact hp2.elim
theorem i_enm (o : XOk T cc X W) (t : TOk T) {p tp : Pos} {elts : List Expr} {kk : Nat} (hs : isStar e = false) (hi : glo cc "enumerate" = true) (ha : PE X e (rd T F W a)) : PI X (.Tuple elts kk tp) (.Call (.Name "enumerate" p) [e] [] pos) (rdI T F W (.enm a)) := by
  obtain ⟨h1, h2, h3⟩ := o.glo hi
  refine PI.wk (pi_enuA h1 (o.blt t (by decide +kernel)) (pa_cons ha pa_nil (star_no hs)) (star_no hs)) fun σ H R ⟨s, G, io, t, hp⟩ => ⟨s, G, io, t, ?_⟩
  refine PostI.bnd hp fun d s v H1 G1 io1 sg si t1 r1 hp1 => ?_
  split at hp1
  · rename_i ds hv
    cases d with
    | lst es =>
      cases hv
      obtain ⟨q, vs, rfl, e1, rr⟩ := r1
      refine ⟨q, vs, rfl, .inl ⟨.of (t1.gh _ _ e1), ?_⟩⟩
      rw [o.K]
      exact hp1.vals t1 (walk_enm e1 rr)
    | tup es =>
      cases hv
      obtain ⟨q, vs, rfl, e1, rr⟩ := r1
      refine ⟨q, vs, rfl, .inr ⟨by rw [o.K]; exact Same.tup t1.gh e1, ?_⟩⟩
      rw [o.K]
      exact hp1.vals t1 (walk_enmT e1 rr)
    | _ => cases hv
  · exact hp1.elim
theorem i_zp (o : XOk T cc X W) (t : TOk T) {p tp : Pos} {elts : List Expr} {kk : Nat} (hs : isStar l = false) (hs2 : isStar r = false) (hi : glo cc "zip" = true) (ha : PE X l (rd T F W a)) (hb : PE X r (rd T F W b)) :
    PI X (.Tuple elts kk tp) (.Call (.Name "zip" p) [l, r] [] pos) (rdI T F W (.zp a b)) := by
  obtain ⟨h1, h2, h3⟩ := o.glo hi
  refine PI.wk (RZ.pi_zipA h1 (o.blt t (by decide +kernel)) (pa_cons ha (pa_cons hb pa_nil (star_no hs2)) (star_no hs)) (star_no hs) (star_any (es := [r]) (by simp [hs2]))) fun σ H R ⟨s, G, io, t, hp⟩ => ⟨s, G, io, t, ?_⟩
  refine PostI.bnd hp fun d s v H1 G1 io1 sg si t1 r1 hp1 => ⟨s, G1, io1, t1, ?_⟩
  refine PostI.bnd hp1 fun d2 s2 v2 H2 G2 io2 sg2 si2 t2 r2 hp2 => ?_
  cases d with
  | lst ds =>
    cases d2 with
    | lst es =>
      obtain ⟨q, vs, rfl, e1, rr⟩ := r1.mono sg2 si2
      obtain ⟨q2, ws, rfl, e2, rr2⟩ := r2
      refine ⟨q, q2, vs, ws, rfl, .inl ⟨.of (t2.gh _ _ e1), .of (t2.gh _ _ e2), ?_⟩⟩
      rw [o.K]
      exact (show PostI T.x F W G2 io2 (some (.vals (List.zipWith (fun p q => .tup [p, q]) ds es), s2)) σ R from hp2).vals t2 (walk_zp e1 rr e2 rr2)
    | _ => exact (show False from hp2).elim
  | tup ds =>
    cases d2 with
    | tup es =>
      obtain ⟨q, vs, rfl, e1, rr⟩ := r1.mono sg2 si2
      obtain ⟨q2, ws, rfl, e2, rr2⟩ := r2
      refine ⟨q, q2, vs, ws, rfl, .inr ⟨by rw [o.K]; exact Same.tup t2.gh e1, by rw [o.K]; exact Same.tup t2.gh e2, ?_⟩⟩
      rw [o.K]
      exact (show PostI T.x F W G2 io2 (some (.vals (List.zipWith (fun p q => .tup [p, q]) ds es), s2)) σ R from hp2).vals t2 (walk_zpT t2.gh e1 rr e2 rr2)
    | _ => exact (show False from hp2).elim
  | _ => exact (show False from hp2).elim
end
end En

namespace En
open PySem PySem.Spec L2
section
variable {x : SX} {F : Fr} {G H G1 H1 : Hp} {io io1 : List Addr} {σ σ1 : L2.St} {s s1 : S} {m : List MO}
theorem FF.refl (gh : Gh x G H) (hm : MemA x G io H m) : FF x H G io m H G io :=
  ⟨gh, hm, fun _ _ e _ _ => e, fun _ _ => rfl, Pre.refl _, (fun n a hn e => by
    rw [List.getElem?_eq_none (by omega)] at e; cases e), fun _ _ _ e => e⟩
theorem StR.ff (t : StR x ⟨H, G, io, zOf H⟩ s1 G1 io1 σ1 H1) : FF x H G io s1.m H1 G1 io1 := ⟨t.gt, t.mem, t.kh, t.kg, t.ki, t.ni, fun b o u e => (t.zl b _ (zOf_of e)).1⟩
theorem FF.trans {H2 G2 : Hp} {io2 : List Addr} {m2 : List MO} (hm : MemA x G io H m) (a : FF x H G io s1.m H1 G1 io1) (b : FF x H1 G1 io1 m2 H2 G2 io2) : FF x H G io m2 H2 G2 io2 := by
  obtain ⟨a1, a2, a3, a4, a5, a6, a7⟩ := a
  obtain ⟨b1, b2, b3, b4, b5, b6, b7⟩ := b
  have mem : ∀ {b : Addr}, b ∈ io → ∃ o, H b = some o := fun {b} hb => by
    obtain ⟨n, hn, e⟩ := List.getElem_of_mem hb
    have hl : n < m.length := by rw [hm.1]; exact hn
    have q := hm.2.2 n _ b (List.getElem?_eq_getElem hl) (by rw [List.getElem?_eq_getElem hn, e])
    obtain ⟨vs, h, q1, _⟩ := q
    exact ⟨_, q1⟩
  have n1 : ∀ {b : Addr}, b ∉ io → H b ≠ none → b ∉ io1 := fun {b} h1 h2 hm => by
    obtain ⟨n, hn, e⟩ := List.getElem_of_mem hm
    by_cases hl : n < io.length
    · obtain ⟨k, hk⟩ := a5
      apply h1
      have : io1[n] = io[n] := by simp [hk, List.getElem_append_left hl]
      rw [← e, this]
      exact List.getElem_mem _
    · exact h2 (a6 n b (by omega) (by rw [List.getElem?_eq_getElem hn, e]))
  have up : ∀ {b : Addr}, H1 b = none → H b = none := fun {b} e => by
    cases z : H b with
    | none => rfl
    | some o =>
      by_cases hb : b ∈ io
      · obtain ⟨n, hn, e2⟩ := List.getElem_of_mem hb
        obtain ⟨k, hk⟩ := a5
        have hn1 : n < io1.length := by rw [hk, List.length_append]; omega
        have hl : n < s1.m.length := by rw [a2.1]; exact hn1
        have q := a2.2.2 n _ b (List.getElem?_eq_getElem hl) (by rw [List.getElem?_eq_getElem hn1]; simp [hk, List.getElem_append_left hn, e2])
        obtain ⟨vs, h, q1, _⟩ := q
        rw [e] at q1; cases q1
      · by_cases ht : b ∈ tbA x
        · obtain ⟨ps, q⟩ := tab_at a1.2 ht
          rw [e] at q; cases q
        · rw [a3 b o z hb ht] at e; cases e
  refine ⟨b1, b2, fun b o e n nt => b3 b o (a3 b o e n nt) (n1 n (by rw [e]; simp)) nt, fun b hb => ?_, a5.trans b5, fun n a hn e => ?_, fun b o u e => b7 _ _ _ (a7 _ _ _ e)⟩
  · rw [b4 b (fun z => hb (up z)), a4 b hb]
  · by_cases hl : n < io1.length
    · obtain ⟨k, hk⟩ := b5
      rw [hk, List.getElem?_append_left hl] at e
      exact a6 n a hn e
    · exact up (b6 n a (by omega) e)
theorem valR_get : ∀ {r : List (Option Cell)} {i : Nat} {c : Cell}, (valR r)[i]? = some (some c) → r[i]? = some (some c) ∧ isOwn c = false
  | [], i, c, h => by simp [valR] at h
  | o :: r, 0, c, h => by
    cases o with
    | none => simp [valR] at h
    | some c' => cases c' <;> simp [valR] at h <;> (subst h; exact ⟨rfl, rfl⟩)
  | o :: r, i + 1, c, h => by
    have h' : (valR r)[i]? = some (some c) := by
      cases o with
      | none => simpa [valR] using h
      | some c' => cases c' <;> simpa [valR] using h
    simpa using valR_get h'
theorem valR_len : ∀ (r : List (Option Cell)), (valR r).length = r.length
  | [] => rfl
  | none :: r => by simp [valR, valR_len r]
  | some (.val _) :: r => by simp [valR, valR_len r]
  | some (.ol _) :: r => by simp [valR, valR_len r]
  | some (.od _ _) :: r => by simp [valR, valR_len r]
  | some (.lms _) :: r => by simp [valR, valR_len r]
theorem wipeR_len (r : List (Option Cell)) : ∀ (vs : List Nat), (wipeR r vs).length = r.length
  | [] => rfl
  | v :: vs => by unfold wipeR; rw [List.length_set, wipeR_len r vs]
theorem wipeR_get {r : List (Option Cell)} {i : Nat} {c : Cell} : ∀ {vs : List Nat}, (wipeR r vs)[i]? = some (some c) → r[i]? = some (some c) ∧ i ∉ vs
  | [], h => ⟨h, by simp⟩
  | v :: vs, h => by
    unfold wipeR at h
    by_cases hi : v = i
    · subst hi
      by_cases hv : v < (wipeR r vs).length
      · rw [List.getElem?_set_self hv] at h; cases h
      · rw [List.getElem?_eq_none (by simpa using hv)] at h; cases h
    · rw [List.getElem?_set_ne hi] at h
      obtain ⟨a, b⟩ := wipeR_get h
      exact ⟨a, by simp [b, Ne.symm hi]⟩
theorem wipe_get {σ : L2.St} {i : Nat} {v : V} : ∀ {vs : List Nat}, i ∉ vs → σ[i]? = some (some v) → (wipe σ vs)[i]? = some (some v)
  | [], _, h => h
  | w :: vs, hn, h => by
    unfold wipe
    rw [List.getElem?_set_ne (fun z => hn (by simp [z]))]
    exact wipe_get (fun z => hn (List.mem_cons_of_mem _ z)) h
theorem StR.inner {own : List Nat} (t : StR x F s G io σ H) (ff : FF x H G io m H1 G1 io1) (sg : Same G G1) : StR x ⟨H1, G1, io1, zOf H1⟩ ⟨wipeR (valR s.r) own, m⟩ G1 io1 (wipe σ own) H1 where
  gh := ff.1.1
  len := by rw [wipeR_len, valR_len, wipe_length]; exact t.len
  slot := fun i c e => by
    obtain ⟨e1, hn⟩ := wipeR_get e
    obtain ⟨e2, ho⟩ := valR_get e1
    obtain ⟨v, q1, q2⟩ := t.slot i c e2
    refine ⟨v, wipe_get hn q1, ?_⟩
    cases c with
    | val d => exact Rp.mono sg ff.2.2.2.2.1 q2
    | _ => cases ho
  own := fun i j c c' v _ e1 _ o1 => by
    obtain ⟨e2, _⟩ := wipeR_get e1
    obtain ⟨_, ho⟩ := valR_get e2
    rw [o1] at ho; cases ho
  mem := ff.2.1
  kh := fun _ _ e _ _ => e
  kg := fun _ _ => rfl
  ki := Pre.refl _
  ni := fun n a hn e => by
    have hn : io1.length ≤ n := hn
    rw [List.getElem?_eq_none (by omega)] at e; cases e
  zl := fun _ _ e => zOf_at e
  tb := ff.1.2
end
theorem relS_lookup {scope sc : Scope} {y : Str} {k : NameKind} (h : scope.names.lookup y = some k) (hk : k ≠ .free) : (relS scope sc).names.lookup y = some k := by
  unfold relS
  have key : ∀ (l : List (Str × NameKind)), l.lookup y = some k → (l.map fun (p : Str × NameKind) => if (p.2 == .free && sc.kind == .function && sc.names.lookup p.1 == some .cell) then (p.1, NameKind.cell) else (p.1, p.2)).lookup y = some k := by
    intro l
    induction l with
    | nil => intro h; cases h
    | cons p l ih =>
      intro h
      obtain ⟨n, q⟩ := p
      rw [List.lookup_cons] at h
      rw [List.map_cons]
      cases hn : (y == n) with
      | true =>
        rw [hn] at h
        have h : some q = some k := h
        injection h with h
        subst h
        have hq : (q == NameKind.free) = false := by
          cases q <;> first | rfl | exact absurd rfl hk
        show List.lookup y ((if (q == .free && sc.kind == .function && sc.names.lookup n == some .cell) = true then (n, NameKind.cell) else (n, q)) :: _) = _
        rw [hq, Bool.false_and, Bool.false_and, if_neg Bool.false_ne_true, List.lookup_cons, hn]
      | false =>
        rw [hn] at h
        have ih' := ih h
        show List.lookup y ((if (q == .free && sc.kind == .function && sc.names.lookup n == some .cell) = true then (n, NameKind.cell) else (n, q)) :: _) = _
        split
        · rw [List.lookup_cons, hn]
          exact ih'
        · rw [List.lookup_cons, hn]
          exact ih'
  exact key _ h
section
variable {T : Tb} {cc : CC} {X : Cx} {W : WX} {F : Fr}
abbrev W0 : WX := fun _ _ _ _ => False
theorem takesW0 {X : Cx} : Takes X W0 := fun _ _ x => by
  obtain ⟨_, _, _, _, _, _, _, _, _, _, _, _, _, _, _, _, z⟩ := x
  exact z.elim
theorem XOk.blk (o : XOk T cc X W) {scope : Scope} {own : List (Str × Nat)} (hb : BlkOk X.N X.env.scope scope own) (s : Shared) (H : Hp) (C : Addr) (cl : List (Str × Addr)) (fp : List Addr) :
    XOk T (cc.blk scope) (X.blk s H scope (compEnvC scope cl C X.env) fp) W0 where
  prog := o.prog
  w := o.w
  K := o.K
  mg := o.mg
  base := o.base
  N := o.N
  nd := o.nd
  sc := by show relS scope X.env.scope = relS scope cc.sc; rw [o.sc]
  calm := o.calm
  tk := takesW0
  po := PassesOwn.never
  room := o.room
  loc := fun y hy => by
    obtain ⟨⟨n, k⟩, hp, rfl⟩ := List.mem_map.mp hy
    obtain ⟨hp1, hp2⟩ := List.mem_filter.mp hp
    have hu := hb.uniq _ hp1
    simp only [Bool.or_eq_true, decide_eq_true_eq] at hp2
    show Loc (relS scope X.env.scope) n ∧ ((scope.names.lookup n == some .cell) = true ∨ (relS scope X.env.scope).names.lookup n = some .local)
    rcases hp2 with z | z
    · subst z
      exact ⟨.inl (relS_lookup hu (by decide)), .inr (relS_lookup hu (by decide))⟩
    · subst z
      refine ⟨.inr (relS_lookup hu (by decide)), .inl ?_⟩
      rw [show scope.names.lookup n = some NameKind.cell from hu]
      rfl
def rdF (T : Tb) (W : WX) (c : E) : TE := fun σ H Q => ∃ F, rd T F W c σ H Q
def rdTF (T : Tb) (W : WX) (c : E) : TT := fun σ H Q => ∃ F, rdT T F W c σ H Q
def rdGF (T : Tb) (c : E) : TG := fun v σ H Q => ∃ F, rdG T F c v σ H Q
theorem PE.exF {e : Expr} {c : E} (h : ∀ F, PE X e (rd T F W c)) : PE X e (rdF T W c) := ⟨fun pins s σ H Q I ⟨F, q⟩ => (h F).run pins s σ H Q I q⟩
theorem PT.exF {e : Expr} {c : E} (h : ∀ F, PT X e (rdT T F W c)) : PT X e (rdTF T W c) := ⟨fun pins s σ H Q I ⟨F, q⟩ => (h F).run pins s σ H Q I q⟩
theorem PG.exF {e : Expr} {c : E} (h : ∀ F, PG X e (rdG T F c)) : PG X e (rdGF T c) := ⟨fun pins s σ H v u Q I r ⟨F, q⟩ => (h F).run pins s σ H v u Q I r q⟩
theorem PTs.yes {c : E} (hc : c = .cst (.bl true)) : PTs X [] (rdTF T W c) := ⟨fun pins s σ H Q I ⟨F, s', G, io, t, hp⟩ => pts_nil.run pins s σ H Q I (by
  subst hc
  obtain ⟨b, e, q⟩ := Post.v hp t (v := .bl true) rfl
  cases e
  exact q)⟩
end
theorem FF.side {x : SX} {H1 G1 H G : Hp} {io1 io : List Addr} {m : List MO} {D : Addr} {o : HO} (hD : H1 D = none) (gD : G D = none) (iD : D ∉ io) (f : FF x H1 G1 io1 m H G io) (nt : ∀ u, H D = some u → (∀ ps, u ≠ .tbl ps) ∧ ∀ φ, u ≠ .ext φ) : FF x H1 G1 io1 m (upd H D o) G io := by
  obtain ⟨f1, f2, f3, f4, f5, f6, f7⟩ := f
  refine ⟨⟨fun b u e => ?_, tabs_keep f1.2 fun b u e k => ?_⟩, ⟨f2.1, f2.2.1, fun n mo a e1 e2 => ?_⟩, fun b u e n nt => ?_, f4, f5, f6, fun b q u e => by rw [upd_ne (fun z => by rw [z, hD] at e; cases e)]; exact f7 _ _ _ e⟩
  · rw [upd_ne (fun z => by rw [z, gD] at e; cases e)]
    exact f1.1 _ _ e
  · rw [upd_ne (fun z => by
      obtain ⟨k1, k2⟩ := nt u (by rw [← z]; exact e)
      rcases k with ⟨ps, y⟩ | ⟨φ, y⟩
      · exact k1 ps y
      · exact k2 φ y)]
    exact e
  · have q := f2.2.2 n mo a e1 e2
    have ne : a ≠ D := fun z => iD (by rw [← z]; exact List.mem_of_getElem? e2)
    obtain ⟨vs, h, q1, q2⟩ := q
    exact ⟨vs, h, by rw [upd_ne ne]; exact q1, q2⟩
  · rw [upd_ne (fun z => by rw [z, hD] at e; cases e)]
    exact f3 _ _ e n nt
end En

namespace En
open PySem PySem.Spec L2
theorem yield_rp {x : SX} {F : Fr} {Z G0 G H H' : Hp} {io0 io : List Addr} {J : It} {ds : List D} {i : Nat} {v : V} {d : D} {s : S} {σ : L2.St} (w : WalkD x Z G0 io0 J ds) (t : StR x F s G io σ H) (s0 : Same G0 G) (p0 : Pre io0 io)
    (zh : ∀ b u, Z b = some u → H b = some u) (hd : ds[i]? = some d) (hy : J.yld i H v H') : ∃ G', Same G G' ∧ StR x F s G' io σ H' ∧ Rp x G' io d v ∧ Same H H' := by
  rcases w.yld i H v H' d (s0.trans t.gh) zh hd hy with ⟨rfl, r⟩ | ⟨p, vs, es, hn, rfl, rfl, rfl, r⟩
  · exact ⟨G, Same.refl _, t, r G io s0 p0, Same.refl _⟩
  · obtain ⟨t', sg⟩ := t.newfast (o := .tup vs) hn
    exact ⟨_, sg, t', ⟨p, vs, rfl, .of upd_same, r _ io (s0.trans sg) p0⟩, same_upd hn⟩
theorem wipe_wipe {σ : L2.St} {ks : List Nat} : ∀ {js : List Nat}, (∀ j ∈ js, j ∈ ks) → wipe (wipe σ js) ks = wipe σ ks
  | [], _ => rfl
  | j :: js, h => by
    show wipe ((wipe σ js).set j none) ks = _
    rw [wipe_set (h j List.mem_cons_self)]
    exact wipe_wipe fun k hk => h k (List.mem_cons_of_mem _ hk)
theorem Post.run {x : SX} {F : Fr} {W : WX} {G : Hp} {io : List Addr} {σ : L2.St} {o : Res} {k : D → S → Res} {Q1 : VK} {a : List D} {s' : S} (h : En.bnd o k = some (.fr (.bx a), s'))
    (hk : ∀ d s v H' G' io', Same G G' → Pre io io' → StR x F s G' io' σ H' → Rp x G' io' d v → k d s = some (.fr (.bx a), s') → Q1 v H') : Post x F W G io o σ Q1 := by
  unfold Post
  unfold En.bnd at h
  split
  · exact fun v H' G' io' sg si t r => hk _ _ v H' G' io' sg si t r h
  · rename_i o1 s
    refine fun a H' G' io' sg sp t ni ow no => ?_
    obtain ⟨G2, io2, a1, a2, a3, a4⟩ := fr_rp t ni ow no
    exact hk _ _ (.ref a) H' G2 io2 (sg.trans a1) (sp.trans a2) a3 a4 h
  · cases h
  · rename_i h1 h2 h3
    split at h
    · exact h1 _ _ rfl
    · exact h2 _ _ rfl
    · exact h3 _ _ _ _ rfl
    · cases h
section
variable {T : Tb} {cc : CC} {X : Cx} {W : WX} {F : Fr} {pos : Pos}
theorem lc_key {own : List (Str × Nat)} {tgc it cd el : E} (hsub : ∀ j ∈ tgIx tgc, j ∈ own.map (·.2)) {σ : L2.St} {H : Hp} {Q : VK} (hq : rd T F W (.lc (own.map (·.2)) tgc it cd el) σ H Q) :
    tLc (rdI T F W it) (rdGF T tgc) (rdTF T W0 cd) (rdF T W0 el) (own.map (·.2)) σ H Q := by
  obtain ⟨s, G, io, t, hp⟩ := hq
  refine ⟨s, G, io, t, ?_⟩
  refine Post.bndI hp fun ds s1 J H1 G1 io1 sg1 si1 t1 wk hp1 => fun D hD => ?_
  split at hp1
  · rename_i accF sF hfin
    have zh : ∀ {m2 : List MO} {Hc G2 : Hp} {io2 : List Addr}, FF T.x H1 G1 io1 m2 Hc G2 io2 → ∀ b u, zOf H1 b = some u → Hc b = some u := fun {m2 Hc G2 io2} ff b u e => by
      obtain ⟨e1, o, w, rfl⟩ := zOf_at e
      exact ff.2.2.2.2.2.2 _ _ _ e1
    have hG1 : G1 D = none := by
      cases e : G1 D with
      | none => rfl
      | some u => rw [t1.gh _ _ e] at hD; cases hD
    obtain ⟨tD, _, fD, nD, oD⟩ := t1.new (o := .lst []) hD
    refine ⟨fun i mm H => mm = ds.length - i ∧ i ≤ ds.length ∧ ∃ m2 G2 io2 acc avs, FF T.x H1 G1 io1 m2 H G2 io2 ∧ H D = some (.lst avs) ∧ G2 D = none ∧ D ∉ io2 ∧ RpL T.x G2 io2 acc avs ∧
        compL (store tgc) (ev T.P T.Gm cd) (ev T.P T.Gm el) (wipeR (valR s1.r) (own.map (·.2))) (ds.drop i) acc m2 = some (.fr (.bx accF), sF), ⟨ds.length, by simp, Nat.zero_le _, s1.m, G1, io1, [], [], ?_, upd_same, hG1, nD, .nil, ?_⟩, ?_⟩
    · exact (FF.refl t1.gt t1.mem).side hD hG1 nD (fun u e => by rw [hD] at e; cases e)
    · rw [List.drop_zero]
      exact hfin
    · rintro i mm Hc ⟨rfl, hi, m2, G2, io2, acc, avs, ff, eD, gD, iD, racc, hrun⟩
      have s12 : Same G1 G2 := (t1.call ff).2
      by_cases hlt : i < ds.length
      · have hd : ds[i]? = some ds[i] := List.getElem?_eq_getElem hlt
        refine .inr ⟨wk.go i Hc hlt (s12.trans ff.1.1) (zh ff), fun H' => ∃ m2 G2 io2 acc avs, FF T.x H1 G1 io1 m2 H' G2 io2 ∧ H' D = some (.lst avs) ∧ G2 D = none ∧ D ∉ io2 ∧ RpL T.x G2 io2 acc avs ∧
          compL (store tgc) (ev T.P T.Gm cd) (ev T.P T.Gm el) (wipeR (valR s1.r) (own.map (·.2))) (ds.drop (i + 1)) acc m2 = some (.fr (.bx accF), sF), fun H' hN => ⟨ds.length - (i + 1), by omega, rfl, hlt, hN⟩, fun v H' hy => ?_⟩
        -- the turn
        have tin := t1.inner (own := own.map (·.2)) ff s12
        obtain ⟨G3, sg3, t3, r3, sh3⟩ := yield_rp wk tin s12 ff.2.2.2.2.1 (zh ff) hd hy
        rw [List.drop_eq_getElem_cons hlt] at hrun
        simp only [compL] at hrun
        -- the frame of the turn begins at H'
        have ffi : FF T.x Hc G2 io2 m2 H' G3 io2 := t3.ff
        have eD' : H' D = some (.lst avs) := sh3 _ _ eD
        have gD' : G3 D = none := by rw [ffi.2.2.2.1 D (by rw [eD]; simp)]; exact gD
        have tt : StR T.x ⟨H', G3, io2, zOf H'⟩ ⟨wipeR (valR s1.r) (own.map (·.2)), m2⟩ G3 io2 (wipe σ (own.map (·.2))) H' := t1.inner (FF.trans t1.mem (s1 := ⟨[], m2⟩) ff ffi) (s12.trans sg3)
        cases hst : store tgc ds[i] ⟨wipeR (valR s1.r) (own.map (·.2)), m2⟩ with
        | none => rw [hst] at hrun; cases hrun
        | some s4 =>
          rw [hst] at hrun
          refine ⟨⟨H', G3, io2, zOf H'⟩, _, G3, io2, ds[i], s4, tt, r3, hst, fun σ2 t4 hw => ⟨(hw _ hsub).trans (wipe_wipe fun _ h => h), ?_⟩⟩
          -- what remains of the run
          have fin : ∀ {H5 G5 : Hp} {io5 : List Addr} {s5 : S} {σ5 : L2.St}, StR T.x ⟨H', G3, io2, zOf H'⟩ s5 G5 io5 σ5 H5 → FF T.x H1 G1 io1 s5.m H5 G5 io5 ∧ H5 D = some (.lst avs) ∧ G5 D = none ∧ D ∉ io5 ∧ RpL T.x G5 io5 acc avs := by
            intro H5 G5 io5 s5 σ5 t5
            have f5 := t5.ff
            have ne : H' D ≠ none := by rw [eD']; simp
            have i5 : D ∉ io5 := fun hm => by
              obtain ⟨n, hn, e⟩ := List.getElem_of_mem hm
              by_cases hl : n < io2.length
              · obtain ⟨k, hk⟩ := f5.2.2.2.2.1
                apply iD
                have : io5[n] = io2[n] := by simp [hk, List.getElem_append_left hl]
                rw [← e, this]
                exact List.getElem_mem _
              · exact ne (f5.2.2.2.2.2.1 n D (by omega) (by rw [List.getElem?_eq_getElem hn, e]))
            refine ⟨FF.trans t1.mem (s1 := ⟨[], m2⟩) (FF.trans t1.mem (s1 := ⟨[], m2⟩) ff ffi) f5, f5.2.2.1 D _ eD' iD (not_tb t3.tb eD' fun ps z => by cases z), by rw [f5.2.2.2.1 D ne]; exact gD', i5, racc.mono ?_ f5.2.2.2.2.1⟩
            exact sg3.trans fun b u e => by rw [f5.2.2.2.1 b (by rw [t3.gh _ _ e]; simp)]; exact e
          refine ⟨⟨H', G3, io2, zOf H'⟩, s4, G3, io2, t4, ?_⟩
          refine Post.run hrun fun c s5 vc H5 G5 io5 sg5 si5 t5 r5 hrun5 => ?_
          cases c with
          | bl b =>
            cases (show vc = .bl b from r5)
            refine ⟨b, rfl, ?_⟩
            cases b with
            | false =>
              refine iteF ?_
              obtain ⟨f1, f2, f3, f4, f5⟩ := fin t5
              exact ⟨s5.m, G5, io5, acc, avs, f1, f2, f3, f4, f5, hrun5⟩
            | true =>
              refine iteT ⟨⟨H', G3, io2, zOf H'⟩, s5, G5, io5, t5, ?_⟩
              refine Post.run hrun5 fun y s6 vy H6 G6 io6 sg6 si6 t6 r6 hrun6 => ?_
              split at hrun6
              · rename_i hl
                obtain ⟨f1, f2, f3, f4, f5⟩ := fin t6
                refine ⟨avs, f2, by rw [f5.length]; exact big_lt hl, s6.m, G6, io6, acc ++ [y], avs ++ [vy], f1.side hD f3 f4 (fun u e => by rw [f2] at e; cases e; exact ⟨fun ps z => (by cases z), fun φ z => (by cases z)⟩), upd_same, f3, f4, f5.append (.cons r6 .nil), hrun6⟩
              · cases hrun6
          | _ => cases hrun5
      · have e : i = ds.length := by omega
        subst e
        rw [List.drop_length] at hrun
        simp only [compL] at hrun
        cases hrun
        refine .inl ⟨wk.stop Hc (s12.trans ff.1.1) (zh ff), ?_⟩
        obtain ⟨t2, _⟩ := t1.call ff
        exact hp1 D Hc G2 io2 s12 ff.2.2.2.2.1 t2 iD ⟨avs, _, eD, gD, fD, racc, rfl, trivial⟩ oD
  · exact hp1.elim
theorem s_lc (o : XOk T cc X W) {elt tg iter : Expr} {ifs : List Expr} {scope : Scope} {own : List (Str × Nat)} {tgc it cd el : E} (hb : BlkOk X.N X.env.scope scope own) (hsub : ∀ j ∈ tgIx tgc, j ∈ own.map (·.2)) (hi : PI X tg iter (rdI T F W it)) (hset : isSet iter = false)
    (hg : ∀ (X' : Cx), XOk T (cc.blk scope) X' W0 → ∀ F, PG X' tg (rdG T F tgc))
    (ht : ∀ (X' : Cx), XOk T (cc.blk scope) X' W0 → PTs X' ifs (rdTF T W0 cd))
    (he : ∀ (X' : Cx), XOk T (cc.blk scope) X' W0 → ∀ F, PE X' elt (rd T F W0 el)) :
    PE X (.ListComp elt [⟨tg, iter, ifs, 0⟩] scope pos) (rd T F W (.lc (own.map (·.2)) tgc it cd el)) :=
  PE.wk (pe_lc (own := own) o.calm o.nd hi hb (fun s H C cl fp => PG.exF (hg _ (o.blk hb s H C cl fp))) (fun s H C cl fp => ht _ (o.blk hb s H C cl fp)) (fun s H C cl fp => PE.exF (he _ (o.blk hb s H C cl fp))) (folded_no hset)) fun σ H Q hq => lc_key hsub hq
theorem s_asnLc (o : XOk T cc X W) {i : Nat} {y : Str} {py spos : Pos} {S : E} {elt tg iter : Expr} {ifs : List Expr} {scope : Scope} {own : List (Str × Nat)} {tgc it cd el : E} (hb : BlkOk X.N X.env.scope scope own) (hsub : ∀ j ∈ tgIx tgc, j ∈ own.map (·.2)) (hi : PI X tg iter (rdI T F W it)) (hset : isSet iter = false)
    (hg : ∀ (X' : Cx), XOk T (cc.blk scope) X' W0 → ∀ F, PG X' tg (rdG T F tgc))
    (ht : ∀ (X' : Cx), XOk T (cc.blk scope) X' W0 → PTs X' ifs (rdTF T W0 cd))
    (he : ∀ (X' : Cx), XOk T (cc.blk scope) X' W0 → ∀ F, PE X' elt (rd T F W0 el))
    (hS : ∀ D σ H, rdS T F W S D σ H → rd T F W (.lc (own.map (·.2)) tgc it cd el) σ H (fun v H1 => D.nx (σ.set i (some v)) H1)) (h : tgt cc i y = true) (hk : cc.sc.kind = .function) (hy : cc.sc.names.lookup y = some .local) (hl : (py.line == pos.line) = true)
    (ha : (scope.names.any fun (n, k) => n == y && (k == .local || k == .cell)) = false) :
    PS X (.Assign [.Name y py] (.ListComp elt [⟨tg, iter, ifs, 0⟩] scope pos) spos) (rdS T F W S) :=
  PS.wk (ps_setLc (own := own) o.calm o.nd (o.tgt h).1 (by rw [o.sc]; exact hy) (sw_true (by rw [o.sc]; exact hk) (by rw [o.sc]; exact hy) hl ha) hi hb (fun s H C cl fp => PG.exF (hg _ (o.blk hb s H C cl fp))) (fun s H C cl fp => ht _ (o.blk hb s H C cl fp)) (fun s H C cl fp => PE.exF (he _ (o.blk hb s H C cl fp))) (folded_no hset))
    fun D σ H hq => lc_key hsub (hS D σ H hq)
end
end En

namespace En
open PySem PySem.Spec L2
theorem StR.inner' {x : SX} {F : Fr} {G H G1 H1 : Hp} {io io1 : List Addr} {σ : L2.St} {s : S} {m : List MO} {own : List Nat} (t : StR x F s G io σ H) (gh : Gh x G1 H1) (hm : MemA x G1 io1 H1 m) (p : Pre io io1) (sg : Same G G1) :
    StR x ⟨H1, G1, io1, zOf H1⟩ ⟨wipeR (valR s.r) own, m⟩ G1 io1 (wipe σ own) H1 where
  gh := gh.1
  len := by rw [wipeR_len, valR_len, wipe_length]; exact t.len
  slot := fun i c e => by
    obtain ⟨e1, hn⟩ := wipeR_get e
    obtain ⟨e2, ho⟩ := valR_get e1
    obtain ⟨v, q1, q2⟩ := t.slot i c e2
    refine ⟨v, wipe_get hn q1, ?_⟩
    cases c with
    | val d => exact Rp.mono sg p q2
    | _ => cases ho
  own := fun i j c c' v _ e1 _ o1 => by
    obtain ⟨e2, _⟩ := wipeR_get e1
    obtain ⟨_, ho⟩ := valR_get e2
    rw [o1] at ho; cases ho
  mem := hm
  kh := fun _ _ e _ _ => e
  kg := fun _ _ => rfl
  ki := Pre.refl _
  ni := fun n a hn e => by
    have hn : io1.length ≤ n := hn
    rw [List.getElem?_eq_none (by omega)] at e; cases e
  zl := fun _ _ e => zOf_at e
  tb := gh.2
theorem PostI.run {x : SX} {F : Fr} {W : WX} {G : Hp} {io : List Addr} {σ : L2.St} {o : Res} {k : List D → S → Res} {R : It → Hp → Prop} {a : List D} {s' : S} (h : En.bndA o k = some (.fr (.bx a), s'))
    (hk : ∀ ds s J H' G' io', Same G G' → Pre io io' → StR x F s G' io' σ H' → WalkD x (zOf H') G' io' J ds → k ds s = some (.fr (.bx a), s') → R J H') : PostI x F W G io o σ R := by
  unfold PostI
  unfold En.bndA at h
  split
  · exact fun J H' G' io' sg si t w => hk _ _ J H' G' io' sg si t w h
  · cases h
  · rename_i h1 h3
    split at h
    · exact h1 _ _ rfl
    · exact h3 _ _ _ _ rfl
    · cases h
section
variable {T : Tb} {cc : CC} {X : Cx} {W : WX} {F : Fr} {pos : Pos}
theorem lc_in {D : Addr} {own1 : List Nat} {tgc cd el : E} (hsub : ∀ j ∈ tgIx tgc, j ∈ own1) {σ2 : L2.St} {H1 G1 : Hp} {io1 : List Addr} {m1 : List MO} (bm : MemA T.x G1 io1 H1 m1) (hD : H1 D = none)
    {F5 : Fr} {s5 : S} {G5 H5 : Hp} {io5 : List Addr} (t5 : StR T.x F5 s5 G5 io5 σ2 H5) (ff5 : FF T.x H1 G1 io1 s5.m H5 G5 io5) {acc : List En.D} {avs : List V} (eD : H5 D = some (.lst avs)) (gD : G5 D = none) (iD : D ∉ io5) (racc : RpL T.x G5 io5 acc avs)
    {J : It} {ds : List En.D} (wk : WalkD T.x (zOf H5) G5 io5 J ds) {accF : List En.D} {sF : S} (hrun : compL (store tgc) (ev T.P T.Gm cd) (ev T.P T.Gm el) (wipeR (valR s5.r) own1) ds acc s5.m = some (.fr (.bx accF), sF))
    {Nx : Hp → Prop} (hNx : ∀ H G2 io2 avs, FF T.x H1 G1 io1 sF.m H G2 io2 → H D = some (.lst avs) → G2 D = none → D ∉ io2 → RpL T.x G2 io2 accF avs → Nx H) :
    ∃ W1 : Nat → Nat → Hp → Prop, (∃ m, W1 0 m H5) ∧ ∀ j k H, W1 j k H →
      (J.stop j H ∧ Nx H) ∨ (J.go j H ∧ ∃ Nx1 : Hp → Prop, (∀ H', Nx1 H' → ∃ k', k' < k ∧ W1 (j + 1) k' H') ∧ ∀ x H', J.yld j H x H' → rdGF T tgc x (wipe σ2 own1) H' fun σ3 H5 => wipe σ3 own1 = wipe σ2 own1 ∧ rdTF T W0 cd σ3 H5 fun b H6 =>
        if b = true then rdF T W0 el σ3 H6 fun y H7 => ∃ acc, H7 D = some (.lst acc) ∧ acc.length < sizeLine ∧ Nx1 (upd H7 D (.lst (acc ++ [y]))) else Nx1 H6) := by
  refine ⟨fun j k H => k = ds.length - j ∧ j ≤ ds.length ∧ ∃ m2 G2 io2 acc avs, FF T.x H1 G1 io1 m2 H G2 io2 ∧ Same G5 G2 ∧ Pre io5 io2 ∧ (∀ b u, zOf H5 b = some u → H b = some u) ∧ H D = some (.lst avs) ∧ G2 D = none ∧ D ∉ io2 ∧ RpL T.x G2 io2 acc avs ∧
      compL (store tgc) (ev T.P T.Gm cd) (ev T.P T.Gm el) (wipeR (valR s5.r) own1) (ds.drop j) acc m2 = some (.fr (.bx accF), sF), ⟨ds.length, by simp, Nat.zero_le _, s5.m, G5, io5, acc, avs, ff5, Same.refl _, Pre.refl _, fun b u e => (zOf_at e).1, eD, gD, iD, racc, by rw [List.drop_zero]; exact hrun⟩, ?_⟩
  rintro i mm Hc ⟨rfl, hi, m2, G2, io2, acc, avs, ff, s52, p52, zh, eD, gD, iD, racc, hrun⟩
  by_cases hlt : i < ds.length
  · have hd : ds[i]? = some ds[i] := List.getElem?_eq_getElem hlt
    refine .inr ⟨wk.go i Hc hlt (s52.trans ff.1.1) zh, fun H => ∃ m2 G2 io2 acc avs, FF T.x H1 G1 io1 m2 H G2 io2 ∧ Same G5 G2 ∧ Pre io5 io2 ∧ (∀ b u, zOf H5 b = some u → H b = some u) ∧ H D = some (.lst avs) ∧ G2 D = none ∧ D ∉ io2 ∧ RpL T.x G2 io2 acc avs ∧
      compL (store tgc) (ev T.P T.Gm cd) (ev T.P T.Gm el) (wipeR (valR s5.r) own1) (ds.drop (i + 1)) acc m2 = some (.fr (.bx accF), sF), fun H' hN => ⟨ds.length - (i + 1), by omega, rfl, hlt, hN⟩, fun v H' hy => ?_⟩
    have tin := t5.inner' (own := own1) ff.1 ff.2.1 p52 s52
    obtain ⟨G3, sg3, t3, r3, sh3⟩ := yield_rp wk tin s52 p52 zh hd hy
    rw [List.drop_eq_getElem_cons hlt] at hrun
    simp only [compL] at hrun
    have ffi : FF T.x Hc G2 io2 m2 H' G3 io2 := t3.ff
    have eD' : H' D = some (.lst avs) := sh3 _ _ eD
    have gD' : G3 D = none := by rw [ffi.2.2.2.1 D (by rw [eD]; simp)]; exact gD
    have tt : StR T.x ⟨H', G3, io2, zOf H'⟩ ⟨wipeR (valR s5.r) own1, m2⟩ G3 io2 (wipe σ2 own1) H' := t5.inner' t3.gt t3.mem p52 (s52.trans sg3)
    cases hst : store tgc ds[i] ⟨wipeR (valR s5.r) own1, m2⟩ with
    | none => rw [hst] at hrun; cases hrun
    | some s4 =>
      rw [hst] at hrun
      refine ⟨⟨H', G3, io2, zOf H'⟩, _, G3, io2, ds[i], s4, tt, r3, hst, fun σ3 t4 hw => ⟨(hw _ hsub).trans (wipe_wipe fun _ h => h), ?_⟩⟩
      have fin : ∀ {H6 G6 : Hp} {io6 : List Addr} {s6 : S} {σ6 : L2.St}, StR T.x ⟨H', G3, io2, zOf H'⟩ s6 G6 io6 σ6 H6 → FF T.x H1 G1 io1 s6.m H6 G6 io6 ∧ Same G5 G6 ∧ Pre io5 io6 ∧ (∀ b u, zOf H5 b = some u → H6 b = some u) ∧ H6 D = some (.lst avs) ∧ G6 D = none ∧ D ∉ io6 ∧ RpL T.x G6 io6 acc avs := by
        intro H6 G6 io6 s6 σ6 t6
        have f5 := t6.ff
        have ne : H' D ≠ none := by rw [eD']; simp
        have i5 : D ∉ io6 := fun hm => by
          obtain ⟨n, hn, e⟩ := List.getElem_of_mem hm
          by_cases hl : n < io2.length
          · obtain ⟨k, hk⟩ := f5.2.2.2.2.1
            apply iD
            have : io6[n] = io2[n] := by simp [hk, List.getElem_append_left hl]
            rw [← e, this]
            exact List.getElem_mem _
          · exact ne (f5.2.2.2.2.2.1 n D (by omega) (by rw [List.getElem?_eq_getElem hn, e]))
        have s36 : Same G3 G6 := fun b u e => by rw [f5.2.2.2.1 b (by rw [t3.gh _ _ e]; simp)]; exact e
        refine ⟨FF.trans bm (s1 := ⟨[], m2⟩) (FF.trans bm (s1 := ⟨[], m2⟩) ff ffi) f5, (s52.trans sg3).trans s36, p52.trans f5.2.2.2.2.1, fun b u e => ?_, f5.2.2.1 D _ eD' iD (not_tb t3.tb eD' fun ps z => by cases z), by rw [f5.2.2.2.1 D ne]; exact gD', i5, racc.mono (sg3.trans s36) f5.2.2.2.2.1⟩
        obtain ⟨_, o, w, rfl⟩ := zOf_at e
        exact f5.2.2.2.2.2.2 _ _ _ (sh3 _ _ (zh b _ e))
      refine ⟨⟨H', G3, io2, zOf H'⟩, s4, G3, io2, t4, ?_⟩
      refine Post.run hrun fun c s6 vc H6 G6 io6 sg6 si6 t6 r6 hrun6 => ?_
      cases c with
      | bl b =>
        cases (show vc = .bl b from r6)
        refine ⟨b, rfl, ?_⟩
        cases b with
        | false =>
          refine iteF ?_
          obtain ⟨f1, f1a, f1b, f1c, f2, f3, f4, f5⟩ := fin t6
          exact ⟨s6.m, G6, io6, acc, avs, f1, f1a, f1b, f1c, f2, f3, f4, f5, hrun6⟩
        | true =>
          refine iteT ⟨⟨H', G3, io2, zOf H'⟩, s6, G6, io6, t6, ?_⟩
          refine Post.run hrun6 fun y s7 vy H7 G7 io7 sg7 si7 t7 r7 hrun7 => ?_
          split at hrun7
          · rename_i hl
            obtain ⟨f1, f1a, f1b, f1c, f2, f3, f4, f5⟩ := fin t7
            refine ⟨avs, f2, by rw [f5.length]; exact big_lt hl, s7.m, G7, io7, acc ++ [y], avs ++ [vy], f1.side hD f3 f4 (fun u e => by rw [f2] at e; cases e; exact ⟨fun ps z => (by cases z), fun φ z => (by cases z)⟩), f1a, f1b, fun b u e => ?_, upd_same, f3, f4, f5.append (.cons r7 .nil), hrun7⟩
            have ne : b ≠ D := fun z => by
              have q := f1c b u e
              rw [z, f2] at q
              obtain ⟨_, o, w, rfl⟩ := zOf_at e
              cases q
            rw [upd_ne ne]
            exact f1c b u e
          · cases hrun7
      | _ => cases hrun6
  · have e : i = ds.length := by omega
    subst e
    rw [List.drop_length] at hrun
    simp only [compL] at hrun
    cases hrun
    exact .inl ⟨wk.stop Hc (s52.trans ff.1.1) zh, hNx Hc G2 io2 avs ff eD gD iD racc⟩
theorem lc2_key {own : List (Str × Nat)} {vs1 : List Nat} {tgc it cd tg1 it1 cd1 el : E} (hsub : ∀ j ∈ tgIx tgc, j ∈ own.map (·.2)) (hsub1 : ∀ j ∈ tgIx tg1, j ∈ vs1) {σ : L2.St} {H : Hp} {Q : VK} (hq : rd T F W (.lc2 (own.map (·.2)) vs1 tgc it cd tg1 it1 cd1 el) σ H Q) :
    tLc2 (rdI T F W it) (rdGF T tgc) (rdTF T W0 cd) (fun σ H R => ∃ F, rdI T F W0 it1 σ H R) (rdGF T tg1) (rdTF T W0 cd1) (rdF T W0 el) (own.map (·.2)) vs1 σ H Q := by
  obtain ⟨s, G, io, t, hp⟩ := hq
  refine ⟨s, G, io, t, ?_⟩
  refine Post.bndI hp fun ds s1 J H1 G1 io1 sg1 si1 t1 wk hp1 => fun D hD => ?_
  split at hp1
  · rename_i accF sF hfin
    have zh : ∀ {m2 : List MO} {Hc G2 : Hp} {io2 : List Addr}, FF T.x H1 G1 io1 m2 Hc G2 io2 → ∀ b u, zOf H1 b = some u → Hc b = some u := fun {m2 Hc G2 io2} ff b u e => by
      obtain ⟨e1, o, w, rfl⟩ := zOf_at e
      exact ff.2.2.2.2.2.2 _ _ _ e1
    have hG1 : G1 D = none := by
      cases e : G1 D with
      | none => rfl
      | some u => rw [t1.gh _ _ e] at hD; cases hD
    obtain ⟨tD, _, fD, nD, oD⟩ := t1.new (o := .lst []) hD
    obtain ⟨inn, hinn⟩ : ∃ inn : List En.D → S → Res, inn = fun acc s => En.bndA (ev T.P T.Gm it1 s) fun ds s => compL (store tg1) (ev T.P T.Gm cd1) (ev T.P T.Gm el) (wipeR (valR s.r) vs1) ds acc s.m := ⟨_, rfl⟩
    rw [← hinn] at hfin
    refine ⟨fun i mm H => mm = ds.length - i ∧ i ≤ ds.length ∧ ∃ m2 G2 io2 acc avs, FF T.x H1 G1 io1 m2 H G2 io2 ∧ H D = some (.lst avs) ∧ G2 D = none ∧ D ∉ io2 ∧ RpL T.x G2 io2 acc avs ∧
        compL2 (store tgc) (ev T.P T.Gm cd) inn (wipeR (valR s1.r) (own.map (·.2))) (ds.drop i) acc m2 = some (.fr (.bx accF), sF), ⟨ds.length, by simp, Nat.zero_le _, s1.m, G1, io1, [], [], ?_, upd_same, hG1, nD, .nil, ?_⟩, ?_⟩
    · exact (FF.refl t1.gt t1.mem).side hD hG1 nD (fun u e => by rw [hD] at e; cases e)
    · rw [List.drop_zero]
      exact hfin
    · rintro i mm Hc ⟨rfl, hi, m2, G2, io2, acc, avs, ff, eD, gD, iD, racc, hrun⟩
      have s12 : Same G1 G2 := (t1.call ff).2
      by_cases hlt : i < ds.length
      · have hd : ds[i]? = some ds[i] := List.getElem?_eq_getElem hlt
        refine .inr ⟨wk.go i Hc hlt (s12.trans ff.1.1) (zh ff), fun H' => ∃ m2 G2 io2 acc avs, FF T.x H1 G1 io1 m2 H' G2 io2 ∧ H' D = some (.lst avs) ∧ G2 D = none ∧ D ∉ io2 ∧ RpL T.x G2 io2 acc avs ∧
          compL2 (store tgc) (ev T.P T.Gm cd) inn (wipeR (valR s1.r) (own.map (·.2))) (ds.drop (i + 1)) acc m2 = some (.fr (.bx accF), sF), fun H' hN => ⟨ds.length - (i + 1), by omega, rfl, hlt, hN⟩, fun v H' hy => ?_⟩
        have tin := t1.inner (own := own.map (·.2)) ff s12
        obtain ⟨G3, sg3, t3, r3, sh3⟩ := yield_rp wk tin s12 ff.2.2.2.2.1 (zh ff) hd hy
        rw [List.drop_eq_getElem_cons hlt] at hrun
        simp only [compL2] at hrun
        have ffi : FF T.x Hc G2 io2 m2 H' G3 io2 := t3.ff
        have eD' : H' D = some (.lst avs) := sh3 _ _ eD
        have gD' : G3 D = none := by rw [ffi.2.2.2.1 D (by rw [eD]; simp)]; exact gD
        have tt : StR T.x ⟨H', G3, io2, zOf H'⟩ ⟨wipeR (valR s1.r) (own.map (·.2)), m2⟩ G3 io2 (wipe σ (own.map (·.2))) H' := t1.inner (FF.trans t1.mem (s1 := ⟨[], m2⟩) ff ffi) (s12.trans sg3)
        cases hst : store tgc ds[i] ⟨wipeR (valR s1.r) (own.map (·.2)), m2⟩ with
        | none => rw [hst] at hrun; cases hrun
        | some s4 =>
          rw [hst] at hrun
          refine ⟨⟨H', G3, io2, zOf H'⟩, _, G3, io2, ds[i], s4, tt, r3, hst, fun σ2 t4 hw => ⟨(hw _ hsub).trans (wipe_wipe fun _ h => h), ?_⟩⟩
          have fin : ∀ {H5 G5 : Hp} {io5 : List Addr} {s5 : S} {σ5 : L2.St}, StR T.x ⟨H', G3, io2, zOf H'⟩ s5 G5 io5 σ5 H5 → FF T.x H1 G1 io1 s5.m H5 G5 io5 ∧ H5 D = some (.lst avs) ∧ G5 D = none ∧ D ∉ io5 ∧ RpL T.x G5 io5 acc avs := by
            intro H5 G5 io5 s5 σ5 t5
            have f5 := t5.ff
            have ne : H' D ≠ none := by rw [eD']; simp
            have i5 : D ∉ io5 := fun hm => by
              obtain ⟨n, hn, e⟩ := List.getElem_of_mem hm
              by_cases hl : n < io2.length
              · obtain ⟨k, hk⟩ := f5.2.2.2.2.1
                apply iD
                have : io5[n] = io2[n] := by simp [hk, List.getElem_append_left hl]
                rw [← e, this]
                exact List.getElem_mem _
              · exact ne (f5.2.2.2.2.2.1 n D (by omega) (by rw [List.getElem?_eq_getElem hn, e]))
            refine ⟨FF.trans t1.mem (s1 := ⟨[], m2⟩) (FF.trans t1.mem (s1 := ⟨[], m2⟩) ff ffi) f5, f5.2.2.1 D _ eD' iD (not_tb t3.tb eD' fun ps z => by cases z), by rw [f5.2.2.2.1 D ne]; exact gD', i5, racc.mono ?_ f5.2.2.2.2.1⟩
            exact sg3.trans fun b u e => by rw [f5.2.2.2.1 b (by rw [t3.gh _ _ e]; simp)]; exact e
          refine ⟨⟨H', G3, io2, zOf H'⟩, s4, G3, io2, t4, ?_⟩
          refine Post.run hrun fun c s5 vc H5 G5 io5 sg5 si5 t5 r5 hrun5 => ?_
          cases c with
          | bl b =>
            cases (show vc = .bl b from r5)
            refine ⟨b, rfl, ?_⟩
            cases b with
            | false =>
              refine iteF ?_
              obtain ⟨f1, f2, f3, f4, f5⟩ := fin t5
              exact ⟨s5.m, G5, io5, acc, avs, f1, f2, f3, f4, f5, hrun5⟩
            | true =>
              dsimp only at hrun5
              split at hrun5
              · rename_i acc2 s3 hin
                refine iteT ⟨⟨H', G3, io2, zOf H'⟩, s5, G5, io5, t5, ?_⟩
                rw [hinn] at hin
                refine PostI.run hin fun ds1 s6 J1 H6 G6 io6 sg6 si6 t6 wk6 hrun6 => ?_
                obtain ⟨f1, f2, f3, f4, f5⟩ := fin t6
                exact lc_in hsub1 t1.mem hD t6 f1 f2 f3 f4 f5 wk6 hrun6 fun H G2 io2 avs g1 g2 g3 g4 g5 => ⟨s3.m, G2, io2, acc2, avs, g1, g2, g3, g4, g5, hrun5⟩
              · cases hrun5
          | _ => cases hrun5
      · have e : i = ds.length := by omega
        subst e
        rw [List.drop_length] at hrun
        simp only [compL2] at hrun
        cases hrun
        refine .inl ⟨wk.stop Hc (s12.trans ff.1.1) (zh ff), ?_⟩
        obtain ⟨t2, _⟩ := t1.call ff
        exact hp1 D Hc G2 io2 s12 ff.2.2.2.2.1 t2 iD ⟨avs, _, eD, gD, fD, racc, rfl, trivial⟩ oD
  · exact hp1.elim
theorem PI.exF {tg e : Expr} {c : E} {X : Cx} {W : WX} (h : ∀ F, PI X tg e (rdI T F W c)) : PI X tg e (fun σ H R => ∃ F, rdI T F W c σ H R) := ⟨fun pins s σ H R I ⟨F, q⟩ => (h F).run pins s σ H R I q⟩
theorem s_lc2 (o : XOk T cc X W) {elt tg iter tg1 iter1 : Expr} {ifs ifs1 : List Expr} {scope : Scope} {own : List (Str × Nat)} {vs1 : List Nat} {tgc it cd tgc1 it1 cd1 el : E} (hb : BlkOk X.N X.env.scope scope own) (hsub : ∀ j ∈ tgIx tgc, j ∈ own.map (·.2)) (hsub1 : ∀ j ∈ tgIx tgc1, j ∈ vs1) (hv : ∀ i ∈ vs1, i ∈ own.map (·.2))
    (hi : PI X tg iter (rdI T F W it)) (hset : isSet iter = false) (hset1 : isSet iter1 = false)
    (hg : ∀ (X' : Cx), XOk T (cc.blk scope) X' W0 → ∀ F, PG X' tg (rdG T F tgc))
    (ht : ∀ (X' : Cx), XOk T (cc.blk scope) X' W0 → PTs X' ifs (rdTF T W0 cd))
    (hi1 : ∀ (X' : Cx), XOk T (cc.blk scope) X' W0 → ∀ F, PI X' tg1 iter1 (rdI T F W0 it1))
    (hg1 : ∀ (X' : Cx), XOk T (cc.blk scope) X' W0 → ∀ F, PG X' tg1 (rdG T F tgc1))
    (ht1 : ∀ (X' : Cx), XOk T (cc.blk scope) X' W0 → PTs X' ifs1 (rdTF T W0 cd1))
    (he : ∀ (X' : Cx), XOk T (cc.blk scope) X' W0 → ∀ F, PE X' elt (rd T F W0 el)) :
    PE X (.ListComp elt [⟨tg, iter, ifs, 0⟩, ⟨tg1, iter1, ifs1, 0⟩] scope pos) (rd T F W (.lc2 (own.map (·.2)) vs1 tgc it cd tgc1 it1 cd1 el)) :=
  PE.wk (pe_lc2 (own := own) (vs1 := vs1) o.calm o.nd hi hb hv (fun s H C cl fp => PG.exF (hg _ (o.blk hb s H C cl fp))) (fun s H C cl fp => ht _ (o.blk hb s H C cl fp)) (fun s H C cl fp => PI.exF (hi1 _ (o.blk hb s H C cl fp))) (fun s H C cl fp => PG.exF (hg1 _ (o.blk hb s H C cl fp))) (fun s H C cl fp => ht1 _ (o.blk hb s H C cl fp)) (fun s H C cl fp => PE.exF (he _ (o.blk hb s H C cl fp))) (folded_no hset) (fun env x => folded_no hset1 x)) fun σ H Q hq => lc2_key hsub hsub1 hq
theorem s_asnLc2 (o : XOk T cc X W) {i : Nat} {y : Str} {py spos : Pos} {S : E} {elt tg iter tg1 iter1 : Expr} {ifs ifs1 : List Expr} {scope : Scope} {own : List (Str × Nat)} {vs1 : List Nat} {tgc it cd tgc1 it1 cd1 el : E} (hb : BlkOk X.N X.env.scope scope own) (hsub : ∀ j ∈ tgIx tgc, j ∈ own.map (·.2)) (hsub1 : ∀ j ∈ tgIx tgc1, j ∈ vs1) (hv : ∀ i ∈ vs1, i ∈ own.map (·.2))
    (hi : PI X tg iter (rdI T F W it)) (hset : isSet iter = false) (hset1 : isSet iter1 = false)
    (hg : ∀ (X' : Cx), XOk T (cc.blk scope) X' W0 → ∀ F, PG X' tg (rdG T F tgc))
    (ht : ∀ (X' : Cx), XOk T (cc.blk scope) X' W0 → PTs X' ifs (rdTF T W0 cd))
    (hi1 : ∀ (X' : Cx), XOk T (cc.blk scope) X' W0 → ∀ F, PI X' tg1 iter1 (rdI T F W0 it1))
    (hg1 : ∀ (X' : Cx), XOk T (cc.blk scope) X' W0 → ∀ F, PG X' tg1 (rdG T F tgc1))
    (ht1 : ∀ (X' : Cx), XOk T (cc.blk scope) X' W0 → PTs X' ifs1 (rdTF T W0 cd1))
    (he : ∀ (X' : Cx), XOk T (cc.blk scope) X' W0 → ∀ F, PE X' elt (rd T F W0 el))
    (hS : ∀ D σ H, rdS T F W S D σ H → rd T F W (.lc2 (own.map (·.2)) vs1 tgc it cd tgc1 it1 cd1 el) σ H (fun v H1 => D.nx (σ.set i (some v)) H1)) (h : tgt cc i y = true) (hk : cc.sc.kind = .function) (hy : cc.sc.names.lookup y = some .local) (hl : (py.line == pos.line) = true)
    (ha : (scope.names.any fun (n, k) => n == y && (k == .local || k == .cell)) = false) :
    PS X (.Assign [.Name y py] (.ListComp elt [⟨tg, iter, ifs, 0⟩, ⟨tg1, iter1, ifs1, 0⟩] scope pos) spos) (rdS T F W S) :=
  PS.wk (ps_setLc2 (own := own) (vs1 := vs1) o.calm o.nd (o.tgt h).1 (by rw [o.sc]; exact hy) (sw_true (by rw [o.sc]; exact hk) (by rw [o.sc]; exact hy) hl ha) hi hb hv (fun s H C cl fp => PG.exF (hg _ (o.blk hb s H C cl fp))) (fun s H C cl fp => ht _ (o.blk hb s H C cl fp)) (fun s H C cl fp => PI.exF (hi1 _ (o.blk hb s H C cl fp))) (fun s H C cl fp => PG.exF (hg1 _ (o.blk hb s H C cl fp))) (fun s H C cl fp => ht1 _ (o.blk hb s H C cl fp)) (fun s H C cl fp => PE.exF (he _ (o.blk hb s H C cl fp))) (folded_no hset) (fun env x => folded_no hset1 x))
    fun D σ H hq => lc2_key hsub hsub1 (hS D σ H hq)
end
end En

namespace En
open PySem PySem.Spec L2
section
variable {T : Tb} {cc : CC} {X : Cx} {W : WX} {F : Fr} {pos : Pos} {e l r c tg : Expr} {es : List Expr} {a b : E} {st : Stmt} {sts : List Stmt}
theorem s_skp : PS X (.Pass pos) (rdS T F W .skp) := PS.wk ps_pass fun D σ H ⟨s, G, io, t, hp⟩ => hp σ H G io (Same.refl _) (Pre.refl _) t
theorem b_nil : PSs X [] (rdS T F W .skp) := PSs.wk pss_nil fun D σ H ⟨s, G, io, t, hp⟩ => hp σ H G io (Same.refl _) (Pre.refl _) t
theorem PostS.seq {x : SX} {G : Hp} {io : List Addr} {o : Res} {k : S → Res} {D : Ends} {Nx : L2.St → Hp → Prop} (h : PostS x F W G io (match o with | some (.nx, s) => k s | r => r) D)
    (hk : ∀ s σ' H' G' io', Same G G' → Pre io io' → StR x F s G' io' σ' H' → PostS x F W G' io' (k s) D → Nx σ' H') : PostS x F W G io o { D with nx := Nx } := by
  unfold PostS
  split
  · rename_i s
    exact fun σ' H' G' io' sg si t => hk s σ' H' G' io' sg si t (PostS.anti (show PostS x F W G io (k s) D from h) sg si)
  all_goals first
    | exact h
    | skip
  rename_i h1 h2 h3 h4 h5 h6
  split at h
  · rename_i s
    exact absurd rfl (h1 s)
  · unfold PostS at h
    split at h
    · exact h1 _ rfl
    · exact h2 _ rfl
    · exact h3 _ rfl
    · exact h4 _ _ rfl
    · exact h5 _ _ rfl
    · exact h6 _ _ _ _ rfl
    · exact h
theorem b_seq (h1 : PS X st (rdS T F W a)) (h2 : PSs X sts (rdS T F W b)) : PSs X (st :: sts) (rdS T F W (.seq a b)) := by
  refine PSs.wk (pss_cons h1 h2) fun D σ H ⟨s, G, io, t, hp⟩ => ⟨s, G, io, t, ?_⟩
  exact PostS.seq (k := ev T.P T.Gm b) hp fun s σ' H' G' io' sg si t' hp' => ⟨s, G', io', t', hp'⟩
theorem s_ret (ha : PE X e (rd T F W a)) : PS X (.Return (some e) pos) (rdS T F W (.ret a)) := by
  refine PS.wk (ps_ret ha) fun D σ H ⟨s, G, io, t, hp⟩ => ⟨s, G, io, t, ?_⟩
  simp only [ev] at hp
  unfold Post
  split
  · rename_i d s1 he
    rw [he] at hp
    exact fun v H' G' io' sg si t' r => hp v σ H' G' io' sg si t' r
  · rename_i d s1 he
    rw [he] at hp
    exact fun v H' G' io' sg si t' ni ow no => hp v σ H' G' io' sg si t' ni ow
  · rename_i k ns d s1 he
    rw [he] at hp
    exact fun cls dd H' G' io' sg si t' ex => hp cls dd σ H' G' io' sg si t' ex
  · rename_i h1 h2 h3
    split at hp
    · exact h1 _ _ (by assumption)
    · exact h2 _ _ (by assumption)
    · exact h3 _ _ _ _ (by assumption)
    · exact hp
theorem s_rtn : PS X (.Return none pos) (rdS T F W .rtn) := PS.wk ps_retN fun D σ H ⟨s, G, io, t, hp⟩ => hp .non σ H G io (Same.refl _) (Pre.refl _) t rfl
theorem s_iff {k : E} {xs ys : List Stmt} (hc : PT X c (rdT T F W k)) (ha : PSs X xs (rdS T F W a)) (hb : PSs X ys (rdS T F W b)) : PS X (.If c xs ys pos) (rdS T F W (.iff k a b)) := by
  refine PS.wk (ps_if hc ha hb) fun D σ H ⟨s, G, io, t, hp⟩ => ⟨s, G, io, t, ?_⟩
  refine PostS.bnd hp fun d s v H1 G1 io1 sg si t1 r1 hp1 => ?_
  split at hp1
  · rename_i k
    refine ⟨k, r1, ?_⟩
    cases k with
    | true => exact iteT ⟨s, G1, io1, t1, hp1⟩
    | false => exact iteF ⟨s, G1, io1, t1, hp1⟩
  · exact hp1.elim
theorem s_exp (hs : isComp e = false) (ha : PE X e (rd T F W a)) : PS X (.Expr e pos) (rdS T F W (.exp a)) := by
  refine PS.wk (ps_expr ha (swaps_no hs)) fun D σ H ⟨s, G, io, t, hp⟩ => ⟨s, G, io, t, ?_⟩
  refine PostS.bnd hp fun d s v H1 G1 io1 sg si t1 r1 hp1 => ?_
  exact hp1 σ H1 G1 io1 (Same.refl _) (Pre.refl _) t1
theorem asg_rd {i : Nat} {D : Ends} {σ : L2.St} {H : Hp} (h : rdS T F W (.asg i a) D σ H) : rd T F W a σ H (fun v H1 => D.nx (σ.set i (some v)) H1) := by
  obtain ⟨s, G, io, t, hp⟩ := h
  refine ⟨s, G, io, t, ?_⟩
  refine PostS.bnd hp fun d s v H1 G1 io1 sg si t1 r1 hp1 => ?_
  exact hp1 _ H1 G1 io1 (Same.refl _) (Pre.refl _) (t1.setv r1)
theorem StR.seto {x : SX} {F : Fr} {G H : Hp} {io : List Addr} {σ : L2.St} {s : S} {i : Nat} {ds : List D} {p : Addr} (t : StR x F s G io σ H) (ni : p ∉ io) (ow : OwnL x F G io H ds p)
    (no : ∀ (j : Nat) (c : Cell), s.r[j]? = some (some c) → isOwn c = true → σ[j]? ≠ some (some (.ref p))) : StR x F (s.set i (some (.ol ds))) G io (σ.set i (some (.ref p))) H where
  gh := t.gh
  len := by simp [S.set, t.len]
  slot := fun j c e => by
    have e : (s.r.set i (some (.ol ds)))[j]? = some (some c) := e
    by_cases hj : i = j
    · subst hj
      by_cases hi : i < s.r.length
      · rw [List.getElem?_set_self hi] at e
        cases e
        exact ⟨.ref p, by rw [List.getElem?_set_self (by rw [← t.len]; exact hi)], p, rfl, ni, ow⟩
      · rw [List.getElem?_eq_none (by simpa using hi)] at e; cases e
    · rw [List.getElem?_set_ne hj] at e
      obtain ⟨w, e1, q⟩ := t.slot j c e
      exact ⟨w, by rw [List.getElem?_set_ne hj]; exact e1, q⟩
  own := fun j k c c' w hjk e1 e2 o1 o2 z1 z2 => by
    have e1 : (s.r.set i (some (.ol ds)))[j]? = some (some c) := e1
    have e2 : (s.r.set i (some (.ol ds)))[k]? = some (some c') := e2
    by_cases h1 : i = j
    · subst h1
      have h2 : i ≠ k := hjk
      rw [List.getElem?_set_ne h2] at e2 z2
      have hi : i < σ.length := by
        by_cases hi : i < σ.length
        · exact hi
        · rw [List.getElem?_eq_none (by simpa using hi)] at z1; cases z1
      rw [List.getElem?_set_self hi] at z1
      cases z1
      exact no k c' e2 o2 z2
    · by_cases h2 : i = k
      · subst h2
        rw [List.getElem?_set_ne h1] at e1 z1
        have hi : i < σ.length := by
          by_cases hi : i < σ.length
          · exact hi
          · rw [List.getElem?_eq_none (by simpa using hi)] at z2; cases z2
        rw [List.getElem?_set_self hi] at z2
        cases z2
        exact no j c e1 o1 z1
      · rw [List.getElem?_set_ne h1] at e1 z1
        rw [List.getElem?_set_ne h2] at e2 z2
        exact t.own j k c c' w hjk e1 e2 o1 o2 z1 z2
  mem := t.mem
  kh := t.kh
  kg := t.kg
  ki := t.ki
  ni := t.ni
  zl := t.zl
  tb := t.tb
theorem PostS.fr {x : SX} {G : Hp} {io : List Addr} {σ : L2.St} {o : Res} {k : MO → S → Res} {D : Ends} {Q : VK} (h : PostS x F W G io (match o with | some (.fr o, s) => k o s | some (.exc c ns ds, s) => some (.exc c ns ds, s) | _ => none) D)
    (hk : ∀ o s p H' G' io', Same G G' → Pre io io' → StR x F s G' io' σ H' → p ∉ io' → Own x F G' io' H' o p → (∀ (j : Nat) (c : Cell), s.r[j]? = some (some c) → isOwn c = true → σ[j]? ≠ some (some (.ref p))) → PostS x F W G' io' (k o s) D → Q (.ref p) H') : Post x F W G io o σ Q := by
  unfold Post
  split
  · exact h.elim
  · rename_i o1 s
    exact fun p H' G' io' sg si t ni ow no => hk o1 s p H' G' io' sg si t ni ow no (PostS.anti (show PostS x F W G io (k o1 s) D from h) sg si)
  · exact fun cls dd H' G' io' sg si t ex => h cls dd σ H' G' io' sg si t ex
  · rename_i h1 h2 h3
    split at h
    · exact h2 _ _ rfl
    · exact h3 _ _ _ _ rfl
    · exact h
theorem aso_rd {i : Nat} {D : Ends} {σ : L2.St} {H : Hp} (h : rdS T F W (.aso i a) D σ H) : rd T F W a σ H (fun v H1 => D.nx (σ.set i (some v)) H1) := by
  obtain ⟨s, G, io, t, hp⟩ := h
  refine ⟨s, G, io, t, ?_⟩
  have hp : PostS T.x F W G io (match ev T.P T.Gm a s with | some (.fr o, s) => asoK i o s | some (.exc c ns ds, s) => some (.exc c ns ds, s) | _ => none) D := hp
  refine PostS.fr (k := asoK i) hp fun o s q H1 G1 io1 sg si t1 ni ow no hp1 => ?_
  cases o with
  | bx ds => exact hp1 _ H1 G1 io1 (Same.refl _) (Pre.refl _) (t1.seto ni ow.l no)
  | _ => exact (show False from hp1).elim
theorem asb_rd {i : Nat} {D : Ends} {σ : L2.St} {H : Hp} (h : rdS T F W (.asb i a) D σ H) : rd T F W a σ H (fun v H1 => D.nx (σ.set i (some v)) H1) := by
  obtain ⟨s, G, io, t, hp⟩ := h
  refine ⟨s, G, io, t, ?_⟩
  refine PostS.fr (k := fun o s => some (.nx, { r := s.r.set i (some (.val (.adr s.m.length))), m := s.m ++ [o] })) hp fun o s q H1 G1 io1 sg si t1 ni ow no hp1 => ?_
  have t2 := (t1.push ni ow no).setv (i := i) (d := .adr s.m.length) (v := .ref q) ⟨q, rfl, by rw [t1.mem.1]; simp⟩
  exact hp1 _ H1 G1 _ (Same.refl _) ⟨[q], rfl⟩ t2
theorem swaps_cell {e : Expr} {y : Str} {p : Pos} {l : Nat} {env : Env} (h : env.scope.names.lookup y ≠ some .local) : swapsWith e (some (.Name y p)) l env = pure false := by
  have hk : (env.kindOf y == some NameKind.local) = false := by
    cases q : env.kindOf y with
    | none => rfl
    | some k => cases k <;> first | rfl | exact absurd q h
  cases e <;> first
    | rfl
    | (unfold swapsWith; simp only [hk, Bool.and_false, Bool.false_and]; try rfl)
theorem s_asn (o : XOk T cc X W) {i : Nat} {y : Str} {p : Pos} {S : E} (hS : ∀ D σ H, rdS T F W S D σ H → rd T F W a σ H (fun v H1 => D.nx (σ.set i (some v)) H1)) (h : tgt cc i y = true) (hs : isComp e = false ∨ cc.sc.names.lookup y ≠ some .local) (ha : PE X e (rd T F W a)) :
    PS X (.Assign [.Name y p] e pos) (rdS T F W S) := by
  obtain ⟨h1, h2, h3⟩ := o.tgt h
  have hsw : swapsWith e (some (.Name y p)) pos.line X.env = pure false := hs.elim swaps_no fun z => swaps_cell (by rw [o.sc]; exact z)
  exact PS.wk (ps_set (i := i) o.nd h1 h2 ha hsw h3) fun D σ H hq => hS D σ H hq
def isTup : Expr → Bool
  | .Tuple _ _ _ => true
  | _ => false
theorem swapped_no {ts : List Expr} {k : Nat} {p : Pos} {e : Expr} {env : Env} (h : isTup e = false) : swappedStores [.Tuple ts k p] e env = pure none := by
  cases e <;> first | (cases h; done) | rfl
def isFast (sc : Scope) : Expr → Bool
  | .Name id _ => decide (sc.names.lookup id = some .local)
  | _ => false
def swNo (sc : Scope) (ts : List Expr) (e : Expr) : Bool := !isTup e || ts.any fun t => !isFast sc t
theorem fm_short {α β : Type} {f : α → Option β} : ∀ {l : List α}, (l.filterMap f).length ≤ l.length ∧ ((∃ x ∈ l, f x = none) → (l.filterMap f).length < l.length)
  | [] => ⟨Nat.le_refl _, fun ⟨_, h, _⟩ => by cases h⟩
  | a :: l => by
    obtain ⟨h1, h2⟩ := fm_short (f := f) (l := l)
    rw [List.filterMap_cons]
    cases ha : f a with
    | none => exact ⟨Nat.le_succ_of_le h1, fun _ => Nat.lt_succ_of_le h1⟩
    | some b =>
      refine ⟨Nat.succ_le_succ h1, fun ⟨x, hx, e⟩ => ?_⟩
      rcases List.mem_cons.mp hx with rfl | hx
      · rw [ha] at e; cases e
      · exact Nat.succ_lt_succ (h2 ⟨x, hx, e⟩)
theorem swapped_none {ts vs : List Expr} {k k2 : Nat} {p p2 : Pos} {env : Env} (h : (ts.any fun t => !isFast env.scope t) = true) : swappedStores [.Tuple ts k p] (.Tuple vs k2 p2) env = pure none := by
  obtain ⟨t, ht, hf⟩ := List.any_eq_true.mp h
  unfold swappedStores
  simp only []
  split
  · rfl
  · split
    · rfl
    · rw [if_pos]
      rw [Bool.or_eq_true]
      left
      rw [bne_iff_ne]
      refine Nat.ne_of_lt (fm_short.2 ⟨t, ht, ?_⟩)
      cases t with
      | Name id pos =>
        have hf : (!decide (env.scope.names.lookup id = some .local)) = true := hf
        rw [Bool.not_eq_true', decide_eq_false_iff_not] at hf
        have hk : (env.kindOf id == some .local) = false := by
          cases hb : (env.kindOf id == some .local) with
          | false => rfl
          | true => exact absurd (beq_iff_eq.mp hb) hf
        simp [hk]
      | _ => rfl
theorem swNo_ok {env : Env} {ts : List Expr} {k : Nat} {p : Pos} {e : Expr} (h : swNo env.scope ts e = true) : swappedStores [.Tuple ts k p] e env = pure none := by
  unfold swNo at h
  rw [Bool.or_eq_true] at h
  rcases h with h | h
  · exact swapped_no (by simpa using h)
  · cases e with
    | Tuple vs k2 p2 => exact swapped_none h
    | _ => exact swapped_no rfl
theorem s_ast (o : XOk T cc X W) {tgc : E} {ts : List Expr} {k : Nat} {p : Pos} (hs : isComp e = false) (hw : swNo cc.sc ts e = true) (hg : PG X (.Tuple ts k p) (rdG T F tgc)) (ha : PE X e (rd T F W a)) :
    PS X (.Assign [.Tuple ts k p] e pos) (rdS T F W (.ast tgc a)) := by
  refine PS.wk (ps_asg ha hg (swapsSole_no hs) (swNo_ok (by rw [o.sc]; exact hw))) fun D σ H ⟨s, G, io, t, hp⟩ => ⟨s, G, io, t, ?_⟩
  refine PostS.bnd hp fun d s v H1 G1 io1 sg si t1 r1 hp1 => ?_
  cases hst : store tgc d s with
  | none => rw [hst] at hp1; exact hp1.elim
  | some s2 =>
    rw [hst] at hp1
    exact ⟨s, G1, io1, d, s2, t1, r1, hst, fun σ' t' _ => hp1 _ H1 G1 io1 (Same.refl _) (Pre.refl _) t'⟩
end
end En

namespace En
open PySem PySem.Spec L2
theorem swapped_two {x y : Str} {px py pt pt2 : Pos} {kt k2 : Nat} {a b : Expr} {env : Env} (hk : env.scope.kind = .function) (hx : env.scope.names.lookup x = some .local) (hy : env.scope.names.lookup y = some .local) (hxy : x ≠ y) (hl : (py.line == px.line) = true)
    (sa : isStar a = false) (sb : isStar b = false) (hf : [a, b].all (foldedForSure 8) = false) (hc : [a, b].all (constantsAlone 8) = false) :
    swappedStores [.Tuple [.Name x px, .Name y py] kt pt] (.Tuple [a, b] k2 pt2) env = pure (some [x, y]) := by
  have hb : env.blockKind = .function := by unfold Env.blockKind; rw [hk]; rfl
  have kx : (env.kindOf x == some NameKind.local) = true := by
    have : env.kindOf x = some .local := hx
    rw [this]; rfl
  have ky : (env.kindOf y == some NameKind.local) = true := by
    have : env.kindOf y = some .local := hy
    rw [this]; rfl
  have hd : [x, y].eraseDups = [x, y] := by
    have z : (x == y) = false := by simpa using hxy
    have z2 : (y == x) = false := by simpa using Ne.symm hxy
    simp [List.eraseDups_cons, z, z2]
  have hd2 : ([x, y].eraseDups.length != [x, y].length) = false := by rw [hd]; rfl
  unfold swappedStores
  simp only [hb]
  simp only [List.filterMap, List.head?, Option.map, Option.getD, Expr.pos, kx, ky, hl, beq_self_eq_true, Bool.and_self, if_true, List.length_cons, List.length_nil]
  rw [hf, hc]
  have h1 : ∀ {u v : Bool}, u = false → v = false → (u || v) = false := fun {u v} e f => by rw [e, f]; rfl
  simp only [List.any_cons, List.any_nil, Bool.or_false]
  rw [if_neg (by decide), if_neg (show ¬ _ by rw [h1 (by cases a <;> first | rfl | exact Bool.noConfusion sa) (by cases b <;> first | rfl | exact Bool.noConfusion sb)]; exact Bool.false_ne_true)]
  simp [hxy, List.eraseDups_cons, Ne.symm hxy]
section
variable {T : Tb} {cc : CC} {X : Cx} {W : WX} {F : Fr} {pos : Pos} {e l r c tg : Expr} {es : List Expr} {a b : E} {st : Stmt} {sts : List Stmt}
theorem s_par (o : XOk T cc X W) {i j : Nat} {x y : Str} {px py pt pt2 : Pos} {kt k2 : Nat} (hi : cc.N[i]? = some x) (hj : cc.N[j]? = some y) (hk : cc.sc.kind = .function) (hx : cc.sc.names.lookup x = some .local) (hy : cc.sc.names.lookup y = some .local) (hxy : x ≠ y) (hl : (py.line == px.line) = true)
    (sa : isStar l = false) (sb : isStar r = false) (hf : [l, r].all (foldedForSure 8) = false) (hc : [l, r].all (constantsAlone 8) = false) (ha : PE X l (rd T F W a)) (hb : PE X r (rd T F W b)) :
    PS X (.Assign [.Tuple [.Name x px, .Name y py] kt pt] (.Tuple [l, r] k2 pt2) pos) (rdS T F W (.par i j a b)) := by
  have hi' : X.N[i]? = some x := by rw [o.N]; exact hi
  have hj' : X.N[j]? = some y := by rw [o.N]; exact hj
  have hij : i ≠ j := fun z => by subst z; rw [hi] at hj; cases hj; exact hxy rfl
  refine PS.wk (ps_par o.calm o.nd hi' hj' hij (by rw [o.sc]; exact hx) (by rw [o.sc]; exact hy) (pa_cons ha (pa_cons hb pa_nil (star_no sb)) (star_no sa))
    (swapped_two (by rw [o.sc]; exact hk) (by rw [o.sc]; exact hx) (by rw [o.sc]; exact hy) hxy hl sa sb hf hc)) fun D σ H ⟨s, G, io, t, hp⟩ => ⟨s, G, io, t, ?_⟩
  refine PostS.bnd hp fun d s v H1 G1 io1 sg si t1 r1 hp1 => ⟨s, G1, io1, t1, ?_⟩
  refine PostS.bnd hp1 fun d2 s2 v2 H2 G2 io2 sg2 si2 t2 r2 hp2 => ?_
  exact ⟨v, v2, rfl, hp2 _ H2 G2 io2 (Same.refl _) (Pre.refl _) ((t2.setv (r1.mono sg2 si2)).setv r2)⟩
def rdSF (T : Tb) (W : WX) (c : E) : TS := fun D σ H => ∃ F, rdS T F W c D σ H
theorem PSs.exF {ss : List Stmt} {c : E} (h : ∀ F, PSs X ss (rdS T F W c)) : PSs X ss (rdSF T W c) := ⟨fun pins s σ H D I ⟨F, q⟩ => (h F).run pins s σ H D I q⟩
theorem StR.toZ {x : SX} {F : Fr} {G H : Hp} {io : List Addr} {σ : L2.St} {s : S} (t : StR x F s G io σ H) : StR x { F with z := zOf H } s G io σ H :=
  ⟨t.gh, t.len, t.slot, t.own, t.mem, t.kh, t.kg, t.ki, t.ni, fun _ _ e => zOf_at e, t.tb⟩
theorem StR.ofZ {x : SX} {F : Fr} {Z G H : Hp} {io : List Addr} {σ : L2.St} {s : S} (t : StR x { F with z := Z } s G io σ H) (h : ∀ b u, F.z b = some u → Z b = some u) : StR x F s G io σ H :=
  ⟨t.gh, t.len, t.slot, t.own, t.mem, t.kh, t.kg, t.ki, t.ni, fun b u e => t.zl b u (h b u e), t.tb⟩
theorem StR.zz {x : SX} {F : Fr} {G H : Hp} {io : List Addr} {σ : L2.St} {s : S} (t : StR x F s G io σ H) : ∀ b u, F.z b = some u → zOf H b = some u := fun b u e => by
  obtain ⟨e1, o, w, rfl⟩ := t.zl b u e
  exact zOf_of e1
theorem PostS.toZ {x : SX} {F : Fr} {Z G : Hp} {io : List Addr} {W : WX} {o : Res} {D : Ends} (h : ∀ b u, F.z b = some u → Z b = some u) (hp : PostS x F W G io o D) : PostS x { F with z := Z } W G io o D := by
  unfold PostS at hp ⊢
  split at hp
  · exact fun σ' H' G' io' a b t => hp σ' H' G' io' a b (t.ofZ h)
  · exact fun σ' H' G' io' a b t => hp σ' H' G' io' a b (t.ofZ h)
  · exact fun σ' H' G' io' a b t => hp σ' H' G' io' a b (t.ofZ h)
  · exact fun v σ' H' G' io' a b t r => hp v σ' H' G' io' a b (t.ofZ h) r
  · exact fun v σ' H' G' io' a b t n r => hp v σ' H' G' io' a b (t.ofZ h) n r
  · exact fun v d σ' H' G' io' a b t r => hp v d σ' H' G' io' a b (t.ofZ h) r
  · exact hp.elim
theorem Post.toZ {x : SX} {F : Fr} {Z G : Hp} {io : List Addr} {W : WX} {o : Res} {σ : L2.St} {Q : VK} (h : ∀ b u, F.z b = some u → Z b = some u) (hp : Post x F W G io o σ Q) : Post x { F with z := Z } W G io o σ Q := by
  unfold Post at hp ⊢
  split at hp
  · exact fun v H' G' io' a b t r => hp v H' G' io' a b (t.ofZ h) r
  · exact fun v H' G' io' a b t n r q => hp v H' G' io' a b (t.ofZ h) n r q
  · exact fun v d H' G' io' a b t r => hp v d H' G' io' a b (t.ofZ h) r
  · exact hp.elim
theorem s_for (o : XOk T cc X W) {tgc it bd : E} {body : List Stmt} {iter : Expr} (hset : isSet iter = false) (hi : PI X tg iter (rdI T F W it)) (hg : ∀ F, PG X tg (rdG T F tgc)) (hb : ∀ F, PSs X body (rdS T F W bd)) : PS X (.For tg iter body [] pos) (rdS T F W (.frr tgc it bd)) := by
  refine PS.wk (ps_for o.po o.calm hi (PG.exF hg) (PSs.exF hb) (hs := folded_no hset)) fun D σ H ⟨s, G, io, t, hp⟩ => ⟨s, G, io, t, ?_⟩
  refine PostS.bndI hp fun ds s1 J H1 G1 io1 sg1 si1 t0 wk hp1 => ?_
  replace hp1 := PostS.toZ t0.zz hp1
  have t1 := t0.toZ
  generalize hF : ({ F with z := zOf H1 } : Fr) = F1 at t1 hp1
  have hZ : ∀ b u, zOf H1 b = some u → F1.z b = some u := fun b u e => by rw [← hF]; exact e
  refine ⟨fun i mm σ H => mm = ds.length - i ∧ i ≤ ds.length ∧ ∃ s2 G2 io2, Same G1 G2 ∧ Pre io1 io2 ∧ StR T.x F1 s2 G2 io2 σ H ∧ PostS T.x F1 W G2 io2 (forL (store tgc) (ev T.P T.Gm bd) (ds.drop i) s2) D,
    ⟨ds.length, by simp, Nat.zero_le _, s1, G1, io1, Same.refl _, Pre.refl _, t1, by rw [List.drop_zero]; exact hp1⟩, ?_⟩
  rintro i mm σc Hc ⟨rfl, hi, s2, G2, io2, s12, p12, t2, hp2⟩
  by_cases hlt : i < ds.length
  · have hd : ds[i]? = some ds[i] := List.getElem?_eq_getElem hlt
    refine .inr ⟨wk.go i Hc hlt (s12.trans t2.gh) (fun b u e => (t2.zl b u (hZ b u e)).1), fun σ' H' => ∃ s2 G2 io2, Same G1 G2 ∧ Pre io1 io2 ∧ StR T.x F1 s2 G2 io2 σ' H' ∧ PostS T.x F1 W G2 io2 (forL (store tgc) (ev T.P T.Gm bd) (ds.drop (i + 1)) s2) D,
      fun σ' H' hN => ⟨ds.length - (i + 1), by omega, rfl, hlt, hN⟩, fun v H' hy => ?_⟩
    obtain ⟨G3, sg3, t3, r3, _⟩ := yield_rp wk t2 s12 p12 (fun b u e => (t2.zl b u (hZ b u e)).1) hd hy
    rw [List.drop_eq_getElem_cons hlt] at hp2
    simp only [forL] at hp2
    cases hst : store tgc ds[i] s2 with
    | none => rw [hst] at hp2; exact hp2.elim
    | some s4 =>
      rw [hst] at hp2
      have hp3 := hp2.anti sg3 (Pre.refl _)
      have s13 := s12.trans sg3
      refine ⟨F1, s2, G3, io2, ds[i], s4, t3, r3, hst, fun σ2 t4 _ => ⟨F1, s4, G3, io2, t4, ?_⟩⟩
      dsimp only at hp3
      unfold PostS
      split
      · rename_i s5 he
        rw [he] at hp3
        exact fun σ' H' G' io' sg si t' => ⟨s5, G', io', s13.trans sg, p12.trans si, t', PostS.anti (show PostS T.x F1 W G3 io2 (forL _ _ _ s5) D from hp3) sg si⟩
      · rename_i s5 he
        rw [he] at hp3
        exact hp3
      · rename_i s5 he
        rw [he] at hp3
        exact fun σ' H' G' io' sg si t' => ⟨s5, G', io', s13.trans sg, p12.trans si, t', PostS.anti (show PostS T.x F1 W G3 io2 (forL _ _ _ s5) D from hp3) sg si⟩
      · rename_i d s5 he
        rw [he] at hp3
        exact hp3
      · rename_i d s5 he
        rw [he] at hp3
        exact hp3
      · rename_i k ns d s5 he
        rw [he] at hp3
        exact hp3
      · rename_i h1 h2 h3 h4 h5 h6
        split at hp3
        · exact h1 _ (by assumption)
        · exact h3 _ (by assumption)
        · exact h2 _ (by assumption)
        · unfold PostS at hp3
          split at hp3
          · exact h1 _ (by assumption)
          · exact h2 _ (by assumption)
          · exact h3 _ (by assumption)
          · exact h4 _ _ (by assumption)
          · exact h5 _ _ (by assumption)
          · exact h6 _ _ _ _ (by assumption)
          · exact hp3
  · have e : i = ds.length := by omega
    subst e
    rw [List.drop_length] at hp2
    simp only [forL] at hp2
    exact .inl ⟨wk.stop Hc (s12.trans t2.gh) (fun b u e => (t2.zl b u (hZ b u e)).1), hp2 σc Hc G2 io2 (Same.refl _) (Pre.refl _) t2⟩
theorem StR.wmem {x : SX} {F : Fr} {G H : Hp} {io : List Addr} {σ : L2.St} {s : S} {n : Nat} {o o' : MO} {h' : HO} {p : Addr} {vs : List V} (t : StR x F s G io σ H) (hm : s.m[n]? = some o) (hp : io[n]? = some p) (r : RpL x G io o'.ds vs) (hM : MoH x o' vs h') (hL : MoL o') (hF : p ∈ F.i ∨ F.h p = none) (hnf : o.isL = false := by rfl) :
    StR x F { s with m := s.m.set n o' } G io σ (upd H p h') where
  gh := fun b u e => by
    obtain ⟨_, _, _, q2, _⟩ := t.mem.2.2 n _ p hm hp
    rw [upd_ne (fun z => by rw [z, q2] at e; cases e)]
    exact t.gh _ _ e
  len := t.len
  slot := fun j c e => by
    obtain ⟨v, e1, q⟩ := t.slot j c e
    have pm : p ∈ io := List.mem_of_getElem? hp
    refine ⟨v, e1, ?_⟩
    cases c with
    | val d => exact q
    | ol es =>
      obtain ⟨a, rfl, q1, vs, q2, q3⟩ := q
      exact ⟨a, rfl, q1, vs, by rw [upd_ne (fun z => q1 (by rw [z]; exact pm))]; exact q2, q3⟩
    | od ks es =>
      obtain ⟨a, rfl, q1, vs, q2, q3⟩ := q
      exact ⟨a, rfl, q1, vs, by rw [upd_ne (fun z => q1 (by rw [z]; exact pm))]; exact q2, q3⟩
    | lms ks =>
      obtain ⟨a, rfl, q1, vs, q2, q3, q4, q5⟩ := q
      obtain ⟨us, h0, p1, _, _, p4, _⟩ := t.mem.2.2 n _ p hm hp
      refine ⟨a, rfl, q1, vs, by rw [upd_ne (fun z => q1 (by rw [z]; exact pm))]; exact q2, q3, q4, q5.mono (fun b u e y => ?_) (fun _ _ _ e => e)⟩
      rw [upd_ne (fun z => by rw [z, p1] at e; cases e; exact p4.ns y)]
      exact e
  own := t.own
  mem := by
    refine ⟨by simp [t.mem.1], t.mem.2.1, fun k mo a e1 e2 => ?_⟩
    by_cases hk : n = k
    · subst hk
      rw [hp] at e2
      cases e2
      obtain ⟨hn, _⟩ := List.getElem?_eq_some_iff.mp hm
      rw [List.getElem?_set_self hn] at e1
      cases e1
      obtain ⟨_, _, _, q2, _⟩ := t.mem.2.2 n _ p hm hp
      exact ⟨vs, _, upd_same, q2, r, hM, hL⟩
    · rw [List.getElem?_set_ne hk] at e1
      have q := t.mem.2.2 k mo a e1 e2
      have ne : a ≠ p := fun z => by
        subst z
        obtain ⟨h1, g1⟩ := List.getElem?_eq_some_iff.mp hp
        obtain ⟨h2, g2⟩ := List.getElem?_eq_some_iff.mp e2
        exact hk ((List.getElem_inj t.mem.2.1).mp (g1.trans g2.symm))
      obtain ⟨ws, h, q1, q2⟩ := q
      exact ⟨ws, h, by rw [upd_ne ne]; exact q1, q2⟩
  kh := fun b o e n nt => by
    have ne : b ≠ p := fun z => by
      subst z
      rcases hF with h | h
      · exact n h
      · rw [h] at e; cases e
    rw [upd_ne ne]
    exact t.kh b o e n nt
  kg := t.kg
  ki := t.ki
  ni := t.ni
  zl := fun b u e => by
    obtain ⟨e1, e2⟩ := t.zl b u e
    obtain ⟨vs0, h0, q1, _, _, q4, _⟩ := t.mem.2.2 n _ p hm hp
    rw [upd_ne (fun z => by rw [z, q1] at e1; cases e1; exact MoH.nfz hnf q4 e2)]
    exact ⟨e1, e2⟩
  tb := by
    obtain ⟨vs0, h0, q1, _, _, q4, _⟩ := t.mem.2.2 n _ p hm hp
    refine tabs_keep t.tb fun b u e y => ?_
    rw [upd_ne (fun z => by
      rw [z, q1] at e
      cases e
      rcases y with ⟨ps, y⟩ | ⟨φ, y⟩
      · exact q4.nt ps y
      · exact q4.nx φ y)]
    exact e
theorem StR.inF {x : SX} {F : Fr} {G H : Hp} {io : List Addr} {σ : L2.St} {s : S} {n : Nat} {p : Addr} (t : StR x F s G io σ H) (hp : io[n]? = some p) : p ∈ F.i ∨ F.h p = none := by
  by_cases hl : n < F.i.length
  · obtain ⟨k, hk⟩ := t.ki
    rw [hk, List.getElem?_append_left hl] at hp
    exact .inl (List.mem_of_getElem? hp)
  · exact .inr (t.ni n p (by omega) hp)
theorem sub_no {l r : Expr} {q : Pos} {env : Env} (h : isSl r = false) (v : Value) : assign (l.Subscript r q) env v = (do
    let ov ← holding [v] (eval l env)
    let iv ← holding [v, ov] (eval r env)
    standAt q
    holding [v, ov, iv] (setItem ov iv v)
    release [v, ov, iv] []) := by
  cases r <;> first | rfl | exact Bool.noConfusion h
theorem swapped_sub {o k e : Expr} {p : Pos} {env : Env} : swappedStores [.Subscript o k p] e env = pure none := by
  cases e <;> rfl
theorem PSet.or {t t' : TSet} (h : PSet X t) (h' : PSet X t') : PSet X (fun o i v H Q => t o i v H Q ∨ t' o i v H Q) := by
  intro pins s σ H o i v ov iv u Q I ro ri rv q
  rcases q with q | q
  · exact h pins s σ H o i v ov iv u Q I ro ri rv q
  · exact h' pins s σ H o i v ov iv u Q I ro ri rv q
theorem any_zip {k : Key} : ∀ {ks : List Key} {vs : List V}, vs.length = ks.length → ((ks.zip vs).any fun kv => decide (kv.1 = k)) = ks.any fun a => decide (a = k)
  | [], _, _ => by simp
  | a :: ks, [], h => by cases h
  | a :: ks, v :: vs, h => by
    rw [List.zip_cons_cons, List.any_cons, List.any_cons, any_zip (Nat.succ.inj h)]
theorem putL_rp {x : SX} {G : Hp} {io : List Addr} {k : Key} {d : D} {v : V} (r : Rp x G io d v) {ks : List Key} {ds : List D} {vs : List V} (hl : vs.length = ks.length) (rr : RpL x G io ds vs) :
    ∃ us, RpL x G io (putL k d ks ds).2 us ∧ putK (ks.zip vs) k v = (putL k d ks ds).1.zip us ∧ (putL k d ks ds).2.length = (putL k d ks ds).1.length := by
  unfold putL putK
  rw [any_zip hl]
  split
  · rename_i h
    refine ⟨List.zipWith (fun a w => if a = k then v else w) ks vs, ?_, ?_, ?_⟩
    · clear h
      induction ks generalizing ds vs with
      | nil => exact .nil
      | cons a ks ih =>
        cases vs with
        | nil => cases hl
        | cons w vs =>
          cases ds with
          | nil => cases (show _ = _ from rr)
          | cons e ds =>
            obtain ⟨w', vs', e1, q, t⟩ := rr
            cases e1
            refine .cons ?_ (ih (Nat.succ.inj hl) t)
            show Rp x G io (if a = k then d else e) (if a = k then v else w)
            by_cases z : a = k
            · rw [if_pos z, if_pos z]; exact r
            · rw [if_neg z, if_neg z]; exact q
    · clear h rr
      induction ks generalizing vs with
      | nil => simp
      | cons a ks ih =>
        cases vs with
        | nil => cases hl
        | cons w vs =>
          rw [List.zip_cons_cons, List.map_cons, List.zipWith_cons_cons, List.zip_cons_cons, ih (Nat.succ.inj hl)]
          refine congrArg (· :: _) ?_
          by_cases z : a = k
          · simp [z]
          · simp [z]
    · have := rr.length
      simp
      omega
  · exact ⟨vs ++ [v], rr.append (.cons r .nil), by rw [List.zip_append hl.symm]; rfl, by have := rr.length; simp; omega⟩
theorem s_sit (o : XOk T cc X W) {k : E} {q : Pos} (hq : isSl r = false) (ho : PE X l (rd T F W a)) (hi : PE X r (rd T F W k)) (ha : PE X e (rd T F W b)) : PS X (.Assign [.Subscript l r q] e pos) (rdS T F W (.sit a k b)) := by
  have hu : X.A.units + 1 < cLine := by have := o.hu; omega
  refine PS.wk (ps_asg ha (pg_sub ho hi (PSet.or set_list (set_dict hu)) (ha := sub_no hq)) swaps_sub swapped_sub) fun D σ H ⟨s, G, io, t, hp⟩ => ⟨s, G, io, t, ?_⟩
  refine PostS.bnd hp fun d s v H1 G1 io1 sg si t1 r1 hp1 => ⟨s, G1, io1, t1, ?_⟩
  refine PostS.bnd hp1 fun d2 s2 v2 H2 G2 io2 sg2 si2 t2 r2 hp2 => ⟨s2, G2, io2, t2, ?_⟩
  refine PostS.bnd hp2 fun d3 s3 v3 H3 G3 io3 sg3 si3 t3 r3 hp3 => ?_
  have r2' := r2.mono sg3 si3
  have r1' := (r1.mono sg2 si2).mono sg3 si3
  split at hp3
  · rename_i n
    obtain ⟨p, rfl, hpo⟩ := r2'
    split at hp3
    · rename_i ds hm
      split at hp3
      · rename_i i
        cases (show v3 = .int i from r3)
        obtain ⟨vs, _, q1, q2, q3, rfl, _⟩ := t3.mem.2.2 n _ p hm hpo
        split at hp3
        · rename_i j hj
          refine .inl ⟨p, vs, i, j, rfl, rfl, q1, by rw [q3.length]; exact hj, ?_⟩
          exact hp3 σ _ G3 io3 (Same.refl _) (Pre.refl _) (t3.wmem hm hpo (o' := .bx (ds.set j d)) (q3.set j r1') rfl trivial (t3.inF hpo))
        · exact hp3.elim
      · exact hp3.elim
    · rename_i ks ds hm
      split at hp3
      · rename_i ky hk
        obtain ⟨vs, _, q1, q2, q3, rfl, qL⟩ := t3.mem.2.2 n _ p hm hpo
        split at hp3
        · rename_i hlen
          have hl : vs.length = ks.length := by rw [q3.length]; exact qL
          obtain ⟨us, k3, k4, k5⟩ := putL_rp (k := ky) r1' hl q3
          refine .inr ⟨p, _, rfl, .inl ⟨_, ky, q1, keyD_rp r3 hk, ?_, rfl⟩, ?_⟩
          · rw [List.length_zip, hl, Nat.min_self]
            exact big_lt hlen
          · rw [k4]
            exact hp3 σ _ G3 io3 (Same.refl _) (Pre.refl _) (t3.wmem hm hpo (o' := .dx (putL ky d ks ds).1 (putL ky d ks ds).2) k3 rfl k5 (t3.inF hpo))
        · exact hp3.elim
      · exact hp3.elim
    · exact hp3.elim
  · exact hp3.elim
theorem StR.wown {x : SX} {F : Fr} {G H : Hp} {io : List Addr} {σ : L2.St} {s : S} {i : Nat} {ds es : List D} {vs : List V} {p : Addr} (t : StR x F s G io σ H) (hm : s.r[i]? = some (some (.ol ds))) (hp : σ[i]? = some (some (.ref p))) (r : RpL x G io es vs) :
    StR x F (s.set i (some (.ol es))) G io σ (upd H p (.lst vs)) := by
  obtain ⟨v, e1, q, rfl, q1, ws, q2, q3, q4, q5⟩ := t.slot i _ hm
  rw [hp] at e1
  cases e1
  have hi : i < s.r.length := (List.getElem?_eq_some_iff.mp hm).1
  refine ⟨fun b u e => ?_, by simp [S.set, t.len], fun j c e => ?_, fun j k c c' w hjk e1 e2 o1 o2 z1 z2 => ?_, ⟨t.mem.1, t.mem.2.1, fun n mo a e1 e2 => ?_⟩, fun b o e n nt => ?_, t.kg, t.ki, t.ni, fun b u e => ?_, ?_⟩
  · rw [upd_ne (fun z => by rw [z, q3] at e; cases e)]
    exact t.gh _ _ e
  · have e : (s.r.set i (some (.ol es)))[j]? = some (some c) := e
    by_cases hj : i = j
    · subst hj
      rw [List.getElem?_set_self hi] at e
      cases e
      exact ⟨_, hp, p, rfl, q1, vs, upd_same, q3, q4, r⟩
    · rw [List.getElem?_set_ne hj] at e
      obtain ⟨w, f1, f2⟩ := t.slot j c e
      refine ⟨w, f1, ?_⟩
      cases c with
      | val d => exact f2
      | ol zs =>
        obtain ⟨a, rfl, g1, us, g2, g3⟩ := f2
        have ne : a ≠ p := fun z => t.own i j _ _ _ hj hm e rfl rfl hp (by rw [← z]; exact f1)
        exact ⟨a, rfl, g1, us, by rw [upd_ne ne]; exact g2, g3⟩
      | od ks zs =>
        obtain ⟨a, rfl, g1, us, g2, g3⟩ := f2
        have ne : a ≠ p := fun z => t.own i j _ _ _ hj hm e rfl rfl hp (by rw [← z]; exact f1)
        exact ⟨a, rfl, g1, us, by rw [upd_ne ne]; exact g2, g3⟩
      | lms ks =>
        obtain ⟨a, rfl, g1, us, g2, g3, g4, g5⟩ := f2
        have ne : a ≠ p := fun z => t.own i j _ _ _ hj hm e rfl rfl hp (by rw [← z]; exact f1)
        refine ⟨a, rfl, g1, us, by rw [upd_ne ne]; exact g2, g3, g4, g5.mono (fun b u e y => ?_) (fun _ _ _ e => e)⟩
        rw [upd_ne (fun z => by rw [z, q2] at e; cases e; rcases y with ⟨_, y⟩ | ⟨_, y⟩ <;> cases y)]
        exact e
  · have e1 : (s.r.set i (some (.ol es)))[j]? = some (some c) := e1
    have e2 : (s.r.set i (some (.ol es)))[k]? = some (some c') := e2
    by_cases h1 : i = j
    · subst h1
      rw [List.getElem?_set_ne hjk] at e2
      exact t.own i k _ _ w hjk hm e2 rfl o2 z1 z2
    · rw [List.getElem?_set_ne h1] at e1
      by_cases h2 : i = k
      · subst h2
        exact t.own j i _ _ w hjk e1 hm o1 rfl z1 z2
      · rw [List.getElem?_set_ne h2] at e2
        exact t.own j k _ _ w hjk e1 e2 o1 o2 z1 z2
  · have g := t.mem.2.2 n mo a e1 e2
    have ne : a ≠ p := fun z => q1 (by rw [← z]; exact List.mem_of_getElem? e2)
    obtain ⟨us, h, g1, g2⟩ := g
    exact ⟨us, h, by rw [upd_ne ne]; exact g1, g2⟩
  · rw [upd_ne (fun z => by rw [z, q4] at e; cases e)]
    exact t.kh b o e n nt
  · obtain ⟨e1, e2⟩ := t.zl b u e
    rw [upd_ne (fun z => by rw [z, q2] at e1; cases e1; obtain ⟨_, _, e3⟩ := e2; cases e3)]
    exact ⟨e1, e2⟩
  · refine tabs_keep t.tb fun b u e y => ?_
    rw [upd_ne (fun z => by rw [z, q2] at e; cases e; rcases y with ⟨_, y⟩ | ⟨_, y⟩ <;> cases y)]
    exact e
theorem s_apo (o : XOk T cc X W) {i : Nat} {y : Str} {p ap cp : Pos} (hv : vis cc i y = true) (hl : (ap.endLine == cp.line) = true) (hs : isStar e = false) (ha : PE X e (rd T F W a)) :
    PS X (.Expr (.Call (.Attribute (.Name y p) "append" ap) [e] [] cp) pos) (rdS T F W (.apo i a)) := by
  obtain ⟨h1, h2, h3, h4⟩ := o.vis hv
  refine PS.wk (ps_expr (pe_bm PySem.F.plainAttrs_list PySem.F.slot_list_append PySem.F.type_list_append mt_append (pe_var h1 h2 h3 h4) (pa_cons ha pa_nil (star_no hs)) (base_no rfl) (by rw [star_no hs]; rfl) hl (star_no hs) rfl) (swaps_no rfl)) fun D σ H ⟨s, G, io, t, hp⟩ => ?_
  simp only [ev] at hp
  split at hp
  · rename_i ds0 hm0
    obtain ⟨v, e1, q, rfl, q1, ws, q2, q3⟩ := t.slot i _ hm0
    refine ⟨.ref q, e1, .inl ⟨rfl, ws, .of q2⟩, s, G, io, t, ?_⟩
    refine PostS.bnd hp fun d s1 w H1 G1 io1 sg si t1 r1 hp1 => ?_
    split at hp1
    · rename_i ds hm
      obtain ⟨v', e1', q', rfl, q1', ws', q2', q3', q4', q5'⟩ := t1.slot i _ hm
      rw [e1] at e1'
      cases e1'
      split at hp1
      · rename_i hlen
        refine ⟨q, ws', w, rfl, rfl, q2', by rw [q5'.length]; exact big_lt hlen, ?_⟩
        exact hp1 σ _ G1 io1 (Same.refl _) (Pre.refl _) (t1.wown hm e1 (q5'.append (.cons r1 .nil)))
      · exact hp1.elim
    · exact hp1.elim
  · exact hp.elim
end
end En

namespace En
open PySem PySem.Spec L2
theorem xv_rp {x : SX} {G : Hp} {io : List Addr} {n : Nat} {dys : List V} {ds : List D} {ys : List V} (r : RpL x G io ds ys) (hn : ys.length = n) : ∀ {a vs : List XV} {es : List D} {fv : List V}, XMatch n dys a vs → xvD ds vs = some es →
    a.map (EnX.xval (ys ++ dys)) = fv.map some → RpL x G io es fv
  | _, _, es, fv, .nil, he, hf => by
    cases he
    cases fv with
    | nil => exact .nil
    | cons _ _ => cases hf
  | _, _, es, fv, .cst (z := z) (b := b) t, he, hf => by
    cases fv with
    | nil => cases hf
    | cons y fv =>
      injection hf with h1 h2
      cases h1
      simp only [xvD] at he
      split at he
      · rename_i es' e
        cases he
        exact .cons rfl (xv_rp r hn t e h2)
      · cases he
  | _, _, es, fv, .arg (i := i) (b := b) h t, he, hf => by
    cases fv with
    | nil => cases hf
    | cons y fv =>
      injection hf with h1 h2
      simp only [xvD] at he
      split at he
      · rename_i d hd
        split at he
        · rename_i es' e
          cases he
          obtain ⟨v, q1, q2⟩ := r.get hd
          have h1 : (ys ++ dys)[i]? = some y := h1
          rw [List.getElem?_append_left (by omega), q1] at h1
          cases h1
          exact .cons q2 (xv_rp r hn t e h2)
        · cases he
      · cases he
  | _, _, es, fv, .dfl (i := i) (z := z) (b := b) h e0 t, he, hf => by
    cases fv with
    | nil => cases hf
    | cons y fv =>
      injection hf with h1 h2
      have h1 : (ys ++ dys)[i]? = some y := h1
      rw [List.getElem?_append_right (by omega), hn, e0] at h1
      cases h1
      simp only [xvD] at he
      split at he
      · rename_i es' e
        cases he
        exact .cons rfl (xv_rp r hn t e h2)
      · cases he
theorem PostS.bndAA {x : SX} {F : Fr} {W : WX} {G : Hp} {io : List Addr} {σ : L2.St} {o : Res} {k : List D → S → Res} {D : Ends} {R : List V → Hp → Prop} (h : PostS x F W G io (bndA o k) D)
    (hk : ∀ ds s ys H' G' io', Same G G' → Pre io io' → StR x F s G' io' σ H' → RpL x G' io' ds ys → PostS x F W G' io' (k ds s) D → R ys H') : PostA x F W G io o σ R := by
  unfold PostA
  split
  · exact fun v H' G' io' a b t r => hk _ _ v H' G' io' a b t r (h.anti a b)
  · exact fun cls dd H' G' io' a b t r => h cls dd σ H' G' io' a b t r
  · rename_i h1 h3
    unfold En.bndA at h
    split at h
    · exact h1 _ _ rfl
    · exact h3 _ _ _ _ rfl
    · exact h
section
variable {T : Tb} {cc : CC} {X : Cx} {W : WX} {F : Fr} {es : List Expr} {a : E} {pos : Pos}
theorem pmk_x (o : XOk T cc X W) (t : TOk T) {x : Str} {n c : Nat} {ns : List Nat} {vs : List XV} {p : Pos} (h : XAt T x n c ns vs) (hg : glo cc x = true) (hs : es.all (fun e => !isStar e) = true) (hz : es = [] → a = .nil) (ha : PA X es (rdA T F W a)) :
    PMk X (.Call (.Name x p) es [] pos) (fun σ H Q => rdA T F W a σ H fun ys H1 => ys.length = n ∧ ∀ d fv, H1 d = none → fv.length = ns.length → (∀ G io ds zs, RpL T.x G io ds ys → xvD ds vs = some zs → RpL T.x G io zs fv) → Q (.ref (T.x.ca c)) (some d) (upd H1 d (.xd ((ns.map T.x.nm).zip fv)))) := by
  obtain ⟨hm, fI, cda, cc', B, newId, initId, bmB, slf, ps, vs0, fd, ds, dys, T1, rd, hl, hn, hns, hx⟩ := h
  obtain ⟨h1, h2, h3⟩ := o.glo hg
  intro pins s σ H Q I hq
  have hm' : X.mg x = some (.ref (T.x.ca c)) := by rw [o.mg]; exact hm
  refine wpAny_Call_Name_kw (ld_glob I h1 hm' ?_ h2)
  have key : ∀ us s1 ys H1, Inv X pins σ H1 s1 → Vals ys us → (ys.length = n ∧ ∀ d fv, H1 d = none → fv.length = ns.length → (∀ G io ds zs, RpL T.x G io ds ys → xvD ds vs = some zs → RpL T.x G io zs fv) → Q (.ref (T.x.ca c)) (some d) (upd H1 d (.xd ((ns.map T.x.nm).zip fv)))) →
      wpAny (model X.prog X.w) X.A (call (.ref (T.x.ca c)) us) (MkP X pins σ Q) X.xe s1 := fun us s1 ys H1 I1 r1 ⟨hy, q⟩ => by
    have T2 := T1
    rw [← o.prog, ← o.K] at T2
    have lp := t.lp
    have hr : Room (T.lv - 1 + 1) X.A := o.room.mono (by omega)
    have lu : us.length = n := by rw [← r1.length]; exact hy
    refine EnX.xcall (k := T.lv - 1) T2 I1 (o.blt t (by decide +kernel)) hr r1 rd (by rw [lu]; exact hl) (by rw [lu, sizeLine_eq]; omega) fun d fv hd e => ?_
    rw [hns]
    refine q d fv hd ?_ fun G io ds' zs rr ex => ?_
    · have l1 := congrArg List.length e
      have l2 := congrArg List.length hns
      simp at l1 l2
      omega
    refine xv_rp rr hy hx ex ?_
    rw [List.map_map]
    exact e
  cases es with
  | nil =>
    have hz := hz rfl
    subst hz
    obtain ⟨s0, G, io, st, hp⟩ := hq
    exact PySem.W.callWith_K0 I.kIn (by rw [o.K]; exact T1.kC) (key [] s [] H I .nil (hp [] H G io (Same.refl _) (Pre.refl _) st .nil))
  | cons e es =>
    rw [List.all_cons, Bool.and_eq_true] at hs
    have hs1 : isStar e = false := by simpa using hs.1
    exact PySem.W.callWith_K (h₀ := X.base) I.ok.mod.kin (by rw [o.K]; exact T1.kC) (thn (ha.run pos pins s σ H _ I hq) fun us s1 ⟨ys, H1, I1, r1, q1⟩ => ⟨I1.kIn, key us s1 ys H1 I1 r1 q1⟩) (star_no hs1) (star_any hs.2)
theorem s_rse (o : XOk T cc X W) (t : TOk T) {x : Str} {c n : Nat} {ns : List Nat} {vs : List XV} {p pos2 : Pos} (h : T.nt.xq x n = some (c, ns, vs)) (hg : glo cc x = true) (hs : es.all (fun e => !isStar e) = true) (hz : es = [] → a = .nil)
    (ha : PA X es (rdA T F W a)) : PS X (.Raise (some (.Call (.Name x p) es [] pos)) none pos2) (rdS T F W (.rse c n ns vs a)) := by
  refine PS.wk (ps_raise o.calm o.tk (pmk_x (F := F) (W := W) (a := a) o t (t.xq _ _ _ _ _ h) hg hs hz ha)) fun D σ H ⟨s, G, io, st, hp⟩ => ⟨s, G, io, st, ?_⟩
  refine PostS.bndAA hp fun ds s1 ys H1 G1 io1 sg si t1 r1 hp1 => ?_
  split at hp1
  · rename_i hl
    split at hp1
    · rename_i zs hx
      refine ⟨by rw [r1.length]; exact hl, fun d fv hd hf hr => ?_⟩
      have sg2 := same_upd (o := .xd ((ns.map T.x.nm).zip fv)) hd
      refine hp1 (.ref (T.x.ca c)) (some d) σ _ G1 io1 (Same.refl _) (Pre.refl _) (t1.grow sg2) ⟨rfl, d, fv, rfl, upd_same, hf, hr _ _ _ _ r1 hx⟩
    · exact hp1.elim
  · exact hp1.elim
end
end En

namespace En
open PySem PySem.Spec L2
def kwAre : List Str → List Keyword → Bool
  | [], [] => true
  | n :: ns, ⟨some m, _, _⟩ :: ks => decide (n = m) && kwAre ns ks
  | _, _ => false
theorem kw_all {env : Env} {pos : Pos} : ∀ {ns : List Str} {ks : List Keyword}, kwAre ns ks = true → (backToKw pos (keywordEach ks env)).all (·.1.isSome) = true ∧ (backToKw pos (keywordEach ks env)).filterMap (·.1) = ns ∧ (backToKw pos (keywordEach ks env)).any (·.1.isNone) = false
  | [], [], _ => ⟨rfl, rfl, rfl⟩
  | n :: ns, ⟨some m, _, _⟩ :: ks, h => by
    simp only [kwAre, Bool.and_eq_true, decide_eq_true_eq] at h
    obtain ⟨rfl, h⟩ := h
    obtain ⟨a, b, c⟩ := kw_all (env := env) (pos := pos) h
    unfold backToKw at a b c ⊢
    simp only [keywordEach, List.map_cons, List.all_cons, List.filterMap_cons, List.any_cons]
    exact ⟨by simpa using a, by simpa using b, by simpa using c⟩
  | _ :: _, ⟨none, _, _⟩ :: _, h => by cases h
  | [], _ :: _, h => by cases h
  | _ :: _, [], h => by cases h
section
variable {T : Tb} {cc : CC} {X : Cx} {W : WX} {F : Fr} {e l r c : Expr} {es : List Expr} {a b : E} {pos : Pos} {kws : List Keyword}
theorem post_F {f : Nat} {σ : L2.St} {s : S} {G H : Hp} {io : List Addr} {ds : List D} {Q : VK} (t : StR T.x F s G io σ H) (hp : Post T.x F W G io (callF T.P f ds s) σ Q) : PostF T.x H G io (T.P f ds s.m) Q (WE W σ) := by
  unfold callF at hp
  unfold PostF
  split at hp
  · rename_i d m he
    try rw [he]
    intro v H' G' io' ff rv
    obtain ⟨t', sg⟩ := t.call ff
    exact hp v H' G' io' sg ff.2.2.2.2.1 t' rv
  · rename_i d m he
    try rw [he]
    intro p H' G' io' ff ni hn ⟨ws, h, e1, e2, e3⟩
    obtain ⟨t', sg⟩ := t.call ff
    obtain ⟨_, _, hf, _, ho⟩ := t.new (a := p) (o := .lst []) hn
    exact hp p H' G' io' sg ff.2.2.2.2.1 t' ni ⟨ws, h, e1, e2, hf, e3⟩ ho
  · rename_i k ns es m he
    try rw [he]
    intro cls dd H' G' io' ff ex
    obtain ⟨t', sg⟩ := t.call ff
    exact hp cls dd H' G' io' sg ff.2.2.2.2.1 t' ex
  · exact hp.elim
theorem run_calN {i n : Nat} {kk : List Str} {g : Addr} {pins : List (Addr × Obj)} {σ : L2.St} {H : Hp} {s : Shared} {Q : VK} {us ws : List Value} {vs zs : List V} (o : XOk T cc X W) (c : Cal T i n kk g) (I : Inv X pins σ H s) (r : Vals vs us) (rz : Vals zs ws) (l1 : vs.length = n) (l2 : zs.length = kk.length)
    (h : ∃ ds es m G io, Gh T.x G H ∧ MemA T.x G io H m ∧ RpL T.x G io ds vs ∧ RpL T.x G io es zs ∧ PostF T.x H G io (T.P i (ds ++ es) m) Q (WE W σ)) : wpAny (model X.prog X.w) X.A (call (.ref g) us (kk.zip ws)) (EP X pins σ Q) X.xe s := by
  obtain ⟨k, hk, hF⟩ := c
  rw [← o.prog, ← o.w, ← o.K, ← o.mg, ← o.base] at hF
  refine wpAny_call (codeAny_mono (hF X.A X.stack s H us ws vs zs Q (WE W σ) (o.room.mono (Nat.le_trans (Nat.le_add_right _ _) hk)) I.env0 r rz l1 l2 h) fun r s' hq => ?_)
  cases r with
  | error e => exact passAt o.tk σ pins H s e s' I hq
  | ok fl =>
    cases fl with
    | ret u => exact I.after hq
    | next => exact False.elim hq
    | brk => exact False.elim hq
    | cont => exact False.elim hq
theorem s_calk (o : XOk T cc X W) (t : TOk T) {f n m : Nat} {p : Pos} {es : List Expr} {ka : E} (hg : glo cc (T.nt.fnm f) = true) (hlv : T.nt.isK f = true) (hs : es.all (fun e => !isStar e) = true) (hn : n = T.nt.kn f) (hz : m = (T.nt.kk f).length) (hkw : kwAre (T.nt.kk f) kws = true) (hnil : es = [] → a = .nil)
    (ha : PA X es (rdA T F W a)) (hk : PK X kws (rdA T F W ka)) : PE X (.Call (.Name (T.nt.fnm f) p) es kws pos) (rd T F W (.calk f n a m ka)) := by
  subst hn hz
  obtain ⟨h1, h2, h3⟩ := o.glo hg
  obtain ⟨g, hm, hkp, cal⟩ := t.fk f hlv
  have hm' : X.mg (T.nt.fnm f) = some (.ref g) := by rw [o.mg]; exact hm
  have hk' : PySem.W.keepIn X.K (.ref g) = true := by rw [o.K]; exact hkp
  obtain ⟨k1, k2, k3⟩ := kw_all (env := X.env) (pos := pos) hkw
  have hpl := star_any (env := X.env) (pos := pos) hs
  refine ⟨fun pins s σ H Q I h => ?_⟩
  refine wpAny_Call_Name_kw (ld_glob I h1 hm' ?_ h2)
  obtain ⟨s0, G, io, t0, hp⟩ := h
  -- the values, then the keywords' values
  have hA : rdA T F W a σ H fun vs H1 => rdA T F W ka σ H1 fun zs H2 => vs.length = T.nt.kn f ∧ zs.length = (T.nt.kk f).length ∧ ∃ ds es m G io, Gh T.x G H2 ∧ MemA T.x G io H2 m ∧ RpL T.x G io ds vs ∧ RpL T.x G io es zs ∧ PostF T.x H2 G io (T.P f (ds ++ es) m) Q (WE W σ) := ⟨s0, G, io, t0, by
    refine Post.bndA hp fun ds s vs H1 G1 io1 sg si t1 r1 hp1 => ⟨s, G1, io1, t1, ?_⟩
    refine Post.bndA hp1 fun dz s2 zs H2 G2 io2 sg2 si2 t2 r2 hp2 => ?_
    split at hp2
    · rename_i hl
      have l1 : vs.length = T.nt.kn f := by rw [r1.length]; exact hl.1
      have l2 : zs.length = (T.nt.kk f).length := by rw [r2.length]; exact hl.2
      exact ⟨l1, l2, ds, dz, s2.m, G2, io2, t2.gt, t2.mem, r1.mono sg2 si2, r2, post_F t2 hp2⟩
    · exact hp2.elim⟩
  cases es with
  | nil =>
    refine PySem.W.callWith_KW0 (h₀ := X.base) I.ok.mod.kin hk' k1 ?_ (by show (false || _) = false; rw [k3]; rfl)
    rw [hnil rfl] at hA
    obtain ⟨s1, G1, io1, t1, hA⟩ := hA
    have q := hA [] H G1 io1 (Same.refl _) (Pre.refl _) t1 rfl
    refine thn (hk.run pos pins s σ H _ I q) fun ws s2 ⟨zs, H2, I2, rz, l1, l2, q2⟩ => ⟨I2.kIn, ?_⟩
    rw [k2]
    exact run_calN (us := []) o cal I2 .nil rz l1 l2 q2
  | cons e es =>
    rw [List.all_cons, Bool.and_eq_true] at hs
    have hs1 : isStar e = false := by simpa using hs.1
    refine PySem.W.callWith_KW (h₀ := X.base) I.ok.mod.kin hk' k1 (thn (ha.run pos pins s σ H _ I hA) fun us s1 ⟨vs, H1, I1, r, q⟩ => ?_) (by rw [hpl, k3]; rfl) (star_no hs1)
    refine thn (hk.run pos pins s1 σ H1 _ I1 q) fun ws s2 ⟨zs, H2, I2, rz, l1, l2, q2⟩ => ⟨I2.kIn, ?_⟩
    rw [k2]
    exact run_calN o cal I2 r rz l1 l2 q2
theorem k_nil : PK X [] (rdA T F W .nil) := ⟨fun pos pins s σ H Q I ⟨s0, G, io, t, h⟩ => pk_nil.run pos pins s σ H Q I (h [] H G io (Same.refl _) (Pre.refl _) t rfl)⟩
theorem k_cns {nm : Option Str} {kp : Pos} {es : List Keyword} (ha : PE X e (rd T F W a)) (hb : PK X es (rdA T F W b)) : PK X (⟨nm, e, kp⟩ :: es) (rdA T F W (.cns a b)) := by
  refine ⟨fun pos pins s σ H Q I h => (pk_cons ha hb).run pos pins s σ H Q I ?_⟩
  obtain ⟨s0, G, io, t, hp⟩ := h
  refine ⟨s0, G, io, t, ?_⟩
  refine PostA.bnd hp fun d s1 v H1 G1 io1 sg si t1 r1 hp1 => ⟨s1, G1, io1, t1, ?_⟩
  refine PostA.bndA hp1 fun ds s2 vs H2 G2 io2 sg2 si2 t2 r2 hp2 => ?_
  exact hp2 (v :: vs) H2 G2 io2 (Same.refl _) (Pre.refl _) t2 ⟨v, vs, rfl, r1.mono sg2 si2, r2⟩
theorem s_join (o : XOk T cc X W) {apos : Pos} (hsup : isSup l = false) (hln : (apos.endLine == pos.line) = true) (hs1 : isStar e = false) (ha : PE X l (rd T F W a)) (hb : PA X [e] (rdA T F W b)) :
    PE X (.Call (.Attribute l "join" apos) [e] [] pos) (rd T F W (.bm .join a b)) := by
  have hst := star_no (es := []) (env := X.env) hs1
  refine PE.wk (pe_bm (T := "str") PySem.F.plainAttrs_str PySem.F.slot_str_join PySem.F.type_str_join mt_join ha hb (base_no hsup) ?_ hln hst rfl) fun σ H Q ⟨s, G, io, t, hp⟩ => ⟨s, G, io, t, ?_⟩
  · rw [hst]; rfl
  · refine Post.bnd hp fun d s v H1 G1 io1 sg si t1 r1 hp1 => ?_
    cases d with
    | str z =>
      cases (show v = .str z from r1)
      refine ⟨rfl, s, G1, io1, t1, ?_⟩
      refine Post.bndA (show Post T.x F W G1 io1 (bndA (ev T.P T.Gm b s) fun ds s => bmF .join (.str z) ds s) σ Q from hp1) fun ds s2 vs H2 G2 io2 sg2 si2 t2 r2 hp2 => ?_
      unfold bmF at hp2
      split at hp2
      · rename_i a2 x2 heq
        cases heq
        obtain ⟨v2, rfl, q2⟩ := r2.one
        split at hp2
        · rename_i es hv
          obtain ⟨p, ws, rfl, hq, hr⟩ := view_seq t2 hv q2
          split at hp2
          · rename_i ys hy
            have e := strs_rp hy hr
            subst e
            split at hp2
            · rename_i hl
              refine ⟨z, p, ys, rfl, rfl, ?_, hl, hp2.v t2 rfl⟩
              rcases hq with hq | hq
              · exact .inl (.inl hq)
              · exact .inr (by rw [o.K]; exact hq)
            · exact hp2.elim
          · exact hp2.elim
        · exact hp2.elim
      all_goals first | contradiction | exact (show False from hp2).elim
    | _ => exact (show False from hp1).elim
end
end En

namespace En
open PySem PySem.Spec L2
theorem run_makeND {X : Cx} {CX : CXT} {k n : Nat} {f C : Addr} {fd : FuncData} {ps ks : List Str} {sp : Sp} {E : XK} {g : List Value → List Value → List Value} {gV : List V → List V → List V} {pins : List (Addr × Obj)} {σ : L2.St} {H : Hp} {s : Shared} {Q : VK} {us ws : List Value} {vs zs : List V} (M : Mk X.K C f) (F : FnOk X.prog X.w X.K X.mg X.base CX k f fd ps sp) (hr : Room (k + 1) X.A) (hb : KBn X.K fd ps (n + 1) ks g gV)
    (hx : PassesAt CX X σ E) (I : Inv X pins σ H s) (r : Vals vs us) (rz : Vals zs ws) (l1 : vs.length = n) (l2 : zs.length = ks.length)
    (h : ∀ x dx, H x = none → H dx = none → dx ≠ x → sp (gV (.ref x :: vs) zs) (upd (upd H dx (.own x)) x (.ins C dx [])) (fun v H2 => v = .non ∧ Q (.ref x) H2) E) :
    wpAny (model X.prog X.w) X.A (call (.ref C) us (ks.zip ws)) (EP X pins σ Q) X.xe s := by
  have hq := h (s.heap.objs.size + 1) s.heap.objs.size (I.hok.fresh (Nat.le_succ _)) (I.hok.fresh (Nat.le_refl _)) (Nat.ne_of_lt (Nat.lt_succ_self _))
  have I2 := Inv.made (C := C) I
  have ra : Vals (V.ref (s.heap.objs.size + 1) :: vs) (Value.ref (s.heap.objs.size + 1) :: us) := .cons rfl r
  have rb := hb.rel ra rz
  have ea : (Value.ref (s.heap.objs.size + 1) :: us).length = n + 1 := ra.length.symm.trans (congrArg Nat.succ l1)
  have eb : ws.length = ks.length := rz.length.symm.trans l2
  refine wpAny_call (make_map (f := f) I.kIn M.makes M.init (beq_iff_eq.mp M.fn) (codeAny_mono (F.run _ X.stack _ _ ⟨Value.ref (s.heap.objs.size + 1) :: us, ks.zip ws⟩ (g (Value.ref (s.heap.objs.size + 1) :: us) ws) _ _ E (hr.make C us (ks.zip ws))
    (I2.env0.make C us (ks.zip ws)) (hb.to _ (Value.ref (s.heap.objs.size + 1) :: us) ws I2.kIn ea eb) rb hq) fun r s' hq' => ?_))
  cases r with
  | error e => exact hx pins _ _ e s' I2 hq'
  | ok fl =>
    cases fl with
    | ret u =>
      obtain ⟨v, H', I3, rv, ev, q3⟩ := I2.after hq'
      subst ev
      exact ⟨rv, ⟨V.ref (s.heap.objs.size + 1), H', I3, rfl, q3⟩⟩
    | next => exact hq'.elim
    | brk => exact hq'.elim
    | cont => exact hq'.elim
section
variable {T : Tb} {cc : CC} {X : Cx} {W : WX} {F : Fr} {e l r c : Expr} {es : List Expr} {a b : E} {pos : Pos} {kws : List Keyword}
theorem s_mk (o : XOk T cc X W) (t : TOk T) {f n m : Nat} {p : Pos} {es : List Expr} {ka : E} (hg : glo cc (T.nt.fnm f) = true) (hlv : T.nt.isM f = true) (hs : es.all (fun e => !isStar e) = true) (hn : n = T.nt.kn f) (hz : m = (T.nt.kk f).length) (hkw : kwAre (T.nt.kk f) kws = true) (hnil : es = [] → a = .nil)
    (ha : PA X es (rdA T F W a)) (hk : PK X kws (rdA T F W ka)) : PE X (.Call (.Name (T.nt.fnm f) p) es kws pos) (rd T F W (.calk f n a m ka)) := by
  subst hn hz
  obtain ⟨h1, h2, h3⟩ := o.glo hg
  obtain ⟨C, g, kl, fd, ps, gg, gV, sp, hm, hM, hkl, hF, hb, hsp⟩ := t.fm f hlv
  have hm' : X.mg (T.nt.fnm f) = some (.ref C) := by rw [o.mg]; exact hm
  have hF' : FnOk X.prog X.w X.K X.mg X.base (L2.CX X.prog X.w) kl g fd ps sp := by
    rw [o.prog, o.w, o.K, o.mg, o.base]
    exact hF
  have hM' : Mk X.K C g := by rw [o.K]; exact hM
  have hk' := hM'.kp
  have hb' : KBn X.K fd ps (T.nt.kn f + 1) (T.nt.kk f) gg gV := by rw [o.K]; exact hb
  have hr := o.room.mono (show kl + 1 ≤ T.lv by omega)
  obtain ⟨k1, k2, k3⟩ := kw_all (env := X.env) (pos := pos) hkw
  have hpl := star_any (env := X.env) (pos := pos) hs
  refine ⟨fun pins s σ H Q I h => ?_⟩
  refine wpAny_Call_Name_kw (ld_glob I h1 hm' ?_ h2)
  obtain ⟨s0, G, io, t0, hp⟩ := h
  -- the values, then the keywords' values
  have hA : rdA T F W a σ H fun vs H1 => rdA T F W ka σ H1 fun zs H2 => vs.length = T.nt.kn f ∧ zs.length = (T.nt.kk f).length ∧ ∀ x dx, H2 x = none → H2 dx = none → dx ≠ x → sp (gV (.ref x :: vs) zs) (upd (upd H2 dx (.own x)) x (.ins C dx [])) (fun v H3 => v = .non ∧ Q (.ref x) H3) (WE W σ) := ⟨s0, G, io, t0, by
    refine Post.bndA hp fun ds s vs H1 G1 io1 sg si t1 r1 hp1 => ⟨s, G1, io1, t1, ?_⟩
    refine Post.bndA hp1 fun dz s2 zs H2 G2 io2 sg2 si2 t2 r2 hp2 => ?_
    split at hp2
    · rename_i hl
      have l1 : vs.length = T.nt.kn f := by rw [r1.length]; exact hl.1
      have l2 : zs.length = (T.nt.kk f).length := by rw [r2.length]; exact hl.2
      exact ⟨l1, l2, hsp vs zs H2 Q _ l1 l2 ⟨ds, dz, s2.m, G2, io2, t2.gt, t2.mem, r1.mono sg2 si2, r2, post_F t2 hp2⟩⟩
    · exact hp2.elim⟩
  cases es with
  | nil =>
    refine PySem.W.callWith_KW0 (h₀ := X.base) I.ok.mod.kin hk' k1 ?_ (by show (false || _) = false; rw [k3]; rfl)
    rw [hnil rfl] at hA
    obtain ⟨s1, G1, io1, t1, hA⟩ := hA
    have q := hA [] H G1 io1 (Same.refl _) (Pre.refl _) t1 rfl
    refine thn (hk.run pos pins s σ H _ I q) fun ws s2 ⟨zs, H2, I2, rz, l1, l2, q2⟩ => ⟨I2.kIn, ?_⟩
    rw [k2]
    exact run_makeND (us := []) hM' hF' hr hb' (passAt o.tk σ) I2 .nil rz l1 l2 q2
  | cons e es =>
    rw [List.all_cons, Bool.and_eq_true] at hs
    have hs1 : isStar e = false := by simpa using hs.1
    refine PySem.W.callWith_KW (h₀ := X.base) I.ok.mod.kin hk' k1 (thn (ha.run pos pins s σ H _ I hA) fun us s1 ⟨vs, H1, I1, r, q⟩ => ?_) (by rw [hpl, k3]; rfl) (star_no hs1)
    refine thn (hk.run pos pins s1 σ H1 _ I1 q) fun ws s2 ⟨zs, H2, I2, rz, l1, l2, q2⟩ => ⟨I2.kIn, ?_⟩
    rw [k2]
    exact run_makeND hM' hF' hr hb' (passAt o.tk σ) I2 r rz l1 l2 q2
end
end En

namespace En
open PySem PySem.Spec L2
theorem lookN_rp {x : SX} {G : Hp} {io : List Addr} {f : Nat} (hi : ∀ i, x.nm i = x.nm f → i = f) : ∀ {ns : List Nat} {ds : List D} {vs : List V} {d : D}, lookF f ns ds = some d → RpL x G io ds vs → ∃ v, ((ns.map x.nm).zip vs).lookup (x.nm f) = some v ∧ Rp x G io d v
  | n :: ns, e :: ds, _, d, h, r => by
    obtain ⟨v, w, rfl, q, t⟩ := r
    by_cases hn : n = f
    · subst hn
      simp only [lookF, if_true] at h
      cases h
      exact ⟨v, by simp, q⟩
    · simp only [lookF, if_neg hn] at h
      obtain ⟨u, e1, e2⟩ := lookN_rp hi h t
      refine ⟨u, ?_, e2⟩
      have hne : (x.nm f == x.nm n) = false := by
        cases hb : (x.nm f == x.nm n) with
        | false => rfl
        | true => exact absurd (hi n (beq_iff_eq.mp hb).symm) hn
      rw [List.map_cons, List.zip_cons_cons, List.lookup_cons, hne]
      exact e1
  | [], _, _, _, h, _ => by cases h
  | _ :: _, [], _, _, h, _ => by cases h
theorem cls_rp {x : SX} {F : Fr} {s : S} {G H : Hp} {io : List Addr} {σ : L2.St} {d : D} {v : V} {c : Nat} {ns : List Nat} {ds : List D} (t : StR x F s G io σ H) (r : Rp x G io d v) (h : clsF s d = some (c, ns, ds)) :
    x.live c = true ∧ ∃ a dx vs, v = .ref a ∧ H a = some (.ins (x.ca c) dx ((ns.map x.nm).zip vs)) ∧ vs.length = ns.length ∧ RpL x G io ds vs := by
  cases d with
  | obj c' ns' ds' =>
    cases h
    obtain ⟨hl, a, dx, vs, rfl, q, l, rr⟩ := r
    exact ⟨hl, a, dx, vs, rfl, t.gh _ _ q, l, rr⟩
  | adr n =>
    obtain ⟨a, rfl, q⟩ := r
    simp only [clsF] at h
    split at h
    · rename_i c' ns' ds' hm
      cases h
      obtain ⟨vs, ho, q1, _, q3, ⟨hl, dx, rfl⟩, q5⟩ := t.mem.2.2 n _ a hm q
      exact ⟨hl, a, dx, vs, rfl, q1, by rw [q3.length]; exact q5, q3⟩
    · cases h
  | _ => cases h
theorem clsN_some {s : S} {d : D} {c : Nat} (h : clsN s d = some c) : ∃ ns ds, clsF s d = some (c, ns, ds) := by
  unfold clsN at h
  split at h
  · rename_i c' ns ds e
    cases h
    exact ⟨ns, ds, e⟩
  · cases h
def csOk (nt : NT) (f : Nat) (cs : List Nat) : Bool := cs.all fun c => !nt.live c || nt.fa c f
section
variable {T : Tb} {cc : CC} {X : Cx} {W : WX} {F : Fr} {e l r c : Expr} {es : List Expr} {a b : E} {pos : Pos} {kws : List Keyword}
theorem csOk_at (t : TOk T) {f : Nat} {cs : List Nat} {c : Nat} (h : csOk T.nt f cs = true) (hin : c ∈ cs) (hl : T.x.live c = true) : T.nt.fa c f = true := by
  have q := List.all_eq_true.mp h c hin
  rw [t.lv] at hl
  rw [hl] at q
  simpa using q
theorem s_fld (o : XOk T cc X W) (t : TOk T) {f : Nat} {cs : List Nat} (hsup : isSup e = false) (hne : T.nt.nm f ≠ "") (hcs : csOk T.nt f cs = true) (ha : PE X e (rd T F W a)) : PE X (.Attribute e (T.nt.nm f) pos) (rd T F W (.fld a f cs)) := by
  refine PE.wk (pe_fld ha (base_no hsup)) fun σ H Q ⟨s, G, io, st, hp⟩ => ⟨s, G, io, st, ?_⟩
  refine Post.bnd hp fun d s1 v H1 G1 io1 sg si t1 r1 hp1 => ?_
  cases hf : fldF cs f d s1 with
  | none => rw [hf] at hp1; exact hp1.elim
  | some y =>
    rw [hf] at hp1
    unfold fldF at hf
    split at hf
    · rename_i c ns ds hc
      split at hf
      · rename_i hin
        obtain ⟨hl, p, dx, vs, rfl, q1, q2, q3⟩ := cls_rp t1 r1 hc
        have k2 := t.fa c f (csOk_at t hcs hin hl)
        have hi : ∀ i, T.x.nm i = T.x.nm f → i = f := t.nmI hne
        obtain ⟨w, e1, e2⟩ := lookN_rp hi hf q3
        refine ⟨p, T.x.ca c, dx, _, w, rfl, q1, by rw [o.K]; exact (t.ko.cl c hl).cl, by rw [o.K]; exact k2, by rw [← t.nm]; exact e1, hp1.v t1 e2⟩
      · cases hf
    · cases hf
theorem put_rp {x : SX} {G : Hp} {io : List Addr} {f : Nat} {d : D} {v : V} (hi : ∀ i, x.nm i = x.nm f → i = f) (r : Rp x G io d v) : ∀ {ns : List Nat} {ds : List D} {vs : List V}, ds.length = ns.length → RpL x G io ds vs →
    ∃ us, RpL x G io (putN f d ns ds).2 us ∧ putF (x.nm f) v ((ns.map x.nm).zip vs) = ((putN f d ns ds).1.map x.nm).zip us ∧ (putN f d ns ds).2.length = (putN f d ns ds).1.length
  | [], [], _, _, h => by
    have e : _ = [] := h
    subst e
    exact ⟨[v], .cons r .nil, rfl, rfl⟩
  | n :: ns, e :: ds, _, hl, h => by
    obtain ⟨u, w, rfl, q, t⟩ := h
    by_cases hn : n = f
    · subst hn
      refine ⟨v :: w, ?_, ?_, ?_⟩
      · simp only [putN, if_true]; exact ⟨v, w, rfl, r, t⟩
      · simp [putN, putF]
      · simp only [putN, if_true]; exact hl
    · obtain ⟨us, k1, k2, k3⟩ := put_rp hi r (by simpa using hl) t
      have hne : x.nm n ≠ x.nm f := fun z => hn (hi n z)
      refine ⟨u :: us, ?_, ?_, ?_⟩
      · simp only [putN, if_neg hn]; exact ⟨u, us, rfl, q, k1⟩
      · simp only [putN, if_neg hn, List.map_cons, List.zip_cons_cons, putF, if_neg hne, k2]
      · simp only [putN, if_neg hn, List.length_cons, k3]
  | [], _ :: _, _, h, _ => by cases h
  | _ :: _, [], _, h, _ => by cases h
theorem s_fls (o : XOk T cc X W) (t : TOk T) {f : Nat} {cs : List Nat} {q : Pos} (hne : T.nt.nm f ≠ "") (hcs : csOk T.nt f cs = true) (hl : PE X l (rd T F W a)) (ha : PE X e (rd T F W b)) :
    PS X (.Assign [.Attribute l (T.nt.nm f) q] e pos) (rdS T F W (.fls a f cs b)) := by
  refine PS.wk (ps_fld hl ha swaps_att) fun D σ H ⟨s, G, io, st, hp⟩ => ⟨s, G, io, st, ?_⟩
  refine PostS.bnd hp fun d s1 v H1 G1 io1 sg si t1 r1 hp1 => ⟨s1, G1, io1, t1, ?_⟩
  refine PostS.bnd hp1 fun x s2 u H2 G2 io2 sg2 si2 t2 r2 hp2 => ?_
  split at hp2
  · rename_i n
    split at hp2
    · rename_i c ns ds hm
      split at hp2
      · rename_i hin
        obtain ⟨p, rfl, hpo⟩ := r2
        obtain ⟨vs, ho, q1, q2, q3, ⟨hl, dx, rfl⟩, q5⟩ := t2.mem.2.2 n _ p hm hpo
        have k2 := t.fa c f (csOk_at t hcs hin.1 hl)
        obtain ⟨us, k3, k4, k5⟩ := put_rp (t.nmI hne) (r1.mono sg2 si2) q5 q3
        refine ⟨p, T.x.ca c, dx, _, rfl, q1, by rw [o.K]; exact (t.ko.cl c hl).cl, by rw [o.K]; exact k2, ?_, ?_⟩
        · rw [List.length_zip, List.length_map]
          exact Nat.lt_of_le_of_lt (Nat.min_le_left _ _) hin.2
        · rw [← t.nm, k4]
          exact hp2 σ _ G2 io2 (Same.refl _) (Pre.refl _) (t2.wmem hm hpo (o' := .ob c (putN f d ns ds).1 (putN f d ns ds).2) k3 ⟨hl, dx, rfl⟩ k5 (t2.inF hpo))
      · exact hp2.elim
    · exact hp2.elim
  · exact hp2.elim
theorem meth_no {o : Expr} {m : Str} {apos pos : Pos} {args : List Expr} {kws : List Keyword} {env : Env} (h : isSup o = false) (hl : (apos.endLine == pos.line) = true) (hf : methodCallForm (args.length + kws.length) (backTo pos (starEach args env)) (backToKw pos (keywordEach kws env)) = true) :
    eval (.Call (.Attribute o m apos) args kws pos) env = (do
    let ov ← eval o env
    standAt apos.atName
    let (f, first) ← holding [ov] (getMethod ov m (do return (← importBound o env).getD true))
    callWith pos f first (backTo pos (starEach args env)) (backToKw pos (keywordEach kws env))) := by
  refine mcall_of (base_no h) fun ov => ?_
  unfold methodCall
  rw [hf]
  have e : methodCallPos true o env apos pos = pure pos := by
    unfold methodCallPos
    rw [if_pos (by rw [hl]; rfl)]
  rw [e]
  rfl
theorem form_ok {args : List Expr} {kws : List Keyword} {ns : List Str} {env : Env} {pos : Pos} (hs : args.all (fun e => !isStar e) = true) (hk : kwAre ns kws = true) (hn : args.length + kws.length < 29) :
    methodCallForm (args.length + kws.length) (backTo pos (starEach args env)) (backToKw pos (keywordEach kws env)) = true := by
  unfold methodCallForm
  have h1 := star_any (env := env) (pos := pos) hs
  obtain ⟨h2, _, _⟩ := kw_all (env := env) (pos := pos) hk
  have h3 : (backTo pos (starEach args env)).all (fun p => !p.1) = true := by
    rw [List.all_eq_true]
    intro p hp
    cases hb : p.1 with
    | false => rfl
    | true => rw [List.any_eq_true.mpr ⟨p, hp, hb⟩] at h1; cases h1
  rw [h3, h2]
  simp only [Bool.true_and, decide_eq_true_eq]
  split <;> omega
def tblOk (nt : NT) (m : Str) (n : Nat) (kk : List Str) (tbl : List (Nat × Nat)) : Bool := tbl.all fun p => !nt.live p.1 || decide (nt.me p.1 p.2 = some (m, n, kk))
theorem mem_lookN {c i : Nat} : ∀ {tbl : List (Nat × Nat)}, tbl.lookup c = some i → (c, i) ∈ tbl
  | (a, b) :: tbl, h => by
    rw [List.lookup_cons] at h
    cases hb : (c == a) with
    | true =>
      rw [hb] at h
      cases h
      rw [beq_iff_eq.mp hb]
      exact List.mem_cons_self
    | false =>
      rw [hb] at h
      exact List.mem_cons_of_mem _ (mem_lookN h)
theorem tblOk_at (t : TOk T) {m : Str} {n : Nat} {kk : List Str} {tbl : List (Nat × Nat)} {c i : Nat} (h : tblOk T.nt m n kk tbl = true) (hl : T.x.live c = true) (hi : tbl.lookup c = some i) : FnAtE T c i m n kk := by
  have q := List.all_eq_true.mp h (c, i) (mem_lookN hi)
  dsimp only at q
  rw [t.lv] at hl
  rw [hl] at q
  exact t.me c i m n kk (by simpa using q)
theorem s_met (o : XOk T cc X W) (t : TOk T) {tbl : List (Nat × Nat)} {n k : Nat} {m : Str} {kk : List Str} {apos : Pos} {ka : E} (hsup : isSup l = false) (hm0 : m ≠ "") (hmf : m ∉ T.nt.fl) (hln : (apos.endLine == pos.line) = true) (hfew : es.length + kws.length < 29) (hs : es.all (fun e => !isStar e) = true) (hz : k = kk.length) (htb : tblOk T.nt m n kk tbl = true)
    (hkw : kwAre kk kws = true) (hnil : es = [] → a = .nil) (hl : PE X l (rd T F W b)) (ha : PA X es (rdA T F W a)) (hk : PK X kws (rdA T F W ka)) : PE X (.Call (.Attribute l m apos) es kws pos) (rd T F W (.met tbl b n a k ka)) := by
  subst hz
  have hev := meth_no (o := l) (m := m) (apos := apos) (pos := pos) (args := es) (kws := kws) (env := X.env) hsup hln (form_ok hs hkw hfew)
  obtain ⟨k1, k2, k3⟩ := kw_all (env := X.env) (pos := pos) hkw
  have hpl := star_any (env := X.env) (pos := pos) hs
  refine ⟨fun pins s σ H Q I h => ?_⟩
  obtain ⟨s0, G, io, t0, hp⟩ := h
  have hO : rd T F W b σ H fun u H1 => ∃ d s1 G1 io1, StR T.x F s1 G1 io1 σ H1 ∧ Rp T.x G1 io1 d u ∧ Post T.x F W G1 io1 (match clsN s1 d with
    | some c => match tbl.lookup c with
      | some i => bndA (ev T.P T.Gm a s1) fun ds s => bndA (ev T.P T.Gm ka s) fun es s => if ds.length = n ∧ es.length = kk.length then callF T.P i ((d :: ds) ++ es) s else none
      | none => none
    | none => none) σ Q := ⟨s0, G, io, t0, Post.bnd hp fun d s1 v H1 G1 io1 sg si t1 r1 hp1 => ⟨d, s1, G1, io1, t1, r1, hp1⟩⟩
  refine PySem.W.methodCall_KW (thn (hl.run pins s σ H _ I hO) fun u s1 ⟨x, H1, I1, rx, d, S1, G1, io1, t1, r1, hp1⟩ => ?_) hev
  cases hc : clsN S1 d with
  | none => rw [hc] at hp1; exact hp1.elim
  | some c =>
    rw [hc] at hp1
    dsimp only at hp1
    cases hi : tbl.lookup c with
    | none => rw [hi] at hp1; exact hp1.elim
    | some i =>
      rw [hi] at hp1
      dsimp only at hp1
      obtain ⟨ns, ds, hcf⟩ := clsN_some hc
      obtain ⟨lv, p, dx, fv, rfl, q1, q2, q3⟩ := cls_rp t1 r1 hcf
      obtain ⟨g, hM, cal⟩ := tblOk_at t htb lv hi
      obtain rfl : u = Value.ref p := rx
      have hM' : Meth X.K (T.x.ca c) m g := by rw [o.K]; exact hM
      have hC' : Cls X.K (T.x.ca c) := by rw [o.K]; exact (t.ko.cl c lv).cl
      refine getmeth_ok I1 q1 hC' hM' (t.noF hm0 hmf _ _) ?_
      have hA : rdA T F W a σ H1 fun vs H2 => rdA T F W ka σ H2 fun zs H3 => vs.length = n ∧ zs.length = kk.length ∧ ∃ ds es m G io, Gh T.x G H3 ∧ MemA T.x G io H3 m ∧ RpL T.x G io ds (.ref p :: vs) ∧ RpL T.x G io es zs ∧ PostF T.x H3 G io (T.P i (ds ++ es) m) Q (WE W σ) := ⟨S1, G1, io1, t1, by
        refine Post.bndA hp1 fun ds s vs H2 G2 io2 sg2 si2 t2 r2 hp2 => ⟨s, G2, io2, t2, ?_⟩
        refine Post.bndA hp2 fun dz s2 zs H3 G3 io3 sg3 si3 t3 r3 hp3 => ?_
        split at hp3
        · rename_i hlen
          have l1 : vs.length = n := by rw [r2.length]; exact hlen.1
          have l2 : zs.length = kk.length := by rw [r3.length]; exact hlen.2
          refine ⟨l1, l2, d :: ds, dz, s2.m, G3, io3, t3.gt, t3.mem, ?_, r3, post_F t3 hp3⟩
          exact .cons ((r1.mono sg2 si2).mono sg3 si3) (r2.mono sg3 si3)
        · exact hp3.elim⟩
      cases es with
      | nil =>
        refine PySem.W.callWith_KW0 (first := [.ref p]) (h₀ := X.base) I.ok.mod.kin hM'.kp k1 ?_ (by show (false || _) = false; rw [k3]; rfl)
        rw [hnil rfl] at hA
        obtain ⟨s2, G2, io2, t2, hA⟩ := hA
        have q := hA [] H1 G2 io2 (Same.refl _) (Pre.refl _) t2 rfl
        refine thn (hk.run pos pins s1 σ H1 _ I1 q) fun ws s2 ⟨zs, H2, I2, rz, l1, l2, q2⟩ => ⟨I2.kIn, ?_⟩
        rw [k2]
        exact run_calN (us := [.ref p]) (vs := [.ref p]) o cal I2 (.cons rfl .nil) rz (congrArg Nat.succ l1) l2 q2
      | cons e es =>
        rw [List.all_cons, Bool.and_eq_true] at hs
        have hs1 : isStar e = false := by simpa using hs.1
        refine PySem.W.callWith_KW (first := [.ref p]) (h₀ := X.base) I.ok.mod.kin hM'.kp k1 (thn (ha.run pos pins s1 σ H1 _ I1 hA) fun us s2 ⟨vs, H2, I2, r, q⟩ => ?_) (by rw [hpl, k3]; rfl) (star_no hs1)
        refine thn (hk.run pos pins s2 σ H2 _ I2 q) fun ws s3 ⟨zs, H3, I3, rz, l1, l2, q2⟩ => ⟨I3.kIn, ?_⟩
        rw [k2]
        exact run_calN (us := .ref p :: us) (vs := .ref p :: vs) o cal I3 (.cons rfl r) rz (congrArg Nat.succ l1) l2 q2
end
end En

namespace En
open PySem PySem.Spec L2
theorem fldDs_rp {x : SX} {G : Hp} {io : List Addr} {ns : List Nat} {ds : List D} {vs : List V} (r : RpL x G io ds vs) : ∀ {gs : List Nat} {xs : List D}, (∀ g ∈ gs, ∀ i, x.nm i = x.nm g → i = g) → fldDs ns ds gs = some xs → ∃ ws : List V, (gs.map x.nm).map (fun g => ((ns.map x.nm).zip vs).lookup g) = ws.map some ∧ RpL x G io xs ws
  | [], xs, _, h => by
    cases h
    exact ⟨[], rfl, .nil⟩
  | g :: gs, xs, hi, h => by
    simp only [fldDs] at h
    split at h
    · cases h
    · rename_i d hd
      split at h
      · cases h
      · rename_i rr hr
        cases h
        obtain ⟨ws, e1, e2⟩ := fldDs_rp r (fun g hg => hi g (List.mem_cons_of_mem _ hg)) hr
        obtain ⟨v, e3, e4⟩ := lookN_rp (hi g (List.mem_cons_self ..)) hd r
        exact ⟨v :: ws, by simp only [List.map_cons, e3, e1], .cons e4 e2⟩
structure LI.Ok (x : SX) (G H : Hp) (io : List Addr) (l : LI) : Prop where
  r : RpL x G io l.ds l.vs
  c : H l.c' = some (LamX.CodeO l.c' l.q)
  d : EnY.DefH H l.params l.scope l.dV
theorem str0 {x : SX} {H G : Hp} {io : List Addr} {m : List MO} (gh : Gh x G H) (hm : MemA x G io H m) : StR x ⟨H, G, io, zOf H⟩ ⟨[], m⟩ G io [] H where
  gh := gh.1
  tb := gh.2
  len := rfl
  slot := fun i c e => by cases e
  own := fun i j c c' v _ e _ _ => by cases e
  mem := hm
  kh := fun _ _ e _ _ => e
  kg := fun _ _ => rfl
  ki := Pre.refl _
  ni := fun n a hn e => by
    have hn : io.length ≤ n := hn
    rw [List.getElem?_eq_none (by omega)] at e; cases e
  zl := fun _ _ e => zOf_at e
theorem why_turn {x : SX} {wc : WhyC} {cs : List Value} {ms : List (EnY.MT × List Str)} {q : List Str × Str} (hw : WhyOk x cs ms q wc) {H G : Hp} {io : List Addr} {m m' : List MO} {o : Out} {d : D} {Q : VK} (gh : Gh x G H) (hm : MemA x G io H m) (hd : whyD wc o = some d)
    (fin : ∀ u H2 G2 io2, FF x H G io m' H2 G2 io2 → Rp x G2 io2 d u → Q u H2) : PostF x H G io (some (o, m')) (fun v H1 => EnY.whyV H1 v Q) (fun cls dd H1 => EnY.whyX x.K cs ms q cls dd H1 Q) := by
  have t0 := str0 gh hm
  cases o with
  | val d0 =>
    cases hd
    intro v H1 G1 io1 f1 rv p hp
    obtain ⟨t2, s2⟩ := (t0.call f1).1.newfast (o := .tup [.str "value", v]) hp
    exact fin (.ref p) _ _ io1 t2.ff ⟨p, _, rfl, .inl (.inl upd_same), .cons rfl (.cons (rv.mono s2 (Pre.refl _)) .nil)⟩
  | fr o1 =>
    simp only [whyD] at hd
    cases hx : o1.isX with
    | true => rw [hx] at hd; cases hd
    | false =>
      rw [hx] at hd
      cases hd
      intro a H1 G1 io1 f1 ni ha ow p hp
      obtain ⟨vs, h, e1, e2, r, hM, hL⟩ := ow
      have tA := (t0.call f1).1
      have sA : Same G1 (upd G1 a h) := same_upd e2
      have tB := tA.fast hM.nx (not_tb tA.tb e1 hM.nt) e1 e2 ha ni fun j c e => by cases e
      have rB := fast_rp hx hM hL (r.mono sA (Pre.refl _)) (upd_same (H := G1) (a := a) (o := h))
      obtain ⟨t2, s2⟩ := tB.newfast (o := .tup [.str "value", .ref a]) hp
      exact fin (.ref p) _ _ io1 t2.ff ⟨p, _, rfl, .inl (.inl upd_same), .cons rfl (.cons (rB.mono s2 (Pre.refl _)) .nil)⟩
  | exc c ns es =>
    intro cls dd H1 G1 io1 f1 ex
    obtain ⟨rfl, pa, vs, rfl, x1, x2, x3⟩ := ex
    simp only [whyD] at hd
    by_cases hc : c ∈ wc.cls
    · rw [if_pos hc] at hd
      cases hz : lookF wc.cid ns es with
      | none => rw [hz] at hd; cases hd
      | some dz =>
        rw [hz] at hd
        cases dz with
        | str z =>
          dsimp only at hd
          cases hg : wc.tab.lookup z with
          | none => rw [hg] at hd; cases hd
          | some gs =>
            rw [hg] at hd
            dsimp only at hd
            cases hx : fldDs ns es gs with
            | none => rw [hx] at hd; cases hd
            | some ys =>
              rw [hx] at hd
              cases hd
              obtain ⟨c1, c2, c3⟩ := hw.cls c hc
              obtain ⟨g1, g2⟩ := hw.tab z gs hg
              obtain ⟨vz, l1, l2⟩ := lookN_rp hw.cid.2 hz x3
              rw [hw.cid.1] at l1
              obtain rfl : vz = .str z := l2
              obtain ⟨ws, y1, y2⟩ := fldDs_rp x3 g2 hx
              rw [g1] at y1
              refine ⟨x.ca c, pa, _, z, rfl, rfl, c1, c2, c3, x1, l1, ws, y1, fun H' up p hp p2 hp2 => ?_⟩
              have tA := (t0.call f1).1.grow (H' := H') up
              obtain ⟨t2, s2⟩ := tA.newfast (o := .tup ws) hp
              obtain ⟨t3, s3⟩ := t2.newfast (o := .tup [.str z, .ref p]) hp2
              have np : p ≠ p2 := fun e => by rw [← e, upd_same] at hp2; cases hp2
              exact fin (.ref p2) _ _ io1 t3.ff ⟨p2, _, rfl, .inl (.inl upd_same), .cons rfl (.cons ⟨p, ws, rfl, .inl (.inl (by rw [upd_ne np]; exact upd_same)), y2.mono (s2.trans s3) (Pre.refl _)⟩ .nil)⟩
        | _ => cases hd
    · rw [if_neg hc] at hd; cases hd
  | _ => cases hd
section
variable {x : SX} {P : Nat → List D → List MO → Option (Out × List MO)} {wc : WhyC} {cs : List Value} {ms : List (EnY.MT × List Str)} {q : List Str × Str} {a D0 : Addr} {xs : List V} {Q : VK} {fs : List Addr} {H0 G0 : Hp} {io0 : List Addr} {m0 mF : List MO} {res : List D}
theorem whs_run (hw : WhyOk x cs ms q wc) (t0 : StR x ⟨H0, G0, io0, zOf H0⟩ ⟨[], m0⟩ G0 io0 [] H0) (hD : H0 D0 = none) (ha : H0 a = some (.lst xs)) (ia : a ∉ io0)
    (fin : ∀ H G io avs, FF x H0 G0 io0 mF H G io → H D0 = some (.lst avs) → G D0 = none → D0 ∉ io → RpL x G io res avs → Q (.ref D0) H) :
    ∀ (ls : List LI) (m : List MO) (acc : List D) (G H : Hp) (io : List Addr) (avs : List V), (∀ l ∈ ls, l.Ok x G0 H0 io0) → FF x H0 G0 io0 m H G io → H D0 = some (.lst avs) → G D0 = none → D0 ∉ io → RpL x G io acc avs →
      whsL P wc (ls.map fun l => (l.j, l.ds)) m acc = some (res, mF) → EnY.RunW x.K cs ms q a D0 xs Q (ls.map (LI.sp x P fs)) avs H
  | [], m, acc, G, H, io, avs, _, ff, eD, gD, iD, racc, hr => by
    cases hr
    exact fin H G io avs ff eD gD iD racc
  | l :: ls, m, acc, G, H, io, avs, hl, ff, eD, gD, iD, racc, hr => by
    simp only [List.map_cons, whsL] at hr
    split at hr
    · rename_i hlt
      have lo := hl l (List.mem_cons_self ..)
      have keep : ∀ b o, H0 b = some o → EnY.DefH H0 l.params l.scope l.dV → Stay o → H b = some o := fun b o e _ y => ff.2.2.1 b o e (fun hb => by
        obtain ⟨n, hn, e2⟩ := List.getElem_of_mem hb
        obtain ⟨vs, ho, q1, _, _, q4, _⟩ := t0.mem.2.2 n _ b (List.getElem?_eq_getElem (by rw [t0.mem.1]; exact hn)) (by rw [List.getElem?_eq_getElem hn, e2])
        rw [e] at q1
        cases q1
        exact q4.ns y) (not_tb t0.tb e fun ps z => by rw [z] at y; rcases y with ⟨_, y⟩ | ⟨_, y⟩ <;> cases y)
      -- the turn's end: the answer's tuple stands at p
      have turn : ∀ (d : D) (u : V) (m' : List MO) (H2 G2 : Hp) (io2 : List Addr), whsL P wc (ls.map fun l => (l.j, l.ds)) m' (acc ++ [d]) = some (res, mF) → FF x H0 G0 io0 m' H2 G2 io2 → Same G G2 → Pre io io2 → H2 D0 = some (.lst avs) → G2 D0 = none → D0 ∉ io2 → Rp x G2 io2 d u →
          H2 D0 = some (.lst avs) ∧ SqL x.K (upd H2 D0 (.lst (avs ++ [u]))) a xs ∧ EnY.RunW x.K cs ms q a D0 xs Q (ls.map (LI.sp x P fs)) (avs ++ [u]) (upd H2 D0 (.lst (avs ++ [u]))) := fun d u m' H2 G2 io2 hr2 f2 sg pr e2 g2 i2 ru => by
        refine ⟨e2, .inl (.inl ?_), whs_run hw t0 hD ha ia fin ls m' (acc ++ [d]) G2 _ io2 (avs ++ [u]) (fun l h => hl l (List.mem_cons_of_mem _ h)) (f2.side hD g2 i2 fun w e => by rw [e2] at e; cases e; exact ⟨fun ps z => (by cases z), fun φ z => (by cases z)⟩) upd_same g2 i2 ((racc.mono sg pr).append (.cons ru .nil)) hr2⟩
        rw [upd_ne (fun z => by rw [z, hD] at ha; cases ha)]
        exact f2.2.2.1 a _ ha ia (not_tb t0.tb ha fun ps z => by cases z)
      -- what a run of the lambda leaves
      have step : ∀ {m' : List MO} {H1 G1 : Hp} {io1 : List Addr}, FF x H G io m' H1 G1 io1 → FF x H0 G0 io0 m' H1 G1 io1 ∧ Same G G1 ∧ H1 D0 = some (.lst avs) ∧ G1 D0 = none ∧ D0 ∉ io1 := fun {m' H1 G1 io1} f1 => by
        have ne : H D0 ≠ none := by rw [eD]; simp
        refine ⟨FF.trans t0.mem (s1 := ⟨[], m⟩) ff f1, ((t0.call ff).1.call f1).2, f1.2.2.1 D0 _ eD iD (not_tb ff.1.2 eD fun ps z => by cases z), by rw [f1.2.2.2.1 D0 ne]; exact gD, fun hm => ?_⟩
        obtain ⟨n, hn, e⟩ := List.getElem_of_mem hm
        by_cases hl : n < io.length
        · obtain ⟨k, hk⟩ := f1.2.2.2.2.1
          apply iD
          have : io1[n] = io[n] := by simp [hk, List.getElem_append_left hl]
          rw [← e, this]
          exact List.getElem_mem _
        · exact ne (f1.2.2.2.2.2.1 n D0 (by omega) (by rw [List.getElem?_eq_getElem hn, e]))
      refine ⟨by rw [racc.length]; exact big_lt hlt, fun hN => ⟨keep _ _ lo.c lo.d (.inl ⟨_, rfl⟩), ?_, l.ds, m, G, io, ff.1, ff.2.1, lo.r.mono (t0.call ff).2 ff.2.2.2.2.1, ?_⟩⟩
      · rcases lo.d with z | ⟨a0, e0, T, i, z1, z2, z3, z4⟩
        · exact .inl z
        · exact .inr ⟨a0, e0, T, i, z1, z2, keep _ _ z3 lo.d (.inr ⟨_, rfl⟩), z4⟩
      · cases hP : P l.j l.ds m with
        | none => rw [hP] at hr; cases hr
        | some p =>
          obtain ⟨o, m'⟩ := p
          rw [hP] at hr
          dsimp only at hr
          cases hd : whyD wc o with
          | none => rw [hd] at hr; cases hr
          | some d =>
            rw [hd] at hr
            refine why_turn hw ff.1 ff.2.1 hd fun u H2 G2 io2 f2 ru => ?_
            obtain ⟨k1, k2, k3, k4, k5⟩ := step f2
            exact turn d u m' H2 G2 io2 hr k1 k2 f2.2.2.2.2.1 k3 k4 k5 ru
    · cases hr
end
end En

namespace En
open PySem PySem.Spec L2
section
variable {T : Tb} {X : Cx} {F : Fr} {G H : Hp} {io : List Addr} {σ : L2.St} {s : S}
theorem capD1_rp {x : SX} (t : StR x F s G io σ H) : ∀ {is : List Nat} {ds : List D}, capD1 s.r is = some ds → ∃ vs : List V, is.map (fun i => σ[i]?) = vs.map (fun v => some (some v)) ∧ RpL x G io ds vs
  | [], ds, h => by
    cases h
    exact ⟨[], rfl, .nil⟩
  | i :: is, ds, h => by
    simp only [capD1] at h
    split at h
    · rename_i d hd
      split at h
      · cases h
      · rename_i dr hr
        cases h
        obtain ⟨vs, e1, e2⟩ := capD1_rp t hr
        obtain ⟨v, e3, e4⟩ := t.slot i _ hd
        exact ⟨v :: vs, by simp only [List.map_cons, e3, e1], .cons e4 e2⟩
    · cases h
theorem clo_of {hc : List (Str × Addr)} {capN : List Str} {scope : Scope} {is : List Nat} {vs : List V} {B : Heap} {fs : List Addr} (ho : HomeOk T X) (bl : EnY.BaseL X σ H fs B) (sc : ScL X.env.cells capN scope) (hN : is.map (fun i => X.N[i]?) = capN.map some) (hv : is.map (fun i => σ[i]?) = vs.map (fun v => some (some v)))
    (hk : ∀ y ∈ capN, X.env.kindOf y = some .cell) : EnY.CloS B capN vs (cloFrom X.env.cells scope.names []) scope where
  kind := sc.kind
  co := sc.co
  gen := sc.gen
  inj := fun y z c e1 e2 => ho.inj y z c (NdefX.clo_cm sc.free e1) (NdefX.clo_cm sc.free e2)
  cell := fun y c e => bl.cell y c (NdefX.clo_cm sc.free e)
  cap := fun i y v e1 e2 => by
    have hy : y ∈ capN := List.mem_of_getElem? e1
    have q1 := congrArg (fun l => l[i]?) hN
    have q2 := congrArg (fun l => l[i]?) hv
    simp only [List.getElem?_map, e1, e2, Option.map_some] at q1 q2
    cases hi : is[i]? with
    | none => rw [hi] at q1; cases q1
    | some k =>
      rw [hi] at q1 q2
      obtain ⟨c, o, u, r1, r2, r3, r4⟩ := bl.cap k y v (Option.some.inj q1) (Option.some.inj q2) (hk y hy)
      have hf := sc.cap y hy
      exact ⟨hf, c, o, u, NdefX.clo_has sc.free (PySem.mem_of_lookup hf) r1, r2, r3, r4⟩
  free := fun y e => by
    obtain ⟨c, hc⟩ := sc.free _ (PySem.mem_of_lookup e) rfl
    exact ⟨c, NdefX.clo_has sc.free (PySem.mem_of_lookup e) hc⟩
  nocell := sc.nocell
  len := by
    have h1 := congrArg List.length hN
    have h2 := congrArg List.length hv
    simp only [List.length_map] at h1 h2
    omega
theorem lam_items (t : StR T.x F s G io σ H) (ho : HomeOk T X) (hp : X.prog = T.prog ∧ X.w = T.w ∧ X.K = T.x.K ∧ X.mg = T.mg ∧ X.base = T.base) (lo : LamOk T) : ∀ {ks : List (Nat × List Nat)} {avs : List V} {ls : List (Nat × List D)}, LamL T.x G H ks avs → capsD s.r ks = some ls →
    ∃ (fs : List Addr) (its : List LI), avs = fs.map V.ref ∧ its.map (fun l => (l.j, l.ds)) = ls ∧ its.length = fs.length ∧ (∀ f ∈ fs, G f = none ∧ ∃ o, H f = some (EnY.funO f o) ∧ ∀ us, o.data ≠ .fields us) ∧ (∀ l ∈ its, l.Ok T.x G H io) ∧
      ∀ (B : Heap) (fs' : List Addr), EnY.BaseL X σ H fs' B → (∀ f ∈ fs, f ∈ fs') → ∀ (k : Nat) f l, fs[k]? = some f → its[k]? = some l → EnY.Callable T.prog T.w T.x.K T.mg B (T.lv - 3) f (spL T.x (T.P l.j) l.vs l.c' l.q l.params l.scope l.dV)
  | [], avs, ls, hl, hc => by
    cases hc
    cases hl
    exact ⟨[], [], rfl, rfl, rfl, fun f z => (by cases z), fun f z => (by cases z), fun B fs' _ _ k f l z => (by cases z)⟩
  | (j, is) :: ks, avs, ls, hl, hc => by
    obtain ⟨v, r, rfl, hv, hr⟩ := hl
    simp only [capsD] at hc
    split at hc
    · cases hc
    · rename_i ds hd
      split at hc
      · cases hc
      · rename_i lr hcr
        cases hc
        obtain ⟨fs, its, rfl, e2, e3, e4, e5, e6⟩ := lam_items t ho hp lo hr hcr
        obtain ⟨f, c', q, params, body, scope, dV, pm, ctv, capN, rfl, g1, g2, g3, g4, g5, g6⟩ := hv
        obtain ⟨vs, w1, w2⟩ := capD1_rp t hd
        obtain ⟨sc, call⟩ := lo j capN params body scope g6
        refine ⟨f :: fs, ⟨j, ds, vs, c', q, params, scope, dV⟩ :: its, rfl, by rw [List.map_cons, e2], by simp [e3], fun g hg => ?_, fun l hl => ?_, fun B fs' bl hs k g l h1 h2 => ?_⟩
        · rcases List.mem_cons.mp hg with z | z
          · subst z
            exact ⟨g1, _, g2, fun us z => by cases z⟩
          · exact e4 g z
        · rcases List.mem_cons.mp hl with z | z
          · subst z
            exact ⟨w2, g3, g4⟩
          · exact e5 l z
        · cases k with
          | zero =>
            cases h1
            cases h2
            rw [ho.hc] at sc
            rw [ho.hN] at g5
            have hB := bl.fn f (hs f (List.mem_cons_self ..)) _ g2
            rw [ho.hc] at hB
            exact call B vs _ q f c' dV pm ctv (fun b o e => bl.old b o (by rw [hp.2.2.2.2]; exact e)) hB (clo_of (hc := []) ho bl sc g5 w1 (ho.cel j capN params body scope g6))
          | succ k => exact e6 B fs' bl (fun g hg => hs g (List.mem_cons_of_mem _ hg)) k g l h1 h2
end
end En

namespace En
open PySem PySem.Spec L2
theorem callable_weak {P : Program} {w : World} {K : PySem.W.Frag} {mg : Str → Option Value} {base : Heap} {k : Nat} {f : Addr} {sp : Hp → VK → XK → Prop} {fs : List Addr} (C : EnY.Callable P w K mg base k f sp) (hb : ∀ f ∈ fs, ∃ o, base.get? f = some o) :
    EnY.Callable P w K mg base k f (fun H Q E => (∀ f ∈ fs, H f = none) → sp H Q E) :=
  ⟨fun H Q Q' E E' h m1 m2 hn => C.mono H Q Q' E E' (h hn) m1 m2, C.at_, fun A outer s H Q E hr e0 h => C.run A outer s H Q E hr e0 (h fun g hg => by
    obtain ⟨o, e⟩ := hb g hg
    exact (e0.bs g o e).2)⟩
theorem un_eq {fs : List Addr} {H : Hp} {b : Addr} (n : b ∉ fs) : EnY.un fs H b = H b := by unfold EnY.un; rw [if_neg n]
section
variable {x : SX} {F : Fr} {G H : Hp} {io : List Addr} {σ : L2.St} {s : S} {fs : List Addr}
theorem str_un (t : StR x F s G io σ H) (hf : ∀ f ∈ fs, G f = none ∧ ∃ o, H f = some (EnY.funO f o) ∧ ∀ us, o.data ≠ .fields us) (hc : ∀ c q, H c = some (LamX.CodeO c q) → c ∉ fs) : StR x ⟨EnY.un fs H, G, io, zOf (EnY.un fs H)⟩ ⟨[], s.m⟩ G io [] (EnY.un fs H) where
  gh := fun b u e => EnY.un_at (t.gh b u e) fun z => by rw [(hf b z).1] at e; cases e
  len := rfl
  slot := fun i c e => by cases e
  own := fun i j c c' v _ e _ _ => by cases e
  mem := ⟨t.mem.1, t.mem.2.1, fun n o a e1 e2 => by
    obtain ⟨vs, h, q1, q2, q3, q4, q5⟩ := t.mem.2.2 n o a e1 e2
    refine ⟨vs, h, EnY.un_at q1 fun z => ?_, q2, q3, q4, q5⟩
    obtain ⟨_, o, y, _⟩ := hf a z
    rw [q1] at y
    exact q4.nx _ (Option.some.inj y)⟩
  kh := fun _ _ e _ _ => e
  kg := fun _ _ => rfl
  ki := Pre.refl _
  ni := fun n a hn e => by
    have hn : io.length ≤ n := hn
    rw [List.getElem?_eq_none (by omega)] at e; cases e
  zl := fun _ _ e => zOf_at e
  tb := ⟨fun p hp => by
    obtain ⟨ps, h1, h2, h3⟩ := t.tb.1 p hp
    refine ⟨ps, EnY.un_at h1 fun z => ?_, h2, fun pos cv hcv => ?_⟩
    · obtain ⟨_, o, y, _⟩ := hf _ z
      rw [h1] at y; cases y
    · obtain ⟨c, e1, e2⟩ := h3 pos cv hcv
      exact ⟨c, e1, EnY.un_at e2 (hc c _ e2)⟩, t.tb.2⟩
theorem ff_re {m' : List MO} {H' G' : Hp} {io' : List Addr} (t : StR x F s G io σ H) (hf : ∀ f ∈ fs, G f = none ∧ ∃ o, H f = some (EnY.funO f o) ∧ ∀ us, o.data ≠ .fields us) (hn : ∀ f ∈ fs, H' f = none) (f : FF x (EnY.un fs H) G io m' H' G' io') : FF x H G io m' (EnY.re fs H H') G' io' := by
  obtain ⟨f1, f2, f3, f4, f5, f6, f7⟩ := f
  refine ⟨⟨fun b u e => EnY.re_at hn (f1.1 b u e), tabs_keep f1.2 fun b u e _ => EnY.re_at hn e⟩, ⟨f2.1, f2.2.1, fun n o a e1 e2 => ?_⟩, fun b o e n1 n2 => ?_, fun b hb => ?_, f5, fun n a hl e => ?_, fun b o u e => ?_⟩
  · obtain ⟨vs, h, q1, q2⟩ := f2.2.2 n o a e1 e2
    exact ⟨vs, h, EnY.re_at hn q1, q2⟩
  · by_cases hm : b ∈ fs
    · rw [EnY.re_in hm]; exact e
    · exact EnY.re_at hn (f3 b o (EnY.un_at e hm) n1 n2)
  · by_cases hm : b ∈ fs
    · rw [(hf b hm).1]
      cases e : G' b with
      | none => rfl
      | some u =>
        have z := f1.1 b u e
        rw [hn b hm] at z; cases z
    · exact f4 b (by rw [un_eq hm]; exact hb)
  · have z := f6 n a hl e
    by_cases hm : a ∈ fs
    · obtain ⟨hl2, _⟩ := List.getElem?_eq_some_iff.mp e
      obtain ⟨vs, h, q1, _⟩ := f2.2.2 n _ a (List.getElem?_eq_getElem (by rw [f2.1]; exact hl2)) e
      rw [hn a hm] at q1; cases q1
    · rw [un_eq hm] at z; exact z
  · refine EnY.re_at hn (f7 b o u (EnY.un_at e fun z => ?_))
    obtain ⟨_, o, y, _⟩ := hf b z
    rw [e] at y; cases y
end
section
variable {T : Tb} {cc : CC} {X : Cx} {W : WX} {i k : Nat} {y g a : Str} {p p2 pos : Pos} {fw : Addr} {fd : FuncData} {cs : List Value} {ms : List (EnY.MT × List Str)} {q : List Str × Str} {wc : WhyC}
theorem pe_whs (hX : X.prog = T.prog ∧ X.w = T.w ∧ X.K = T.x.K ∧ X.mg = T.mg ∧ X.base = T.base) (hr : Room T.lv X.A) (ho : HomeOk T X) (lo : LamOk T) (h1 : k + 1 ≤ T.lv + 1) (Fw : ∀ B, FnOk X.prog X.w X.K X.mg B (L2.CX X.prog X.w) k fw fd [a] (EnY.spWhys T.prog T.w T.x.K T.mg B (T.lv - 3) cs ms q)) (hw : WhyOk T.x cs ms q wc)
    (hg : Gl X g) (hm : X.mg g = some (.ref fw)) (hk : PySem.W.keepIn X.K (.ref fw) = true) (hb : Binds X.K fd [a] []) (hdb : (g == ("__debug__" : Str)) = false)
    (hN : X.N[i]? = some y) (hv : Vis X.env.scope y) (hd : (y == ("__debug__" : Str)) = false) (hcd : (y == ("__classdict__" : Str)) = false) :
    PE X (.Call (.Name g p) [.Name y p2] [] pos) (fun σ H Q => ∃ (F : Fr) (s : S) (G : Hp) (io : List Addr) (ks : List (Nat × List Nat)) (ls : List (Nat × List D)) (res : List D) (mF : List MO), StR T.x F s G io σ H ∧ s.r[i]? = some (some (.lms ks)) ∧ capsD s.r ks = some ls ∧ whsL T.P wc ls s.m [] = some (res, mF) ∧
      PostF T.x H G io (some (.fr (.bx res), mF)) Q (fun _ _ _ => False)) := by
  refine PE.wk (EnY.pe_atB (sp := fun B => EnY.spWhys T.prog T.w T.x.K T.mg B (T.lv - 3) cs ms q) Fw (hr.mono (by omega)) ho.fn hg hm hk hb (pe_var (pos := p2) hN hv hd hcd) (fun σ H Q Q' h m => by
    obtain ⟨v, e, w⟩ := h
    exact ⟨v, e, m _ _ w⟩) hdb rfl rfl) fun σ H Q hq => ?_
  obtain ⟨F, s, G, io, ks, ls, res, mF, t, e1, e2, e3, hp⟩ := hq
  obtain ⟨v, ev, aL, rfl, iA, avs, hA, gA, _, hL⟩ := t.slot i _ e1
  obtain ⟨fs, its, rfl, i1, i2, i3, i4, i5⟩ := lam_items t ho hX lo hL e2
  refine ⟨.ref aL, ev, fs, fun f hf => (i3 f hf).2, fun B bl => ?_⟩
  have t0 := str_un t i3 bl.code
  have aF : aL ∉ fs := fun z => by
    obtain ⟨_, o, y, _⟩ := i3 aL z
    rw [hA] at y; cases y
  have hA0 : EnY.un fs H aL = some (.lst (fs.map V.ref)) := EnY.un_at hA aF
  refine ⟨aL, fs, its.map (LI.sp T.x T.P fs), rfl, .inl (.inl hA0), by rw [List.length_map]; exact i2, fun j f sp h1 h2 => ?_, fun D hD => ⟨.inl (.inl ?_), ?_⟩⟩
  · rw [List.getElem?_map] at h2
    obtain ⟨l, h3, rfl⟩ := Option.map_eq_some_iff.mp h2
    exact callable_weak (i5 B fs bl (fun _ h => h) j f l h1 h3) fun g hg => by
      obtain ⟨o, z, _⟩ := (i3 g hg).2
      exact ⟨o, bl.fn g hg o z⟩
  · rw [upd_ne (fun z => by rw [z, hD] at hA0; cases hA0)]
    exact hA0
  · obtain ⟨t1, gD, _, iD, _⟩ := t0.new (o := .lst []) hD
    refine whs_run hw t0 hD hA0 iA ?_ its s.m [] G _ io [] (fun l hl => ?_) t1.ff upd_same gD iD .nil (by rw [i1]; exact e3)
    · intro H' G' io' avs ff eD gD iD r hn
      have nF : D ∉ fs := fun z => by rw [hn D z] at eD; cases eD
      exact hp D _ G' io' (ff_re t i3 hn ff) iD (by rw [un_eq nF] at hD; exact hD) ⟨avs, _, EnY.re_at hn eD, gD, r, rfl, trivial⟩
    · have l0 := i4 l hl
      refine ⟨l0.r, EnY.un_at l0.c (bl.code _ _ l0.c), ?_⟩
      rcases l0.d with z | ⟨a0, e0, T, i, z1, z2, z3, z4⟩
      · exact .inl z
      · exact .inr ⟨a0, e0, T, i, z1, z2, EnY.un_at z3 (fun z => by
          obtain ⟨_, o, y, _⟩ := i3 _ z
          rw [z3] at y; cases y), z4⟩
theorem s_whs (o : XOk T cc X W) {F : Fr} (hl : cc.lam = true) (hw : T.nt.wc = some wc) (hgl : glo cc "_law_whys" = true) (hvi : vis cc i y = true) : PE X (.Call (.Name "_law_whys" p) [.Name y p2] [] pos) (rd T F W (.whs i wc)) := by
  obtain ⟨k, a, fw, fd, cs, ms, q, h1, h2, h3, h4, h5, h6⟩ := (o.hom hl).wy wc hw
  obtain ⟨v1, v2, v3, v4⟩ := o.vis hvi
  obtain ⟨g1, g2, g3⟩ := o.glo hgl
  have e1 := o.prog
  have e2 := o.w
  have e3 := o.K
  have e4 := o.mg
  refine PE.wk (pe_whs ⟨e1, e2, e3, e4, o.base⟩ o.room (o.hom hl) (o.hom hl).lam (Nat.succ_le_succ h1) (by rw [e1, e2, e3, e4]; exact h5) h6 g1 (by rw [e4]; exact h2) (by rw [e3]; exact h3) (by rw [e3]; exact h4) g2 v1 v2 v3 v4) fun σ H Q hq => ?_
  obtain ⟨s, G, io, t, hp⟩ := hq
  simp only [ev] at hp
  split at hp
  · rename_i ks hs
    split at hp
    · exact hp.elim
    · rename_i ls hc
      split at hp
      · exact hp.elim
      · rename_i res m hr
        refine ⟨F, s, G, io, ks, ls, res, m, t, hs, hc, hr, ?_⟩
        intro p H' G' io' ff ni hn ow
        obtain ⟨ws, h, e1, e2, e3⟩ := ow
        obtain ⟨t', sg⟩ := t.call ff
        obtain ⟨_, _, hf, _, ho⟩ := t.new (a := p) (o := .lst []) hn
        exact hp p H' G' io' sg ff.2.2.2.2.1 t' ni ⟨ws, h, e1, e2, hf, e3⟩ ho
  · exact hp.elim
end
end En

namespace En
open PySem PySem.Spec L2
section
variable {x : SX} {F : Fr} {G H H' : Hp} {io : List Addr} {σ : L2.St} {s : S}
theorem stay_nt {o : HO} (h : Stay o) : ∀ ps, o ≠ .tbl ps := fun ps z => by
  subst z
  rcases h with ⟨_, y⟩ | ⟨_, y⟩ <;> cases y
theorem StR.growP (t : StR x F s G io σ H) {P : Addr} (hP : P ∈ tbA x) (k : EnY.ExtP P H H') (tb : LamX.Tabs x.tbs H') : StR x F s G io σ H' := by
  have kk : ∀ {b : Addr} {o : HO}, H b = some o → (∀ ps, o ≠ .tbl ps) → H' b = some o := fun {b o} e n => k b o e fun z => by
    obtain ⟨ps, q⟩ := tab_at t.tb hP
    rw [z, q] at e
    cases e
    exact n _ rfl
  refine ⟨fun b u e => k b u (t.gh b u e) fun z => (by rw [z, t.tb.2 P hP] at e; cases e), t.len, fun i c e => ?_, t.own, ⟨t.mem.1, t.mem.2.1, fun n o a e1 e2 => ?_⟩, fun b o e n nt => k b o (t.kh b o e n nt) fun z => nt (by rw [z]; exact hP), t.kg, t.ki, t.ni, fun b u e => ?_, tb, t.tb.2⟩
  · obtain ⟨v, e1, q⟩ := t.slot i c e
    refine ⟨v, e1, ?_⟩
    cases c with
    | val d => exact q
    | ol es =>
      obtain ⟨a, rfl, q1, vs, q2, q3⟩ := q
      exact ⟨a, rfl, q1, vs, kk q2 fun ps z => (by cases z), q3⟩
    | od ks es =>
      obtain ⟨a, rfl, q1, vs, q2, q3⟩ := q
      exact ⟨a, rfl, q1, vs, kk q2 fun ps z => (by cases z), q3⟩
    | lms ks =>
      obtain ⟨a, rfl, q1, vs, q2, q3, q4, q5⟩ := q
      exact ⟨a, rfl, q1, vs, kk q2 fun ps z => (by cases z), q3, q4, q5.mono (fun b o e y => kk e (stay_nt y)) fun _ _ _ e => e⟩
  · obtain ⟨vs, h, q1, q2, q3, q4, q5⟩ := t.mem.2.2 n o a e1 e2
    exact ⟨vs, h, kk q1 q4.nt, q2, q3, q4, q5⟩
  · obtain ⟨e1, e2⟩ := t.zl b u e
    refine ⟨kk e1 fun ps z => ?_, e2⟩
    rw [z] at e2
    obtain ⟨_, _, y⟩ := e2
    cases y
theorem StR.setm {i : Nat} {ks : List (Nat × List Nat)} {p : Addr} (t : StR x F s G io σ H) (ni : p ∉ io) (ow : OwnM x F G H ks p)
    (no : ∀ (j : Nat) (c : Cell), s.r[j]? = some (some c) → isOwn c = true → σ[j]? ≠ some (some (.ref p))) : StR x F (s.set i (some (.lms ks))) G io (σ.set i (some (.ref p))) H where
  gh := t.gh
  len := by simp [S.set, t.len]
  slot := fun j c e => by
    have e : (s.r.set i (some (.lms ks)))[j]? = some (some c) := e
    by_cases hj : i = j
    · subst hj
      by_cases hi : i < s.r.length
      · rw [List.getElem?_set_self hi] at e
        cases e
        exact ⟨.ref p, by rw [List.getElem?_set_self (by rw [← t.len]; exact hi)], p, rfl, ni, ow⟩
      · rw [List.getElem?_eq_none (by simpa using hi)] at e; cases e
    · rw [List.getElem?_set_ne hj] at e
      obtain ⟨w, e1, q⟩ := t.slot j c e
      exact ⟨w, by rw [List.getElem?_set_ne hj]; exact e1, q⟩
  own := fun j k c c' w hjk e1 e2 o1 o2 z1 z2 => by
    have e1 : (s.r.set i (some (.lms ks)))[j]? = some (some c) := e1
    have e2 : (s.r.set i (some (.lms ks)))[k]? = some (some c') := e2
    by_cases h1 : i = j
    · subst h1
      have h2 : i ≠ k := hjk
      rw [List.getElem?_set_ne h2] at e2 z2
      have hi : i < σ.length := by
        by_cases hi : i < σ.length
        · exact hi
        · rw [List.getElem?_eq_none (by simpa using hi)] at z1; cases z1
      rw [List.getElem?_set_self hi] at z1
      cases z1
      exact no k c' e2 o2 z2
    · by_cases h2 : i = k
      · subst h2
        rw [List.getElem?_set_ne h1] at e1 z1
        have hi : i < σ.length := by
          by_cases hi : i < σ.length
          · exact hi
          · rw [List.getElem?_eq_none (by simpa using hi)] at z2; cases z2
        rw [List.getElem?_set_self hi] at z2
        cases z2
        exact no j c e1 o1 z1
      · rw [List.getElem?_set_ne h1] at e1 z1
        rw [List.getElem?_set_ne h2] at e2 z2
        exact t.own j k c c' w hjk e1 e2 o1 o2 z1 z2
  mem := t.mem
  kh := t.kh
  kg := t.kg
  ki := t.ki
  ni := t.ni
  zl := t.zl
  tb := t.tb
end
def capNs (N : List Str) : List Nat → Option (List Str)
  | [] => some []
  | i :: is => match N[i]?, capNs N is with
    | some y, some r => some (y :: r)
    | _, _ => none
theorem capNs_eq {N : List Str} : ∀ {is : List Nat} {r : List Str}, capNs N is = some r → is.map (fun i => N[i]?) = r.map some
  | [], r, h => by cases h; rfl
  | i :: is, r, h => by
    simp only [capNs] at h
    split at h
    · rename_i y r' h1 h2
      cases h
      simp only [List.map_cons, h1, capNs_eq h2]
    · cases h
def freeB (cc : CC) (scope : Scope) : Bool := scope.names.all fun y => !decide (y.2 = .free) || (decide (scope.names.lookup y.1 = some .free) && decide (cc.sc.names.lookup y.1 = some .cell))
def lmsB (nt : NT) (cc : CC) : List Expr → List (Nat × List Nat) → Bool
  | [], [] => true
  | .Lambda params body scope _ :: es, (j, is) :: ks => (match capNs cc.N is with
    | some cn => nt.lmk j cn params body scope
    | none => false) && EnY.parB params scope && freeB cc scope && lmsB nt cc es ks
  | _, _ => false
section
variable {T : Tb} {cc : CC} {X : Cx} {W : WX}
theorem lams_pa (o : XOk T cc X W) (hl : cc.lam = true) : ∀ {es : List Expr} {ks : List (Nat × List Nat)}, lmsB T.nt cc es ks = true →
    PA X es (fun σ H Q => ∃ F s G io, StR T.x F s G io σ H ∧ ∀ avs H1, StR T.x F s G io σ H1 → LamL T.x G H1 ks avs → (∀ b u, H b = some u → Stay u → H1 b = some u) → Q avs H1)
  | [], [], _ => PA.wk pa_nil fun σ H Q ⟨F, s, G, io, t, h⟩ => h [] H t rfl fun _ _ e _ => e
  | [], _ :: _, h => by simp [lmsB] at h
  | e :: es, ks, h => by
    have ho := o.hom hl
    obtain ⟨c, P, TB, hcode, hm, hu⟩ := ho.tab
    unfold lmsB at h
    split at h
    · exact absurd ‹e :: es = []› (by simp)
    · rename_i params body scope pos es' j is ks' heq
      cases heq
      simp only [Bool.and_eq_true] at h
      obtain ⟨⟨⟨h1, h2⟩, h3⟩, h4⟩ := h
      split at h1
      · rename_i cn hcn
        have hfr : ∀ y ∈ scope.names, y.2 = .free → scope.names.lookup y.1 = some .free ∧ (X.env.kindOf y.1 = some .cell ∨ X.env.kindOf y.1 = some .free) := fun y hy hk => by
          have q := List.all_eq_true.mp h3 y hy
          simp only [hk, decide_true, Bool.not_true, Bool.false_or, Bool.and_eq_true, decide_eq_true_eq] at q
          exact ⟨q.1, .inl (by show X.env.scope.names.lookup y.1 = _; rw [o.sc]; exact q.2)⟩
        have hPt : P ∈ tbA T.x := List.mem_map.mpr ⟨_, hm, rfl⟩
        refine PA.wk (pa_cons (EnY.pe_lam (T := T.x.tbs) TB hcode hm hu hfr h2) (lams_pa o hl h4) (star_no rfl)) fun σ H Q ⟨F, s, G, io, t, hq⟩ => ⟨t.tb.1, fun f c' dV pm ctv H1 ext tabs nf hf hc hd => ?_⟩
        refine ⟨F, s, G, io, t.growP hPt ext.2 tabs, fun avs H2 t2 hl2 st => hq (.ref f :: avs) H2 t2 ⟨.ref f, avs, rfl, ?_, hl2⟩ fun b u e y => st b u (ext.1 b u e (stay_nt y)) y⟩
        refine ⟨f, c', X.env.qual ++ "<lambda>", params, body, scope, dV, pm, ctv, cn, rfl, ?_, ?_, st _ _ hc (.inl ⟨_, rfl⟩), ?_, ?_, ho.made j cn params body scope h1⟩
        · cases e : G f with
          | none => rfl
          | some u => rw [t.gh f u e] at nf; cases nf
        · rw [ho.hc]
          exact st _ _ hf (.inl ⟨_, rfl⟩)
        · rcases hd with z | ⟨a0, e0, T0, i0, z1, z2, z3, z4⟩
          · exact .inl z
          · exact .inr ⟨a0, e0, T0, i0, z1, z2, st _ _ z3 (.inr ⟨_, rfl⟩), z4⟩
        · rw [ho.hN, o.N]
          exact capNs_eq hcn
      · cases h1
    · cases h
theorem LamL.len {x : SX} {G H : Hp} : ∀ {ks : List (Nat × List Nat)} {vs : List V}, LamL x G H ks vs → vs.length = ks.length
  | [], _, h => by cases h; rfl
  | _ :: _, _, ⟨v, r, e, _, h⟩ => by subst e; simp [LamL.len h]
theorem s_lma (o : XOk T cc X W) {F : Fr} {i : Nat} {y : Str} {py pos lp : Pos} {es : List Expr} {ks : List (Nat × List Nat)} (hl : cc.lam = true) (hlen : ks.length ≤ 1000) (h : tgt cc i y = true) (hb : lmsB T.nt cc es ks = true) : PS X (.Assign [.Name y py] (.List es lp) pos) (rdS T F W (.lma i ks)) := by
  obtain ⟨h1, h2, h3⟩ := o.tgt h
  refine PS.wk (ps_set (i := i) o.nd h1 h2 (pe_lst (lams_pa o hl hb)) (swaps_no rfl) h3) fun D σ H ⟨s, G, io, t, hp⟩ => ⟨F, s, G, io, t, fun avs H1 t1 hl1 _ => ⟨by rw [hl1.len, sizeLine_eq]; omega, fun p hn => ?_⟩⟩
  simp only [ev] at hp
  obtain ⟨t2, g2, f2, i2, no⟩ := t1.new (o := .lst avs) hn
  exact hp _ _ G io (Same.refl _) (Pre.refl _) (t2.setm i2 ⟨avs, upd_same, g2, f2, hl1.mono (fun b u e _ => by rw [upd_ne (ne_of_none e hn)]; exact e) fun _ _ _ e => e⟩ no)
theorem LamL.append {x : SX} {G H : Hp} : ∀ {js ks : List (Nat × List Nat)} {us vs : List V}, LamL x G H js us → LamL x G H ks vs → LamL x G H (js ++ ks) (us ++ vs)
  | [], _, _, _, h, k => by cases h; exact k
  | _ :: _, _, _, _, ⟨v, r, e, q, h⟩, k => by subst e; exact ⟨v, _, rfl, q, LamL.append h k⟩
theorem s_lmb (o : XOk T cc X W) {F : Fr} {i : Nat} {y : Str} {py p2 pos lp bp : Pos} {es : List Expr} {ks : List (Nat × List Nat)} (hl : cc.lam = true) (hlen : ks.length ≤ 1000) (h : tgt cc i y = true) (hv : vis cc i y = true) (hb : lmsB T.nt cc es ks = true) : PS X (.Assign [.Name y py] (.BinOp (.Name y p2) .Add (.List es lp) bp) pos) (rdS T F W (.lmb i ks)) := by
  obtain ⟨h1, h2, h3⟩ := o.tgt h
  obtain ⟨v1, v2, v3, v4⟩ := o.vis hv
  refine PS.wk (ps_set (i := i) o.nd h1 h2 (pe_op op_cat (pe_var (pos := p2) v1 v2 v3 v4) (pe_lst (lams_pa o hl hb))) (swaps_no rfl) h3) fun D σ H ⟨s, G, io, t, hp⟩ => ?_
  simp only [ev] at hp
  split at hp
  · rename_i js hs
    split at hp
    · rename_i hbig
      obtain ⟨v, e1, a, rfl, iA, us, hA, gA, fA, hL⟩ := t.slot i _ hs
      refine ⟨.ref a, e1, F, s, G, io, t, fun avs H1 t1 hl1 st => ⟨by rw [hl1.len, sizeLine_eq]; omega, fun p hn => ?_⟩⟩
      obtain ⟨v', e1', a', ea, iA', us', hA', gA', fA', hL'⟩ := t1.slot i _ hs
      rw [e1] at e1'
      cases e1'
      cases ea
      obtain ⟨t2, g2, f2, i2, no⟩ := t1.new (o := .lst avs) hn
      refine ⟨a, p, us', avs, rfl, rfl, by rw [upd_ne (ne_of_none hA' hn)]; exact hA', upd_same, by rw [hL'.len, hl1.len]; exact Nat.le_of_lt (big_lt hbig), fun p3 hn3 => ?_⟩
      obtain ⟨t3, g3, f3, i3, no3⟩ := t2.new (o := .lst (us' ++ avs)) hn3
      have k1 : ∀ b u, H1 b = some u → Stay u → upd H1 p (.lst avs) b = some u := fun b u e _ => by rw [upd_ne (ne_of_none e hn)]; exact e
      have k2 : ∀ b u, upd H1 p (.lst avs) b = some u → Stay u → upd (upd H1 p (.lst avs)) p3 (.lst (us' ++ avs)) b = some u := fun b u e _ => by rw [upd_ne (ne_of_none e hn3)]; exact e
      exact hp _ _ G io (Same.refl _) (Pre.refl _) (t3.setm i3 ⟨us' ++ avs, upd_same, g3, f3, (hL'.append hl1).mono (fun b u e y => k2 b u (k1 b u e y) y) fun _ _ _ e => e⟩ no3)
    · exact hp.elim
  · exact hp.elim
end
section
variable {T : Tb} {cc : CC} {X : Cx} {W : WX} {i k : Nat} {y g a : Str} {p p2 pos : Pos} {fw : Addr} {fd : FuncData} {cs : List Value} {ms : List (EnY.MT × List Str)} {q : List Str × Str} {wc : WhyC}
theorem pe_wh1 {c P : Addr} {params : Arguments} {body : Expr} {scope : Scope} {lpos : Pos} {j : Nat} {is : List Nat} {capN : List Str} (hX : X.prog = T.prog ∧ X.w = T.w ∧ X.K = T.x.K ∧ X.mg = T.mg ∧ X.base = T.base) (hr : Room T.lv X.A) (ho : HomeOk T X) (lo : LamOk T) (h1 : k + 1 ≤ T.lv + 1) (Fw : ∀ B, FnOk X.prog X.w X.K X.mg B (L2.CX X.prog X.w) k fw fd [a] (EnY.spWhy T.prog T.w T.x.K T.mg B (T.lv - 3) cs ms q)) (hw : WhyOk T.x cs ms q wc)
    (hg : Gl X g) (hm : X.mg g = some (.ref fw)) (hk : PySem.W.keepIn X.K (.ref fw) = true) (hb : Binds X.K fd [a] []) (hdb : (g == ("__debug__" : Str)) = false)
    (TB : LamX.TabB X.base X.mg c P) (hcode : X.env.code = .ref c) (hmP : (P, X.env.qual ++ "<lambda>") ∈ T.x.tbs) (hu : ∀ p ∈ T.x.tbs, p.1 = P → p.2 = X.env.qual ++ "<lambda>")
    (hfr : ∀ y ∈ scope.names, y.2 = .free → scope.names.lookup y.1 = some .free ∧ (X.env.kindOf y.1 = some .cell ∨ X.env.kindOf y.1 = some .free)) (hpb : EnY.parB params scope = true) (hcn : is.map (fun i => T.x.hN[i]?) = capN.map some) (hlm : T.x.lm j capN params body scope) :
    PE X (.Call (.Name g p) [.Lambda params body scope lpos] [] pos) (fun σ H Q => ∃ (F : Fr) (s : S) (G : Hp) (io : List Addr) (ds : List D) (o : Out) (m : List MO) (d : D), StR T.x F s G io σ H ∧ capD1 s.r is = some ds ∧ T.P j ds s.m = some (o, m) ∧ whyD wc o = some d ∧
      PostF T.x H G io (some (.val d, m)) Q (fun _ _ _ => False)) := by
  refine PE.wk (EnY.pe_atB (sp := fun B => EnY.spWhy T.prog T.w T.x.K T.mg B (T.lv - 3) cs ms q) Fw (hr.mono (by omega)) ho.fn hg hm hk hb (EnY.pe_lam (T := T.x.tbs) TB hcode hmP hu hfr hpb) (fun σ H Q Q' h m => by
    obtain ⟨h1, h2⟩ := h
    exact ⟨h1, fun f c' dV pm ctv H1 e t n z1 z2 z3 => m _ _ (h2 f c' dV pm ctv H1 e t n z1 z2 z3)⟩) hdb rfl rfl) fun σ H Q hq => ?_
  obtain ⟨F, s, G, io, ds, o, m, d, t, e1, e2, e3, hp⟩ := hq
  have hPt : P ∈ tbA T.x := List.mem_map.mpr ⟨_, hmP, rfl⟩
  refine ⟨t.tb.1, fun f c' dV pm ctv H1 ext tabs nf hf hc hd => ?_⟩
  have t1 := t.growP hPt ext.2 tabs
  have hL : LamL T.x G H1 [(j, is)] [.ref f] := by
    refine ⟨.ref f, [], rfl, ⟨f, c', X.env.qual ++ "<lambda>", params, body, scope, dV, pm, ctv, capN, rfl, ?_, ?_, hc, hd, hcn, hlm⟩, rfl⟩
    · cases e : G f with
      | none => rfl
      | some u => rw [t.gh f u e] at nf; cases nf
    · rw [ho.hc]
      exact hf
  have hcs : capsD s.r [(j, is)] = some [(j, ds)] := by simp [capsD, e1]
  obtain ⟨fs, its, ef, i1, i2, i3, i4, i5⟩ := lam_items t1 ho hX lo hL hcs
  refine ⟨fs, fun f hf => (i3 f hf).2, fun B bl => ?_⟩
  obtain ⟨l, rfl⟩ : ∃ l, its = [l] := by
    match its, i1 with
    | [l], _ => exact ⟨l, rfl⟩
  obtain ⟨f0, rfl⟩ : ∃ f0, fs = [f0] := by
    match fs, i2 with
    | [f0], _ => exact ⟨f0, rfl⟩
  have ef : f = f0 := by simpa using ef
  subst ef
  have lj : l.j = j ∧ l.ds = ds := by simpa using i1
  have t0 := str_un t1 i3 bl.code
  have l0 := i4 l (List.mem_singleton.mpr rfl)
  refine ⟨f, LI.sp T.x T.P [f] l, rfl, callable_weak (i5 B [f] bl (fun _ h => h) 0 f l rfl rfl) (fun g hg => by
      obtain ⟨o, z, _⟩ := (i3 g hg).2
      exact ⟨o, bl.fn g hg o z⟩), fun hN => ⟨EnY.un_at l0.c (bl.code _ _ l0.c), ?_, l.ds, s.m, G, io, t0.gt, t0.mem, l0.r, ?_⟩⟩
  · rcases l0.d with z | ⟨a0, e0, T, i, z1, z2, z3, z4⟩
    · exact .inl z
    · exact .inr ⟨a0, e0, T, i, z1, z2, EnY.un_at z3 (fun z => by
        obtain ⟨_, o, y, _⟩ := i3 _ z
        rw [z3] at y; cases y), z4⟩
  · rw [lj.1, lj.2, e2]
    refine why_turn hw t0.gt t0.mem e3 fun u H2 G2 io2 f2 ru hn => ?_
    have fr := ff_re t1 i3 hn f2
    -- from H on
    refine hp u _ G2 io2 ⟨fr.1, fr.2.1, fun b o e n1 n2 => fr.2.2.1 b o (ext.2 b o e fun z => n2 (by rw [z]; exact hPt)) n1 n2, fun b hb => ?_, fr.2.2.2.2.1, fun n a hl e => ?_, fun b o u e => fr.2.2.2.2.2.2 b o u ?_⟩ ru
    · by_cases hbP : b = P
      · rw [hbP, fr.1.2.2 P hPt, t.tb.2 P hPt]
      · refine fr.2.2.2.1 b fun z => ?_
        cases e : H b with
        | none => exact hb e
        | some o => rw [ext.2 b o e hbP] at z; cases z
    · have z := fr.2.2.2.2.2.1 n a hl e
      cases e2 : H a with
      | none => rfl
      | some o =>
        by_cases haP : a = P
        · obtain ⟨ps, y⟩ := tab_at t1.tb hPt
          rw [haP, y] at z; cases z
        · rw [ext.2 a o e2 haP] at z; cases z
    · refine ext.2 b _ e fun z => ?_
      obtain ⟨ps, y⟩ := tab_at t.tb hPt
      rw [z, y] at e; cases e
theorem s_wh1 (o : XOk T cc X W) {F : Fr} {params : Arguments} {body : Expr} {scope : Scope} {lpos : Pos} {j : Nat} {is : List Nat} (hl : cc.lam = true) (hw : T.nt.wc1 = some wc) (hgl : glo cc "_law_why" = true) (hb : lmsB T.nt cc [.Lambda params body scope lpos] [(j, is)] = true) :
    PE X (.Call (.Name "_law_why" p) [.Lambda params body scope lpos] [] pos) (rd T F W (.wh1 j is wc)) := by
  have ho := o.hom hl
  obtain ⟨k, a, fw, fd, cs, ms, q, h1, h2, h3, h4, h5, h6⟩ := ho.wy1 wc hw
  obtain ⟨c, P, TB, hcode, hm, hu⟩ := ho.tab
  simp only [lmsB, Bool.and_eq_true, Bool.and_true] at hb
  obtain ⟨⟨hb1, hb2⟩, hb3⟩ := hb
  split at hb1
  · rename_i cn hcn
    have hfr : ∀ y ∈ scope.names, y.2 = .free → scope.names.lookup y.1 = some .free ∧ (X.env.kindOf y.1 = some .cell ∨ X.env.kindOf y.1 = some .free) := fun y hy hk => by
      have q := List.all_eq_true.mp hb3 y hy
      simp only [hk, decide_true, Bool.not_true, Bool.false_or, Bool.and_eq_true, decide_eq_true_eq] at q
      exact ⟨q.1, .inl (by show X.env.scope.names.lookup y.1 = _; rw [o.sc]; exact q.2)⟩
    obtain ⟨g1, g2, g3⟩ := o.glo hgl
    have e1 := o.prog
    have e2 := o.w
    have e3 := o.K
    have e4 := o.mg
    refine PE.wk (pe_wh1 ⟨e1, e2, e3, e4, o.base⟩ o.room ho ho.lam (Nat.succ_le_succ h1) (by rw [e1, e2, e3, e4]; exact h5) h6 g1 (by rw [e4]; exact h2) (by rw [e3]; exact h3) (by rw [e3]; exact h4) g2 TB hcode hm hu hfr hb2 (by rw [ho.hN, o.N]; exact capNs_eq hcn) (ho.made j cn params body scope hb1)) fun σ H Q hq => ?_
    obtain ⟨s, G, io, t, hp⟩ := hq
    simp only [ev] at hp
    split at hp
    · exact hp.elim
    · rename_i ds hds
      split at hp
      · exact hp.elim
      · rename_i oo m hP
        split at hp
        · exact hp.elim
        · rename_i d hd
          refine ⟨F, s, G, io, ds, oo, m, d, t, hds, hP, hd, ?_⟩
          intro v H' G' io' ff rv
          obtain ⟨t', sg⟩ := t.call ff
          exact hp v H' G' io' sg ff.2.2.2.2.1 t' rv
  · cases hb1
end
end En

namespace PySem
namespace W
open PySem.Calls Builtin
section
variable {prog : Program} {w : World} {A : Around} {E : Value → Shared → Prop} {s : Shared} {K : Frag} {x C L f : Addr} {h₀ : Heap} {m : Str → Option Value} {ox : Obj} {od : Option Obj} {tb b : Value}
theorem En_ne {Q : Value → Shared → Prop} (hu : A.units + 8 < cLine) (X : K.In s.heap) (I : InstAt s.heap x ox C od) (hb : Looks (model prog w) s.heap (typeOf b) tb) (hn : notFirst K C tb = true) (hm : mroIn K C (.type "object") = some true)
    (hs : findIn K (.ref C) "__ne__" = some (some (.builtin "object.__ne__"))) (he : findIn K (.ref C) "__eq__" = some (some (.ref f))) (hf : isFn K (.ref f) = true)
    (h : wpAny (model prog w) A.in1 (call (.ref f) [.ref x, b]) (fun v s' => ∃ c, v = .bool c ∧ Q (.bool (!c)) s') E s) : wpAny (model prog w) A (richCompare .NotEq (.ref x) b) Q E s := by
  have hu1 : A.units < cLine := by omega
  have hu2 : A.in1.units < cLine := by show A.units + 1 < cLine; omega
  have two : wpAny (model prog w) A (call (.builtin "object.__ne__") [.ref x, b]) (fun v s' => ∃ c, v = .bool (!c) ∧ Q (.bool (!c)) s') E s := by
    refine wpAny_call (codeAny_call_builtin PySem.F.cmp_object.ne.plain PySem.F.cmpEntry_ne (check_slot PySem.F.cmpKind_ne PySem.F.cmpSplit_ne (I.type.andThen (looks_mroIn X hm)) (PySem.F.cmpArgs_ne _ _) ?_))
    unfold Builtin.«object.__ne__»
    repeat (first
      | with_reducible refine wpAny_cRoomFor hu2 ?_
      | (refine wpAny_bind (m := callSpecialIfBound? (.ref x) (Str.ofString "__eq__") [b]) (ifBound_K X I he hf (wpAny_mono h (fun r s' hr => by
          obtain ⟨c, rfl, hq⟩ := hr
          repeat (first | exact ⟨c, rfl, hq⟩ | exact wpAny_pure ⟨c, rfl, hq⟩ | (refine wpAny_bind (m := truthy (.bool _)) (wpAny_truthy_bool ?_)) | wp_step)) fun _ _ e => e)))
      | wp_step)
  have one : wpAny (model prog w) A (tryCompare (.ref x) (cmpInfo .NotEq).2.1 b) (fun r s' => ∃ v, r = some v ∧ Q v s') E s := by
    unfold tryCompare
    have fin : wpAny (model prog w) A (call (.builtin "object.__ne__") ([.ref x] ++ [b]) >>= fun v => pure (some v)) (fun r s' => ∃ c, r = some (.bool (!c)) ∧ Q (.bool (!c)) s') E s :=
      wpAny_bind (wpAny_mono two (fun v s' hv => by obtain ⟨c, rfl, q⟩ := hv; exact wpAny_pure ⟨c, rfl, q⟩) fun _ _ z => z)
    have mid : wpAny (model prog w) A (callSpecialIfBound? (.ref x) "__ne__" [b]) (fun r s' => ∃ c, r = some (.bool (!c)) ∧ Q (.bool (!c)) s') E s := by
      simp only [callSpecialIfBound?, bindSpecialIfBound?]
      refine wpAny_holding (wpAny_bind (wpAny_bind (wpAny_bind (I.type.here ((looks_findIn X hs).here ?_)))))
      simp only [PySem.F.cmp_object.ne.bind]
      refine wpAny_bind (wpAny_askSetting (wpAny_ite ?_))
      split
      · exact wpAny_bind (wpAny_pure (wpAny_pure fin))
      · exact wpAny_tryCatch (wpAny_bind (wpAny_pure (wpAny_pure fin)))
    refine wpAny_bind (wpAny_mono mid (fun r s' hr => ?_) fun _ _ z => z)
    obtain ⟨c, rfl, q⟩ := hr
    exact wpAny_pure ⟨_, rfl, q⟩
  unfold richCompare
  simp only [oneThing_ref]
  refine wpAny_holding (wpAny_bind (wpAny_cRoomFor hu1 ?_))
  refine wpAny_bind (I.type.here (wpAny_bind (hb.here ?_)))
  have tail : wpAny (model prog w) A (tryCompare (.ref x) (cmpInfo .NotEq).2.1 b) (fun r s' => ∃ v, r = some v ∧ Q v s') E s := one
  split
  · rename_i q
    have e : subIn K tb (.ref C) = some false := by
      rcases Bool.or_eq_true_iff.mp hn with e | e
      · rw [beq_iff_eq.mp e] at q; simp at q
      · exact beq_iff_eq.mp e
    refine wpAny_bind ((looks_subIn X e).here ?_)
    simp only [Bool.false_eq_true, if_false]
    refine wpAny_bind (wpAny_mono tail (fun r s' z => ?_) fun _ _ z => z)
    obtain ⟨v, rfl, hq⟩ := z
    exact wpAny_pure hq
  · refine wpAny_bind (wpAny_pure ?_)
    simp only [Bool.false_eq_true, if_false]
    refine wpAny_bind (wpAny_mono tail (fun r s' z => ?_) fun _ _ z => z)
    obtain ⟨v, rfl, hq⟩ := z
    exact wpAny_pure hq
end
end W
end PySem

namespace PySem
namespace W
section
variable {prog : Program} {w : World} {A : Around} {E : Value → Shared → Prop} {s : Shared} {x : Value}
theorem En_bool {Q : Value → Shared → Prop} (hx : ∀ t, x = .ref t → True) (h : wpAny (model prog w) A.in1.in1 (truthy x) (fun b s' => Q (.bool b) s') E s) : wpAny (model prog w) A (call (.type "bool") [x]) Q E s := by
  refine callType_newIn (S := fun A R s => wpAny (model prog w) A.in1 (truthy x) (fun b s' => R (.ok (.ret (.bool b))) s') (fun e s' => R (.error e) s') s) PySem.F.called_bool PySem.F.newNe_bool (PySem.F.typeCall_bool_1 x) (PySem.F.newCall_bool_1 x) (fun obj => PySem.F.args_object_init_2 obj x) PySem.F.entry_bool_new (fun A R s hq => ?_) (wpAny_mono h (fun b s' q => ⟨rfl, q⟩) fun _ _ z => z)
  have f1 := PySem.F.conv_sub_bool
  unfold Builtin.«bool.__new__»
  repeat (first
    | (refine wpAny_bind (m := truthy x) (wpAny_mono hq (fun b s' q => ?_) fun _ _ z => z))
    | wp_step)
  all_goals first | exact q | exact wpAny_pure q | exact ⟨_, rfl, q⟩
end
end W
end PySem
namespace En
open PySem PySem.Spec L2
theorem nf_kit {K : PySem.W.Frag} {t : Value} {C : Addr} (h : PySem.W.kitOne K t (.ref C) = some false) : PySem.W.notFirst K C t = true := by
  unfold PySem.W.kitOne at h
  split at h
  · cases h
  · unfold PySem.W.kitCls at h
    dsimp only at h
    split at h
    · unfold PySem.W.notFirst
      rw [h]
      simp
    · cases h
section
variable {T : Tb} {cc : CC} {X : Cx} {W : WX} {F : Fr} {e l r c : Expr} {es : List Expr} {a b : E} {pos : Pos}
theorem run_cal {A : Around} {i n : Nat} {g : Addr} {pins : List (Addr × Obj)} {σ : L2.St} {H : Hp} {s : Shared} {Q : VK} {us : List Value} {vs : List V} (o : XOk T cc X W) (c : Cal T i n [] g) (hA : ∀ k, k + 3 ≤ T.lv → Room k A)
    (e0 : Env0 X.prog X.w X.K X.mg X.base A X.stack s H) (I : Inv X pins σ H s) (r : Vals vs us) (l : vs.length = n)
    (h : ∃ ds m G io, Gh T.x G H ∧ MemA T.x G io H m ∧ RpL T.x G io ds vs ∧ PostF T.x H G io (T.P i ds m) Q (fun _ _ _ => False)) : wpAny (model X.prog X.w) A (call (.ref g) us) (EP X pins σ Q) X.xe s := by
  obtain ⟨k, hk, hF⟩ := c
  obtain ⟨ds, m, G, io, gh, hm, rr, hp⟩ := h
  rw [← o.prog, ← o.w, ← o.K, ← o.mg, ← o.base] at hF
  refine wpAny_call (codeAny_mono (hF A X.stack s H us [] vs [] Q (fun _ _ _ => False) (hA k hk) e0 r .nil l rfl ⟨ds, [], m, G, io, gh, hm, rr, .nil, by rw [List.append_nil]; exact hp⟩) fun r s' hq => ?_)
  cases r with
  | error e =>
    obtain ⟨_, _, _, _, _, _, _, _, _, _, _, _, z⟩ := hq
    exact z.elim
  | ok fl =>
    cases fl with
    | ret u => exact I.after hq
    | next => exact False.elim hq
    | brk => exact False.elim hq
    | cont => exact False.elim hq
theorem postB {x : SX} {P : Nat → List D → List MO → Option (Out × List MO)} {neg : Bool} {f : Nat} {ds : List D} {s : S} {σ : L2.St} {G H : Hp} {io : List Addr} {Q : VK} (t : StR x F s G io σ H) (hp : Post x F W G io (callB P neg f ds s) σ Q) :
    PostF x H G io (P f ds s.m) (fun v H' => ∃ b, v = .bl b ∧ Q (.bl (neg != b)) H') (fun _ _ _ => False) := by
  unfold callB at hp
  cases hP : P f ds s.m with
  | none => rw [hP] at hp; exact hp.elim
  | some q =>
    obtain ⟨o, m⟩ := q
    rw [hP] at hp
    cases o with
    | val d =>
      cases d with
      | bl b =>
        intro v H' G' io' ff rv
        obtain ⟨t', sg⟩ := t.call ff
        exact ⟨b, rv, hp _ H' G' io' sg ff.2.2.2.2.1 t' rfl⟩
      | _ => exact hp.elim
    | _ => exact hp.elim
theorem postV {x : SX} {P : Nat → List D → List MO → Option (Out × List MO)} {b : Bi} {f : Nat} {d : D} {s : S} {σ : L2.St} {G H : Hp} {io : List Addr} {Q : VK} (t : StR x F s G io σ H) (hp : Post x F W G io (callV P b f d s) σ Q) :
    PostF x H G io (P f [d] s.m) (fun v H' => ∃ d', bioOk b d' = true ∧ (∀ G io, Rp x G io d' v) ∧ Q v H') (fun _ _ _ => False) := by
  unfold callV at hp
  cases hP : P f [d] s.m with
  | none => rw [hP] at hp; exact hp.elim
  | some q =>
    obtain ⟨o, m⟩ := q
    rw [hP] at hp
    cases o with
    | val d' =>
      dsimp only at hp
      split at hp
      · rename_i hb
        intro v H' G' io' ff rv
        obtain ⟨t', sg⟩ := t.call ff
        refine ⟨d', hb, ?_, hp _ H' G' io' sg ff.2.2.2.2.1 t' rv⟩
        cases b <;> cases d' <;> first | (cases hb; done) | exact fun _ _ => rv
      · exact hp.elim
    | _ => exact hp.elim
def rCo (T : Tb) (F : Fr) (W : WX) (o : Cop) (tbl : List (Nat × Nat)) : R2 := fun v w H Q => ∃ σ s G io d e, StR T.x F s G io σ H ∧ Rp T.x G io d v ∧ Rp T.x G io e w ∧ Post T.x F W G io (cmoF T.P o tbl d e s) σ Q
theorem cmo_ok (ok : XOk T cc X W) (t : TOk T) {tbl : List (Nat × Nat)} (htb : tblOk T.nt "__eq__" 1 [] tbl = true) (o : Cop) : OpR X (compareOp (copOf o)) (rCo T F W o tbl) := by
  intro pins s' σ' H v w u z Q I r1 r2 h
  obtain ⟨σ, s, G, io, d, e, st, q1, q2, hp⟩ := h
  unfold cmoF at hp
  cases hc : clsN s d with
  | none =>
    rw [hc] at hp
    dsimp only at hp
    split at hp
    · exact hp.elim
    · cases hq : cmpF o d e s with
      | none => rw [hq] at hp; exact hp.elim
      | some q =>
        rw [hq] at hp
        exact cmp_ok (F := F) ok.K ok.hu o pins s' σ' H v w u z Q I r1 r2 ⟨σ, s, G, io, d, e, q, st, q1, q2, hq, hp.v st rfl⟩
  | some c =>
    rw [hc] at hp
    dsimp only at hp
    cases hi : tbl.lookup c with
    | none => rw [hi] at hp; exact hp.elim
    | some i =>
      rw [hi] at hp
      dsimp only at hp
      split at hp
      · rename_i hnf
        obtain ⟨ns, ds, hcf⟩ := clsN_some hc
        obtain ⟨lv, p, dx, fv, rfl, e1, e2, e3⟩ := cls_rp st q1 hcf
        obtain ⟨g, hM, cal⟩ := tblOk_at t htb lv hi
        have k := t.ko.cl c lv
        obtain rfl : u = Value.ref p := r1
        obtain ⟨mA, O, _⟩ := ins_get I.hok e1
        obtain ⟨od, J, _⟩ := O.look
        obtain ⟨m, hF⟩ := I.fr
        have hcl : ∃ cl, clD T.x (s.v e) = some cl := by
          cases hv : s.v e <;> rw [hv] at hnf <;> first | exact ⟨_, rfl⟩ | cases hnf
        obtain ⟨cl, hcl⟩ := hcl
        obtain ⟨ty, lve⟩ := tyx_of t.ko st q2 hcl
        have hn : PySem.W.notFirst X.K (T.x.ca c) cl = true := by
          rw [ok.K]
          cases hv : s.v e with
          | obj k2 ns2 ds2 =>
            rw [hv] at hnf hcl lve
            cases hcl
            have hnf : (k2 == c || !subC k2 c) = true := hnf
            rw [Bool.or_eq_true] at hnf
            rcases hnf with hnf | hnf
            · rw [beq_iff_eq.mp hnf]
              unfold PySem.W.notFirst
              simp
            · have hs : subC k2 c = false := by simpa using hnf
              exact nf_kit (hs ▸ t.ko.cc k2 c lve lv)
          | _ =>
            rw [hv] at hcl hnf
            first
              | (cases hnf; done)
              | (cases hcl; exact nf_kit ((k.kb _ (by decide)).1))
        rw [← ok.K] at ty
        obtain ⟨PP, Z, pz, _⟩ := kit_of I r2 ty
        have hb := Z.ty (model X.prog X.w) _ I.kIn pz
        have hfn : PySem.W.isFn X.K (.ref g) = true := by rw [ok.K]; exact hM.fn
        have hat : PySem.W.findIn X.K (.ref (T.x.ca c)) "__eq__" = some (some (.ref g)) := by rw [ok.K]; exact hM.at_
        have hr := ok.room
        cases o with
        | eq =>
          show wpAny _ _ (richCompare .Eq (.ref p) z) _ _ _
          refine PySem.W.cmp_K (op := .Eq) hr.units0 hF I.ok.mod.kin J hb hn hat hfn ?_
          refine wpAny_mono (run_cal (us := [.ref p, z]) (vs := [.ref p, w]) ok cal (fun k hk => hr.mono (by omega)) I.env0 I (.cons rfl (.cons r2 .nil)) rfl ⟨[d, e], s.m, G, io, st.gt, st.mem, .cons q1 (.cons q2 .nil), postB st hp⟩) (fun y s2 hy => ?_) fun _ _ x => x
          obtain ⟨v', H', I', rv, b, rfl, q⟩ := hy
          refine SlX.cmpback rv ⟨_, H', I', rv, ?_⟩
          simpa using q
        | ne =>
          show wpAny _ _ (richCompare .NotEq (.ref p) z) _ _ _
          refine PySem.W.En_ne (by have := hr.units; omega) I.kIn J hb hn (by rw [ok.K]; exact k.hm) (by rw [ok.K]; exact k.ne) hat hfn ?_
          refine wpAny_mono (run_cal (A := X.A.in1) (us := [.ref p, z]) (vs := [.ref p, w]) ok cal (fun k hk => (hr.mono (show k + 1 ≤ T.lv by omega)).in1) I.env0.in1 I (.cons rfl (.cons r2 .nil)) rfl ⟨[d, e], s.m, G, io, st.gt, st.mem, .cons q1 (.cons q2 .nil), postB st hp⟩) (fun y s2 hy => ?_) fun _ _ x => x
          obtain ⟨v', H', I', rv, b, rfl, q⟩ := hy
          cases (show y = Value.bool b from rv)
          exact ⟨b, rfl, .bl (!b), H', I', rfl, by simpa using q⟩
        | _ => exact hp.elim
      · exact hp.elim
end
end En

namespace En
open PySem PySem.Spec L2
def bioN : Bi → Str
  | .len => "__len__"
  | .bool => "__bool__"
  | .repr => "__repr__"
  | _ => ""
theorem bndA_bnd {o : Res} {k : D → S → Res} {K : List D → S → Res} : bndA (bnd o k) K = bnd o (fun d s => bndA (k d s) K) := by
  unfold bnd
  split
  · rfl
  · rfl
  · rfl
  · unfold bndA
    rfl
theorem bndA_bndA {o : Res} {k : List D → S → Res} {K : List D → S → Res} : bndA (bndA o k) K = bndA o (fun d s => bndA (k d s) K) := by
  conv => rhs; unfold bndA
  conv => lhs; arg 1; unfold bndA
  split
  · rfl
  · rfl
  · unfold bndA
    rfl
section
variable {T : Tb} {cc : CC} {X : Cx} {W : WX} {F : Fr} {e l r c : Expr} {es : List Expr} {a b : E} {pos : Pos}
def rBio (T : Tb) (F : Fr) (W : WX) (b : Bi) (tbl : List (Nat × Nat)) : List V → Hp → VK → Prop := fun vs H Q => ∃ v σ s G io d, vs = [v] ∧ StR T.x F s G io σ H ∧ Rp T.x G io d v ∧ Post T.x F W G io (bioF T.P b tbl d s) σ Q
theorem bio_ok (ok : XOk T cc X W) (t : TOk T) {b : Bi} {tbl : List (Nat × Nat)} (htb : tblOk T.nt (bioN b) 0 [] tbl = true) : CallR X (biV b) (rBio T F W b tbl) := by
  intro pins s' σ' H vs us Q I r h
  obtain ⟨v, σ, s, G, io, d, rfl, st, q1, hp⟩ := h
  unfold bioF at hp
  cases hc : clsN s d with
  | none =>
    rw [hc] at hp
    exact bi_ok (F := F) (W := W) ok.K ok.calm b pins s' σ' H _ us Q I r ⟨σ, s, G, io, [d], st, .cons q1 .nil, hp⟩
  | some c =>
    rw [hc] at hp
    dsimp only at hp
    cases hi : tbl.lookup c with
    | none => rw [hi] at hp; exact hp.elim
    | some i =>
      rw [hi] at hp
      dsimp only at hp
      split at hp
      · rename_i hbb
        obtain ⟨ns, ds, hcf⟩ := clsN_some hc
        obtain ⟨lv, p, dx, fv, rfl, e1, e2, e3⟩ := cls_rp st q1 hcf
        obtain ⟨g, hM, cal⟩ := tblOk_at t htb lv hi
        obtain ⟨u, rfl, ru⟩ := vals1 r
        obtain rfl : u = Value.ref p := ru
        obtain ⟨mA, O, _⟩ := ins_get I.hok e1
        obtain ⟨od, J, _⟩ := O.look
        obtain ⟨m, hF⟩ := I.fr
        have hfn : PySem.W.isFn X.K (.ref g) = true := by rw [ok.K]; exact hM.fn
        have hat : PySem.W.findIn X.K (.ref (T.x.ca c)) (bioN b) = some (some (.ref g)) := by rw [ok.K]; exact hM.at_
        have hr := ok.room
        have hP : ∃ ds m G io, Gh T.x G H ∧ MemA T.x G io H m ∧ RpL T.x G io ds [V.ref p] ∧ PostF T.x H G io (T.P i ds m) (fun v H' => ∃ d', bioOk b d' = true ∧ (∀ G io, Rp T.x G io d' v) ∧ Q v H') (fun _ _ _ => False) :=
          ⟨[d], s.m, G, io, st.gt, st.mem, .cons q1 .nil, postV st hp⟩
        cases b with
        | len =>
          refine PySem.W.len_K hF I.ok.mod.kin J hat hfn ?_
          refine wpAny_mono (run_cal (A := X.A.in1) (us := [.ref p]) (vs := [.ref p]) ok cal (fun k hk => (hr.mono (show k + 1 ≤ T.lv by omega)).in1) I.env0.in1 I (.cons rfl .nil) rfl hP) (fun y s2 hy => ?_) fun _ _ x => x
          obtain ⟨v', H', I', rv, d', hb, hr', q⟩ := hy
          cases d' with
          | int j =>
            cases (show v' = .int j from hr' G io)
            obtain ⟨tk, rfl⟩ := rv
            have hb : (decide (0 ≤ j) && decide (j < 9223372036854775808)) = true := hb
            rw [Bool.and_eq_true, decide_eq_true_eq, decide_eq_true_eq] at hb
            exact ⟨⟨hb.1, by have := hb.2; omega⟩, .int j, H', I'.tok _, ⟨_, rfl⟩, q⟩
          | _ => cases hb
        | repr =>
          refine PySem.W.repr_K (by show X.A.units + 1 < cLine; have := hr.units; omega) hF I.ok.mod.kin J hat hfn ?_
          refine wpAny_mono (run_cal (A := X.A.in1) (us := [.ref p]) (vs := [.ref p]) ok cal (fun k hk => (hr.mono (show k + 1 ≤ T.lv by omega)).in1) I.env0.in1 I (.cons rfl .nil) rfl hP) (fun y s2 hy => ?_) fun _ _ x => x
          obtain ⟨v', H', I', rv, d', hb, hr', q⟩ := hy
          cases d' with
          | str j =>
            cases (show v' = .str j from hr' G io)
            obtain ⟨tk, rfl⟩ := rv
            exact ⟨.str j, H', I', ⟨_, rfl⟩, q⟩
          | _ => cases hb
        | bool =>
          refine PySem.W.En_bool (fun _ _ => trivial) ?_
          refine PySem.W.truthy_K hF I.ok.mod.kin J hat hfn ?_
          refine wpAny_mono (run_cal (A := X.A.in1.in1) (us := [.ref p]) (vs := [.ref p]) ok cal (fun k hk => (hr.mono (show k + 1 + 1 ≤ T.lv by omega)).in1.in1) I.env0.in1.in1 I (.cons rfl .nil) rfl hP) (fun y s2 hy => ?_) fun _ _ x => x
          obtain ⟨v', H', I', rv, d', hb, hr', q⟩ := hy
          cases d' with
          | bl j =>
            cases (show v' = .bl j from hr' G io)
            cases (show y = Value.bool j from rv)
            exact ⟨.bl j, H', I', rfl, q⟩
          | _ => cases hb
        | _ => cases hbb
      · exact hp.elim
theorem s_cmo (o : XOk T cc X W) (t : TOk T) {op : Cop} {tbl : List (Nat × Nat)} (htb : tblOk T.nt "__eq__" 1 [] tbl = true) (hm : isSet r = false) (ha : PE X l (rd T F W a)) (hb : PE X r (rd T F W b)) :
    PE X (.Compare l [copOf op] [r] pos) (rd T F W (.cmo op tbl a b)) ∧ PT X (.Compare l [copOf op] [r] pos) (rdT T F W (.cmo op tbl a b)) := by
  have key : ∀ σ H Q, rd T F W (.cmo op tbl a b) σ H Q → tOp (rCo T F W op tbl) (rd T F W a) (rd T F W b) σ H Q := fun σ H Q ⟨s, G, io, st, hp⟩ => ⟨s, G, io, st, by
    refine Post.bnd hp fun d s v H1 G1 io1 sg si t1 r1 hp1 => ⟨s, G1, io1, t1, ?_⟩
    refine Post.bnd hp1 fun d2 s2 v2 H2 G2 io2 sg2 si2 t2 r2 hp2 => ?_
    exact ⟨σ, s2, G2, io2, d, d2, t2, r1.mono sg2 si2, r2, hp2⟩⟩
  exact ⟨PE.wk (pe_cmpR (cmo_ok o t htb op) ha hb (marks_no hm)) key, PT.wk (pt_cmpR (cmo_ok o t htb op) ha hb (marks_no hm)) fun σ H Q hq => key σ H _ hq⟩
theorem s_bio (o : XOk T cc X W) (t : TOk T) {k : Bi} {p : Pos} {tbl : List (Nat × Nat)} (htb : tblOk T.nt (bioN k) 0 [] tbl = true) (hg : glo cc (biN k) = true) (hs : isStar e = false) (ha : PE X e (rd T F W a)) :
    PE X (.Call (.Name (biN k) p) [e] [] pos) (rd T F W (.bio k tbl a)) := by
  obtain ⟨h1, h2, h3⟩ := o.glo hg
  have hm : X.mg (biN k) = none := o.blt t (by cases k <;> decide +kernel)
  have key : ∀ σ H Q, rd T F W (.bio k tbl a) σ H Q → tCB (rBio T F W k tbl) (tCons (rd T F W a) tNil) σ H Q := fun σ H Q ⟨s, G, io, st, hp⟩ => ⟨s, G, io, st, by
    refine Post.bnd hp fun d s v H1 G1 io1 sg si t1 r1 hp1 => ?_
    exact ⟨v, σ, s, G1, io1, d, rfl, t1, r1, hp1⟩⟩
  have B := bio_ok (F := F) o t htb
  have hst := star_no (es := []) (env := X.env) hs
  have ha' := pa_cons ha pa_nil hst
  cases k with
  | len => exact PE.wk (pe_callB B h1 hm PySem.boot_len ha' h3 h2 hst rfl) key
  | all => exact PE.wk (pe_callB B h1 hm (by decide +kernel) ha' h3 h2 hst rfl) key
  | any => exact PE.wk (pe_callB B h1 hm (by decide +kernel) ha' h3 h2 hst rfl) key
  | int => exact PE.wk (pe_callTy B h1 hm (by decide +kernel) ha' h3 h2 hst rfl) key
  | list => exact PE.wk (pe_callTy B h1 hm (by decide +kernel) ha' h3 h2 hst rfl) key
  | dict => exact PE.wk (pe_callTy B h1 hm (by decide +kernel) ha' h3 h2 hst rfl) key
  | tuple => exact PE.wk (pe_callTy B h1 hm (by decide +kernel) ha' h3 h2 hst rfl) key
  | str => exact PE.wk (pe_callTy B h1 hm (by decide +kernel) ha' h3 h2 hst rfl) key
  | bool => exact PE.wk (pe_callTy B h1 hm (by decide +kernel) ha' h3 h2 hst rfl) key
  | repr => exact PE.wk (pe_callB B h1 hm (by decide +kernel) ha' h3 h2 hst rfl) key
  | sorted => exact PE.wk (pe_callB B h1 hm (by decide +kernel) ha' h3 h2 hst rfl) key
theorem s_fmt (ha : PE X e (rd T F W a)) : PE X (.FormattedValue e (-1) none pos) (rd T F W (.fmt a)) := by
  refine PE.wk (pe_fmt ha) fun σ H Q ⟨s, G, io, t, hp⟩ => ⟨s, G, io, t, ?_⟩
  refine Post.bnd hp fun d s v H1 G1 io1 sg si t1 r1 hp1 => ?_
  have lim : (100000 : Nat) ≤ sizeLine := by rw [sizeLine_eq]; decide
  cases d with
  | str z =>
    cases (show v = .str z from r1)
    dsimp only [txD] at hp1
    split at hp1
    · rename_i hz
      exact .inl ⟨z, rfl, Nat.le_trans hz lim, hp1.v t1 rfl⟩
    · exact hp1.elim
  | int i =>
    cases (show v = .int i from r1)
    dsimp only [txD] at hp1
    split at hp1
    · rename_i y hy
      split at hy
      · rename_i hl
        cases hy
        split at hp1
        · exact .inr ⟨i, rfl, hl, hp1.v t1 rfl⟩
        · exact hp1.elim
      · cases hy
    · exact hp1.elim
  | _ => exact (show False from hp1).elim
theorem s_fmtc {z : Str} (ha : PE X e (rd T F W (.cst (.str z)))) : PE X e (rd T F W (.fmt (.cst (.str z)))) := by
  refine PE.wk ha fun σ H Q ⟨s, G, io, t, hp⟩ => ⟨s, G, io, t, ?_⟩
  have hp : Post T.x F W G io (if z.length ≤ 100000 then some (.val (.str z), s) else none) σ Q := hp
  split at hp
  · exact hp
  · exact hp.elim
theorem str_assoc (a b c : Str) : (a ++ b) ++ c = a ++ (b ++ c) := by
  have e : ((a ++ b) ++ c).cps = (a ++ (b ++ c)).cps := Array.append_assoc
  cases h1 : (a ++ b) ++ c
  cases h2 : a ++ (b ++ c)
  rw [h1, h2] at e
  cases e
  rfl
theorem str_empty (a : Str) : a ++ Str.empty = a := by
  have e : (a ++ Str.empty).cps = a.cps := Array.append_empty
  cases h1 : a ++ Str.empty
  cases h2 : a
  rw [h1, h2] at e
  cases e
  rfl
theorem str_len (a b : Str) : (a ++ b).length = a.length + b.length := Array.size_append
def tsOf (T : Tb) (F : Fr) (W : WX) : E → List TE
  | .cns a b => rd T F W a :: tsOf T F W b
  | _ => []
def jnN : E → Nat
  | .cns _ b => jnN b + 1
  | _ => 0
def isFmt : E → Bool
  | .fmt _ => true
  | _ => false
def isJn : E → Bool
  | .nil => true
  | .cns a b => isFmt a && isJn b
  | _ => false
theorem jn_cases {c : E} (h : isJn c = true) : c = .nil ∨ ∃ a b, c = .cns (.fmt a) b ∧ isJn b = true := by
  cases c with
  | nil => exact .inl rfl
  | cns a b =>
    have h : (isFmt a && isJn b) = true := h
    rw [Bool.and_eq_true] at h
    cases a with
    | fmt a => exact .inr ⟨a, b, rfl, h.2⟩
    | _ => cases h.1
  | _ => cases h
theorem js_key : ∀ (n : Nat) (c : E) (acc : Str) (s : S) (G : Hp) (io : List Addr) (σ : L2.St) (H : Hp) (Q : VK), jnN c = n → isJn c = true → acc.length + n * 100000 ≤ big → StR T.x F s G io σ H →
    Post T.x F W G io (bndA (ev T.P T.Gm c s) fun ds s => match fstF ds with | some z => some (.val (.str (acc ++ z)), s) | none => none) σ Q → tJs (tsOf T F W c) acc σ H (fun out H1 => Q (.str out) H1) := by
  intro n
  induction n with
  | zero =>
    intro c acc s G io σ H Q hn hj _ t hp
    rcases jn_cases hj with rfl | ⟨a, b, rfl, hj⟩
    · have hp : Post T.x F W G io (some (.val (.str (acc ++ Str.empty)), s)) σ Q := hp
      rw [str_empty] at hp
      exact hp.v t rfl
    · cases hn
  | succ n ih =>
    intro c acc s G io σ H Q hn hj hl t hp
    rcases jn_cases hj with rfl | ⟨a', b, rfl, hj⟩
    · cases hn
    have hn : jnN b = n := Nat.succ.inj hn
    have hp : Post T.x F W G io (bndA (bnd (ev T.P T.Gm (.fmt a') s) fun d s => bndA (ev T.P T.Gm b s) fun ds s => some (.vals (d :: ds), s)) fun ds s => match fstF ds with | some z => some (.val (.str (acc ++ z)), s) | none => none) σ Q := hp
    rw [bndA_bnd] at hp
    refine ⟨s, G, io, t, ?_⟩
    -- what the part comes to is a text
    have hp : Post T.x F W G io (bnd (bnd (ev T.P T.Gm a' s) fun x s => match txD x with
      | some y => if y.length ≤ 100000 then some (.val (.str y), s) else none
      | none => none) fun d s => bndA (bndA (ev T.P T.Gm b s) fun ds s => some (.vals (d :: ds), s)) fun ds s => match fstF ds with | some z => some (.val (.str (acc ++ z)), s) | none => none) σ Q := hp
    have fm : ∀ d s2, (bnd (ev T.P T.Gm a' s) fun x s => match txD x with
      | some y => if y.length ≤ 100000 then some (.val (.str y), s) else none
      | none => none) = some (.val d, s2) → ∃ y, d = .str y ∧ y.length ≤ 100000 := by
      intro d s2 he
      unfold bnd at he
      have one : ∀ x s3, (match txD x with
        | some y => if y.length ≤ 100000 then some (Out.val (.str y), s3) else none
        | none => none) = some (.val d, s2) → ∃ y, d = .str y ∧ y.length ≤ 100000 := by
        intro x s3 he
        split at he
        · split at he
          · rename_i hz
            cases he
            exact ⟨_, rfl, hz⟩
          · cases he
        · cases he
      split at he
      · exact one _ _ he
      · exact one _ _ he
      · cases he
      · cases he
    show Post T.x F W G io (bnd (ev T.P T.Gm a' s) fun x s => match txD x with
      | some y => if y.length ≤ 100000 then some (.val (.str y), s) else none
      | none => none) σ _
    generalize hR : (bnd (ev T.P T.Gm a' s) fun x s => match txD x with
      | some y => if y.length ≤ 100000 then some (.val (.str y), s) else none
      | none => none) = R at hp fm
    unfold Post
    split
    · rename_i d s2
      obtain ⟨y, rfl, hy⟩ := fm d s2 rfl
      intro v H' G' io' sg si t' rv
      cases (show v = .str y from rv)
      have hp := hp.anti sg si
      have hp : Post T.x F W G' io' (bndA (bndA (ev T.P T.Gm b s2) fun ds s => some (.vals (.str y :: ds), s)) fun ds s => match fstF ds with | some z => some (.val (.str (acc ++ z)), s) | none => none) σ Q := hp
      rw [bndA_bndA] at hp
      refine ⟨y, rfl, ?_, ih b (acc ++ y) s2 G' io' σ H' Q hn hj ?_ t' ?_⟩
      · rw [str_len, sizeLine_eq]
        show _ ≤ big
        omega
      · rw [str_len]
        omega
      · have e : (fun (ds : List D) (s : S) => (match fstF ds with | some z => some (Out.val (.str (acc ++ y ++ z)), s) | none => none)) = (fun (ds : List D) (s : S) => bndA (some (.vals (.str y :: ds), s)) fun ds s => match fstF ds with | some z => some (.val (.str (acc ++ z)), s) | none => none) := by
          funext ds s
          show _ = (match fstF (.str y :: ds) with | some z => some (Out.val (.str (acc ++ z)), s) | none => none)
          have e2 : fstF (.str y :: ds) = match fstF ds with | some z => some (y ++ z) | none => none := rfl
          rw [e2]
          cases fstF ds with
          | none => rfl
          | some z => show some (Out.val (.str (acc ++ y ++ z)), s) = some (Out.val (.str (acc ++ (y ++ z))), s); rw [str_assoc]
        rw [e]
        exact hp
    · rename_i o s2
      exfalso
      revert hR
      unfold bnd
      have no : ∀ x s3, (match txD x with
        | some y => if y.length ≤ 100000 then some (Out.val (.str y), s3) else none
        | none => none) = some (.fr o, s2) → False := by
        intro x s3 he
        split at he
        · split at he
          · cases he
          · cases he
        · cases he
      split
      · exact no _ _
      · exact no _ _
      · intro z; cases z
      · intro z; cases z
    · exact hp
    · rename_i h1 h2 h3
      unfold bnd at hp
      split at hp
      · exact h1 _ _ rfl
      · exact h2 _ _ rfl
      · exact h3 _ _ _ _ rfl
      · exact hp
theorem s_fst {v1 v2 : Expr} {rest : List Expr} (hj : isJn a = true) (hn : jnN a ≤ 100) (h : PJ X (v1 :: v2 :: rest) (tsOf T F W a)) : PE X (.JoinedStr (v1 :: v2 :: rest) pos) (rd T F W (.fst a)) := by
  refine PE.wk (pe_joined h) fun σ H Q ⟨s, G, io, t, hp⟩ => ?_
  refine js_key (jnN a) a Str.empty s G io σ H Q rfl hj (by show 0 + _ ≤ 16777216; omega) t ?_
  have e : (fun (ds : List D) (s : S) => (match fstF ds with | some z => some (Out.val (.str (Str.empty ++ z)), s) | none => none)) = (fun (ds : List D) (s : S) => match fstF ds with | some z => some (Out.val (.str z), s) | none => none) := by
    funext ds s
    cases fstF ds with
    | none => rfl
    | some z =>
      have e2 : Str.empty ++ z = z := by
        have e : (Str.empty ++ z).cps = z.cps := Array.empty_append
        cases h1 : Str.empty ++ z
        cases h2 : z
        rw [h1, h2] at e
        cases e
        rfl
      show some (Out.val (.str (Str.empty ++ z)), s) = _
      rw [e2]
  rw [e]
  exact hp
theorem s_isb {k : Bool} {j : Nat} {p : Pos} (ha : PE X l (rd T F W a)) : PE X (.Compare l [.Is] [.Constant (.bool k) j p] pos) (rd T F W (.isb k a)) ∧ PT X (.Compare l [.Is] [.Constant (.bool k) j p] pos) (rdT T F W (.isb k a)) := by
  have key : ∀ σ H Q, rd T F W (.isb k a) σ H Q → tOp rIsB (rd T F W a) (fun _ H Q => Q (.bl k) H) σ H Q := fun σ H Q ⟨s, G, io, st, hp⟩ => ⟨s, G, io, st, by
    refine Post.bnd hp fun d s v H1 G1 io1 sg si t1 r1 hp1 => ?_
    cases d with
    | bl b =>
      refine ⟨b, k, r1, rfl, ?_⟩
      have e : decide (b = k) = (b == k) := by cases b <;> cases k <;> rfl
      rw [e]
      exact hp1.v t1 rfl
    | _ => exact (show False from hp1).elim⟩
  exact ⟨PE.wk (pe_cmpR op_isBl ha pe_bl (nomark _)) key, PT.wk (pt_cmpR op_isBl ha pe_bl (nomark _)) fun σ H Q hq => key σ H _ hq⟩
theorem wal_no {σ : L2.St} {H : Hp} {Q : VK} (h : rd T F W .wal σ H Q) : False := by
  obtain ⟨s, G, io, t, hp⟩ := h
  exact hp
theorem s_wal : PE X e (rd T F W .wal) ∧ PT X e (rdT T F W .wal) := ⟨⟨fun pins s σ H Q I q => (wal_no q).elim⟩, ⟨fun pins s σ H Q I q => (wal_no q).elim⟩⟩
theorem s_wals {st : Stmt} : PS X st (rdS T F W .wal) := ⟨fun pins s σ H D I q => by
  obtain ⟨_, _, _, _, hp⟩ := q
  exact (show False from hp).elim⟩
theorem s_walb {st : List Stmt} : PSs X st (rdS T F W .wal) := ⟨fun pins s σ H D I q => by
  obtain ⟨_, _, _, _, hp⟩ := q
  exact (show False from hp).elim⟩
end
end En

namespace En
open PySem PySem.Spec L2
section
variable {T : Tb} {cc : CC} {X : Cx} {W : WX} {F : Fr} {e l r c : Expr} {es : List Expr} {a b : E} {pos : Pos}
theorem view_any {s : S} {G H : Hp} {io : List Addr} {σ : L2.St} {d : D} {ds : List D} {v : V} (o : XOk T cc X W) (t : StR T.x F s G io σ H) (h : viewQ s d = some ds) (r : Rp T.x G io d v) :
    ∃ p xs, v = V.ref p ∧ (SqT X.K H p xs ∨ SqL X.K H p xs) ∧ RpL T.x G io ds xs := by
  obtain ⟨p, ws, rfl, hq, hr⟩ := view_seq t h r
  refine ⟨p, ws, rfl, ?_, hr⟩
  rcases hq with hq | hq
  · exact .inr (.inl hq)
  · exact .inl (by rw [o.K]; exact hq)
theorem RpL.reverse {x : SX} {G : Hp} {io : List Addr} : ∀ {ds : List D} {vs : List V}, RpL x G io ds vs → RpL x G io ds.reverse vs.reverse
  | [], _, h => by
    cases (show _ = [] from h)
    exact .nil
  | d :: ds, _, h => by
    obtain ⟨v, r, rfl, q, t⟩ := h
    rw [List.reverse_cons, List.reverse_cons]
    exact t.reverse.append (.cons q .nil)
theorem append_inv {d : D} {l : List D} {s : S} : (∃ n y, d = .adr n ∧ l = [y]) ∨ bmF .append d l s = none := by
  cases d with
  | adr n => match l with
    | [] => exact .inr rfl
    | [y] => exact .inl ⟨n, y, rfl, rfl⟩
    | _ :: _ :: _ => exact .inr rfl
  | _ => exact .inr rfl
theorem insert_inv {d : D} {l : List D} {s : S} : (∃ n i y, d = .adr n ∧ l = [.int i, y]) ∨ bmF .insert d l s = none := by
  cases d with
  | adr n => match l with
    | [] => exact .inr rfl
    | [y] => exact .inr (by cases y <;> rfl)
    | [x, y] => cases x with
      | int i => exact .inl ⟨n, i, y, rfl, rfl⟩
      | _ => exact .inr rfl
    | x :: _ :: _ :: _ => exact .inr (by cases x <;> rfl)
  | _ => exact .inr rfl
theorem index_inv {d : D} {l : List D} {s : S} : (∃ y, l = [y]) ∨ bmF .index d l s = none := by
  match l with
  | [] => exact .inr (by cases d <;> rfl)
  | [y] => exact .inl ⟨y, rfl⟩
  | _ :: _ :: _ => exact .inr (by cases d <;> rfl)
theorem a_spl (o : XOk T cc X W) {sp : Pos} (ha : PE X e (rd T F W a)) (hb : PA X es (rdA T F W b)) : PA X (.Starred e sp :: es) (rdA T F W (.spl a b)) := by
  refine PA.wk (StX.pa_star ha hb) fun σ H Q ⟨s, G, io, t, hp⟩ => ⟨s, G, io, t, ?_⟩
  refine PostA.bnd hp fun d s1 v H1 G1 io1 sg si t1 r1 hp1 => ?_
  split at hp1
  · rename_i ds hv
    obtain ⟨p, xs, rfl, hq, hr⟩ := view_any o t1 hv r1
    refine ⟨p, xs, rfl, hq, s1, G1, io1, t1, ?_⟩
    refine PostA.bndA hp1 fun es s2 vs H2 G2 io2 sg2 si2 t2 r2 hp2 => ?_
    exact hp2 _ H2 G2 io2 (Same.refl _) (Pre.refl _) t2 ((hr.mono sg2 si2).append r2)
  · exact hp1.elim
theorem s_rev {k : Nat} {p1 p2 p3 : Pos} (ha : PE X e (rd T F W a)) : PE X (.Subscript e (.Slice none none (some (.UnaryOp .USub (.Constant (.int 1) k p1) p2)) p3) pos) (rd T F W (.rev a)) := by
  refine PE.wk (pe_revL ha) fun σ H Q ⟨s, G, io, t, hp⟩ => ⟨s, G, io, t, ?_⟩
  refine Post.bnd hp fun d s1 v H1 G1 io1 sg si t1 r1 hp1 => ?_
  split at hp1
  · rename_i ds hv
    obtain ⟨p, ws, rfl, hq, hr⟩ := view_lst t1 hv r1
    exact ⟨p, ws, rfl, .inl hq, hp1.f t1 hr.reverse⟩
  · exact hp1.elim
theorem s_append (o : XOk T cc X W) {apos : Pos} (hsup : isSup l = false) (hln : (apos.endLine == pos.line) = true) (hs1 : isStar e = false) (ha : PE X l (rd T F W a)) (hb : PA X [e] (rdA T F W b)) :
    PE X (.Call (.Attribute l "append" apos) [e] [] pos) (rd T F W (.bm .append a b)) := by
  have hst := star_no (es := []) (env := X.env) hs1
  refine PE.wk (pe_bm PySem.F.plainAttrs_list PySem.F.slot_list_append PySem.F.type_list_append mt_append ha hb (base_no hsup) (by rw [hst]; rfl) hln hst rfl) fun σ H Q ⟨s, G, io, t, hp⟩ => ⟨s, G, io, t, ?_⟩
  refine Post.bnd hp fun d s1 v H1 G1 io1 sg si t1 r1 hp1 => ?_
  split at hp1
  · rename_i hv
    obtain ⟨ds, hv⟩ := Option.isSome_iff_exists.mp (show (viewL s1 d).isSome = true from hv)
    obtain ⟨p, ws, rfl, hq, hr⟩ := view_lst t1 hv r1
    refine ⟨.inl ⟨rfl, ws, .inl hq⟩, s1, G1, io1, t1, ?_⟩
    refine Post.bndA hp1 fun ds2 s2 vs H2 G2 io2 sg2 si2 t2 r2 hp2 => ?_
    rcases append_inv (d := d) (l := ds2) (s := s2) with ⟨n, y, rfl, rfl⟩ | hn
    · simp only [bmF] at hp2
      obtain ⟨v2, rfl, q2⟩ := r2.one
      obtain ⟨p', e', hpo⟩ := r1.mono sg2 si2
      cases e'
      split at hp2
      · rename_i es hm
        obtain ⟨us, _, q1, q3, q4, rfl, _⟩ := t2.mem.2.2 n _ p hm hpo
        split at hp2
        · rename_i hlen
          refine ⟨p, us, v2, rfl, rfl, q1, by rw [q4.length]; exact big_lt hlen, ?_⟩
          exact hp2 .non _ G2 io2 (Same.refl _) (Pre.refl _) (t2.wmem hm hpo (o' := .bx (es ++ [y])) (q4.append (.cons q2 .nil)) rfl trivial (t2.inF hpo)) rfl
        · exact hp2.elim
      · exact hp2.elim
    · rw [hn] at hp2; exact hp2.elim
  · exact hp1.elim
theorem s_insert (o : XOk T cc X W) {e2 : Expr} {apos : Pos} (hsup : isSup l = false) (hln : (apos.endLine == pos.line) = true) (hs1 : isStar e = false) (hs2 : isStar e2 = false) (ha : PE X l (rd T F W a)) (hb : PA X [e, e2] (rdA T F W b)) :
    PE X (.Call (.Attribute l "insert" apos) [e, e2] [] pos) (rd T F W (.bm .insert a b)) := by
  have hst := star_no (es := [e2]) (env := X.env) hs1
  have hst2 := star_no (es := []) (env := X.env) hs2
  refine PE.wk (pe_bm PySem.F.plainAttrs_list PySem.F.slot_list_insert PySem.F.type_list_insert mt_insert ha hb (base_no hsup) (by rw [hst, hst2]; rfl) hln hst (by rw [hst2]; rfl)) fun σ H Q ⟨s, G, io, t, hp⟩ => ⟨s, G, io, t, ?_⟩
  refine Post.bnd hp fun d s1 v H1 G1 io1 sg si t1 r1 hp1 => ?_
  split at hp1
  · rename_i hv
    obtain ⟨ds, hv⟩ := Option.isSome_iff_exists.mp (show (viewL s1 d).isSome = true from hv)
    obtain ⟨p, ws, rfl, hq, hr⟩ := view_lst t1 hv r1
    refine ⟨.inl ⟨rfl, ws, .inl hq⟩, s1, G1, io1, t1, ?_⟩
    refine Post.bndA hp1 fun ds2 s2 vs H2 G2 io2 sg2 si2 t2 r2 hp2 => ?_
    rcases insert_inv (d := d) (l := ds2) (s := s2) with ⟨n, i, y, rfl, rfl⟩ | hn
    · simp only [bmF] at hp2
      obtain ⟨v1, r0, rfl, q0, r3⟩ := r2
      obtain ⟨v2, rfl, q2⟩ := r3.one
      cases (show v1 = .int i from q0)
      obtain ⟨p', e', hpo⟩ := r1.mono sg2 si2
      cases e'
      split at hp2
      · rename_i es hm
        obtain ⟨us, _, q1, q3, q4, rfl, _⟩ := t2.mem.2.2 n _ p hm hpo
        split at hp2
        · rename_i hlen
          refine ⟨p, us, i, v2, rfl, rfl, q1, by rw [q4.length]; exact big_lt hlen.1, hlen.2.1, by have := hlen.2.2; omega, ?_⟩
          exact hp2 .non _ G2 io2 (Same.refl _) (Pre.refl _) (t2.wmem hm hpo (o' := .bx (es.take i.toNat ++ [y] ++ es.drop i.toNat)) (((q4.take _).append (.cons q2 .nil)).append (q4.drop _)) rfl trivial (t2.inF hpo)) rfl
        · exact hp2.elim
      · exact hp2.elim
    · rw [hn] at hp2; exact hp2.elim
  · exact hp1.elim
theorem s_index (o : XOk T cc X W) {apos : Pos} (hsup : isSup l = false) (hln : (apos.endLine == pos.line) = true) (hs1 : isStar e = false) (ha : PE X l (rd T F W a)) (hb : PA X [e] (rdA T F W b)) :
    PE X (.Call (.Attribute l "index" apos) [e] [] pos) (rd T F W (.bm .index a b)) := by
  have hst := star_no (es := []) (env := X.env) hs1
  refine PE.wk (pe_bm PySem.F.plainAttrs_list PySem.F.slot_list_index PySem.F.type_list_index mt_index ha hb (base_no hsup) (by rw [hst]; rfl) hln hst rfl) fun σ H Q ⟨s, G, io, t, hp⟩ => ⟨s, G, io, t, ?_⟩
  refine Post.bnd hp fun d s1 v H1 G1 io1 sg si t1 r1 hp1 => ?_
  split at hp1
  · rename_i hv
    obtain ⟨ds, hv⟩ := Option.isSome_iff_exists.mp (show (viewL s1 d).isSome = true from hv)
    obtain ⟨p, ws, rfl, hq, hr⟩ := view_lst t1 hv r1
    refine ⟨.inl ⟨rfl, ws, .inl hq⟩, s1, G1, io1, t1, ?_⟩
    refine Post.bndA hp1 fun ds2 s2 vs H2 G2 io2 sg2 si2 t2 r2 hp2 => ?_
    rcases index_inv (d := d) (l := ds2) (s := s2) with ⟨y, rfl⟩ | hn
    · simp only [bmF] at hp2
      obtain ⟨v2, rfl, q2⟩ := r2.one
      split at hp2
      · rename_i es hv2
        obtain ⟨p', us, e', hq', hr'⟩ := view_lst t2 hv2 (r1.mono sg2 si2)
        cases e'
        split at hp2
        · rename_i hfl
          rw [Bool.and_eq_true] at hfl
          split at hp2
          · rename_i j hj
            obtain ⟨hj1, hj2, hj3⟩ := List.findIdx?_eq_some_iff_getElem.mp hj
            have hat := List.getElem?_eq_getElem hj1
            obtain ⟨z, e3, q3⟩ := hr'.get hat
            have ff := List.all_eq_true.mp hfl.2
            refine ⟨p, us, v2, j, z, rfl, rfl, .inl hq', flat_fv q2 hfl.1, (inV_eq q2 hfl.1 hr' hfl.2).1, e3, ?_, fun m z' hm hz => ?_, hp2.v t2 rfl⟩
            · rw [flat_eqV q2 q3 hfl.1 (ff _ (List.getElem_mem hj1))]
              exact hj2
            · obtain ⟨d', e4, q4⟩ := hr'.of_get hz
              have hml : m < es.length := by omega
              have e5 := List.getElem?_eq_getElem hml
              rw [e4] at e5
              cases e5
              rw [flat_eqV q2 q4 hfl.1 (ff _ (List.getElem_mem hml))]
              simpa using hj3 m hm
          · exact hp2.elim
        · exact hp2.elim
      · exact hp2.elim
    · rw [hn] at hp2; exact hp2.elim
  · exact hp1.elim
theorem s_whl (o : XOk T cc X W) {body : List Stmt} (ha : PT X c (rdT T F W a)) (hb : PSs X body (rdS T F W b)) : PS X (.While c body [] pos) (rdS T F W (.whl a b)) := by
  refine PS.wk (ps_while o.po ha hb) fun D σ H ⟨s, G, io, t, hp⟩ => ?_
  refine ⟨fun n σ H => ∃ s1 G1 io1, Same G G1 ∧ Pre io io1 ∧ StR T.x F s1 G1 io1 σ H ∧ PostS T.x F W G1 io1 (whlL (ev T.P T.Gm a) (ev T.P T.Gm b) n s1) D, ⟨100000, s, G, io, Same.refl _, Pre.refl _, t, hp⟩, ?_⟩
  rintro n σ1 H1 ⟨s1, G1, io1, sg0, si0, t1, hp1⟩
  cases n with
  | zero => exact hp1.elim
  | succ n =>
    refine ⟨s1, G1, io1, t1, ?_⟩
    refine PostS.bnd hp1 fun d s2 v H2 G2 io2 sg si t2 r2 hp2 => ?_
    split at hp2
    · refine ⟨true, r2, iteT ?_⟩
      refine ⟨fun σ' H' => ∃ s1 G1 io1, Same G G1 ∧ Pre io io1 ∧ StR T.x F s1 G1 io1 σ' H' ∧ PostS T.x F W G1 io1 (whlL (ev T.P T.Gm a) (ev T.P T.Gm b) n s1) D, fun σ' H' hN => ⟨n, Nat.lt_succ_self _, hN⟩, s2, G2, io2, t2, ?_⟩
      have sg1 := sg0.trans sg
      have si1 := si0.trans si
      unfold PostS
      split
      · rename_i s5 he
        rw [he] at hp2
        exact fun σ' H' G' io' sg si t' => ⟨s5, G', io', sg1.trans sg, si1.trans si, t', PostS.anti (show PostS T.x F W G2 io2 (whlL _ _ n s5) D from hp2) sg si⟩
      · rename_i s5 he
        rw [he] at hp2
        exact hp2
      · rename_i s5 he
        rw [he] at hp2
        exact fun σ' H' G' io' sg si t' => ⟨s5, G', io', sg1.trans sg, si1.trans si, t', PostS.anti (show PostS T.x F W G2 io2 (whlL _ _ n s5) D from hp2) sg si⟩
      · rename_i d s5 he
        rw [he] at hp2
        exact hp2
      · rename_i d s5 he
        rw [he] at hp2
        exact hp2
      · rename_i k ns d s5 he
        rw [he] at hp2
        exact hp2
      · rename_i h1 h2 h3 h4 h5 h6
        split at hp2
        · exact h1 _ (by assumption)
        · exact h3 _ (by assumption)
        · exact h2 _ (by assumption)
        · unfold PostS at hp2
          split at hp2
          · exact h1 _ (by assumption)
          · exact h2 _ (by assumption)
          · exact h3 _ (by assumption)
          · exact h4 _ _ (by assumption)
          · exact h5 _ _ (by assumption)
          · exact h6 _ _ _ _ (by assumption)
          · exact hp2
    · refine ⟨false, r2, iteF ?_⟩
      exact hp2 σ1 H2 G2 io2 (Same.refl _) (Pre.refl _) t2
    · exact hp2.elim
end
end En

namespace En
open PySem PySem.Spec L2
section
variable {T : Tb} {cc : CC} {X : Cx} {W : WX} {F : Fr} {e l r c : Expr} {es : List Expr} {a b : E} {pos : Pos}
theorem StR.frz {G H : Hp} {io : List Addr} {σ : L2.St} {s : S} {x : SX} {i : Nat} {ds : List D} {p : Addr} (t : StR x F s G io σ H) (hm : s.r[i]? = some (some (.ol ds))) (hp : σ[i]? = some (some (.ref p))) :
    ∃ G', Same G G' ∧ StR x F (s.set i (some (.val (.lst ds)))) G' io σ H ∧ Rp x G' io (.lst ds) (.ref p) := by
  obtain ⟨v, e1, q, rfl, q1, ws, q2, q3, q4, q5⟩ := t.slot i _ hm
  rw [hp] at e1
  cases e1
  have hi : i < s.r.length := (List.getElem?_eq_some_iff.mp hm).1
  have t1 : StR x F { s with r := s.r.set i none } G io σ H := t.weak (by simp) fun j c e => by
    by_cases hj : i = j
    · subst hj
      rw [List.getElem?_set_self hi] at e; cases e
    · rw [List.getElem?_set_ne hj] at e; exact e
  have t2 := t1.fast (fun φ z => by cases z) (not_tb t.tb q2 fun ps z => by cases z) q2 q3 q4 q1 fun j c e ho z => by
    have e : (s.r.set i none)[j]? = some (some c) := e
    by_cases hj : i = j
    · subst hj
      rw [List.getElem?_set_self hi] at e; cases e
    · rw [List.getElem?_set_ne hj] at e
      exact t.own i j _ _ _ hj hm e rfl ho hp z
  have sg : Same G (upd G p (.lst ws)) := same_upd q3
  have r : Rp x (upd G p (.lst ws)) io (.lst ds) (.ref p) := ⟨p, ws, rfl, upd_same, q5.mono sg (Pre.refl _)⟩
  have t3 := t2.setv (i := i) (d := .lst ds) (v := .ref p) r
  have e1 : σ.set i (some (.ref p)) = σ := by
    refine List.ext_getElem? fun j => ?_
    by_cases hj : i = j
    · subst hj
      have hl : i < σ.length := (List.getElem?_eq_some_iff.mp hp).1
      rw [List.getElem?_set_self hl, hp]
    · rw [List.getElem?_set_ne hj]
  have e2 : S.set { s with r := s.r.set i none } i (some (.val (.lst ds))) = s.set i (some (.val (.lst ds))) := by
    unfold S.set
    simp
  rw [e1, e2] at t3
  exact ⟨_, sg, t3, r⟩
theorem s_fz (o : XOk T cc X W) {i : Nat} {y : Str} (h : vis cc i y = true) : PE X (.Name y pos) (rd T F W (.fz i)) := by
  obtain ⟨h1, h2, h3, h4⟩ := o.vis h
  refine PE.wk (pe_var h1 h2 h3 h4) fun σ H Q hq => ?_
  obtain ⟨s, G, io, t, hp⟩ := hq
  simp only [ev] at hp
  split at hp
  · rename_i ds hd
    obtain ⟨v, e1, q, rfl, _⟩ := t.slot i _ hd
    obtain ⟨G', sg, t', r⟩ := t.frz hd e1
    exact ⟨_, e1, hp _ H G' io sg (Pre.refl _) t' r⟩
  · rename_i d hd
    obtain ⟨v, e1, q⟩ := t.slot i _ hd
    exact ⟨v, e1, hp.v t q⟩
  · exact hp.elim
theorem s_emp : PE X (.Dict [] [] pos) (rd T F W .emp) := by
  refine PE.wk pe_dnewK fun σ H Q ⟨s, G, io, t, hp⟩ => fun p hn => ?_
  exact Post.fD (ks := []) (ds := []) (vs := []) hp t rfl .nil p hn
def LkO : MO → MO → Prop
  | .dx ks ds, o => o = .dl ks ds
  | .bx ds, o => o = .ll ds
  | _, _ => False
section
variable {x : SX} {o o' : MO} {vs : List V} {u : HO} {od : Obj}
theorem LkO.ds (h : LkO o o') : o'.ds = o.ds := by
  cases o with
  | dx ks ds => cases h; rfl
  | bx ds => cases h; rfl
  | _ => exact h.elim
theorem LkO.nl (h : LkO o o') : o.isL = false := by
  cases o with
  | dx ks ds => rfl
  | bx ds => rfl
  | _ => exact h.elim
theorem LkO.ml (h : LkO o o') : MoL o ↔ MoL o' := by
  cases o with
  | dx ks ds => cases h; exact Iff.rfl
  | bx ds => cases h; exact Iff.rfl
  | _ => exact h.elim
theorem LkO.f (h : LkO o o') (m : MoH x o vs u) : MoH x o' vs (.frz od u) := by
  cases o with
  | dx ks ds => cases h; cases m; exact ⟨_, rfl⟩
  | bx ds => cases h; cases m; exact ⟨_, rfl⟩
  | _ => exact h.elim
theorem LkO.mu (h : LkO o o') (m : MoH x o' vs (.frz od u)) : MoH x o vs u := by
  cases o with
  | dx ks ds => cases h; obtain ⟨_, e⟩ := m; cases e; exact rfl
  | bx ds => cases h; obtain ⟨_, e⟩ := m; cases e; exact rfl
  | _ => exact h.elim
theorem LkO.mut (h : LkO o o') (m : MoH x o vs u) : Mut (some u) := by
  cases o with
  | dx ks ds => cases m; trivial
  | bx ds => cases m; trivial
  | _ => exact h.elim
theorem LkO.nz (h : LkO o o') (m : MoH x o vs u) : ¬ IsFz u := m.nfz h.nl
end
theorem StR.lkd {x : SX} {G H : Hp} {io : List Addr} {σ : L2.St} {s : S} {n : Nat} {o o' : MO} {vs : List V} {u : HO} {p : Addr} {od : Obj} (hk : LkO o o') (t : StR x F s G io σ H) (hm : s.m[n]? = some o) (hpo : io[n]? = some p) (q3 : RpL x G io o.ds vs) (q4 : MoH x o vs u) (q5 : MoL o) :
    StR x { F with z := upd F.z p (.frz od u) } { s with m := s.m.set n o' } G io σ (upd H p (.frz od u)) := by
  have t' := t.wmem hm hpo (o' := o') (h' := .frz od u) (by rw [hk.ds]; exact q3) (hk.f q4) (hk.ml.mp q5) (t.inF hpo) hk.nl
  refine ⟨t'.gh, t'.len, t'.slot, t'.own, t'.mem, t'.kh, t'.kg, t'.ki, t'.ni, fun b w e => ?_, t'.tb⟩
  have e : upd F.z p (.frz od u) b = some w := e
  by_cases hb : b = p
  · subst hb
    rw [upd_same] at e
    cases e
    exact ⟨upd_same, _, _, rfl⟩
  · rw [upd_ne hb] at e
    exact t'.zl b w e
theorem StR.unlkd {x : SX} {G H : Hp} {io : List Addr} {σ : L2.St} {s : S} {n : Nat} {o o' : MO} {p : Addr} {od : Obj} {u : HO} (hk : LkO o o') (t : StR x { F with z := upd F.z p (.frz od u) } s G io σ H) (hF : F.z p = none) (hm : s.m[n]? = some o') (hpo : io[n]? = some p) (hi : p ∈ F.i ∨ F.h p = none) :
    H p = some (.frz od u) ∧ StR x F { s with m := s.m.set n o } G io σ (upd H p u) := by
  have hz : H p = some (.frz od u) := (t.zl p _ (show upd F.z p (.frz od u) p = _ from upd_same)).1
  obtain ⟨vs, ho, q1, q2, q3, q4, q5⟩ := t.mem.2.2 n _ p hm hpo
  rw [hz] at q1
  cases q1
  have pm : p ∈ io := List.mem_of_getElem? hpo
  refine ⟨hz, fun b w e => ?_, t.len, fun j c e => ?_, t.own, ⟨by simp [t.mem.1], t.mem.2.1, fun k mo a e1 e2 => ?_⟩, fun b o e nb nt => ?_, t.kg, t.ki, t.ni, fun b w e => ?_, ?_⟩
  · rw [upd_ne (fun z => by rw [z, q2] at e; cases e)]
    exact t.gh _ _ e
  · obtain ⟨v, e1, q⟩ := t.slot j c e
    refine ⟨v, e1, ?_⟩
    cases c with
    | val d => exact q
    | ol es =>
      obtain ⟨a, rfl, k1, vs, k2, k3⟩ := q
      exact ⟨a, rfl, k1, vs, by rw [upd_ne (fun z => k1 (by rw [z]; exact pm))]; exact k2, k3⟩
    | od ks es =>
      obtain ⟨a, rfl, k1, vs, k2, k3⟩ := q
      exact ⟨a, rfl, k1, vs, by rw [upd_ne (fun z => k1 (by rw [z]; exact pm))]; exact k2, k3⟩
    | lms ks =>
      obtain ⟨a, rfl, k1, vs, k2, k3, k4, k5⟩ := q
      refine ⟨a, rfl, k1, vs, by rw [upd_ne (fun z => k1 (by rw [z]; exact pm))]; exact k2, k3, k4, k5.mono (fun b u e y => ?_) (fun _ _ _ e => e)⟩
      rw [upd_ne (fun z => by rw [z, hz] at e; cases e; rcases y with ⟨_, y⟩ | ⟨_, y⟩ <;> cases y)]
      exact e
  · by_cases hkn : n = k
    · subst hkn
      rw [hpo] at e2
      cases e2
      obtain ⟨hn, _⟩ := List.getElem?_eq_some_iff.mp hm
      rw [List.getElem?_set_self hn] at e1
      cases e1
      exact ⟨vs, _, upd_same, q2, by rw [hk.ds] at q3; exact q3, hk.mu q4, hk.ml.mpr q5⟩
    · rw [List.getElem?_set_ne hkn] at e1
      have q := t.mem.2.2 k mo a e1 e2
      have ne : a ≠ p := fun z => by
        subst z
        obtain ⟨h1, g1⟩ := List.getElem?_eq_some_iff.mp hpo
        obtain ⟨h2, g2⟩ := List.getElem?_eq_some_iff.mp e2
        exact hkn ((List.getElem_inj t.mem.2.1).mp (g1.trans g2.symm))
      obtain ⟨ws, h, q1, q2⟩ := q
      exact ⟨ws, h, by rw [upd_ne ne]; exact q1, q2⟩
  · have ne : b ≠ p := fun z => by
      subst z
      rcases hi with h | h
      · exact nb h
      · rw [h] at e; cases e
    rw [upd_ne ne]
    exact t.kh b o e nb nt
  · have ne : b ≠ p := fun z => by rw [z, hF] at e; cases e
    rw [upd_ne ne]
    exact t.zl b w (by show upd F.z p _ b = _; rw [upd_ne ne]; exact e)
  · refine tabs_keep t.tb fun b u e y => ?_
    rw [upd_ne (fun z => by rw [z, hz] at e; cases e; rcases y with ⟨_, y⟩ | ⟨_, y⟩ <;> cases y)]
    exact e
theorem unlk_val' {n : Nat} {d : D} {s : S} {r : Res} (h : unlk n (some (.val d, s)) = r) : r = none ∨ ∃ o o', LkO o o' ∧ s.m[n]? = some o' ∧ r = some (.val d, { s with m := s.m.set n o }) := by
  unfold unlk at h
  dsimp only at h
  split at h
  · rename_i ks ds hm
    exact .inr ⟨.dx ks ds, _, rfl, hm, h.symm⟩
  · rename_i ds hm
    exact .inr ⟨.bx ds, _, rfl, hm, h.symm⟩
  · exact .inl h.symm
theorem unlk_fr' {n : Nat} {d : MO} {s : S} {r : Res} (h : unlk n (some (.fr d, s)) = r) : r = none ∨ ∃ o o', LkO o o' ∧ s.m[n]? = some o' ∧ r = some (.fr d, { s with m := s.m.set n o }) := by
  unfold unlk at h
  dsimp only at h
  split at h
  · rename_i ks ds hm
    exact .inr ⟨.dx ks ds, _, rfl, hm, h.symm⟩
  · rename_i ds hm
    exact .inr ⟨.bx ds, _, rfl, hm, h.symm⟩
  · exact .inl h.symm
theorem s_lkp {p : E} (ha : ∀ F, PE X e (rd T F W a)) : PE X e (rd T F W (.lkp p a)) := by
  have h1 := pe_lock (PE.exF ha)
  refine ⟨fun pins sh σ H Q I ⟨s, G, io, t, hp⟩ => ?_⟩
  have plain : Post T.x F W G io (ev T.P T.Gm a s) σ Q → wpAny (model X.prog X.w) X.A (eval e X.env) (EP X pins σ Q) X.xe sh := fun hp => (ha F).run pins sh σ H Q I ⟨s, G, io, t, hp⟩
  have locked : ∀ {n : Nat} {o o' : MO}, s.m[n]? = some o → LkO o o' → Post T.x F W G io (unlk n (ev T.P T.Gm a { s with m := s.m.set n o' })) σ Q → wpAny (model X.prog X.w) X.A (eval e X.env) (EP X pins σ Q) X.xe sh := by
    intro n o o' hm hk hp
    have hn2 : n < io.length := by rw [← t.mem.1]; exact (List.getElem?_eq_some_iff.mp hm).1
    have hpo : io[n]? = some io[n] := List.getElem?_eq_getElem hn2
    obtain ⟨vs, u, q1, q2, q3, q4, q5⟩ := t.mem.2.2 n _ _ hm hpo
    have hF : F.z io[n] = none := by
      cases z : F.z io[n] with
      | none => rfl
      | some w =>
        obtain ⟨e1, e2⟩ := t.zl _ _ z
        rw [q1] at e1; cases e1
        exact absurd e2 (hk.nz q4)
    refine h1.run pins sh σ H Q I ⟨io[n], _, q1, hk.mut q4, fun od => ⟨{ F with z := upd F.z io[n] (.frz od u) }, _, G, io, t.lkd hk hm hpo q3 q4 q5, ?_⟩⟩
    have back : ∀ {s2 : S} {H' G' : Hp} {io' : List Addr} {o2 o2' : MO}, LkO o2 o2' → Pre io io' → StR T.x { F with z := upd F.z io[n] (.frz od u) } s2 G' io' σ H' → s2.m[n]? = some o2' →
        H' io[n] = some (.frz od u) ∧ StR T.x F { s2 with m := s2.m.set n o2 } G' io' σ (upd H' io[n] u) := fun hk si t2 hm2 => t2.unlkd hk hF hm2 (si.get hpo) (t.inF hpo)
    unfold Post
    split
    · rename_i d s2 he
      rw [he] at hp
      intro v H' G' io' sg si t2 rv
      rcases unlk_val' (rfl : unlk n (some (.val d, s2)) = _) with z | ⟨o2, o2', k2, hm2, z⟩
      · rw [z] at hp; exact hp.elim
      · rw [z] at hp
        obtain ⟨k1, k2⟩ := back k2 si t2 hm2
        exact ⟨k1, hp v _ G' io' sg si k2 rv⟩
    · rename_i q s2 he
      rw [he] at hp
      intro p' H' G' io' sg si t2 ni ow no
      rcases unlk_fr' (rfl : unlk n (some (.fr q, s2)) = _) with z | ⟨o2, o2', k2, hm2, z⟩
      · rw [z] at hp; exact hp.elim
      · rw [z] at hp
        obtain ⟨k1, k2⟩ := back k2 si t2 hm2
        obtain ⟨ws, h, w1, w2, w3, w4, w5⟩ := ow
        have ne : p' ≠ io[n] := fun z => ni (by rw [z]; exact List.mem_of_getElem? (si.get hpo))
        exact ⟨k1, hp p' _ G' io' sg si k2 ni ⟨ws, h, by rw [upd_ne ne]; exact w1, w2, w3, w4, w5⟩ no⟩
    · rename_i k ns es s2 he
      rw [he] at hp
      exact hp.elim
    · rename_i z1 z2 z3
      unfold unlk at hp
      split at hp
      · exact z1 _ _ (by assumption)
      · exact z2 _ _ (by assumption)
      · exact hp.elim
  simp only [ev] at hp
  split at hp
  · split at hp
    · rename_i ks ds hm
      exact locked hm (o' := .dl ks ds) rfl hp
    · rename_i ds hm
      exact locked hm (o' := .ll ds) rfl hp
    · exact plain hp
  · exact plain hp
theorem bkO_lk {p : Option MO} {q : MO} (h : bkO p = some q) : ∃ o', p = some o' ∧ LkO q o' := by
  cases p with
  | none => cases h
  | some o =>
    cases o with
    | dl ks ds => cases h; exact ⟨_, rfl, rfl⟩
    | ll ds => cases h; exact ⟨_, rfl, rfl⟩
    | _ => cases h
theorem s_lks {st : Stmt} {p : E} (ha : ∀ F, PS X st (rdS T F W a)) : PS X st (rdS T F W (.lks p a)) := by
  have h1 : PS X st (tLock (rdSF T W a)) := ps_lock ⟨fun pins s σ H D I ⟨F, q⟩ => (ha F).run pins s σ H D I q⟩
  refine ⟨fun pins sh σ H D I ⟨s, G, io, t, hp⟩ => ?_⟩
  have locked : ∀ {n : Nat} {o o' : MO}, s.m[n]? = some o → LkO o o' → PostS T.x F W G io (unlkS n (ev T.P T.Gm a { s with m := s.m.set n o' })) D → tLock (rdSF T W a) D σ H := by
    intro n o o' hm hk hp
    have hn2 : n < io.length := by rw [← t.mem.1]; exact (List.getElem?_eq_some_iff.mp hm).1
    have hpo : io[n]? = some io[n] := List.getElem?_eq_getElem hn2
    obtain ⟨vs, u, q1, q2, q3, q4, q5⟩ := t.mem.2.2 n _ _ hm hpo
    have hF : F.z io[n] = none := by
      cases z : F.z io[n] with
      | none => rfl
      | some w =>
        obtain ⟨e1, e2⟩ := t.zl _ _ z
        rw [q1] at e1; cases e1
        exact absurd e2 (hk.nz q4)
    refine ⟨io[n], _, q1, hk.mut q4, fun od => ⟨{ F with z := upd F.z io[n] (.frz od u) }, _, G, io, t.lkd hk hm hpo q3 q4 q5, ?_⟩⟩
    have back : ∀ {s2 : S} {H' G' : Hp} {io' : List Addr} {σ' : L2.St} {o2 o2' : MO}, LkO o2 o2' → Pre io io' → StR T.x { F with z := upd F.z io[n] (.frz od u) } s2 G' io' σ' H' → s2.m[n]? = some o2' →
        H' io[n] = some (.frz od u) ∧ StR T.x F { s2 with m := s2.m.set n o2 } G' io' σ' (upd H' io[n] u) := fun hk si t2 hm2 => t2.unlkd hk hF hm2 (si.get hpo) (t.inF hpo)
    cases he : ev T.P T.Gm a { s with m := s.m.set n o' } with
    | none => rw [he] at hp; exact hp.elim
    | some os =>
      obtain ⟨o1, s2⟩ := os
      rw [he] at hp
      unfold unlkS at hp
      dsimp only at hp
      split at hp
      · rename_i hend
        cases hb : bkO s2.m[n]? with
        | none => rw [hb] at hp; exact hp.elim
        | some q =>
          rw [hb] at hp
          obtain ⟨o2', hm2, k2⟩ := bkO_lk hb
          replace hp : PostS T.x F W G io (some (o1, { s2 with m := s2.m.set n q })) D := hp
          cases o1 with
          | nx => exact fun σ' H' G' io' sg si t2 => have k := back k2 si t2 hm2; ⟨k.1, hp σ' _ G' io' sg si k.2⟩
          | bk => exact fun σ' H' G' io' sg si t2 => have k := back k2 si t2 hm2; ⟨k.1, hp σ' _ G' io' sg si k.2⟩
          | ct => exact fun σ' H' G' io' sg si t2 => have k := back k2 si t2 hm2; ⟨k.1, hp σ' _ G' io' sg si k.2⟩
          | rt d => exact fun v σ' H' G' io' sg si t2 rv => have k := back k2 si t2 hm2; ⟨k.1, hp v σ' _ G' io' sg si k.2 rv⟩
          | rtf o3 =>
            intro p' σ' H' G' io' sg si t2 ni ow
            have k := back k2 si t2 hm2
            obtain ⟨ws, h, w1, w2, w3, w4, w5⟩ := ow
            have ne : p' ≠ io[n] := fun z => ni (by rw [z]; exact List.mem_of_getElem? (si.get hpo))
            exact ⟨k.1, hp p' σ' _ G' io' sg si k.2 ni ⟨ws, h, by rw [upd_ne ne]; exact w1, w2, w3, w4, w5⟩⟩
          | _ => cases hend
      · exact hp.elim
  have plain : PostS T.x F W G io (ev T.P T.Gm a s) D → rdS T F W a D σ H := fun hp => ⟨s, G, io, t, hp⟩
  simp only [ev] at hp
  split at hp
  · split at hp
    · rename_i ks ds hm
      exact h1.run pins sh σ H D I (locked hm (o' := .dl ks ds) rfl hp)
    · rename_i ds hm
      exact h1.run pins sh σ H D I (locked hm (o' := .ll ds) rfl hp)
    · exact (ha F).run pins sh σ H D I (plain hp)
  · exact (ha F).run pins sh σ H D I (plain hp)
theorem s_bxe (ha : PE X e (rd T F W a)) : PE X e (rd T F W (.bxe a)) := by
  refine PE.wk ha fun σ H Q ⟨s, G, io, t, hp⟩ => ⟨s, G, io, t, ?_⟩
  simp only [ev] at hp
  cases he : ev T.P T.Gm a s with
  | none => rw [he] at hp; exact hp.elim
  | some os =>
    obtain ⟨o1, s2⟩ := os
    rw [he] at hp
    cases o1 with
    | fr o =>
      intro p H' G' io' sg si t2 ni ow no
      exact hp _ H' G' (io' ++ [p]) sg (si.trans ⟨[p], rfl⟩) (t2.push ni ow no) ⟨p, rfl, by rw [t2.mem.1]; simp⟩
    | _ => exact hp
def rCon (T : Tb) (F : Fr) (W : WX) (neg : Bool) (tbl : List (Nat × Nat)) : R2 := fun v w H Q => ∃ σ s G io d e, StR T.x F s G io σ H ∧ Rp T.x G io d v ∧ Rp T.x G io e w ∧ Post T.x F W G io (conF T.P neg tbl d e s) σ Q
def conOp (neg : Bool) : CmpOp := if neg then .NotIn else .In
theorem con_ok (ok : XOk T cc X W) (t : TOk T) {tbl : List (Nat × Nat)} (htb : tblOk T.nt "__contains__" 1 [] tbl = true) (neg : Bool) : OpR X (compareOp (conOp neg)) (rCon T F W neg tbl) := by
  intro pins s' σ' H v w u z Q I r1 r2 h
  obtain ⟨σ, s, G, io, d, e, st, q1, q2, hp⟩ := h
  unfold conF at hp
  cases hc : clsN s e with
  | none =>
    rw [hc] at hp
    dsimp only at hp
    cases hq : cmpF (if neg then .notin else .isin) d e s with
    | none => rw [hq] at hp; exact hp.elim
    | some q =>
      rw [hq] at hp
      have k := cmp_ok (F := F) ok.K ok.hu (if neg then .notin else .isin) pins s' σ' H v w u z Q I r1 r2 ⟨σ, s, G, io, d, e, q, st, q1, q2, hq, hp.v st rfl⟩
      cases neg <;> exact k
  | some c =>
    rw [hc] at hp
    dsimp only at hp
    cases hi : tbl.lookup c with
    | none => rw [hi] at hp; exact hp.elim
    | some i =>
      rw [hi] at hp
      dsimp only at hp
      obtain ⟨ns, ds, hcf⟩ := clsN_some hc
      obtain ⟨lv, p, dx, fv, rfl, e1, e2, e3⟩ := cls_rp st q2 hcf
      obtain ⟨g, hM, cal⟩ := tblOk_at t htb lv hi
      obtain rfl : z = Value.ref p := r2
      obtain ⟨mA, O, _⟩ := ins_get I.hok e1
      obtain ⟨od, J, _⟩ := O.look
      obtain ⟨m, hF⟩ := I.fr
      have hfn : PySem.W.isFn X.K (.ref g) = true := by rw [ok.K]; exact hM.fn
      have hat : PySem.W.findIn X.K (.ref (T.x.ca c)) "__contains__" = some (some (.ref g)) := by rw [ok.K]; exact hM.at_
      have hr := ok.room
      have run := run_cal (A := X.A) (us := [.ref p, u]) (vs := [.ref p, v]) ok cal (fun k hk => hr.mono (by omega)) I.env0 I (.cons rfl (.cons r1 .nil)) rfl ⟨[e, d], s.m, G, io, st.gt, st.mem, .cons q2 (.cons q1 .nil), postB st hp⟩
      cases neg with
      | false =>
        refine PySem.W.in_K hF I.ok.mod.kin J hat hfn (wpAny_mono run (fun y s2 hy => ?_) fun _ _ x => x)
        obtain ⟨v', H', I', rv, b, rfl, q⟩ := hy
        cases (show y = Value.bool b from rv)
        exact wpAny_truthy_bool ⟨.bl b, H', I', rfl, by simpa using q⟩
      | true =>
        refine PySem.W.notIn_K hF I.ok.mod.kin J hat hfn (wpAny_mono run (fun y s2 hy => ?_) fun _ _ x => x)
        obtain ⟨v', H', I', rv, b, rfl, q⟩ := hy
        cases (show y = Value.bool b from rv)
        exact wpAny_truthy_bool ⟨.bl (!b), H', I', rfl, by simpa using q⟩
theorem s_con (o : XOk T cc X W) (t : TOk T) {neg : Bool} {tbl : List (Nat × Nat)} (htb : tblOk T.nt "__contains__" 1 [] tbl = true) (hm : isSet r = false) (ha : PE X l (rd T F W a)) (hb : PE X r (rd T F W b)) :
    PE X (.Compare l [conOp neg] [r] pos) (rd T F W (.con neg tbl a b)) ∧ PT X (.Compare l [conOp neg] [r] pos) (rdT T F W (.con neg tbl a b)) := by
  have key : ∀ σ H Q, rd T F W (.con neg tbl a b) σ H Q → tOp (rCon T F W neg tbl) (rd T F W a) (rd T F W b) σ H Q := fun σ H Q ⟨s, G, io, st, hp⟩ => ⟨s, G, io, st, by
    refine Post.bnd hp fun d s v H1 G1 io1 sg si t1 r1 hp1 => ⟨s, G1, io1, t1, ?_⟩
    refine Post.bnd hp1 fun d2 s2 v2 H2 G2 io2 sg2 si2 t2 r2 hp2 => ?_
    exact ⟨σ, s2, G2, io2, d, d2, t2, r1.mono sg2 si2, r2, hp2⟩⟩
  exact ⟨PE.wk (pe_cmpR (con_ok o t htb neg) ha hb (marks_no hm)) key, PT.wk (pt_cmpR (con_ok o t htb neg) ha hb (marks_no hm)) fun σ H Q hq => key σ H _ hq⟩
end
end En

namespace En
open PySem PySem.Spec L2 PyProof.Rows
theorem lastMarks_no3 {o p q : CmpOp} {l r k : Expr} (h : isSet k = false) : lastMarks [o, p, q] [l, r, k] = false := marks_no h
section
variable {X : Cx} {a b c d : Expr} {ta tb tc td : TE} {pos : Pos}
def tChain3 (r r' r'' : R2) (ta tb tc td : TE) : TE := fun σ H Q => ta σ H fun x H1 => tb σ H1 fun y H2 => r x y H2 fun z H3 => ∃ k, z = .bl k ∧
  (if k = true then tc σ H3 fun w H4 => r' y w H4 fun z2 H5 => ∃ k2, z2 = .bl k2 ∧ (if k2 = true then td σ H5 fun u H6 => r'' w u H6 Q else Q (.bl false) H5) else Q (.bl false) H3)
theorem pe_chain3 {op op' op'' : CmpOp} {r r' r'' : R2} (ho : OpR X (compareOp op) r) (ho' : OpR X (compareOp op') r') (ho'' : OpR X (compareOp op'') r'') (ha : PE X a ta) (hb : PE X b tb) (hc : PE X c tc) (hd : PE X d td)
    (hm : lastMarks [op, op', op''] [b, c, d] = false) : PE X (.Compare a [op, op', op''] [b, c, d] pos) (tChain3 r r' r'' ta tb tc td) := by
  refine ⟨fun pins s σ H Q I h => ?_⟩
  refine Compare_chain (thn (ha.run pins s σ H _ I h) fun v s1 ⟨x, H1, I1, r1, q1⟩ => chain_link (thn (hb.run pins s1 σ H1 _ I1 q1) fun u s2 ⟨y, H2, I2, r2, q2⟩ =>
    thn (ho pins s2 σ H2 x y v u _ I2 r1 r2 q2) fun d s3 ⟨z, H3, I3, r3, k, e, q3⟩ => ?_)) hm
  subst e
  cases r3
  refine wpAny_truthy_bool ?_
  cases k with
  | false => exact ite_ff ⟨.bl false, H3, I3, rfl, q3⟩
  | true =>
    refine ite_tt (chain_link (thn (hc.run pins s3 σ H3 _ I3 q3) fun w' s4 ⟨z', H4, I4, r4, q4⟩ => thn (ho' pins s4 σ H4 y z' u w' _ I4 r2 r4 q4) fun d s5 ⟨z5, H5, I5, r5, k2, e5, q5⟩ => ?_))
    subst e5
    cases r5
    refine wpAny_truthy_bool ?_
    cases k2 with
    | false => exact ite_ff ⟨.bl false, H5, I5, rfl, q5⟩
    | true => exact ite_tt (chain_last (thn (hd.run pins s5 σ H5 _ I5 q5) fun w6 s6 ⟨z6, H6, I6, r6, q6⟩ => ho'' pins s6 σ H6 z' z6 w' w6 Q I6 r4 r6 q6))
theorem pt_chain3 {op op' op'' : CmpOp} {r r' r'' : R2} (ho : OpR X (compareOp op) r) (ho' : OpR X (compareOp op') r') (ho'' : OpR X (compareOp op'') r'') (ha : PE X a ta) (hb : PE X b tb) (hc : PE X c tc) (hd : PE X d td)
    (hm : lastMarks [op, op', op''] [b, c, d] = false) : PT X (.Compare a [op, op', op''] [b, c, d] pos) (tTest (tChain3 r r' r'' ta tb tc td)) := by
  refine ⟨fun pins s σ H Q I h => ?_⟩
  refine isTrue_chain (thn (ha.run pins s σ H _ I h) fun v s1 ⟨x, H1, I1, r1, q1⟩ => test_link (thn (hb.run pins s1 σ H1 _ I1 q1) fun u s2 ⟨y, H2, I2, r2, q2⟩ =>
    thn (ho pins s2 σ H2 x y v u _ I2 r1 r2 q2) fun d s3 ⟨z, H3, I3, r3, k, e, q3⟩ => ?_)) hm
  subst e
  cases r3
  refine wpAny_truthy_bool ?_
  cases k with
  | false =>
    obtain ⟨k', e', q'⟩ := q3
    cases e'
    exact ite_ff ⟨H3, I3, q'⟩
  | true =>
    refine ite_tt (test_link (thn (hc.run pins s3 σ H3 _ I3 q3) fun w' s4 ⟨z', H4, I4, r4, q4⟩ => thn (ho' pins s4 σ H4 y z' u w' _ I4 r2 r4 q4) fun d s5 ⟨z5, H5, I5, r5, k2, e5, q5⟩ => ?_))
    subst e5
    cases r5
    refine wpAny_truthy_bool ?_
    cases k2 with
    | false =>
      obtain ⟨k', e', q'⟩ := q5
      cases e'
      exact ite_ff ⟨H5, I5, q'⟩
    | true =>
      refine ite_tt (test_last (thn (hd.run pins s5 σ H5 _ I5 q5) fun w6 s6 ⟨z6, H6, I6, r6, q6⟩ => thn (ho'' pins s6 σ H6 z' z6 w' w6 _ I6 r4 r6 q6) fun d s7 ⟨z7, H7, I7, r7, k7, e7, q7⟩ => ?_))
      subst e7
      cases r7
      exact wpAny_truthy_bool ⟨H7, I7, q7⟩
end
section
variable {T : Tb} {cc : CC} {X : Cx} {W : WX} {F : Fr} {e l r c d : Expr} {a b k k2 : E} {pos : Pos}
theorem s_chn3 (o : XOk T cc X W) {op op2 op3 : Cop} (hm : isSet d = false) (ha : PE X l (rd T F W a)) (hb : PE X r (rd T F W b)) (hc : PE X c (rd T F W k)) (hd : PE X d (rd T F W k2)) :
    PE X (.Compare l [copOf op, copOf op2, copOf op3] [r, c, d] pos) (rd T F W (.chn3 op op2 op3 a b k k2)) ∧ PT X (.Compare l [copOf op, copOf op2, copOf op3] [r, c, d] pos) (rdT T F W (.chn3 op op2 op3 a b k k2)) := by
  have key : ∀ σ H Q, rd T F W (.chn3 op op2 op3 a b k k2) σ H Q → tChain3 (rC T.x F op) (rC T.x F op2) (rC T.x F op3) (rd T F W a) (rd T F W b) (rd T F W k) (rd T F W k2) σ H Q := fun σ H Q ⟨s, G, io, t, hp⟩ => ⟨s, G, io, t, by
    refine Post.bnd hp fun d s v H1 G1 io1 sg si t1 r1 hp1 => ⟨s, G1, io1, t1, ?_⟩
    refine Post.bnd hp1 fun d2 s2 v2 H2 G2 io2 sg2 si2 t2 r2 hp2 => ?_
    split at hp2
    · rename_i hcm
      refine ⟨σ, s2, G2, io2, d, d2, true, t2, r1.mono sg2 si2, r2, hcm, true, rfl, iteT ⟨s2, G2, io2, t2, ?_⟩⟩
      refine Post.bnd hp2 fun d3 s3 v3 H3 G3 io3 sg3 si3 t3 r3 hp3 => ?_
      split at hp3
      · rename_i hcm3
        refine ⟨σ, s3, G3, io3, d2, d3, true, t3, r2.mono sg3 si3, r3, hcm3, true, rfl, iteT ⟨s3, G3, io3, t3, ?_⟩⟩
        refine Post.bnd hp3 fun d4 s4 v4 H4 G4 io4 sg4 si4 t4 r4 hp4 => ?_
        cases hc4 : cmpF op3 d3 d4 s4 with
        | none => rw [hc4] at hp4; exact hp4.elim
        | some q =>
          rw [hc4] at hp4
          exact ⟨σ, s4, G4, io4, d3, d4, q, t4, r3.mono sg4 si4, r4, hc4, hp4.v t4 rfl⟩
      · rename_i hcm3
        exact ⟨σ, s3, G3, io3, d2, d3, false, t3, r2.mono sg3 si3, r3, hcm3, false, rfl, iteF (hp3.v t3 rfl)⟩
      · exact hp3.elim
    · rename_i hcm
      exact ⟨σ, s2, G2, io2, d, d2, false, t2, r1.mono sg2 si2, r2, hcm, false, rfl, iteF (hp2.v t2 rfl)⟩
    · exact hp2.elim⟩
  refine ⟨PE.wk (pe_chain3 (cmp_ok (F := F) o.K o.hu op) (cmp_ok (F := F) o.K o.hu op2) (cmp_ok (F := F) o.K o.hu op3) ha hb hc hd (lastMarks_no3 hm)) key, PT.wk (pt_chain3 (cmp_ok (F := F) o.K o.hu op) (cmp_ok (F := F) o.K o.hu op2) (cmp_ok (F := F) o.K o.hu op3) ha hb hc hd (lastMarks_no3 hm)) fun σ H Q hq => ?_⟩
  exact key σ H _ hq
theorem s_aug (o : XOk T cc X W) {i : Nat} {y : Str} {py : Pos} (h : tgt cc i y = true) (ha : PE X e (rd T F W a)) : PS X (.AugAssign (.Name y py) .Add e pos) (rdS T F W (.aug i a)) := by
  obtain ⟨hi, hx, hf⟩ := o.tgt h
  refine PS.wk (ps_aug o.nd hi hx ha ip_add hf) fun D σ H ⟨s, G, io, t, hp⟩ => ?_
  have hp' : PostS T.x F W G io (match s.r[i]? with
    | some (some (.val (.int k))) => bnd (ev T.P T.Gm a s) fun y s2 => match y with
      | .int j => some (.nx, s2.set i (some (.val (.int (k + j)))))
      | _ => none
    | _ => none) D := hp
  split at hp'
  · rename_i k hk
    obtain ⟨v, e1, q⟩ := t.slot i _ hk
    cases (show v = .int k from q)
    refine ⟨.int k, e1, s, G, io, t, ?_⟩
    refine PostS.bnd hp' fun d s2 v H1 G1 io1 sg si t1 r1 hp1 => ?_
    split at hp1
    · rename_i j
      cases (show v = .int j from r1)
      exact ⟨k, j, rfl, rfl, hp1 _ H1 G1 io1 (Same.refl _) (Pre.refl _) (t1.setv rfl)⟩
    · exact hp1.elim
  · exact hp'.elim
end
end En

namespace En
open PySem PySem.Spec L2
inductive Nd where
  | ex (e : Expr) | ands (es : List Expr) | ors (es : List Expr) | args (es : List Expr) | st (s : Stmt) | blk (ss : List Stmt) | itr (tg e : Expr) | part (o : Option Expr) | tg (e : Expr) | lcn (e : Expr) | kws (ks : List Keyword) | jn (es : List Expr)
def ownN (cc : CC) (own : List Nat) : List (Str × Nat) := own.map fun i => (cc.N.getD i "", i)
def isYes : E → Bool
  | .cst (.bl true) => true
  | _ => false
def cstOk : D → Const → Bool
  | .non, .none => true
  | .bl b, .bool c => b == c
  | .int i, .int m => i == m
  | .str x, .str y => decide (x = y)
  | _, _ => false
def copEq (o : Cop) (p : CmpOp) : Bool := decide (copOf o = p)
def lcOk (cc : CC) (y : Str) (py : Pos) : Expr → Bool
  | .ListComp _ _ scope pos => decide (cc.sc.kind = .function) && decide (cc.sc.names.lookup y = some .local) && (py.line == pos.line) && !(scope.names.any fun (n, k) => n == y && (k == .local || k == .cell))
  | _ => false
def isNil : E → Bool
  | .nil => true
  | _ => false
def kwNames : List Keyword → Option (List Str)
  | [] => some []
  | ⟨some m, _, _⟩ :: ks => (kwNames ks).map (m :: ·)
  | _ => none
theorem kwNames_are : ∀ {ks : List Keyword} {ns : List Str}, kwNames ks = some ns → kwAre ns ks = true ∧ ns.length = ks.length
  | [], _, h => by cases h; exact ⟨rfl, rfl⟩
  | ⟨some m, _, _⟩ :: ks, _, h => by
    simp only [kwNames] at h
    obtain ⟨ns, h1, rfl⟩ := Option.map_eq_some_iff.mp h
    obtain ⟨a, b⟩ := kwNames_are h1
    exact ⟨by simp [kwAre, a], by simp [b]⟩
  | ⟨none, _, _⟩ :: _, _, h => by cases h
def chk (nt : NT) : E → CC → Nd → Bool
  | .var i => fun cc n => match n with
    | .ex (.Name y _) => vis cc i y
    | _ => false
  | .mv i => fun cc n => match n with
    | .ex (.Name y _) => vis cc i y
    | _ => false
  | .fz i => fun cc n => match n with
    | .ex (.Name y _) => vis cc i y
    | _ => false
  | .cst d => fun cc n => match n with
    | .ex (.Constant k _ _) => cstOk d k
    | _ => false
  | .gv g => fun cc n => match n with
    | .ex (.Name y _) => glo cc y && decide (nt.gvn g = y) && decide (y ≠ "")
    | _ => false
  | .bop o a b => fun cc n => match n with
    | .ex (.BinOp l p r _) => decide (opOf o = p) && chk nt a cc (.ex l) && chk nt b cc (.ex r)
    | _ => false
  | .neg a => fun cc n => match n with
    | .ex (.UnaryOp .USub l _) => chk nt a cc (.ex l)
    | _ => false
  | .nt a => fun cc n => match n with
    | .ex (.UnaryOp .Not l _) => chk nt a cc (.ex l)
    | _ => false
  | .band a b => fun cc n => match n with
    | .ex (.BoolOp .And (l :: r :: es) _) => chk nt a cc (.ex l) && chk nt b cc (.ands (r :: es))
    | .ands (l :: r :: es) => chk nt a cc (.ex l) && chk nt b cc (.ands (r :: es))
    | _ => false
  | .bor a b => fun cc n => match n with
    | .ex (.BoolOp .Or (l :: r :: es) _) => chk nt a cc (.ex l) && chk nt b cc (.ors (r :: es))
    | .ors (l :: r :: es) => chk nt a cc (.ex l) && chk nt b cc (.ors (r :: es))
    | _ => false
  | .one a => fun cc n => match n with
    | .ands [l] => chk nt a cc (.ex l)
    | .ors [l] => chk nt a cc (.ex l)
    | .part (some e) => !isAbs a && chk nt a cc (.ex e)
    | _ => false
  | .ite k a b => fun cc n => match n with
    | .ex (.IfExp c l r _) => chk nt k cc (.ex c) && chk nt a cc (.ex l) && chk nt b cc (.ex r)
    | _ => false
  | .cmp o a b => fun cc n => match n with
    | .ex (.Compare l [p] [r] _) => copEq o p && !isSet r && chk nt a cc (.ex l) && chk nt b cc (.ex r)
    | _ => false
  | .chn o p a b k => fun cc n => match n with
    | .ex (.Compare l [o', p'] [r, c] _) => copEq o o' && copEq p p' && !isSet c && chk nt a cc (.ex l) && chk nt b cc (.ex r) && chk nt k cc (.ex c)
    | _ => false
  | .chn3 o p q a b k d => fun cc n => match n with
    | .ex (.Compare l [o', p', q'] [r, c, e] _) => copEq o o' && copEq p p' && copEq q q' && !isSet e && chk nt a cc (.ex l) && chk nt b cc (.ex r) && chk nt k cc (.ex c) && chk nt d cc (.ex e)
    | _ => false
  | .cmo o tbl a b => fun cc n => match n with
    | .ex (.Compare l [p] [r] _) => copEq o p && !isSet r && tblOk nt "__eq__" 1 [] tbl && chk nt a cc (.ex l) && chk nt b cc (.ex r)
    | _ => false
  | .isb k a => fun cc n => match n with
    | .ex (.Compare l [.Is] [.Constant (.bool k') _ _] _) => (k == k') && chk nt a cc (.ex l)
    | _ => false
  | .bio k tbl a => fun cc n => match n with
    | .ex (.Call (.Name y _) [e] [] _) => decide (y = biN k) && glo cc y && tblOk nt (bioN k) 0 [] tbl && !isStar e && chk nt a cc (.ex e)
    | _ => false
  | .fmt a => fun cc n => match n with
    | .ex (.FormattedValue e c none _) => decide (c = -1) && chk nt a cc (.ex e)
    | .ex (.Constant (.str z) _ _) => (match a with | .cst (.str y) => decide (y = z) | _ => false)
    | _ => false
  | .fst a => fun cc n => match n with
    | .ex (.JoinedStr (v1 :: v2 :: rest) _) => isJn a && decide (jnN a ≤ 100) && chk nt a cc (.jn (v1 :: v2 :: rest))
    | _ => false
  | .fld a f cs => fun cc n => match n with
    | .ex (.Attribute e m _) => !isSup e && decide (nt.nm f = m) && decide (m ≠ "") && csOk nt f cs && chk nt a cc (.ex e)
    | _ => false
  | .fls a f cs b => fun cc n => match n with
    | .st (.Assign [.Attribute l m _] e _) => decide (nt.nm f = m) && decide (m ≠ "") && csOk nt f cs && chk nt a cc (.ex l) && chk nt b cc (.ex e)
    | _ => false
  | .met tbl b n' a m' ka => fun cc n => match n with
    | .ex (.Call (.Attribute l m apos) es kws pos) => !isSup l && decide (m ≠ "") && !decide (m ∈ nt.fl) && (apos.endLine == pos.line) && decide (es.length + kws.length < 29) && es.all (fun e => !isStar e) && decide (n' = es.length) && decide (m' = kws.length) && (!es.isEmpty || isNil a) &&
        (match kwNames kws with | some kk => tblOk nt m n' kk tbl | none => false) && chk nt b cc (.ex l) && chk nt a cc (.args es) && chk nt ka cc (.kws kws)
    | _ => false
  | .wal => fun cc n => match n with
    | .ex _ => true
    | .st _ => true
    | .blk _ => true
    | _ => false
  | .isn a => fun cc n => match n with
    | .ex (.Compare l [.Is] [.Constant .none _ _] _) => chk nt a cc (.ex l)
    | _ => false
  | .nin a => fun cc n => match n with
    | .ex (.Compare l [.IsNot] [.Constant .none _ _] _) => chk nt a cc (.ex l)
    | _ => false
  | .sl a lo hi => fun cc n => match n with
    | .ex (.Subscript l (.Slice ol oh none _) _) => chk nt a cc (.ex l) && chk nt lo cc (.part ol) && chk nt hi cc (.part oh)
    | _ => false
  | .ix a b => fun cc n => match n with
    | .ex (.Subscript l r _) => !isSl r && chk nt a cc (.ex l) && chk nt b cc (.ex r)
    | _ => false
  | .lst a => fun cc n => match n with
    | .ex (.List es _) => chk nt a cc (.args es)
    | _ => false
  | .tpl a => fun cc n => match n with
    | .ex (.Tuple es _ _) => chk nt a cc (.args es)
    | _ => false
  | .nil => fun cc n => match n with
    | .args [] => true
    | .kws [] => true
    | .jn [] => true
    | _ => false
  | .cns a b => fun cc n => match n with
    | .jn (e :: es) => isFmt a && chk nt a cc (.ex e) && chk nt b cc (.jn es)
    | .args (e :: es) => !isStar e && chk nt a cc (.ex e) && chk nt b cc (.args es)
    | .kws (⟨some _, e, _⟩ :: es) => chk nt a cc (.ex e) && chk nt b cc (.kws es)
    | _ => false
  | .spl a b => fun cc n => match n with
    | .args (.Starred e _ :: es) => chk nt a cc (.ex e) && chk nt b cc (.args es)
    | _ => false
  | .emp => fun cc n => match n with
    | .ex (.Dict [] [] _) => true
    | _ => false
  | .lks _ a => fun cc n => match n with
    | .st st => chk nt a cc (.st st)
    | _ => false
  | .bxe a => fun cc n => match n with
    | .ex e => plainT e && chk nt a cc (.ex e)
    | _ => false
  | .lkp _ a => fun cc n => match n with
    | .ex e => plainT e && chk nt a cc (.ex e)
    | _ => false
  | .con neg tbl a b => fun cc n => match n with
    | .ex (.Compare l [p] [r] _) => decide (conOp neg = p) && !isSet r && tblOk nt "__contains__" 1 [] tbl && chk nt a cc (.ex l) && chk nt b cc (.ex r)
    | _ => false
  | .rev a => fun cc n => match n with
    | .ex (.Subscript e (.Slice none none (some (.UnaryOp .USub (.Constant (.int 1) _ _) _)) _) _) => chk nt a cc (.ex e)
    | _ => false
  | .abs => fun cc n => match n with
    | .part none => true
    | _ => false
  | .bi k a => fun cc n => match n with
    | .ex (.Call (.Name y _) (e :: es) [] _) => decide (y = biN k) && glo cc y && (e :: es).all (fun e => !isStar e) && chk nt a cc (.args (e :: es))
    | _ => false
  | .isi a ts => fun cc n => match n with
    | .ex (.Call (.Name y _) [e, .Name z _] [] _) => decide (y = "isinstance") && glo cc y && !isStar e && (match ts with | [k] => decide (tyC nt k = z) && decide (z ≠ "") && glo cc z | _ => false) && chk nt a cc (.ex e)
    | .ex (.Call (.Name y _) [e, .Tuple es _ _] [] _) => decide (y = "isinstance") && glo cc y && !isStar e && !ts.isEmpty && tysAre nt ts es && (ts.all fun k => glo cc (tyC nt k)) && decide (ts.length ≤ 1000) && chk nt a cc (.ex e)
    | _ => false
  | .cal f a => fun cc n => match n with
    | .ex (.Call (.Name y _) (e :: es) [] _) => decide (nt.fnm f = y) && glo cc y && nt.isF f && (e :: es).all (fun e => !isStar e) && chk nt a cc (.args (e :: es))
    | .ex (.Call (.Name y _) [] [] _) => isNil a && decide (nt.fnm f = y) && glo cc y && nt.isF f
    | _ => false
  | .calk f n' a m' ka => fun cc n => match n with
    | .ex (.Call (.Name y _) es kws _) => decide (nt.fnm f = y) && glo cc y && (nt.isK f || nt.isM f) && es.all (fun e => !isStar e) && decide (es.length = nt.kn f) && decide (n' = nt.kn f) && decide (m' = (nt.kk f).length) && kwAre (nt.kk f) kws && (!es.isEmpty || isNil a) && chk nt a cc (.args es) && chk nt ka cc (.kws kws)
    | _ => false
  | .bm k a as => fun cc n => match n with
    | .ex (.Call (.Attribute oe m apos) [e] [] cpos) => ((decide (k = .join) && decide (m = "join")) || (decide (k = .append) && decide (m = "append")) || (decide (k = .index) && decide (m = "index"))) && !isSup oe && (apos.endLine == cpos.line) && !isStar e && chk nt a cc (.ex oe) && chk nt as cc (.args [e])
    | .ex (.Call (.Attribute oe m apos) [e, e2] [] cpos) => decide (k = .insert) && decide (m = "insert") && !isSup oe && (apos.endLine == cpos.line) && !isStar e && !isStar e2 && chk nt a cc (.ex oe) && chk nt as cc (.args [e, e2])
    | _ => false
  | .lc own tgc it cd el => fun cc n => match n with
    | .ex (.ListComp elt [⟨t, iter, ifs, na⟩] scope _) => decide (na = 0) && blkC cc.N cc.sc scope (ownN cc own) && (tgIx tgc).all (fun j => decide (j ∈ own)) && !isSet iter && chk nt it cc (.itr t iter) && chk nt tgc (cc.blk scope) (.tg t) && (match ifs with | [] => isYes cd | [c] => chk nt cd (cc.blk scope) (.ex c) | _ => false) && chk nt el (cc.blk scope) (.ex elt)
    | .lcn (.ListComp elt [⟨t, iter, ifs, na⟩] scope _) => decide (na = 0) && blkC cc.N cc.sc scope (ownN cc own) && (tgIx tgc).all (fun j => decide (j ∈ own)) && !isSet iter && chk nt it cc (.itr t iter) && chk nt tgc (cc.blk scope) (.tg t) && (match ifs with | [] => isYes cd | [c] => chk nt cd (cc.blk scope) (.ex c) | _ => false) && chk nt el (cc.blk scope) (.ex elt)
    | _ => false
  | .lc2 own vs1 tgc it cd tgc1 it1 cd1 el => fun cc n => match n with
    | .ex (.ListComp elt [⟨t, iter, ifs, na⟩, ⟨t1, iter1, ifs1, na1⟩] scope _) => decide (na = 0) && decide (na1 = 0) && blkC cc.N cc.sc scope (ownN cc own) && (tgIx tgc).all (fun j => decide (j ∈ own)) && (tgIx tgc1).all (fun j => decide (j ∈ vs1)) && vs1.all (fun j => decide (j ∈ own)) && !isSet iter && !isSet iter1 && chk nt it cc (.itr t iter) && chk nt tgc (cc.blk scope) (.tg t) &&
      (match ifs with | [] => isYes cd | [c] => chk nt cd (cc.blk scope) (.ex c) | _ => false) && chk nt it1 (cc.blk scope) (.itr t1 iter1) && chk nt tgc1 (cc.blk scope) (.tg t1) && (match ifs1 with | [] => isYes cd1 | [c] => chk nt cd1 (cc.blk scope) (.ex c) | _ => false) && chk nt el (cc.blk scope) (.ex elt)
    | .lcn (.ListComp elt [⟨t, iter, ifs, na⟩, ⟨t1, iter1, ifs1, na1⟩] scope _) => decide (na = 0) && decide (na1 = 0) && blkC cc.N cc.sc scope (ownN cc own) && (tgIx tgc).all (fun j => decide (j ∈ own)) && (tgIx tgc1).all (fun j => decide (j ∈ vs1)) && vs1.all (fun j => decide (j ∈ own)) && !isSet iter && !isSet iter1 && chk nt it cc (.itr t iter) && chk nt tgc (cc.blk scope) (.tg t) &&
      (match ifs with | [] => isYes cd | [c] => chk nt cd (cc.blk scope) (.ex c) | _ => false) && chk nt it1 (cc.blk scope) (.itr t1 iter1) && chk nt tgc1 (cc.blk scope) (.tg t1) && (match ifs1 with | [] => isYes cd1 | [c] => chk nt cd1 (cc.blk scope) (.ex c) | _ => false) && chk nt el (cc.blk scope) (.ex elt)
    | _ => false
  | .it a => fun cc n => match n with
    | .itr _ e => chk nt a cc (.ex e)
    | _ => false
  | .rng a => fun cc n => match n with
    | .itr _ (.Call (.Name y _) [e] [] _) => decide (y = "range") && glo cc y && !isStar e && chk nt a cc (.ex e)
    | _ => false
  | .rng2 a b => fun cc n => match n with
    | .itr _ (.Call (.Name y _) [l, r] [] _) => decide (y = "range") && glo cc y && !isStar l && !isStar r && chk nt a cc (.ex l) && chk nt b cc (.ex r)
    | _ => false
  | .enm a => fun cc n => match n with
    | .itr (.Tuple _ _ _) (.Call (.Name y _) [e] [] _) => decide (y = "enumerate") && glo cc y && !isStar e && chk nt a cc (.ex e)
    | _ => false
  | .zp a b => fun cc n => match n with
    | .itr (.Tuple _ _ _) (.Call (.Name y _) [l, r] [] _) => decide (y = "zip") && glo cc y && !isStar l && !isStar r && chk nt a cc (.ex l) && chk nt b cc (.ex r)
    | _ => false
  | .tn i => fun cc n => match n with
    | .tg (.Name y _) => tgt cc i y
    | _ => false
  | .tt is => fun cc n => match n with
    | .tg (.Tuple es _ _) => tgtAll cc is es
    | _ => false
  | .skp => fun cc n => match n with
    | .st (.Pass _) => true
    | .blk [] => true
    | _ => false
  | .seq a b => fun cc n => match n with
    | .blk (s :: ss) => chk nt a cc (.st s) && chk nt b cc (.blk ss)
    | _ => false
  | .ret a => fun cc n => match n with
    | .st (.Return (some e) _) => chk nt a cc (.ex e)
    | _ => false
  | .rtn => fun cc n => match n with
    | .st (.Return none _) => true
    | _ => false
  | .iff k a b => fun cc n => match n with
    | .st (.If c xs ys _) => chk nt k cc (.ex c) && chk nt a cc (.blk xs) && chk nt b cc (.blk ys)
    | _ => false
  | .frr tgc it b => fun cc n => match n with
    | .st (.For t iter body [] _) => !isSet iter && chk nt it cc (.itr t iter) && chk nt tgc cc (.tg t) && chk nt b cc (.blk body)
    | _ => false
  | .whl k b => fun cc n => match n with
    | .st (.While c body [] _) => chk nt k cc (.ex c) && chk nt b cc (.blk body)
    | _ => false
  | .exp a => fun cc n => match n with
    | .st (.Expr e _) => !isComp e && chk nt a cc (.ex e)
    | _ => false
  | .whs i wc => fun cc n => match n with
    | .ex (.Call (.Name g _) [.Name y _] [] _) => cc.lam && decide (nt.wc = some wc) && decide (g = "_law_whys") && glo cc g && vis cc i y
    | _ => false
  | .wh1 j is wc => fun cc n => match n with
    | .ex (.Call (.Name g _) [.Lambda params body scope lpos] [] _) => cc.lam && decide (nt.wc1 = some wc) && decide (g = "_law_why") && glo cc g && lmsB nt cc [.Lambda params body scope lpos] [(j, is)]
    | _ => false
  | .lma i ks => fun cc n => match n with
    | .st (.Assign [.Name y _] (.List es _) _) => cc.lam && decide (ks.length ≤ 1000) && tgt cc i y && lmsB nt cc es ks
    | _ => false
  | .lmb i ks => fun cc n => match n with
    | .st (.Assign [.Name y _] (.BinOp (.Name y2 _) .Add (.List es _) _) _) => cc.lam && decide (ks.length ≤ 1000) && decide (y2 = y) && tgt cc i y && vis cc i y && lmsB nt cc es ks
    | _ => false
  | .rse c k ns vs a => fun cc n => match n with
    | .st (.Raise (some (.Call (.Name x _) es [] _)) none _) => decide (nt.xq x k = some (c, ns, vs)) && glo cc x && es.all (fun e => !isStar e) && (!es.isEmpty || isNil a) && chk nt a cc (.args es)
    | _ => false
  | .apo i a => fun cc n => match n with
    | .st (.Expr (.Call (.Attribute (.Name y _) m ap) [e] [] cp) _) => decide (m = "append") && vis cc i y && (ap.endLine == cp.line) && !isStar e && chk nt a cc (.ex e)
    | _ => false
  | .asg i a => fun cc n => match n with
    | .st (.Assign [.Name y py] e sp) => tgt cc i y && (((!isComp e || !decide (cc.sc.names.lookup y = some .local)) && chk nt a cc (.ex e)) || lcOk cc y py e && chk nt a cc (.lcn e))
    | _ => false
  | .aug i a => fun cc n => match n with
    | .st (.AugAssign (.Name y _) .Add e _) => tgt cc i y && chk nt a cc (.ex e)
    | _ => false
  | .aso i a => fun cc n => match n with
    | .st (.Assign [.Name y py] e sp) => tgt cc i y && (((!isComp e || !decide (cc.sc.names.lookup y = some .local)) && chk nt a cc (.ex e)) || lcOk cc y py e && chk nt a cc (.lcn e))
    | _ => false
  | .asb i a => fun cc n => match n with
    | .st (.Assign [.Name y py] e sp) => tgt cc i y && (((!isComp e || !decide (cc.sc.names.lookup y = some .local)) && chk nt a cc (.ex e)) || lcOk cc y py e && chk nt a cc (.lcn e))
    | _ => false
  | .ast tgc a => fun cc n => match n with
    | .st (.Assign [.Tuple ts k p] e _) => !isComp e && swNo cc.sc ts e && chk nt tgc cc (.tg (.Tuple ts k p)) && chk nt a cc (.ex e)
    | _ => false
  | .par i j a b => fun cc n => match n with
    | .st (.Assign [.Tuple [.Name x px, .Name y py] _ _] (.Tuple [l, r] _ _) _) => decide (cc.N[i]? = some x) && decide (cc.N[j]? = some y) && decide (cc.sc.kind = .function) && decide (cc.sc.names.lookup x = some .local) && decide (cc.sc.names.lookup y = some .local) && !decide (x = y) && (py.line == px.line) && !isStar l && !isStar r && ([l, r].all (foldedForSure 8) == false) && ([l, r].all (constantsAlone 8) == false) && chk nt a cc (.ex l) && chk nt b cc (.ex r)
    | _ => false
  | .sit a k b => fun cc n => match n with
    | .st (.Assign [.Subscript l r _] e _) => !isSl r && chk nt a cc (.ex l) && chk nt k cc (.ex r) && chk nt b cc (.ex e)
    | _ => false
  | _ => fun _ _ => false
end En

namespace En
open PySem PySem.Spec L2
theorem pt_ifExp {X : Cx} {c a b : Expr} {pos : Pos} {tA ta tb : TT} (hc : PT X c tA) (ha : PT X a ta) (hb : PT X b tb) : PT X (.IfExp c a b pos) (fun σ H Q => tA σ H fun k H1 => if k = true then ta σ H1 Q else tb σ H1 Q) := by
  refine ⟨fun pins s σ H Q I h => ?_⟩
  show wpAny _ _ (do if ← isTrue c X.env (eval c X.env) then isTrue a X.env (eval a X.env) else isTrue b X.env (eval b X.env)) _ _ s
  refine wpAny_bind (thn (hc.run pins s σ H _ I h) fun d s1 ⟨H1, I1, q1⟩ => ?_)
  cases d with
  | true => exact ha.run pins s1 σ H1 Q I1 q1
  | false => exact hb.run pins s1 σ H1 Q I1 q1
def LcD (T : Tb) (cc : CC) (X : Cx) (W : WX) (c : E) (e : Expr) : Prop :=
  ∃ elt tg iter ifs scope pos own tgc it cd el, e = .ListComp elt [⟨tg, iter, ifs, 0⟩] scope pos ∧ c = .lc ((ownN cc own).map (·.2)) tgc it cd el ∧ BlkOk X.N X.env.scope scope (ownN cc own) ∧ (∀ j ∈ tgIx tgc, j ∈ (ownN cc own).map (·.2)) ∧
    (∀ F, PI X tg iter (rdI T F W it)) ∧ isSet iter = false ∧ (∀ (X' : Cx), XOk T (cc.blk scope) X' W0 → ∀ F, PG X' tg (rdG T F tgc)) ∧ (∀ (X' : Cx), XOk T (cc.blk scope) X' W0 → PTs X' ifs (rdTF T W0 cd)) ∧
    (∀ (X' : Cx), XOk T (cc.blk scope) X' W0 → ∀ F, PE X' elt (rd T F W0 el))
structure LcN (T : Tb) (cc : CC) (X : Cx) (W : WX) (c : E) (e : Expr) : Prop where
  pe : ∀ F, PE X e (rd T F W c)
  asn : ∀ {S : E} {i : Nat} {y : Str} {py spos : Pos} {F : Fr}, (∀ D σ H, rdS T F W S D σ H → rd T F W c σ H (fun v H1 => D.nx (σ.set i (some v)) H1)) → tgt cc i y = true → lcOk cc y py e = true → PS X (.Assign [.Name y py] e spos) (rdS T F W S)
def Den (T : Tb) (cc : CC) (X : Cx) (W : WX) (c : E) : Nd → Prop
  | .ex e => ∀ F, PE X e (rd T F W c) ∧ PT X e (rdT T F W c)
  | .ands es => ∀ F p, PE X (.BoolOp .And es p) (rd T F W c) ∧ PW X (.BoolOp .And es p) (rdT T F W c)
  | .ors es => ∀ F p, PE X (.BoolOp .Or es p) (rd T F W c) ∧ PW X (.BoolOp .Or es p) (rdT T F W c)
  | .args es => ∀ F, PA X es (rdA T F W c)
  | .st s => ∀ F, PS X s (rdS T F W c)
  | .blk ss => ∀ F, PSs X ss (rdS T F W c)
  | .itr tg e => ∀ F, PI X tg e (rdI T F W c)
  | .part o => ∀ F, PO X o (rdO T F W c)
  | .tg e => ∀ F, PG X e (rdG T F c)
  | .lcn e => LcN T cc X W c e
  | .kws ks => ∀ F, PK X ks (rdA T F W c)
  | .jn es => ∀ F, PJ X es (tsOf T F W c)
theorem plain_den {T : Tb} {cc : CC} {X : Cx} {W : WX} {c : E} {e : Expr} (h : ∀ F, PE X e (rd T F W c)) (hp : plainT e = true) : Den T cc X W c (.ex e) := fun F => ⟨h F, t_plain (h F) hp⟩
theorem rdT_ite {T : Tb} {W : WX} {F : Fr} {k a b : E} {σ : L2.St} {H : Hp} {Q : Bool → Hp → Prop} (hq : rdT T F W (.ite k a b) σ H Q) : rdT T F W k σ H fun q H1 => if q = true then rdT T F W a σ H1 Q else rdT T F W b σ H1 Q := by
  obtain ⟨s, G, io, t, hp⟩ := hq
  refine ⟨s, G, io, t, ?_⟩
  refine Post.bnd hp fun d s v H1 G1 io1 sg si t1 r1 hp1 => ?_
  split at hp1
  · rename_i k
    refine ⟨k, r1, ?_⟩
    cases k with
    | true => exact iteT ⟨s, G1, io1, t1, hp1⟩
    | false => exact iteF ⟨s, G1, io1, t1, hp1⟩
  · exact hp1.elim
theorem isYes_eq {c : E} (h : isYes c = true) : c = .cst (.bl true) := by
  unfold isYes at h
  split at h
  · rfl
  · cases h
theorem ownN_map (cc : CC) (own : List Nat) : (ownN cc own).map (·.2) = own := by
  unfold ownN
  rw [List.map_map]
  exact List.map_id' _
theorem LcD.pe {T : Tb} {cc : CC} {X : Cx} {W : WX} {c : E} {e : Expr} (o : XOk T cc X W) (h : LcD T cc X W c e) : ∀ F, PE X e (rd T F W c) := fun F => by
  obtain ⟨elt, tg, iter, ifs, scope, pos, own, tgc, it, cd, el, rfl, rfl, h1, h2, h3, h4, h5, h6, h7⟩ := h
  exact s_lc o h1 h2 (h3 F) h4 h5 h6 h7
theorem LcD.asn {T : Tb} {cc : CC} {X : Cx} {W : WX} {c S : E} {e : Expr} {i : Nat} {y : Str} {py spos : Pos} {F : Fr} (o : XOk T cc X W) (h : LcD T cc X W c e) (hS : ∀ D σ H, rdS T F W S D σ H → rd T F W c σ H (fun v H1 => D.nx (σ.set i (some v)) H1)) (ht : tgt cc i y = true) (hl : lcOk cc y py e = true) :
    PS X (.Assign [.Name y py] e spos) (rdS T F W S) := by
  obtain ⟨elt, tg, iter, ifs, scope, pos, own, tgc, it, cd, el, rfl, rfl, h1, h2, h3, h4, h5, h6, h7⟩ := h
  simp only [lcOk, Bool.and_eq_true, decide_eq_true_eq, Bool.not_eq_true'] at hl
  obtain ⟨⟨⟨l1, l2⟩, l3⟩, l4⟩ := hl
  exact s_asnLc o h1 h2 (h3 F) h4 h5 h6 h7 hS ht l1 l2 l3 l4
theorem LcD.n {T : Tb} {cc : CC} {X : Cx} {W : WX} {c : E} {e : Expr} (o : XOk T cc X W) (h : LcD T cc X W c e) : LcN T cc X W c e := ⟨h.pe o, fun hS ht hl => h.asn o hS ht hl⟩
theorem asn_den {T : Tb} {cc : CC} {X : Cx} {W : WX} {a S : E} {e : Expr} {i : Nat} {y : Str} {py spos : Pos} (o : XOk T cc X W) (hS : ∀ F D σ H, rdS T F W S D σ H → rd T F W a σ H (fun v H1 => D.nx (σ.set i (some v)) H1))
    (h : (tgt cc i y && (((!isComp e || !decide (cc.sc.names.lookup y = some .local)) && chk T.nt a cc (.ex e)) || lcOk cc y py e && chk T.nt a cc (.lcn e))) = true) (ih : ∀ n, chk T.nt a cc n = true → Den T cc X W a n) :
    Den T cc X W S (.st (.Assign [.Name y py] e spos)) := fun F => by
  rw [Bool.and_eq_true, Bool.or_eq_true, Bool.and_eq_true, Bool.and_eq_true, Bool.or_eq_true] at h
  obtain ⟨ht, h | h⟩ := h
  · obtain ⟨h1, h2⟩ := h
    refine s_asn o (hS F) ht ?_ (ih _ h2 F).1
    rcases h1 with h1 | h1
    · exact .inl (by simpa using h1)
    · exact .inr (by simpa using h1)
  · exact (ih _ h.2).asn (hS F) ht h.1
theorem lc_den {T : Tb} {cc : CC} {X : Cx} {W : WX} {own : List Nat} {tgc it cd el : E} {elt tg iter : Expr} {ifs : List Expr} {na : Int} {scope : Scope} {pos : Pos} (t : TOk T) (o : XOk T cc X W)
    (h : (decide (na = 0) && blkC cc.N cc.sc scope (ownN cc own) && (tgIx tgc).all (fun j => decide (j ∈ own)) && !isSet iter && chk T.nt it cc (.itr tg iter) && chk T.nt tgc (cc.blk scope) (.tg tg) &&
      (match ifs with | [] => isYes cd | [c] => chk T.nt cd (cc.blk scope) (.ex c) | _ => false) && chk T.nt el (cc.blk scope) (.ex elt)) = true)
    (ih1 : ∀ n, chk T.nt it cc n = true → Den T cc X W it n) (ih2 : ∀ X' n, XOk T (cc.blk scope) X' W0 → chk T.nt tgc (cc.blk scope) n = true → Den T (cc.blk scope) X' W0 tgc n)
    (ih3 : ∀ X' n, XOk T (cc.blk scope) X' W0 → chk T.nt cd (cc.blk scope) n = true → Den T (cc.blk scope) X' W0 cd n) (ih4 : ∀ X' n, XOk T (cc.blk scope) X' W0 → chk T.nt el (cc.blk scope) n = true → Den T (cc.blk scope) X' W0 el n) :
    LcD T cc X W (.lc own tgc it cd el) (.ListComp elt [⟨tg, iter, ifs, na⟩] scope pos) := by
  simp only [Bool.and_eq_true, decide_eq_true_eq, List.all_eq_true, Bool.not_eq_true'] at h
  obtain ⟨⟨⟨⟨⟨⟨⟨h1, h2⟩, h3⟩, h4⟩, h5⟩, h6⟩, h7⟩, h8⟩ := h
  subst h1
  refine ⟨elt, tg, iter, ifs, scope, pos, own, tgc, it, cd, el, rfl, by rw [ownN_map], ?_, by rw [ownN_map]; exact h3, ih1 _ h5, h4, fun X' o' => ih2 X' _ o' h6, fun X' o' => ?_, fun X' o' F => (ih4 X' _ o' h8 F).1⟩
  · rw [o.N, o.sc]
    exact blkOk_by h2
  · cases ifs with
    | nil => exact PTs.yes (isYes_eq h7)
    | cons c cs =>
      cases cs with
      | nil =>
        have d := ih3 X' _ o' h7
        exact pts_one (PT.exF fun F => (d F).2)
      | cons _ _ => cases h7
theorem ifs_den {T : Tb} {cc : CC} {cd : E} {ifs : List Expr} (h7 : (match ifs with | [] => isYes cd | [c] => chk T.nt cd cc (.ex c) | _ => false) = true) (ih3 : ∀ X' n, XOk T cc X' W0 → chk T.nt cd cc n = true → Den T cc X' W0 cd n) (X' : Cx) (o' : XOk T cc X' W0) : PTs X' ifs (rdTF T W0 cd) := by
  cases ifs with
  | nil => exact PTs.yes (isYes_eq h7)
  | cons c cs =>
    cases cs with
    | nil =>
      have d := ih3 X' _ o' h7
      exact pts_one (PT.exF fun F => (d F).2)
    | cons _ _ => cases h7
theorem lc2_den {T : Tb} {cc : CC} {X : Cx} {W : WX} {own vs1 : List Nat} {tgc it cd tgc1 it1 cd1 el : E} {elt tg iter tg1 iter1 : Expr} {ifs ifs1 : List Expr} {na na1 : Int} {scope : Scope} {pos : Pos} (t : TOk T) (o : XOk T cc X W)
    (h : (decide (na = 0) && decide (na1 = 0) && blkC cc.N cc.sc scope (ownN cc own) && (tgIx tgc).all (fun j => decide (j ∈ own)) && (tgIx tgc1).all (fun j => decide (j ∈ vs1)) && vs1.all (fun j => decide (j ∈ own)) && !isSet iter && !isSet iter1 && chk T.nt it cc (.itr tg iter) && chk T.nt tgc (cc.blk scope) (.tg tg) &&
      (match ifs with | [] => isYes cd | [c] => chk T.nt cd (cc.blk scope) (.ex c) | _ => false) && chk T.nt it1 (cc.blk scope) (.itr tg1 iter1) && chk T.nt tgc1 (cc.blk scope) (.tg tg1) && (match ifs1 with | [] => isYes cd1 | [c] => chk T.nt cd1 (cc.blk scope) (.ex c) | _ => false) && chk T.nt el (cc.blk scope) (.ex elt)) = true)
    (ih1 : ∀ n, chk T.nt it cc n = true → Den T cc X W it n) (ih2 : ∀ X' n, XOk T (cc.blk scope) X' W0 → chk T.nt tgc (cc.blk scope) n = true → Den T (cc.blk scope) X' W0 tgc n)
    (ih3 : ∀ X' n, XOk T (cc.blk scope) X' W0 → chk T.nt cd (cc.blk scope) n = true → Den T (cc.blk scope) X' W0 cd n) (ih5 : ∀ X' n, XOk T (cc.blk scope) X' W0 → chk T.nt it1 (cc.blk scope) n = true → Den T (cc.blk scope) X' W0 it1 n)
    (ih6 : ∀ X' n, XOk T (cc.blk scope) X' W0 → chk T.nt tgc1 (cc.blk scope) n = true → Den T (cc.blk scope) X' W0 tgc1 n) (ih7 : ∀ X' n, XOk T (cc.blk scope) X' W0 → chk T.nt cd1 (cc.blk scope) n = true → Den T (cc.blk scope) X' W0 cd1 n)
    (ih4 : ∀ X' n, XOk T (cc.blk scope) X' W0 → chk T.nt el (cc.blk scope) n = true → Den T (cc.blk scope) X' W0 el n) :
    LcN T cc X W (.lc2 own vs1 tgc it cd tgc1 it1 cd1 el) (.ListComp elt [⟨tg, iter, ifs, na⟩, ⟨tg1, iter1, ifs1, na1⟩] scope pos) := by
  simp only [Bool.and_eq_true, decide_eq_true_eq, List.all_eq_true, Bool.not_eq_true'] at h
  obtain ⟨⟨⟨⟨⟨⟨⟨⟨⟨⟨⟨⟨⟨⟨h1, h2⟩, h3⟩, h4⟩, h5⟩, h6⟩, h7⟩, h8⟩, h9⟩, h10⟩, h11⟩, h12⟩, h13⟩, h14⟩, h15⟩ := h
  subst h1 h2
  have hb : BlkOk X.N X.env.scope scope (ownN cc own) := by
    rw [o.N, o.sc]
    exact blkOk_by h3
  have em := ownN_map cc own
  refine ⟨fun F => ?_, fun {S i y py spos F} hS ht hl => ?_⟩
  · have q := s_lc2 (pos := pos) (W := W) (F := F) (own := ownN cc own) (vs1 := vs1) o hb (by rw [em]; exact h4) h5 (by rw [em]; exact h6) (ih1 _ h9 F) h7 h8 (fun X' o' => ih2 X' _ o' h10) (ifs_den h11 ih3) (fun X' o' => ih5 X' _ o' h12) (fun X' o' => ih6 X' _ o' h13) (ifs_den h14 ih7) (fun X' o' F => (ih4 X' _ o' h15 F).1)
    rw [em] at q
    exact q
  · simp only [lcOk, Bool.and_eq_true, decide_eq_true_eq, Bool.not_eq_true'] at hl
    obtain ⟨⟨⟨l1, l2⟩, l3⟩, l4⟩ := hl
    exact s_asnLc2 (own := ownN cc own) (vs1 := vs1) o hb (by rw [em]; exact h4) h5 (by rw [em]; exact h6) (ih1 _ h9 F) h7 h8 (fun X' o' => ih2 X' _ o' h10) (ifs_den h11 ih3) (fun X' o' => ih5 X' _ o' h12) (fun X' o' => ih6 X' _ o' h13) (ifs_den h14 ih7) (fun X' o' F => (ih4 X' _ o' h15 F).1) (by rw [em]; exact hS) ht l1 l2 l3 l4
theorem snd {T : Tb} : ∀ (c : E) (cc : CC) (X : Cx) (W : WX) (n : Nd), TOk T → XOk T cc X W → chk T.nt c cc n = true → Den T cc X W c n
  | .var i, cc, X, W, n, t, o, h => by
    simp only [chk] at h
    split at h
    · exact plain_den (fun F => s_var o h) rfl
    · cases h
  | .mv i, cc, X, W, n, t, o, h => by
    simp only [chk] at h
    split at h
    · exact plain_den (fun F => s_mv o h) rfl
    · cases h
  | .fz i, cc, X, W, n, t, o, h => by
    simp only [chk] at h
    split at h
    · exact plain_den (fun F => s_fz o h) rfl
    · cases h
  | .cst d, cc, X, W, n, t, o, h => by
    simp only [chk] at h
    split at h
    · exact plain_den (fun F => s_cst h) rfl
    · cases h
  | .gv g, cc, X, W, n, t, o, h => by
    simp only [chk] at h
    split at h
    · simp only [Bool.and_eq_true, decide_eq_true_eq] at h
      exact plain_den (fun F => s_gv o t h.1.1 h.1.2 h.2) rfl
    · cases h
  | .one a, cc, X, W, n, t, o, h => by
    simp only [chk] at h
    split at h
    · have d := snd a cc X W _ t o h
      exact fun F p => ⟨s_one (d F).1, w_one_and (d F).2⟩
    · have d := snd a cc X W _ t o h
      exact fun F p => ⟨s_one (d F).1, w_one_or (d F).2⟩
    · simp only [Bool.and_eq_true, Bool.not_eq_true'] at h
      have d := snd a cc X W _ t o h.2
      intro F
      exact o_some (a := .one a) (d F).1 rfl
    · cases h
  | .bop op a b, cc, X, W, n, t, o, h => by
    simp only [chk] at h
    split at h
    · simp only [Bool.and_eq_true, decide_eq_true_eq] at h
      obtain ⟨⟨h1, h2⟩, h3⟩ := h
      subst h1
      have d1 := snd a cc X W _ t o h2
      have d2 := snd b cc X W _ t o h3
      exact plain_den (fun F => s_bop o (d1 F).1 (d2 F).1) rfl
    · cases h
  | .neg a, cc, X, W, n, t, o, h => by
    simp only [chk] at h
    split at h
    · have d := snd a cc X W _ t o h
      exact plain_den (fun F => s_neg o (d F).1) rfl
    · cases h
  | .nt a, cc, X, W, n, t, o, h => by
    simp only [chk] at h
    split at h
    · have d := snd a cc X W _ t o h
      exact fun F => ⟨s_nt (d F).1, t_nt (d F).2⟩
    · cases h
  | .band a b, cc, X, W, n, t, o, h => by
    simp only [chk] at h
    split at h
    · rw [Bool.and_eq_true] at h
      have d1 := snd a cc X W _ t o h.1
      have d2 := snd b cc X W _ t o h.2
      exact fun F => ⟨s_band (d1 F).1 (d2 F _).1, (w_band (d1 F).2 (d2 F _).2).pt⟩
    · rw [Bool.and_eq_true] at h
      have d1 := snd a cc X W _ t o h.1
      have d2 := snd b cc X W _ t o h.2
      exact fun F p => ⟨s_band (d1 F).1 (d2 F p).1, w_band (d1 F).2 (d2 F p).2⟩
    · cases h
  | .bor a b, cc, X, W, n, t, o, h => by
    simp only [chk] at h
    split at h
    · rw [Bool.and_eq_true] at h
      have d1 := snd a cc X W _ t o h.1
      have d2 := snd b cc X W _ t o h.2
      exact fun F => ⟨s_bor (d1 F).1 (d2 F _).1, (w_bor (d1 F).2 (d2 F _).2).pt⟩
    · rw [Bool.and_eq_true] at h
      have d1 := snd a cc X W _ t o h.1
      have d2 := snd b cc X W _ t o h.2
      exact fun F p => ⟨s_bor (d1 F).1 (d2 F p).1, w_bor (d1 F).2 (d2 F p).2⟩
    · cases h
  | .ite k a b, cc, X, W, n, t, o, h => by
    simp only [chk] at h
    split at h
    · simp only [Bool.and_eq_true] at h
      have d0 := snd k cc X W _ t o h.1.1
      have d1 := snd a cc X W _ t o h.1.2
      have d2 := snd b cc X W _ t o h.2
      exact fun F => ⟨s_ite (d0 F).2 (d1 F).1 (d2 F).1, PT.wk (pt_ifExp (d0 F).2 (d1 F).2 (d2 F).2) fun σ H Q hq => rdT_ite hq⟩
    · cases h
  | .cmp op a b, cc, X, W, n, t, o, h => by
    simp only [chk] at h
    split at h
    · simp only [Bool.and_eq_true, copEq, decide_eq_true_eq, Bool.not_eq_true'] at h
      obtain ⟨⟨⟨h1, h2⟩, h3⟩, h4⟩ := h
      subst h1
      have d1 := snd a cc X W _ t o h3
      have d2 := snd b cc X W _ t o h4
      exact fun F => ⟨s_cmp o h2 (d1 F).1 (d2 F).1, t_cmp o h2 (d1 F).1 (d2 F).1⟩
    · cases h
  | .chn p q a b k, cc, X, W, n, t, o, h => by
    simp only [chk] at h
    split at h
    · simp only [Bool.and_eq_true, copEq, decide_eq_true_eq, Bool.not_eq_true'] at h
      obtain ⟨⟨⟨⟨⟨h1, h2⟩, h3⟩, h4⟩, h5⟩, h6⟩ := h
      subst h1 h2
      have d1 := snd a cc X W _ t o h4
      have d2 := snd b cc X W _ t o h5
      have d3 := snd k cc X W _ t o h6
      exact fun F => s_chn o h3 (d1 F).1 (d2 F).1 (d3 F).1
    · cases h
  | .chn3 p q q3 a b k d, cc, X, W, n, t, o, h => by
    simp only [chk] at h
    split at h
    · simp only [Bool.and_eq_true, copEq, decide_eq_true_eq, Bool.not_eq_true'] at h
      obtain ⟨⟨⟨⟨⟨⟨⟨h1, h2⟩, h7⟩, h3⟩, h4⟩, h5⟩, h6⟩, h8⟩ := h
      subst h1 h2 h7
      have d1 := snd a cc X W _ t o h4
      have d2 := snd b cc X W _ t o h5
      have d3 := snd k cc X W _ t o h6
      have d4 := snd d cc X W _ t o h8
      exact fun F => s_chn3 o h3 (d1 F).1 (d2 F).1 (d3 F).1 (d4 F).1
    · cases h
  | .isn a, cc, X, W, n, t, o, h => by
    simp only [chk] at h
    split at h
    · have d := snd a cc X W _ t o h
      exact fun F => s_isn2 (d F).1
    · cases h
  | .nin a, cc, X, W, n, t, o, h => by
    simp only [chk] at h
    split at h
    · have d := snd a cc X W _ t o h
      exact fun F => s_nin2 (d F).1
    · cases h
  | .ix a b, cc, X, W, n, t, o, h => by
    simp only [chk] at h
    split at h
    · simp only [Bool.and_eq_true, Bool.not_eq_true'] at h
      have d1 := snd a cc X W _ t o h.1.2
      have d2 := snd b cc X W _ t o h.2
      exact plain_den (fun F => s_ix o (ix_plain h.1.1) (d1 F).1 (d2 F).1) rfl
    · cases h
  | .sl a lo hi, cc, X, W, n, t, o, h => by
    simp only [chk] at h
    split at h
    · simp only [Bool.and_eq_true] at h
      have d1 := snd a cc X W _ t o h.1.1
      have d2 := snd lo cc X W _ t o h.1.2
      have d3 := snd hi cc X W _ t o h.2
      exact plain_den (fun F => s_sl o (d1 F).1 (d2 F) (d3 F)) rfl
    · cases h
  | .fld a f cs, cc, X, W, n, t, o, h => by
    simp only [chk] at h
    split at h
    · simp only [Bool.and_eq_true, decide_eq_true_eq, Bool.not_eq_true'] at h
      obtain ⟨⟨⟨⟨h1, h2⟩, h3⟩, h4⟩, h5⟩ := h
      subst h2
      have d := snd a cc X W _ t o h5
      exact plain_den (fun F => s_fld o t h1 h3 h4 (d F).1) rfl
    · cases h
  | .fls a f cs b, cc, X, W, n, t, o, h => by
    simp only [chk] at h
    split at h
    · simp only [Bool.and_eq_true, decide_eq_true_eq, Bool.not_eq_true'] at h
      obtain ⟨⟨⟨⟨h1, h2⟩, h3⟩, h5⟩, h6⟩ := h
      subst h1
      have d1 := snd a cc X W _ t o h5
      have d2 := snd b cc X W _ t o h6
      exact fun F => s_fls o t h2 h3 (d1 F).1 (d2 F).1
    · cases h
  | .cmo op tbl a b, cc, X, W, n, t, o, h => by
    simp only [chk] at h
    split at h
    · simp only [Bool.and_eq_true, copEq, decide_eq_true_eq, Bool.not_eq_true'] at h
      obtain ⟨⟨⟨⟨h1, h2⟩, h3⟩, h4⟩, h5⟩ := h
      subst h1
      have d1 := snd a cc X W _ t o h4
      have d2 := snd b cc X W _ t o h5
      exact fun F => s_cmo o t h3 h2 (d1 F).1 (d2 F).1
    · cases h
  | .isb k a, cc, X, W, n, t, o, h => by
    simp only [chk] at h
    split at h
    · simp only [Bool.and_eq_true, beq_iff_eq] at h
      obtain ⟨h1, h2⟩ := h
      subst h1
      have d := snd a cc X W _ t o h2
      exact fun F => s_isb (d F).1
    · cases h
  | .bio k tbl a, cc, X, W, n, t, o, h => by
    simp only [chk] at h
    split at h
    · simp only [Bool.and_eq_true, decide_eq_true_eq, Bool.not_eq_true'] at h
      obtain ⟨⟨⟨⟨h1, h2⟩, h3⟩, h4⟩, h5⟩ := h
      subst h1
      have d := snd a cc X W _ t o h5
      exact plain_den (fun F => s_bio o t h3 h2 h4 (d F).1) rfl
    · cases h
  | .fmt a, cc, X, W, n, t, o, h => by
    simp only [chk] at h
    split at h
    · simp only [Bool.and_eq_true, decide_eq_true_eq] at h
      obtain ⟨h1, h2⟩ := h
      subst h1
      have d := snd a cc X W _ t o h2
      exact plain_den (fun F => s_fmt (d F).1) rfl
    · split at h
      · have e := of_decide_eq_true h
        subst e
        exact plain_den (fun F => s_fmtc (s_cst (by simp))) rfl
      · cases h
    · cases h
  | .fst a, cc, X, W, n, t, o, h => by
    simp only [chk] at h
    split at h
    · simp only [Bool.and_eq_true, decide_eq_true_eq] at h
      obtain ⟨⟨h1, h2⟩, h3⟩ := h
      have d := snd a cc X W _ t o h3
      exact plain_den (fun F => s_fst h1 h2 (d F)) rfl
    · cases h
  | .wal, cc, X, W, n, t, o, h => by
    simp only [chk] at h
    split at h
    · exact fun F => s_wal
    · exact fun F => s_wals
    · exact fun F => s_walb
    · cases h
  | .cal f a, cc, X, W, n, t, o, h => by
    simp only [chk] at h
    split at h
    · simp only [Bool.and_eq_true, decide_eq_true_eq] at h
      obtain ⟨⟨⟨⟨h1, h2⟩, h3⟩, h4⟩, h5⟩ := h
      subst h1
      have d := snd a cc X W _ t o h5
      exact plain_den (fun F => s_cal o t h2 h3 rfl h4 (d F)) rfl
    · simp only [Bool.and_eq_true, decide_eq_true_eq] at h
      obtain ⟨⟨⟨h0, h1⟩, h2⟩, h3⟩ := h
      subst h1
      have e : a = .nil := by
        cases a <;> first | rfl | cases h0
      subst e
      exact plain_den (fun F => s_cal0 o t h2 h3) rfl
    · cases h
  | .met tbl b n' a m' ka, cc, X, W, n, t, o, h => by
    simp only [chk] at h
    split at h
    · rename_i l m apos es kws pos
      simp only [Bool.and_eq_true, decide_eq_true_eq, Bool.not_eq_true', decide_eq_false_iff_not] at h
      obtain ⟨⟨⟨⟨⟨⟨⟨⟨⟨⟨⟨⟨h1, h2⟩, h3⟩, h4⟩, h5⟩, h6⟩, h7⟩, h8⟩, h9⟩, h10⟩, h11⟩, h12⟩, h13⟩ := h
      have d0 := snd b cc X W _ t o h11
      have d1 := snd a cc X W _ t o h12
      have d2 := snd ka cc X W _ t o h13
      have hz : es = [] → a = .nil := fun z => by
        subst z
        cases a <;> first | rfl | cases h9
      split at h10
      · rename_i kk hk
        obtain ⟨q1, q2⟩ := kwNames_are hk
        exact plain_den (fun F => s_met o t h1 h2 h3 h4 h5 h6 (h8.trans q2.symm) h10 q1 hz (d0 F).1 (d1 F) (d2 F)) rfl
      · cases h10
    · cases h
  | .bi k a, cc, X, W, n, t, o, h => by
    simp only [chk] at h
    split at h
    · simp only [Bool.and_eq_true, decide_eq_true_eq] at h
      obtain ⟨⟨⟨h1, h2⟩, h3⟩, h4⟩ := h
      subst h1
      have d := snd a cc X W _ t o h4
      exact plain_den (fun F => s_bi o t h2 h3 (d F)) rfl
    · cases h
  | .calk f n' a m' ka, cc, X, W, n, t, o, h => by
    simp only [chk] at h
    split at h
    · rename_i y p es kws pos
      simp only [Bool.and_eq_true, decide_eq_true_eq] at h
      obtain ⟨⟨⟨⟨⟨⟨⟨⟨⟨⟨h1, h2⟩, h3⟩, h4⟩, h5⟩, h6⟩, h7⟩, h8⟩, h9⟩, h10⟩, h11⟩ := h
      subst h1
      have d1 := snd a cc X W _ t o h10
      have d2 := snd ka cc X W _ t o h11
      have hz : es = [] → a = .nil := fun z => by
        subst z
        cases a <;> first | rfl | cases h9
      rw [Bool.or_eq_true] at h3
      rcases h3 with h3 | h3
      · exact plain_den (fun F => s_calk o t h2 h3 h4 h6 h7 h8 hz (d1 F) (d2 F)) rfl
      · exact plain_den (fun F => s_mk o t h2 h3 h4 h6 h7 h8 hz (d1 F) (d2 F)) rfl
    · cases h
  | .bm m x as, cc, X, W, n, t, o, h => by
    simp only [chk] at h
    split at h
    · simp only [Bool.and_eq_true, Bool.or_eq_true, decide_eq_true_eq, Bool.not_eq_true'] at h
      obtain ⟨⟨⟨⟨⟨h1, h3⟩, h4⟩, h5⟩, h6⟩, h7⟩ := h
      have d1 := snd x cc X W _ t o h6
      have d2 := snd as cc X W _ t o h7
      rcases h1 with (⟨h1, h2⟩ | ⟨h1, h2⟩) | ⟨h1, h2⟩
      · subst h1 h2
        exact plain_den (fun F => s_join o h3 h4 h5 (d1 F).1 (d2 F)) rfl
      · subst h1 h2
        exact plain_den (fun F => s_append o h3 h4 h5 (d1 F).1 (d2 F)) rfl
      · subst h1 h2
        exact plain_den (fun F => s_index o h3 h4 h5 (d1 F).1 (d2 F)) rfl
    · simp only [Bool.and_eq_true, decide_eq_true_eq, Bool.not_eq_true'] at h
      obtain ⟨⟨⟨⟨⟨⟨⟨h1, h2⟩, h3⟩, h4⟩, h5⟩, h5'⟩, h6⟩, h7⟩ := h
      subst h1 h2
      have d1 := snd x cc X W _ t o h6
      have d2 := snd as cc X W _ t o h7
      exact plain_den (fun F => s_insert o h3 h4 h5 h5' (d1 F).1 (d2 F)) rfl
    · cases h
  | .spl a b, cc, X, W, n, t, o, h => by
    simp only [chk] at h
    split at h
    · rw [Bool.and_eq_true] at h
      have d1 := snd a cc X W _ t o h.1
      have d2 := snd b cc X W _ t o h.2
      exact fun F => a_spl o (d1 F).1 (d2 F)
    · cases h
  | .emp, cc, X, W, n, t, o, h => by
    simp only [chk] at h
    split at h
    · exact plain_den (fun F => s_emp) rfl
    · cases h
  | .lks p a, cc, X, W, n, t, o, h => by
    simp only [chk] at h
    split at h
    · have d := snd a cc X W _ t o h
      exact fun F => s_lks d
    · cases h
  | .bxe a, cc, X, W, n, t, o, h => by
    simp only [chk] at h
    split at h
    · rw [Bool.and_eq_true] at h
      have d := snd a cc X W _ t o h.2
      exact plain_den (fun F => s_bxe (d F).1) h.1
    · cases h
  | .lkp p a, cc, X, W, n, t, o, h => by
    simp only [chk] at h
    split at h
    · rw [Bool.and_eq_true] at h
      have d := snd a cc X W _ t o h.2
      exact plain_den (fun F => s_lkp fun F => (d F).1) h.1
    · cases h
  | .con neg tbl a b, cc, X, W, n, t, o, h => by
    simp only [chk] at h
    split at h
    · simp only [Bool.and_eq_true, decide_eq_true_eq, Bool.not_eq_true'] at h
      obtain ⟨⟨⟨⟨h1, h2⟩, h3⟩, h4⟩, h5⟩ := h
      subst h1
      have d1 := snd a cc X W _ t o h4
      have d2 := snd b cc X W _ t o h5
      exact fun F => s_con o t h3 h2 (d1 F).1 (d2 F).1
    · cases h
  | .rev a, cc, X, W, n, t, o, h => by
    simp only [chk] at h
    split at h
    · have d := snd a cc X W _ t o h
      exact plain_den (fun F => s_rev (d F).1) rfl
    · cases h
  | .whl k b, cc, X, W, n, t, o, h => by
    simp only [chk] at h
    split at h
    · rw [Bool.and_eq_true] at h
      have d1 := snd k cc X W _ t o h.1
      have d2 := snd b cc X W _ t o h.2
      exact fun F => s_whl o (d1 F).2 (d2 F)
    · cases h
  | .lst a, cc, X, W, n, t, o, h => by
    simp only [chk] at h
    split at h
    · have d := snd a cc X W _ t o h
      exact plain_den (fun F => s_lst (d F)) rfl
    · cases h
  | .tpl a, cc, X, W, n, t, o, h => by
    simp only [chk] at h
    split at h
    · have d := snd a cc X W _ t o h
      exact plain_den (fun F => s_tpl (d F)) rfl
    · cases h
  | .isi a ts, cc, X, W, n, t, o, h => by
    simp only [chk] at h
    split at h
    · simp only [Bool.and_eq_true, decide_eq_true_eq, Bool.not_eq_true'] at h
      obtain ⟨⟨⟨⟨h1, h2⟩, h3⟩, h4⟩, h5⟩ := h
      subst h1
      have d := snd a cc X W _ t o h5
      split at h4
      · simp only [Bool.and_eq_true, decide_eq_true_eq] at h4
        obtain ⟨⟨z1, z2⟩, z3⟩ := h4
        subst z1
        exact plain_den (fun F => s_isi o t h3 h2 z2 z3 (d F).1) rfl
      · cases h4
    · simp only [Bool.and_eq_true, decide_eq_true_eq, Bool.not_eq_true'] at h
      obtain ⟨⟨⟨⟨⟨⟨⟨h1, h2⟩, h3⟩, h4⟩, h5⟩, h6⟩, h7⟩, h8⟩ := h
      subst h1
      have d := snd a cc X W _ t o h8
      cases ts with
      | nil => cases h4
      | cons k ts => exact plain_den (fun F => s_isis o t h3 h2 h5 h6 h7 (d F).1) rfl
    · cases h
  | .lc own tgc it cd el, cc, X, W, n, t, o, h => by
    simp only [chk] at h
    split at h
    · exact plain_den ((lc_den t o h (fun n hn => snd it cc X W n t o hn) (fun X' n o' hn => snd tgc _ X' W0 n t o' hn) (fun X' n o' hn => snd cd _ X' W0 n t o' hn) (fun X' n o' hn => snd el _ X' W0 n t o' hn)).pe o) rfl
    · exact (lc_den (pos := _) t o h (fun n hn => snd it cc X W n t o hn) (fun X' n o' hn => snd tgc _ X' W0 n t o' hn) (fun X' n o' hn => snd cd _ X' W0 n t o' hn) (fun X' n o' hn => snd el _ X' W0 n t o' hn)).n o
    · cases h
  | .lc2 own vs1 tgc it cd tgc1 it1 cd1 el, cc, X, W, n, t, o, h => by
    simp only [chk] at h
    split at h
    · exact plain_den ((lc2_den t o h (fun n hn => snd it cc X W n t o hn) (fun X' n o' hn => snd tgc _ X' W0 n t o' hn) (fun X' n o' hn => snd cd _ X' W0 n t o' hn) (fun X' n o' hn => snd it1 _ X' W0 n t o' hn) (fun X' n o' hn => snd tgc1 _ X' W0 n t o' hn) (fun X' n o' hn => snd cd1 _ X' W0 n t o' hn) (fun X' n o' hn => snd el _ X' W0 n t o' hn)).pe) rfl
    · exact lc2_den (pos := _) t o h (fun n hn => snd it cc X W n t o hn) (fun X' n o' hn => snd tgc _ X' W0 n t o' hn) (fun X' n o' hn => snd cd _ X' W0 n t o' hn) (fun X' n o' hn => snd it1 _ X' W0 n t o' hn) (fun X' n o' hn => snd tgc1 _ X' W0 n t o' hn) (fun X' n o' hn => snd cd1 _ X' W0 n t o' hn) (fun X' n o' hn => snd el _ X' W0 n t o' hn)
    · cases h
  | .nil, cc, X, W, n, t, o, h => by
    simp only [chk] at h
    split at h
    · exact fun F => a_nil
    · exact fun F => k_nil
    · exact fun F => .nil
    · cases h
  | .cns a b, cc, X, W, n, t, o, h => by
    simp only [chk] at h
    split at h
    · simp only [Bool.and_eq_true] at h
      have d1 := snd a cc X W _ t o h.1.2
      have d2 := snd b cc X W _ t o h.2
      exact fun F => .cons (d1 F).1 (d2 F)
    · simp only [Bool.and_eq_true, Bool.not_eq_true'] at h
      have d1 := snd a cc X W _ t o h.1.2
      have d2 := snd b cc X W _ t o h.2
      exact fun F => a_cns h.1.1 (d1 F).1 (d2 F)
    · simp only [Bool.and_eq_true] at h
      have d1 := snd a cc X W _ t o h.1
      have d2 := snd b cc X W _ t o h.2
      exact fun F => k_cns (d1 F).1 (d2 F)
    · cases h
  | .abs, cc, X, W, n, t, o, h => by
    simp only [chk] at h
    split at h
    · exact fun F => o_abs
    · cases h
  | .it a, cc, X, W, n, t, o, h => by
    simp only [chk] at h
    split at h
    · have d := snd a cc X W _ t o h
      exact fun F => i_it o (d F).1
    · cases h
  | .rng a, cc, X, W, n, t, o, h => by
    simp only [chk] at h
    split at h
    · simp only [Bool.and_eq_true, decide_eq_true_eq, Bool.not_eq_true'] at h
      obtain ⟨⟨⟨h1, h2⟩, h3⟩, h4⟩ := h
      subst h1
      have d := snd a cc X W _ t o h4
      exact fun F => i_rng o t h3 h2 (d F).1
    · cases h
  | .rng2 a b, cc, X, W, n, t, o, h => by
    simp only [chk] at h
    split at h
    · simp only [Bool.and_eq_true, decide_eq_true_eq, Bool.not_eq_true'] at h
      obtain ⟨⟨⟨⟨⟨h1, h2⟩, h3⟩, h4⟩, h5⟩, h6⟩ := h
      subst h1
      have d1 := snd a cc X W _ t o h5
      have d2 := snd b cc X W _ t o h6
      exact fun F => i_rng2 o t h3 h4 h2 (d1 F).1 (d2 F).1
    · cases h
  | .enm a, cc, X, W, n, t, o, h => by
    simp only [chk] at h
    split at h
    · simp only [Bool.and_eq_true, decide_eq_true_eq, Bool.not_eq_true'] at h
      obtain ⟨⟨⟨h1, h2⟩, h3⟩, h4⟩ := h
      subst h1
      have d := snd a cc X W _ t o h4
      exact fun F => i_enm o t h3 h2 (d F).1
    · cases h
  | .zp a b, cc, X, W, n, t, o, h => by
    simp only [chk] at h
    split at h
    · simp only [Bool.and_eq_true, decide_eq_true_eq, Bool.not_eq_true'] at h
      obtain ⟨⟨⟨⟨⟨h1, h2⟩, h3⟩, h4⟩, h5⟩, h6⟩ := h
      subst h1
      have d1 := snd a cc X W _ t o h5
      have d2 := snd b cc X W _ t o h6
      exact fun F => i_zp o t h3 h4 h2 (d1 F).1 (d2 F).1
    · cases h
  | .tn i, cc, X, W, n, t, o, h => by
    simp only [chk] at h
    split at h
    · exact fun F => g_name o h
    · cases h
  | .tt is, cc, X, W, n, t, o, h => by
    simp only [chk] at h
    split at h
    · exact fun F => g_tup o h
    · cases h
  | .skp, cc, X, W, n, t, o, h => by
    simp only [chk] at h
    split at h
    · exact fun F => s_skp
    · exact fun F => b_nil
    · cases h
  | .seq a b, cc, X, W, n, t, o, h => by
    simp only [chk] at h
    split at h
    · rw [Bool.and_eq_true] at h
      have d1 := snd a cc X W _ t o h.1
      have d2 := snd b cc X W _ t o h.2
      exact fun F => b_seq (d1 F) (d2 F)
    · cases h
  | .asg i a, cc, X, W, n, t, o, h => by
    simp only [chk] at h
    split at h
    · exact asn_den o (fun F D σ H hq => asg_rd hq) h fun n hn => snd a cc X W n t o hn
    · cases h
  | .aug i a, cc, X, W, n, t, o, h => by
    simp only [chk] at h
    split at h
    · simp only [Bool.and_eq_true] at h
      have d1 := snd a cc X W _ t o h.2
      exact fun F => s_aug o h.1 (d1 F).1
    · cases h
  | .ast tgc a, cc, X, W, n, t, o, h => by
    simp only [chk] at h
    split at h
    · simp only [Bool.and_eq_true, Bool.not_eq_true'] at h
      obtain ⟨⟨⟨h1, h2⟩, h3⟩, h4⟩ := h
      have d1 := snd tgc cc X W _ t o h3
      have d2 := snd a cc X W _ t o h4
      exact fun F => s_ast o h1 h2 (d1 F) (d2 F).1
    · cases h
  | .aso i a, cc, X, W, n, t, o, h => by
    simp only [chk] at h
    split at h
    · exact asn_den o (fun F D σ H hq => aso_rd hq) h fun n hn => snd a cc X W n t o hn
    · cases h
  | .asb i a, cc, X, W, n, t, o, h => by
    simp only [chk] at h
    split at h
    · exact asn_den o (fun F D σ H hq => asb_rd hq) h fun n hn => snd a cc X W n t o hn
    · cases h
  | .par i j a b, cc, X, W, n, t, o, h => by
    simp only [chk] at h
    split at h
    · simp only [Bool.and_eq_true, decide_eq_true_eq, Bool.not_eq_true', decide_eq_false_iff_not, beq_iff_eq] at h
      obtain ⟨⟨⟨⟨⟨⟨⟨⟨⟨⟨⟨⟨h1, h2⟩, h3⟩, h4⟩, h5⟩, h6⟩, h7⟩, h8⟩, h9⟩, h10⟩, h11⟩, h12⟩, h13⟩ := h
      have d1 := snd a cc X W _ t o h12
      have d2 := snd b cc X W _ t o h13
      exact fun F => s_par o h1 h2 h3 h4 h5 h6 (by simpa using h7) h8 h9 h10 h11 (d1 F).1 (d2 F).1
    · cases h
  | .sit a k b, cc, X, W, n, t, o, h => by
    simp only [chk] at h
    split at h
    · simp only [Bool.and_eq_true, Bool.not_eq_true'] at h
      obtain ⟨⟨⟨h1, h3⟩, h4⟩, h5⟩ := h
      have d1 := snd a cc X W _ t o h3
      have d2 := snd k cc X W _ t o h4
      have d3 := snd b cc X W _ t o h5
      exact fun F => s_sit o h1 (d1 F).1 (d2 F).1 (d3 F).1
    · cases h
  | .ret a, cc, X, W, n, t, o, h => by
    simp only [chk] at h
    split at h
    · have d := snd a cc X W _ t o h
      exact fun F => s_ret (d F).1
    · cases h
  | .rtn, cc, X, W, n, t, o, h => by
    simp only [chk] at h
    split at h
    · exact fun F => s_rtn
    · cases h
  | .iff k a b, cc, X, W, n, t, o, h => by
    simp only [chk] at h
    split at h
    · simp only [Bool.and_eq_true] at h
      have d0 := snd k cc X W _ t o h.1.1
      have d1 := snd a cc X W _ t o h.1.2
      have d2 := snd b cc X W _ t o h.2
      exact fun F => s_iff (d0 F).2 (d1 F) (d2 F)
    · cases h
  | .frr tgc it b, cc, X, W, n, t, o, h => by
    simp only [chk] at h
    split at h
    · simp only [Bool.and_eq_true, Bool.not_eq_true'] at h
      obtain ⟨⟨⟨h1, h2⟩, h3⟩, h4⟩ := h
      have d0 := snd it cc X W _ t o h2
      have d1 := snd tgc cc X W _ t o h3
      have d2 := snd b cc X W _ t o h4
      exact fun F => s_for o h1 (d0 F) d1 d2
    · cases h
  | .exp a, cc, X, W, n, t, o, h => by
    simp only [chk] at h
    split at h
    · simp only [Bool.and_eq_true, Bool.not_eq_true'] at h
      have d := snd a cc X W _ t o h.2
      exact fun F => s_exp h.1 (d F).1
    · cases h
  | .whs i wc, cc, X, W, n, t, o, h => by
    simp only [chk] at h
    split at h
    · simp only [Bool.and_eq_true, decide_eq_true_eq] at h
      obtain ⟨⟨⟨⟨h1, h2⟩, h3⟩, h4⟩, h5⟩ := h
      subst h3
      exact plain_den (fun F => s_whs o h1 h2 h4 h5) rfl
    · cases h
  | .wh1 j is wc, cc, X, W, n, t, o, h => by
    simp only [chk] at h
    split at h
    · simp only [Bool.and_eq_true, decide_eq_true_eq] at h
      obtain ⟨⟨⟨⟨h1, h2⟩, h3⟩, h4⟩, h5⟩ := h
      subst h3
      exact plain_den (fun F => s_wh1 o h1 h2 h4 h5) rfl
    · cases h
  | .lma i ks, cc, X, W, n, t, o, h => by
    simp only [chk] at h
    split at h
    · simp only [Bool.and_eq_true, decide_eq_true_eq] at h
      obtain ⟨⟨⟨h1, h2⟩, h3⟩, h4⟩ := h
      exact fun F => s_lma o h1 h2 h3 h4
    · cases h
  | .lmb i ks, cc, X, W, n, t, o, h => by
    simp only [chk] at h
    split at h
    · simp only [Bool.and_eq_true, decide_eq_true_eq] at h
      obtain ⟨⟨⟨⟨⟨h1, h2⟩, h3⟩, h4⟩, h5⟩, h6⟩ := h
      subst h3
      exact fun F => s_lmb o h1 h2 h4 h5 h6
    · cases h
  | .rse c k ns vs a, cc, X, W, n, t, o, h => by
    simp only [chk] at h
    split at h
    · rename_i x p es p2 p3
      simp only [Bool.and_eq_true, decide_eq_true_eq] at h
      obtain ⟨⟨⟨⟨h1, h2⟩, h3⟩, h4⟩, h5⟩ := h
      have d := snd a cc X W _ t o h5
      exact fun F => s_rse o t h1 h2 h3 (fun z => by
        subst z
        have h4 : isNil a = true := h4
        cases a <;> first | rfl | cases h4) (d F)
    · cases h
  | .apo i a, cc, X, W, n, t, o, h => by
    simp only [chk] at h
    split at h
    · simp only [Bool.and_eq_true, decide_eq_true_eq, Bool.not_eq_true'] at h
      obtain ⟨⟨⟨⟨h1, h2⟩, h3⟩, h4⟩, h5⟩ := h
      subst h1
      have d := snd a cc X W _ t o h5
      exact fun F => s_apo o h2 h3 h4 (d F).1
    · cases h
  | .ino i k a, cc, X, W, n, t, o, h => by simp only [chk] at h; cases h
end En

namespace En
open PySem PySem.Spec L2
section
variable {x : SX} {G H : Hp} {io : List Addr} {m : List MO} {k : Nat} {lk : Bool}
open Classical in
noncomputable def stowG (G H : Hp) (io : List Addr) (k : Nat) : Hp := fun b => if b ∈ io.drop k then H b else G b
theorem stowG_in {b : Addr} (h : b ∈ io.drop k) : stowG G H io k b = H b := if_pos h
theorem stowG_out {b : Addr} (h : b ∉ io.drop k) : stowG G H io k b = G b := if_neg h
theorem MemA.free (hm : MemA x G io H m) {b : Addr} (h : b ∈ io) : G b = none := by
  obtain ⟨n, hn, e⟩ := List.getElem_of_mem h
  have hl : n < m.length := by rw [hm.1]; exact hn
  obtain ⟨vs, h, _, q, _⟩ := hm.2.2 n _ b (List.getElem?_eq_getElem hl) (by rw [List.getElem?_eq_getElem hn, e])
  exact q
theorem stow_same (hm : MemA x G io H m) : Same G (stowG G H io k) := fun b o e => by
  by_cases h : b ∈ io.drop k
  · rw [hm.free (List.mem_of_mem_drop h)] at e; cases e
  · rw [stowG_out h]; exact e
theorem stow_sub (gh : Same G H) : Same (stowG G H io k) H := fun b o e => by
  by_cases h : b ∈ io.drop k
  · rw [stowG_in h] at e; exact e
  · rw [stowG_out h] at e; exact gh _ _ e
section
variable {G' : Hp} {io' : List Addr} {f : Nat → Option D}
mutual
theorem mapD_rp (sg : Same G G') (hf : ∀ j d' v, f j = some d' → Rp x G io (.adr j) v → Rp x G' io' d' v) : ∀ {d d' : D} {v : V}, mapD f d = some d' → Rp x G io d v → Rp x G' io' d' v
  | .non, _, _, h, r => by cases h; exact r
  | .bl _, _, _, h, r => by cases h; exact r
  | .int _, _, _, h, r => by cases h; exact r
  | .str _, _, _, h, r => by cases h; exact r
  | .lst ds, _, _, h, r => by
    obtain ⟨es, e, rfl⟩ := Option.map_eq_some_iff.mp h
    obtain ⟨a, vs, rfl, q, t⟩ := r
    exact ⟨a, vs, rfl, sg _ _ q, mapDs_rp sg hf e t⟩
  | .tup ds, _, _, h, r => by
    obtain ⟨es, e, rfl⟩ := Option.map_eq_some_iff.mp h
    obtain ⟨a, vs, rfl, q, t⟩ := r
    exact ⟨a, vs, rfl, Same.tup sg q, mapDs_rp sg hf e t⟩
  | .fzl ds, _, _, h, r => by
    obtain ⟨es, e, rfl⟩ := Option.map_eq_some_iff.mp h
    obtain ⟨a, vs, rfl, q, t⟩ := r
    exact ⟨a, vs, rfl, sg.seq q, mapDs_rp sg hf e t⟩
  | .dct ks ds, _, _, h, r => by
    obtain ⟨es, e, rfl⟩ := Option.map_eq_some_iff.mp h
    obtain ⟨a, vs, o, rfl, q, l, t⟩ := r
    exact ⟨a, vs, o, rfl, sg _ _ q, l, mapDs_rp sg hf e t⟩
  | .obj c ns ds, _, _, h, r => by
    obtain ⟨es, e, rfl⟩ := Option.map_eq_some_iff.mp h
    obtain ⟨hl, a, dx, vs, rfl, q, l, t⟩ := r
    exact ⟨hl, a, dx, vs, rfl, sg _ _ q, l, mapDs_rp sg hf e t⟩
  | .adr j, _, _, h, r => hf _ _ _ h r
theorem mapDs_rp (sg : Same G G') (hf : ∀ j d' v, f j = some d' → Rp x G io (.adr j) v → Rp x G' io' d' v) : ∀ {ds ds' : List D} {vs : List V}, mapDs f ds = some ds' → RpL x G io ds vs → RpL x G' io' ds' vs
  | [], _, _, h, r => by cases h; exact r
  | d :: ds, _, _, h, r => by
    obtain ⟨v, w, rfl, q, t⟩ := r
    simp only [mapDs] at h
    split at h
    · cases h
    · rename_i d' e1
      split at h
      · cases h
      · rename_i ds' e2
        cases h
        exact ⟨v, w, rfl, mapD_rp sg hf e1 q, mapDs_rp sg hf e2 t⟩
end
end
section
variable {G' : Hp} {io' : List Addr}
mutual
theorem old_rp {G2 : Hp} (sg : Same G' G2) (pr : Pre io io') : ∀ {d : D} {v v' : V}, Rp x G io d v → Rp x G' io' d v' → Rp x G2 io d v'
  | .non, _, _, _, r => r
  | .bl _, _, _, _, r => r
  | .int _, _, _, _, r => r
  | .str _, _, _, _, r => r
  | .lst ds, _, _, h, r => by
    obtain ⟨_, _, _, _, t0⟩ := h
    obtain ⟨a, vs, rfl, q, t⟩ := r
    exact ⟨a, vs, rfl, sg _ _ q, old_rps sg pr t0 t⟩
  | .tup ds, _, _, h, r => by
    obtain ⟨_, _, _, _, t0⟩ := h
    obtain ⟨a, vs, rfl, q, t⟩ := r
    exact ⟨a, vs, rfl, Same.tup sg q, old_rps sg pr t0 t⟩
  | .fzl ds, _, _, h, r => by
    obtain ⟨_, _, _, _, t0⟩ := h
    obtain ⟨a, vs, rfl, q, t⟩ := r
    exact ⟨a, vs, rfl, sg.seq q, old_rps sg pr t0 t⟩
  | .dct ks ds, _, _, h, r => by
    obtain ⟨_, _, _, _, _, _, t0⟩ := h
    obtain ⟨a, vs, o, rfl, q, l, t⟩ := r
    exact ⟨a, vs, o, rfl, sg _ _ q, l, old_rps sg pr t0 t⟩
  | .obj c ns ds, _, _, h, r => by
    obtain ⟨_, _, _, _, _, _, _, t0⟩ := h
    obtain ⟨hl, a, dx, vs, rfl, q, l, t⟩ := r
    exact ⟨hl, a, dx, vs, rfl, sg _ _ q, l, old_rps sg pr t0 t⟩
  | .adr j, _, _, h, r => by
    obtain ⟨a, rfl, q⟩ := h
    obtain ⟨a', rfl, q'⟩ := r
    rw [pr.get q] at q'
    cases q'
    exact ⟨a, rfl, q⟩
theorem old_rps {G2 : Hp} (sg : Same G' G2) (pr : Pre io io') : ∀ {ds : List D} {vs vs' : List V}, RpL x G io ds vs → RpL x G' io' ds vs' → RpL x G2 io ds vs'
  | [], _, _, _, r => r
  | d :: ds, _, _, h, r => by
    obtain ⟨_, _, _, q0, t0⟩ := h
    obtain ⟨v, w, rfl, q, t⟩ := r
    exact ⟨v, w, rfl, old_rp sg pr q0 q, old_rps sg pr t0 t⟩
end
end
theorem mapO_len {α β : Type} {f : α → Option β} : ∀ {as : List α} {bs : List β}, mapO f as = some bs → bs.length = as.length
  | [], _, h => by cases h; rfl
  | a :: as, _, h => by
    simp only [mapO] at h
    split at h
    · cases h
    · split at h
      · cases h
      · rename_i bs e2
        cases h
        rw [List.length_cons, List.length_cons, mapO_len e2]
theorem mapDs_len {f : Nat → Option D} : ∀ {as bs : List D}, mapDs f as = some bs → bs.length = as.length
  | [], _, h => by cases h; rfl
  | a :: as, _, h => by
    simp only [mapDs] at h
    split at h
    · cases h
    · split at h
      · cases h
      · rename_i bs e2
        cases h
        rw [List.length_cons, List.length_cons, mapDs_len e2]
theorem mapO_get {α β : Type} {f : α → Option β} : ∀ {as : List α} {bs : List β} {n : Nat} {b : β}, mapO f as = some bs → bs[n]? = some b → ∃ a, as[n]? = some a ∧ f a = some b
  | [], _, n, b, h, e => by cases h; cases e
  | a :: as, _, n, b, h, e => by
    simp only [mapO] at h
    split at h
    · cases h
    · rename_i b' e1
      split at h
      · cases h
      · rename_i bs e2
        cases h
        cases n with
        | zero => cases e; exact ⟨a, rfl, e1⟩
        | succ n =>
          have q := mapO_get (as := as) (n := n) e2 e
          exact q
def Locked (m : List MO) (k : Nat) : Prop := ∀ j ks ds, k ≤ j → m[j]? ≠ some (.dx ks ds)
theorem frz_rp (gh : Same G H) (hm : MemA x G io H m) (hlk : lk = true → Locked m k) : ∀ (n j : Nat) (d' : D) (v : V), frz lk m k n j = some d' → Rp x G io (.adr j) v → Rp x (stowG G H io k) (io.take k) d' v := by
  intro n
  have sg := stow_same (k := k) hm
  have low : ∀ (j : Nat) (d' : D) (v : V), j < k → some (D.adr j) = some d' → Rp x G io (.adr j) v → Rp x (stowG G H io k) (io.take k) d' v := fun j d' v hj h r => by
    cases h
    obtain ⟨a, rfl, q⟩ := r
    exact ⟨a, rfl, by rw [List.getElem?_take_of_lt hj]; exact q⟩
  induction n with
  | zero =>
    intro j d' v h r
    unfold frz at h
    split at h
    · rename_i hj
      exact low j d' v hj h r
    · cases h
  | succ n ih =>
    intro j d' v h r
    unfold frz at h
    split at h
    · rename_i hj
      exact low j d' v hj h r
    · rename_i hj
      obtain ⟨a, rfl, q⟩ := r
      split at h
      · rename_i mo hmo
        obtain ⟨vs, ho, q1, q2, q3, q4, q5⟩ := hm.2.2 j mo a hmo q
        have din : a ∈ io.drop k := by
          have : (io.drop k)[j - k]? = some a := by
            rw [List.getElem?_drop]
            have e : k + (j - k) = j := by omega
            rw [e]; exact q
          exact List.mem_of_getElem? this
        have ga : stowG G H io k a = some ho := by rw [stowG_in din]; exact q1
        cases mo with
        | bx ds =>
          obtain ⟨es, e, rfl⟩ := Option.map_eq_some_iff.mp h
          cases q4
          exact ⟨a, vs, rfl, ga, mapDs_rp sg ih e q3⟩
        | ob c ns ds =>
          obtain ⟨es, e, rfl⟩ := Option.map_eq_some_iff.mp h
          obtain ⟨hl, dx, rfl⟩ := q4
          exact ⟨hl, a, dx, vs, rfl, ga, by rw [q3.length]; exact q5, mapDs_rp sg ih e q3⟩
        | dx ks ds =>
          cases lk with
          | true => exact absurd hmo (hlk rfl j ks ds (by omega))
          | false => cases h
        | dl ks ds =>
          obtain ⟨es, e, rfl⟩ := Option.map_eq_some_iff.mp h
          obtain ⟨o, rfl⟩ := q4
          exact ⟨a, vs, o, rfl, ga, by rw [q3.length]; exact q5, mapDs_rp sg ih e q3⟩
        | ll ds => cases h
      · cases h
theorem frzM_rp (gh : Same G H) (hm : MemA x G io H m) (hlk : lk = true → Locked m k) {o o' : MO} {vs : List V} {h : HO} (e : frzM lk m k o = some o') (r : RpL x G io o.ds vs) (hM : MoH x o vs h) (hL : MoL o) :
    RpL x (stowG G H io k) (io.take k) o'.ds vs ∧ MoH x o' vs h ∧ MoL o' := by
  have sg := stow_same (k := k) hm
  have fr : ∀ {ds ds' : List D}, mapDs (frz lk m k 16) ds = some ds' → RpL x G io ds vs → RpL x (stowG G H io k) (io.take k) ds' vs := fun e r => mapDs_rp sg (frz_rp gh hm hlk 16) e r
  cases o with
  | bx ds =>
    obtain ⟨es, e', rfl⟩ := Option.map_eq_some_iff.mp e
    exact ⟨fr e' r, hM, trivial⟩
  | ob c ns ds =>
    obtain ⟨es, e', rfl⟩ := Option.map_eq_some_iff.mp e
    exact ⟨fr e' r, hM, (mapDs_len e').trans hL⟩
  | dx ks ds =>
    obtain ⟨es, e', rfl⟩ := Option.map_eq_some_iff.mp e
    exact ⟨fr e' r, hM, (mapDs_len e').trans hL⟩
  | dl ks ds =>
    obtain ⟨es, e', rfl⟩ := Option.map_eq_some_iff.mp e
    exact ⟨fr e' r, hM, (mapDs_len e').trans hL⟩
  | ll ds =>
    obtain ⟨es, e', rfl⟩ := Option.map_eq_some_iff.mp e
    exact ⟨fr e' r, hM, trivial⟩
theorem stow_mem (gh : Same G H) (hm : MemA x G io H m) (hlk : lk = true → Locked m k) {m' : List MO} (h : mapO (frzM lk m k) (m.take k) = some m') : MemA x (stowG G H io k) (io.take k) H m' := by
  refine ⟨by rw [mapO_len h, List.length_take, List.length_take, hm.1], hm.2.1.sublist (List.take_sublist _ _), fun n o a e1 e2 => ?_⟩
  obtain ⟨o0, e3, e4⟩ := mapO_get h e1
  have hn : n < k := by
    by_cases hn : n < k
    · exact hn
    · rw [List.getElem?_eq_none (by rw [List.length_take]; omega)] at e2; cases e2
  rw [List.getElem?_take_of_lt hn] at e2 e3
  obtain ⟨vs, ho, q1, q2, q3, q4, q5⟩ := hm.2.2 n o0 a e3 e2
  have nd : a ∉ io.drop k := fun hd => by
    have hnd := hm.2.1
    rw [← List.take_append_drop k io, List.nodup_append] at hnd
    exact hnd.2.2 a (List.mem_of_getElem? (by rw [List.getElem?_take_of_lt hn]; exact e2)) a hd rfl
  obtain ⟨k1, k2, k3⟩ := frzM_rp gh hm hlk e4 q3 q4 q5
  exact ⟨vs, ho, q1, by rw [stowG_out nd]; exact q2, k1, k2, k3⟩
end
theorem FF.stow {x : SX} {H G H' G' : Hp} {io io' : List Addr} {m0 m m' : List MO} {lk : Bool} (hm0 : MemA x G io H m0) (f : FF x H G io m H' G' io') (hlk : lk = true → Locked m io.length) (h : keepM lk m m0 = some m') : FF x H G io m' H' (stowG G' H' io' io.length) io := by
  obtain ⟨f1, f2, f3, f4, f5, f6, f7⟩ := f
  have tk : io'.take io.length = io := by
    obtain ⟨z, rfl⟩ := f5
    exact List.take_left' rfl
  have nin : ∀ {b : Addr}, H b ≠ none → b ∉ io'.drop io.length := fun {b} hb hd => by
    obtain ⟨n, hn, e⟩ := List.getElem_of_mem hd
    have e2 : (io'.drop io.length)[n]? = some b := by rw [List.getElem?_eq_getElem hn, e]
    rw [List.getElem?_drop] at e2
    exact hb (f6 _ _ (Nat.le_add_right _ _) e2)
  refine ⟨⟨stow_sub f1.1, f1.2.1, fun b hb => by
    rw [stowG_out fun hd => ?_]
    · exact f1.2.2 b hb
    · obtain ⟨n, hn, e⟩ := List.getElem_of_mem (List.mem_of_mem_drop hd)
      obtain ⟨vs, ho, q1, _, _, q4, _⟩ := f2.2.2 n _ b (List.getElem?_eq_getElem (by rw [f2.1]; exact hn)) (by rw [List.getElem?_eq_getElem hn, e])
      obtain ⟨ps, q⟩ := tab_at f1.2 hb
      rw [q1] at q
      exact q4.nt ps (Option.some.inj q)⟩, ?_, f3, fun b hb => ?_, Pre.refl _, fun n a hn e => ?_, f7⟩
  · unfold keepM at h
    rw [hm0.1] at h
    split at h
    · rename_i hsame
      cases h
      refine ⟨hm0.1, hm0.2.1, fun n o a e1 e2 => ?_⟩
      have hn : n < io.length := (List.getElem?_eq_some_iff.mp e2).1
      have e3 : m[n]? = some o := by rw [← List.getElem?_take_of_lt hn, hsame]; exact e1
      obtain ⟨vs, ho, q1, q2, q3, q4, q5⟩ := f2.2.2 n o a e3 (f5.get e2)
      obtain ⟨vs0, h0, p1, p2, p3, p4, p5⟩ := hm0.2.2 n o a e1 e2
      exact ⟨vs, ho, q1, by rw [stowG_out (nin (by rw [p1]; simp))]; exact q2, old_rps (stow_same f2) f5 p3 q3, q4, q5⟩
    · have q := stow_mem (k := io.length) f1.1 f2 hlk h
      rw [tk] at q
      exact q
  · rw [stowG_out (nin hb)]
    exact f4 b hb
  · rw [List.getElem?_eq_none hn] at e; cases e
theorem Pre.tk {io io' : List Addr} (h : Pre io io') : io'.take io.length = io := by
  obtain ⟨z, rfl⟩ := h
  exact List.take_left' rfl
theorem FF.pre {x : SX} {H G H' G' : Hp} {io io' : List Addr} {m' : List MO} (f : FF x H G io m' H' G' io') : Pre io io' := f.2.2.2.2.1
section
variable {x : SX} {H G H' G' : Hp} {io io' : List Addr} {m' : List MO} {Q : VK} {E : XK} {lk : Bool}
theorem stow_val {d : D} {v : V} {m0 : List MO} (hm0 : MemA x G io H m0) (hlk : lk = true → Locked m' io.length) (hp : PostF x H G io (stow lk m0 (some (.val d, m'))) Q E) (ff : FF x H G io m' H' G' io') (r : Rp x G' io' d v) : Q v H' := by
  unfold stow at hp
  dsimp only at hp
  rw [hm0.1] at hp
  split at hp
  · exact hp v H' G' io' ff r
  · split at hp
    · rename_i m2 o2 hm ho
      obtain ⟨d', hd, rfl⟩ := Option.map_eq_some_iff.mp ho
      have q := mapD_rp (stow_same (k := io.length) ff.2.1) (frz_rp (k := io.length) ff.1.1 ff.2.1 hlk 16) hd r
      rw [ff.pre.tk] at q
      exact hp v H' _ io (ff.stow hm0 hlk hm) q
    · exact hp.elim
theorem stow_fr {o : MO} {a : Addr} {m0 : List MO} (hm0 : MemA x G io H m0) (hlk : lk = true → Locked m' io.length) (hp : PostF x H G io (stow lk m0 (some (.fr o, m'))) Q E) (ff : FF x H G io m' H' G' io') (ni : a ∉ io') (hn : H a = none) (r : ∃ vs h, H' a = some h ∧ G' a = none ∧ RpL x G' io' o.ds vs ∧ MoH x o vs h ∧ MoL o) : Q (.ref a) H' := by
  unfold stow at hp
  dsimp only at hp
  rw [hm0.1] at hp
  split at hp
  · exact hp a H' G' io' ff ni hn r
  · split at hp
    · rename_i m2 o2 hm ho
      obtain ⟨o', hd, rfl⟩ := Option.map_eq_some_iff.mp ho
      obtain ⟨vs, h, e1, e2, e3, e4, e5⟩ := r
      obtain ⟨k1, k2, k3⟩ := frzM_rp (k := io.length) ff.1.1 ff.2.1 hlk hd e3 e4 e5
      rw [ff.pre.tk] at k1
      refine hp a H' _ io (ff.stow hm0 hlk hm) (fun z => ni ?_) hn ⟨vs, h, e1, by rw [stowG_out fun z => ni (List.mem_of_mem_drop z)]; exact e2, k1, k2, k3⟩
      obtain ⟨z2, e⟩ := ff.pre
      rw [e]
      exact List.mem_append_left _ z
    · exact hp.elim
theorem stow_exc {c : Nat} {ns : List Nat} {ds : List D} {cls : Value} {dd : Option Addr} {m0 : List MO} (hm0 : MemA x G io H m0) (hlk : lk = true → Locked m' io.length) (hp : PostF x H G io (stow lk m0 (some (.exc c ns ds, m'))) Q E) (ff : FF x H G io m' H' G' io') (r : ExcR x G' io' c ns ds cls dd H') : E cls dd H' := by
  unfold stow at hp
  dsimp only at hp
  rw [hm0.1] at hp
  split at hp
  · exact hp cls dd H' G' io' ff r
  · split at hp
    · rename_i m2 o2 hm ho
      obtain ⟨d', hd, rfl⟩ := Option.map_eq_some_iff.mp ho
      obtain ⟨e0, a, vs, e1, e2, e3, e4⟩ := r
      have q := mapDs_rp (stow_same (k := io.length) ff.2.1) (frz_rp (k := io.length) ff.1.1 ff.2.1 hlk 16) hd e4
      rw [ff.pre.tk] at q
      exact hp cls dd H' _ io (ff.stow hm0 hlk hm) ⟨e0, a, vs, e1, e2, e3, q⟩
    · exact hp.elim
end
def lkAt (m : List MO) (j : Nat) : List MO := match m[j]? with
  | some (.dx ks ds) => m.set j (.dl ks ds)
  | _ => m
def lkN (k : Nat) (m : List MO) : Nat → List MO
  | 0 => m
  | n + 1 => lkAt (lkN k m n) (k + n)
theorem lkAt_len (m : List MO) (j : Nat) : (lkAt m j).length = m.length := by
  unfold lkAt
  split
  · rw [List.length_set]
  · rfl
theorem lkN_len (k : Nat) (m : List MO) : ∀ n, (lkN k m n).length = m.length
  | 0 => rfl
  | n + 1 => by rw [lkN, lkAt_len, lkN_len k m n]
theorem lkAt_get (m : List MO) (i j : Nat) : (lkAt m j)[i]? = m[i]? ∨ ∃ ks ds, i = j ∧ m[i]? = some (.dx ks ds) ∧ (lkAt m j)[i]? = some (.dl ks ds) := by
  unfold lkAt
  split
  · rename_i ks ds hm
    by_cases hij : j = i
    · subst hij
      exact .inr ⟨ks, ds, rfl, hm, List.getElem?_set_self (List.getElem?_eq_some_iff.mp hm).1⟩
    · exact .inl (List.getElem?_set_ne hij)
  · exact .inl rfl
theorem lkN_get (k : Nat) (m : List MO) (i : Nat) : ∀ n, (lkN k m n)[i]? = m[i]? ∨ ∃ ks ds, k ≤ i ∧ m[i]? = some (.dx ks ds) ∧ (lkN k m n)[i]? = some (.dl ks ds)
  | 0 => .inl rfl
  | n + 1 => by
    rcases lkAt_get (lkN k m n) i (k + n) with h | ⟨ks, ds, h1, h2, h3⟩
    · rw [lkN, h]; exact lkN_get k m i n
    · rcases lkN_get k m i n with q | ⟨ks', ds', q0, q1, q2⟩
      · exact .inr ⟨ks, ds, by omega, by rw [← q]; exact h2, h3⟩
      · rw [q2] at h2; cases h2
theorem lkN_done (k : Nat) (m : List MO) : ∀ n i, k ≤ i → i < k + n → ∀ ks ds, (lkN k m n)[i]? ≠ some (.dx ks ds)
  | 0, i, h1, h2, _, _, _ => by omega
  | n + 1, i, h1, h2, ks, ds, e => by
    by_cases hi : i = k + n
    · subst hi
      rw [lkN] at e
      unfold lkAt at e
      split at e
      · rename_i ks' ds' hm
        rw [List.getElem?_set_self (List.getElem?_eq_some_iff.mp hm).1] at e
        cases e
      · rename_i hno
        exact hno ks ds e
    · rw [lkN] at e
      rcases lkAt_get (lkN k m n) i (k + n) with h | ⟨_, _, h, _⟩
      · rw [h] at e
        exact lkN_done k m n i h1 (by omega) ks ds e
      · exact hi h
def lockM (k : Nat) (m : List MO) : List MO := lkN k m (m.length - k)
theorem lockM_locked (k : Nat) (m : List MO) : Locked (lockM k m) k := fun j ks ds hj e => by
  have hl : j < m.length := by
    have := (List.getElem?_eq_some_iff.mp e).1
    unfold lockM at this
    rw [lkN_len] at this
    exact this
  exact lkN_done k m (m.length - k) j hj (by omega) ks ds e
theorem lockM_len (k : Nat) (m : List MO) : (lockM k m).length = m.length := lkN_len _ _ _
theorem lockM_take (k : Nat) (m : List MO) : (lockM k m).take k = m.take k := by
  apply List.ext_getElem?
  intro i
  by_cases hi : i < k
  · rw [List.getElem?_take_of_lt hi, List.getElem?_take_of_lt hi]
    rcases lkN_get k m i (m.length - k) with h | ⟨_, _, h, _⟩
    · exact h
    · omega
  · rw [List.getElem?_eq_none (by rw [List.length_take]; omega), List.getElem?_eq_none (by rw [List.length_take]; omega)]
theorem frz_lock (m : List MO) (k : Nat) : ∀ n j, frz true (lockM k m) k n j = frz true m k n j := by
  intro n
  induction n with
  | zero => intro j; rfl
  | succ n ih =>
    intro j
    have hf : frz true (lockM k m) k n = frz true m k n := funext ih
    unfold frz
    rw [hf]
    rcases lkN_get k m j (m.length - k) with h | ⟨ks, ds, _, h1, h2⟩
    · unfold lockM; rw [h]
    · unfold lockM; rw [h1, h2]; rfl
theorem frzM_lock (m : List MO) (k : Nat) (o : MO) : frzM true (lockM k m) k o = frzM true m k o := by
  have hf : frz true (lockM k m) k 16 = frz true m k 16 := funext (frz_lock m k 16)
  cases o <;> simp only [frzM, hf]
theorem stow_lock (m0 : List MO) (o : Out) (m : List MO) : stow true m0 (some (o, lockM m0.length m)) = stow true m0 (some (o, m)) := by
  unfold stow
  dsimp only
  rw [lockM_len]
  split
  · rename_i hl
    have e : lockM m0.length m = m := by unfold lockM; rw [hl, Nat.sub_self]; rfl
    rw [e]
  · have e1 : frzM true (lockM m0.length m) m0.length = frzM true m m0.length := funext (frzM_lock m m0.length)
    have hf : frz true (lockM m0.length m) m0.length 16 = frz true m m0.length 16 := funext (frz_lock m m0.length 16)
    have e2 : frzO true (lockM m0.length m) m0.length o = frzO true m m0.length o := by
      cases o <;> simp only [frzO, hf, e1]
    have e3 : keepM true (lockM m0.length m) m0 = keepM true m m0 := by
      unfold keepM
      rw [lockM_take, e1]
    rw [e2, e3]
section
variable {x : SX} {X : Cx} {pins : List (Addr × Obj)} {σ : L2.St} {s : Shared} {G H : Hp} {io : List Addr} {m : List MO}
theorem lock_at (I : Inv X pins σ H s) (gh : Same G H) (hm : MemA x G io H m) (j : Nat) : ∃ H2, Inv X pins σ H2 s ∧ Same G H2 ∧ MemA x G io H2 (lkAt m j) ∧ ∀ b, (∀ i, j ≤ i → io[i]? ≠ some b) → H2 b = H b := by
  unfold lkAt
  split
  · rename_i ks ds hd
    have hj : j < m.length := (List.getElem?_eq_some_iff.mp hd).1
    have hj2 : j < io.length := by rw [← hm.1]; exact hj
    obtain ⟨vs, ho, q1, q2, q3, rfl, q5⟩ := hm.2.2 j _ _ hd (List.getElem?_eq_getElem hj2)
    obtain ⟨od, I2⟩ := I.lock q1 trivial
    refine ⟨_, I2, fun b u e => ?_, ⟨by rw [List.length_set]; exact hm.1, hm.2.1, fun n o a e1 e2 => ?_⟩, fun b hb => ?_⟩
    · rw [upd_ne (fun z => by rw [z, q2] at e; cases e)]
      exact gh _ _ e
    · by_cases hn : j = n
      · subst hn
        rw [List.getElem?_set_self hj] at e1
        cases e1
        rw [List.getElem?_eq_getElem hj2] at e2
        cases e2
        exact ⟨vs, _, upd_same, q2, q3, ⟨od, rfl⟩, q5⟩
      · rw [List.getElem?_set_ne hn] at e1
        obtain ⟨ws, h, w1, w2⟩ := hm.2.2 n o a e1 e2
        have ne : a ≠ io[j] := fun z => by
          obtain ⟨h1, g1⟩ := List.getElem?_eq_some_iff.mp e2
          exact hn ((List.getElem_inj hm.2.1).mp (by rw [g1, z]))
        exact ⟨ws, h, by rw [upd_ne ne]; exact w1, w2⟩
    · exact upd_ne fun z => hb j (Nat.le_refl _) (by rw [List.getElem?_eq_getElem hj2, z])
  · exact ⟨H, I, gh, hm, fun _ _ => rfl⟩
theorem lock_all (k : Nat) (I : Inv X pins σ H s) (gh : Same G H) (hm : MemA x G io H m) : ∀ n, ∃ H2, Inv X pins σ H2 s ∧ Same G H2 ∧ MemA x G io H2 (lkN k m n) ∧ ∀ b, (∀ i, k ≤ i → io[i]? ≠ some b) → H2 b = H b
  | 0 => ⟨H, I, gh, hm, fun _ _ => rfl⟩
  | n + 1 => by
    obtain ⟨H1, I1, g1, m1, k1⟩ := lock_all k I gh hm n
    obtain ⟨H2, I2, g2, m2, k2⟩ := lock_at I1 g1 m1 (k + n)
    exact ⟨H2, I2, g2, m2, fun b hb => (k2 b fun i hi => hb i (by omega)).trans (k1 b hb)⟩
end
def LK (x : SX) (k : Nat) (R : Hp → Prop) (H : Hp) : Prop := ∃ G io m, Same G H ∧ MemA x G io H m ∧ ∀ H2, Same G H2 → MemA x G io H2 (lockM k m) → (∀ b, (∀ i, k ≤ i → io[i]? ≠ some b) → H2 b = H b) → R H2
theorem PSs.lk {X : Cx} {ss : List Stmt} {t : TS} (x : SX) (k : Nat) (h : PSs X ss t) : PSs X ss (fun D σ H => t { D with nx := fun σ' H' => LK x k (D.nx σ') H', rt := fun v H' => LK x k (D.rt v) H' } σ H) := by
  refine ⟨fun pins s σ H D I q => thn (h.run pins s σ H _ I q) fun f s1 z => ?_⟩
  cases f with
  | next =>
    obtain ⟨σ', H', I2, G, io, m, g1, g2, g3⟩ := z
    obtain ⟨H2, I3, a1, a2, a3⟩ := lock_all k I2 g1 g2 (m.length - k)
    exact ⟨σ', H2, I3, g3 H2 a1 a2 a3⟩
  | ret v =>
    obtain ⟨w, σ', H', I2, r, G, io, m, g1, g2, g3⟩ := z
    obtain ⟨H2, I3, a1, a2, a3⟩ := lock_all k I2 g1 g2 (m.length - k)
    exact ⟨w, σ', H2, I3, r, g3 H2 a1 a2 a3⟩
  | brk => exact z
  | cont => exact z
theorem FF.lock {x : SX} {H G H' G' H2 : Hp} {io io' : List Addr} {m' : List MO} (f : FF x H G io m' H' G' io') (g2 : Same G' H2) (hm : MemA x G' io' H2 (lockM io.length m')) (hk : ∀ b, (∀ i, io.length ≤ i → io'[i]? ≠ some b) → H2 b = H' b) : FF x H G io (lockM io.length m') H2 G' io' := by
  obtain ⟨f1, f2, f3, f4, f5, f6, f7⟩ := f
  refine ⟨⟨g2, tabs_keep f1.2 fun b u e y => ?_⟩, hm, fun b o e hb nt => ?_, f4, f5, f6, fun b o u e => ?_⟩
  · rw [hk b fun i hi e2 => by
      obtain ⟨hn, _⟩ := List.getElem?_eq_some_iff.mp e2
      obtain ⟨vs, ho, q1, _, _, q4, _⟩ := f2.2.2 i _ b (List.getElem?_eq_getElem (by rw [f2.1]; exact hn)) e2
      rw [q1] at e
      cases e
      rcases y with ⟨ps, y⟩ | ⟨φ, y⟩
      · exact q4.nt ps y
      · exact q4.nx φ y]
    exact e
  · rw [hk b fun i hi e2 => by rw [f6 i b hi e2] at e; cases e]
    exact f3 b o e hb nt
  · rw [hk b fun i hi e2 => by rw [f6 i b hi e2] at e; cases e]
    exact f7 b o u e
end En

namespace En
open PySem PySem.Spec L2
def runF (T : Tb) (n : Nat) (code : E) (ds : List D) (m : List MO) : Option (Out × List MO) := fin (ev T.P T.Gm code ⟨ini n ds, m⟩)
theorem ini_str {x : SX} {G H : Hp} {io : List Addr} {m : List MO} {ds : List D} {vs : List V} {N : List Str} (gh : Gh x G H) (hm : MemA x G io H m) (r : RpL x G io ds vs) (hl : vs.length ≤ N.length) :
    StR x ⟨H, G, io, zOf H⟩ ⟨ini N.length ds, m⟩ G io (L2.start N vs) H where
  gh := gh.1
  tb := gh.2
  len := by unfold ini L2.start; simp [r.length]
  slot := fun i c e => by
    unfold ini at e
    by_cases hi : i < ds.length
    · rw [List.getElem?_append_left (by simpa using hi), List.getElem?_map] at e
      obtain ⟨d, hd, e2⟩ := Option.map_eq_some_iff.mp e
      cases e2
      obtain ⟨v, e1, q⟩ := r.get hd
      refine ⟨v, ?_, q⟩
      unfold L2.start
      rw [List.getElem?_append_left (by simp [r.length]; exact hi), List.getElem?_map, e1]
      rfl
    · rw [List.getElem?_append_right (by simpa using hi)] at e
      have := List.getElem?_replicate (a := (none : Option Cell)) (n := N.length - ds.length) (i := i - (ds.map (fun d => some (Cell.val d))).length)
      rw [this] at e
      split at e <;> cases e
  own := fun i j c c' v _ e1 _ o1 => by
    unfold ini at e1
    by_cases hi : i < ds.length
    · rw [List.getElem?_append_left (by simpa using hi), List.getElem?_map] at e1
      obtain ⟨d, hd, e2⟩ := Option.map_eq_some_iff.mp e1
      cases e2
      cases o1
    · rw [List.getElem?_append_right (by simpa using hi)] at e1
      have := List.getElem?_replicate (a := (none : Option Cell)) (n := N.length - ds.length) (i := i - (ds.map (fun d => some (Cell.val d))).length)
      rw [this] at e1
      split at e1 <;> cases e1
  mem := hm
  kh := fun _ _ e _ _ => e
  kg := fun _ _ => rfl
  ki := Pre.refl _
  ni := fun n a hn e => by
    have hn : io.length ≤ n := hn
    rw [List.getElem?_eq_none (by omega)] at e; cases e
  zl := fun _ _ e => zOf_at e
theorem fn_body {T : Tb} {cc : CC} {X : Cx} {body : List Stmt} {N ps : List Str} {code : E} {Pf : List D → List MO → Option (Out × List MO)} {sc : Scope} {vs : List V} {H : Hp} {Q : VK} {E : XK} (S : FnScope N ps sc) (t : TOk T) (o : XOk T cc X (fun cls d _ H => E cls d H)) (hc : chk T.nt code cc (.blk body) = true)
    (hrun : ∀ ds m r, Pf ds m = some r → stowO m (runF T N.length code ds m) = some r) (h : spP T.x Pf ps.length vs H Q E) : ∃ t, PSs X body t ∧ t { nx := fun _ H' => Q .non H', rt := Q } (L2.start N vs) H := by
  obtain ⟨hl, ds, m, G, io, gh, hmem, r, hp⟩ := h
  have d := snd code _ _ _ _ t o hc ⟨H, G, io, zOf H⟩
  refine ⟨_, PSs.lk T.x io.length d, ⟨ini N.length ds, m⟩, G, io, ini_str gh hmem r ?_, ?_⟩
  · rw [hl]
    have h1 := congrArg List.length S.pre
    rw [List.length_take] at h1
    omega
  · have hq := hp
    cases hP : Pf ds m with
    | none => rw [hP] at hp; exact hp.elim
    | some q =>
      have hR := hrun ds m q hP
      rw [hP, ← hR] at hp
      unfold runF at hp
      cases he : ev T.P T.Gm code ⟨ini N.length ds, m⟩ with
      | none => rw [he] at hp; exact hp.elim
      | some p =>
        obtain ⟨out, s1⟩ := p
        rw [he] at hp
        cases out with
        | rt d =>
          intro v σ' H' G' io' sg si t' rv
          refine ⟨G', io', s1.m, t'.gh, t'.mem, fun H2 g2 m2 k2 => ?_⟩
          have hp : PostF T.x H G io (stow true m (some (.val d, s1.m))) Q E := hp
          rw [← stow_lock, hmem.1] at hp
          exact stow_val hmem (fun _ => lockM_locked _ _) hp (t'.ff.lock g2 m2 k2) rv
        | rtf o1 =>
          intro p σ' H' G' io' sg si t' ni ow
          refine ⟨G', io', s1.m, t'.gh, t'.mem, fun H2 g2 m2 k2 => ?_⟩
          obtain ⟨ws, h1, e1, e2, e3, e4, e5, e6⟩ := ow
          have hp : PostF T.x H G io (stow true m (some (.fr o1, s1.m))) Q E := hp
          rw [← stow_lock, hmem.1] at hp
          exact stow_fr hmem (fun _ => lockM_locked _ _) hp (t'.ff.lock g2 m2 k2) ni e3 ⟨ws, h1, by rw [k2 p fun i hi e => ni (List.mem_of_getElem? e)]; exact e1, e2, e4, e5, e6⟩
        | nx =>
          intro σ' H' G' io' sg si t'
          refine ⟨G', io', s1.m, t'.gh, t'.mem, fun H2 g2 m2 k2 => ?_⟩
          have hp : PostF T.x H G io (stow true m (some (.val .non, s1.m))) Q E := hp
          rw [← stow_lock, hmem.1] at hp
          exact stow_val (d := .non) hmem (fun _ => lockM_locked _ _) hp (t'.ff.lock g2 m2 k2) rfl
        | exc c ns es => exact fun cls dd σ' H' G' io' sg si t' ex => stow_exc hmem (fun z => by cases z) hp t'.ff ex
        | _ => exact (show False from hp).elim
def BodyOk (prog : Program) (w : World) (K : PySem.W.Frag) (mg : Str → Option Value) (base : Heap) (k : Nat) (qual : Str) (st : Stmt) (a : Addr) (cdv : Value) (N : List Str) (sp : Sp) : Prop :=
  ∀ (A : Around) (outer : List Env) (s : Shared) (H : Hp) (vs : List V) (Q : VK) (E : XK), Room k (A.deeper (PyProof.Rows.envOfC qual (defScope st) s.heap.objs.size a cdv)) → sp vs H Q E →
    ∃ t, PSs (cxOf (L2.CX prog w) prog w K mg base N qual (defScope st) a cdv A outer s H E) (defBody st) t ∧ t { nx := fun _ H' => Q .non H', rt := Q } (L2.start N vs) H
theorem fn_ok {T : Tb} {qual : Str} {st : Stmt} {a : Addr} {cdv : Value} {N ps : List Str} {code : E} {Pf : List D → List MO → Option (Out × List MO)} (S : FnScope N ps (defScope st)) (hc : chk T.nt code (CC.fn N (defScope st)) (.blk (defBody st)) = true)
    (t : TOk T) (hrun : ∀ ds m r, Pf ds m = some r → stowO m (runF T N.length code ds m) = some r) : BodyOk T.prog T.w T.x.K T.mg T.base T.lv qual st a cdv N (spP T.x Pf ps.length) := by
  intro A outer s H vs Q E hr h
  have o : XOk T (CC.fn N (defScope st)) (cxOf (L2.CX T.prog T.w) T.prog T.w T.x.K T.mg T.base N qual (defScope st) a cdv A outer s H E) (fun cls d _ H => E cls d H) :=
    { prog := rfl, w := rfl, K := rfl, mg := rfl, base := rfl, N := rfl, nd := S.nd, sc := rfl, calm := rfl, tk := takes_of rfl rfl rfl rfl, po := passes_of rfl, room := hr,
      loc := fun y hy => by
        obtain ⟨_, hy⟩ := List.mem_filter.mp hy
        simp only [Bool.or_eq_true, decide_eq_true_eq] at hy
        exact ⟨hy, .inl rfl⟩ }
  exact fn_body S t o hc hrun h
def LmT (L : Ld) (j : Nat) (capN : List Str) (body : Expr) (scope : Scope) : Prop := capN.Nodup ∧ ∃ e : E, L.Cd j = some ⟨capN.length, capN.length, .ret e, id, none⟩ ∧ chk L.nt e { N := capN, sc := scope, loc := [] } (.ex body) = true
structure LamSc (sc : Scope) (capN : List Str) (scope : Scope) : Prop where
  kind : scope.kind = .function
  co : scope.isCoroutine = false
  gen : scope.isGenerator = false
  nocell : ∀ y ∈ scope.names, y.2 ≠ .cell
  cap : ∀ y ∈ capN, scope.names.lookup y = some .free
  free : ∀ y ∈ scope.names, y.2 = .free → sc.names.lookup y.1 = some .cell
  cel : ∀ y ∈ capN, sc.names.lookup y = some .cell
def LamD (L : Ld) (qual : Str) (sc : Scope) (body : List Stmt) (N : List Str) (code : E) (fd : FuncData) : Prop :=
  ∃ (c P : Addr) (wc wc1 : Option WhyC) (lmk : Nat → List Str → Arguments → Expr → Scope → Bool), fd.code = .ref c ∧ LamX.TabB L.base L.mg c P ∧ (P, qual ++ ".<locals>." ++ "<lambda>") ∈ L.x.tbs ∧ (∀ p ∈ L.x.tbs, p.1 = P → p.2 = qual ++ ".<locals>." ++ "<lambda>") ∧
    (∀ n w, wc = some w → WhyAt (L.T n) w) ∧ (∀ n w, wc1 = some w → WhyAt1 (L.T n) w) ∧ (∀ j capN params body scope, lmk j capN params body scope = true → LmT L j capN body scope ∧ LamSc sc capN scope) ∧
    chk { L.nt with wc := wc, wc1 := wc1, lmk := lmk } code { CC.fn N sc with lam := true } (.blk body) = true
structure FnD (L : Ld) (name qual : Str) (st : Stmt) (a : Addr) (fd : FuncData) (N ps : List Str) (code : E) : Prop where
  fn : ∃ dvs kws, FunD L.x.K name qual (defArgs st) (defBody st) (defScope st) dvs kws a fd
  sc : FnScope N ps (defScope st)
  hc : chk L.nt code (CC.fn N (defScope st)) (.blk (defBody st)) = true ∨ LamD L qual (defScope st) (defBody st) N code fd
def FnF (L : Ld) (f : Nat) : Prop := ∃ name qual st a fd N ps code, FnD L name qual st a fd N ps code ∧ L.mg (L.nt.fnm f) = some (.ref a) ∧ Binds L.x.K fd ps [] ∧ L.Cd f = some ⟨N.length, ps.length, code, id, none⟩
def packD (p : Nat) (ds : List D) : List D := ds.take p ++ [.tup (ds.drop p)]
def StarB (fd : FuncData) (ps : List Str) (pv : Str) : Prop := ∀ us rest : List Value, us.length = ps.length → bindArgs fd ⟨us ++ rest, []⟩ = (newTuple rest >>= fun t => pure (ps.zip us ++ [(pv, t)]))
def FnC (L : Ld) (i n : Nat) (kk : List Str) (a : Addr) : Prop := (∃ name qual st fd N ps code gd g gV, FnD L name qual st a fd N ps code ∧ KBn L.x.K fd ps n kk g gV ∧ L.Cd i = some ⟨N.length, ps.length, code, gd, none⟩ ∧
  ∀ (G : Hp) (io : List Addr) ds es vs zs, vs.length = n → zs.length = kk.length → RpL L.x G io ds vs → RpL L.x G io es zs → (gV vs zs).length = ps.length ∧ RpL L.x G io (gd (ds ++ es)) (gV vs zs)) ∨
  ∃ name qual st fd N ps pv code, FnD L name qual st a fd N (ps ++ [pv]) code ∧ kk = [] ∧ ps.length ≤ n ∧ n ≤ 1000 ∧ StarB fd ps pv ∧ L.Cd i = some ⟨N.length, ps.length + 1, code, packD ps.length, none⟩
def FnK (L : Ld) (f : Nat) : Prop := ∃ a : Addr, L.mg (L.nt.fnm f) = some (.ref a) ∧ PySem.W.keepIn L.x.K (.ref a) = true ∧ FnC L f (L.nt.kn f) (L.nt.kk f) a
def FnE (L : Ld) (c i : Nat) (m : Str) (n : Nat) (kk : List Str) : Prop := ∃ a : Addr, Meth L.x.K (L.x.ca c) m a ∧ FnC L i (n + 1) kk a
def FnM (L : Ld) (f : Nat) : Prop := ∃ name qual st a fd N ps code gd g gV c i, L.x.live c = true ∧ FnD L name qual st a fd N ps code ∧ L.mg (L.nt.fnm f) = some (.ref (L.x.ca c)) ∧ Mk L.x.K (L.x.ca c) a ∧ KBn L.x.K fd ps (L.nt.kn f + 1) (L.nt.kk f) g gV ∧
  (∃ N0 p0 c0, L.Cd f = some ⟨N0, p0, c0, gd, some (c, i)⟩) ∧ L.Cd i = some ⟨N.length, ps.length, code, id, none⟩ ∧
  ∀ (G : Hp) (io : List Addr) ds es (v : V) vs zs d, vs.length = L.nt.kn f → zs.length = (L.nt.kk f).length → Rp L.x G io d v → RpL L.x G io ds vs → RpL L.x G io es zs → (gV (v :: vs) zs).length = ps.length ∧ RpL L.x G io (d :: gd (ds ++ es)) (gV (v :: vs) zs)
structure LdOk (L : Ld) : Prop where
  fn : ∀ f, L.nt.isF f = true → FnF L f
  fk : ∀ f, L.nt.isK f = true → FnK L f
  fm : ∀ f, L.nt.isM f = true → FnM L f
  nm : L.x.nm = L.nt.nm
  nd : L.nt.fl.Nodup
  lv : L.x.live = L.nt.live
  ko : ClO L.x
  fa : ∀ c f, L.nt.fa c f = true → NoAttr L.x.K (L.x.ca c) (L.nt.nm f)
  me : ∀ c i m n kk, L.nt.me c i = some (m, n, kk) → FnE L c i m n kk
  cn : ∀ c, L.nt.cn c ≠ "" → L.mg (L.nt.cn c) = some (.ref (L.x.ca c)) ∧ L.nt.live c = true
  go : ∀ i, L.nt.gone i = true → L.Cd i = none
  gv : ∀ g, L.nt.gvn g ≠ "" → ∃ u v, L.mg (L.nt.gvn g) = some u ∧ RelV v u ∧ ∀ G io, Rp L.x G io (L.Gm g) v
  bl : ∀ n ∈ bltNames, L.mg n = none
  xq : ∀ x n c ns vs, L.nt.xq x n = some (c, ns, vs) → XAt (L.T 0) x n c ns vs
theorem fn_zero {prog : Program} {w : World} {x : SX} {mg : Str → Option Value} {base : Heap} {k : Nat} {qual : Str} {st : Stmt} {a : Addr} {cdv : Value} {N : List Str} {n : Nat} : BodyOk prog w x.K mg base k qual st a cdv N (spP x (fun _ _ => none) n) := fun A outer s H vs Q E hr hs => by
  obtain ⟨_, ds, m, G, io, _, _, _, hp⟩ := hs
  exact hp.elim
noncomputable def PfC (L : Ld) (n N p : Nat) (code : E) (ds : List D) (m : List MO) : Option (Out × List MO) := match n with
  | 0 => none
  | n + 1 => runC (Pn L.Cd L.Gm n) L.Gm N p code ds m
theorem Pn_eq {L : Ld} {n f : Nat} {N p : Nat} {code : E} {gd : List D → List D} (h : L.Cd f = some ⟨N, p, code, gd, none⟩) (ds : List D) (m : List MO) : Pn L.Cd L.Gm n f ds m = PfC L n N p code (gd ds) m := by
  cases n with
  | zero => rfl
  | succ n =>
    unfold Pn
    rw [h]
    rfl
theorem PfC_some {L : Ld} {n N p : Nat} {code : E} {ds : List D} {m : List MO} {r : Out × List MO} (e : PfC L (n + 1) N p code ds m = some r) : ds.length = p ∧ stowO m (fin (ev (Pn L.Cd L.Gm n) L.Gm code ⟨ini N ds, m⟩)) = some r := by
  have e : (if ds.length = p then stowO m (fin (ev (Pn L.Cd L.Gm n) L.Gm code ⟨ini N ds, m⟩)) else none) = some r := e
  by_cases hl : ds.length = p
  · rw [if_pos hl] at e
    exact ⟨hl, e⟩
  · rw [if_neg hl] at e; cases e
def LvOk (L : Ld) (n : Nat) : Prop := ∀ {name qual : Str} {st : Stmt} {a : Addr} {fd : FuncData} {N ps : List Str} {code : E}, FnD L name qual st a fd N ps code →
  BodyOk L.prog L.w L.x.K L.mg L.base (4 * n) qual st a fd.code N (spP L.x (PfC L n N.length ps.length code) ps.length)
theorem lv_fn {L : Ld} {n : Nat} (hF : LvOk L n) {name qual : Str} {st : Stmt} {a : Addr} {fd : FuncData} {N ps : List Str} {code : E} (q : FnD L name qual st a fd N ps code) :
    FnOk L.prog L.w L.x.K L.mg L.base (L2.CX L.prog L.w) (4 * n + 1) a fd ps (spP L.x (PfC L n N.length ps.length code) ps.length) := by
  obtain ⟨dvs, kws, F⟩ := q.fn
  have hb := hF q
  obtain ⟨oc, od, dV, kV, doc, pm, an, cdv, ct, osl, rfl, lk, hcd, _, _⟩ := F.ex
  exact fn_of lk hcd q.sc (fun vs H Q E h => h.1) hb
theorem star_pack {x : SX} {H G : Hp} {io : List Addr} {m : List MO} {q : Addr} {ds : List D} {vs : List V} (gh : Gh x G H) (hm : MemA x G io H m) (hq : H q = none) (r : RpL x G io ds vs) :
    Gh x (upd G q (.tup vs)) (upd H q (.tup vs)) ∧ MemA x (upd G q (.tup vs)) io (upd H q (.tup vs)) m ∧ Same G (upd G q (.tup vs)) ∧ Rp x (upd G q (.tup vs)) io (.tup ds) (.ref q) ∧
      ∀ r Q E, PostF x H G io r Q E → PostF x (upd H q (.tup vs)) (upd G q (.tup vs)) io r Q E := by
  have t0 : StR x ⟨H, G, io, zOf H⟩ ⟨ini ([] : List Str).length [], m⟩ G io (L2.start [] []) H := ini_str gh hm .nil (Nat.le_refl _)
  obtain ⟨t1, sg⟩ := t0.newfast (o := .tup vs) hq
  have widen : ∀ {m' : List MO} {H' G' : Hp} {io' : List Addr}, FF x (upd H q (.tup vs)) (upd G q (.tup vs)) io m' H' G' io' → FF x H G io m' H' G' io' := fun {m' H' G' io'} f => by
    have hne : ∀ {b : Addr} {o : HO}, H b = some o → b ≠ q := fun {b o} e z => by rw [z, hq] at e; cases e
    obtain ⟨f1, f2, f3, f4, f5, f6, f7⟩ := f
    refine ⟨f1, f2, fun b o e hb nt => f3 b o (by rw [upd_ne (hne e)]; exact e) hb nt, fun b hb => ?_, f5, fun k b hk e => ?_, fun b o u e => f7 b o u (by rw [upd_ne (hne e)]; exact e)⟩
    · cases e : H b with
      | none => exact absurd e hb
      | some o =>
        have h2 := f4 b (by rw [upd_ne (hne e), e]; simp)
        rw [upd_ne (hne e)] at h2
        exact h2
    · have h2 := f6 k b hk e
      by_cases z : b = q
      · rw [z]; exact hq
      · rw [upd_ne z] at h2; exact h2
  refine ⟨t1.gt, t1.mem, sg, ⟨q, vs, rfl, .of upd_same, r.mono sg (Pre.refl _)⟩, fun r Q E h => ?_⟩
  have hne : ∀ {b : Addr}, upd H q (.tup vs) b = none → H b = none := fun {b} e => by
    by_cases z : b = q
    · rw [z]; exact hq
    · rw [upd_ne z] at e; exact e
  unfold PostF at h ⊢
  split at h
  · exact fun v H' G' io' ff rv => h v H' G' io' (widen ff) rv
  · exact fun p H' G' io' ff ni hn ow => h p H' G' io' (widen ff) ni (hne hn) ow
  · exact fun cls dd H' G' io' ff ex => h cls dd H' G' io' (widen ff) ex
  · exact h.elim
theorem cal_of {L : Ld} {n i k : Nat} {kk : List Str} {a : Addr} (hF : LvOk L n) (h : FnC L i k kk a) : Cal (L.T n) i k kk a := by
  rcases h with h | h
  · obtain ⟨name, qual, st, fd, N, ps, code, gd, g, gV, q1, q2, q3, q4⟩ := h
    refine Cal.mk (T := L.T n) (Pf := PfC L n N.length ps.length code) (k := 4 * n + 1) (Nat.le_refl _) (lv_fn hF q1) q2 fun G io ds es vs zs l1 l2 r1 r2 => ?_
    obtain ⟨e1, e2⟩ := q4 G io ds es vs zs l1 l2 r1 r2
    exact ⟨e1, _, e2, fun m => Pn_eq q3 _ m⟩
  · obtain ⟨name, qual, st, fd, N, ps, pv, code, q1, rfl, hk, hk2, hb, q3⟩ := h
    refine ⟨4 * n + 1, Nat.le_refl _, ?_⟩
    rintro A outer s H us ws vs zs Q E hr e0 r rz l1 l2 ⟨ds, es, m, G, io, gh, hm, r1, r2, hp⟩
    obtain ⟨dvs, kws, F⟩ := q1.fn
    have hbd := hF q1
    obtain ⟨oc, od, dV, kV, doc, pm, an, cdv, ct, osl, rfl, lk, hcd, _, _⟩ := F.ex
    have fr := StX.fn_star lk hcd q1.sc StX.cxUp hb hbd
    have hz : zs = [] := List.eq_nil_of_length_eq_zero l2
    subst hz
    have he : es = [] := r2.nil_iff.mp rfl
    subst he
    rw [List.append_nil, show (L.T n).P i ds m = PfC L n N.length (ps.length + 1) code (packD ps.length ds) m from Pn_eq (L := L) q3 ds m] at hp
    refine fr A outer s H us vs Q E hr e0 r ⟨vs.take ps.length, vs.drop ps.length, (List.take_append_drop _ _).symm, by rw [List.length_take, l1]; exact Nat.min_eq_left hk, ?_, fun p hq => ?_⟩
    · rw [List.length_drop, l1]
      exact Nat.le_trans (Nat.sub_le _ _) (Nat.le_trans hk2 (big_line (by decide)))
    · obtain ⟨g1, g2, g3, g4, g5⟩ := star_pack gh hm hq (r1.drop ps.length)
      refine ⟨by simp [l1, Nat.min_eq_left hk], packD ps.length ds, m, _, io, g1, g2, ?_, ?_⟩
      · exact ((r1.take ps.length).mono g3 (Pre.refl _)).append (.cons g4 .nil)
      · have hl : (ps ++ [pv]).length = ps.length + 1 := by simp
        rw [hl]
        exact g5 _ _ _ hp
theorem ld_step {L : Ld} (h : LdOk L) {n : Nat} (hF : LvOk L n) : TOk (L.T n) where
  fn := fun f hf => by
    obtain ⟨name, qual, st, a, fd, N, ps, code, q1, q0, q2, q3⟩ := h.fn f hf
    refine ⟨a, fd, ps, q0, (show PySem.W.keepIn L.x.K (.ref a) = true from let ⟨_, _, F⟩ := q1.fn; F.kp), ?_, q2, fun ds m r e => ?_⟩
    · refine ((lv_fn hF q1).mono (show 4 * n + 1 ≤ 4 * n + 4 by omega)).imp fun vs H Q E hs => ?_
      obtain ⟨e1, ds, m, G, io, e2, e3, e4, e5⟩ := hs
      refine ⟨e1, ds, m, G, io, e2, e3, e4, ?_⟩
      have e := Pn_eq (n := n) q3 ds m
      rw [show (PfC L n N.length ps.length code ds m) = (L.T n).P f ds m from e.symm]
      exact e5
    · have e' := (Pn_eq (n := n) q3 ds m).symm.trans e
      cases n with
      | zero => cases e'
      | succ n =>
        exact (PfC_some e').1
  fk := fun f hf => by
    obtain ⟨a, q0, q1, q2⟩ := h.fk f hf
    exact ⟨a, q0, q1, cal_of hF q2⟩
  nm := h.nm
  nd := h.nd
  lv := h.lv
  ko := h.ko
  fa := h.fa
  me := fun c i m k kk e => by
    obtain ⟨a, q1, q2⟩ := h.me c i m k kk e
    exact ⟨a, q1, cal_of hF q2⟩
  cn := h.cn
  gone := fun i hi ds m => by
    show Pn L.Cd L.Gm n i ds m = none
    cases n with
    | zero => rfl
    | succ n => unfold Pn; rw [h.go i hi]
  fm := fun f hf => by
    obtain ⟨name, qual, st, a, fd, N, ps, code, gd, g, gV, c, i, hlv, q1, q0, qM, q2, ⟨N0, p0, c0, q3⟩, q4, q5⟩ := h.fm f hf
    refine ⟨L.x.ca c, a, 4 * n + 1, fd, ps, g, gV, _, q0, qM, Nat.le_refl _, lv_fn hF q1, q2, ?_⟩
    rintro vs zs H Q E l1 l2 ⟨ds, es, m, G, io, gh, hm, r1, r2, hp⟩ x dx hx hdx hne
    have pr : Pre io (io ++ [x]) := ⟨[x], rfl⟩
    have hx2 : upd H dx (.own x) x = none := by rw [upd_ne hne.symm]; exact hx
    have sH : Same H (upd (upd H dx (.own x)) x (.ins (L.x.ca c) dx [])) := (same_upd hdx).trans (same_upd hx2)
    have nio : x ∉ io := fun hi => by
      obtain ⟨k, hk, e⟩ := List.getElem_of_mem hi
      have hl : k < m.length := by rw [hm.1]; exact hk
      obtain ⟨_, _, e2, _⟩ := hm.2.2 k _ x (List.getElem?_eq_getElem hl) (by rw [List.getElem?_eq_getElem hk, e])
      rw [hx] at e2; cases e2
    have gx : G x = none := by
      cases e : G x with
      | none => rfl
      | some u => rw [gh.1 _ _ e] at hx; cases hx
    have gh2 : Gh L.x G (upd (upd H dx (.own x)) x (.ins (L.x.ca c) dx [])) := ⟨gh.1.trans sH, tabs_keep gh.2 fun b u e _ => sH _ _ e⟩
    have rx : Rp L.x G (io ++ [x]) (.adr m.length) (.ref x) := ⟨x, rfl, by rw [hm.1]; simp⟩
    obtain ⟨e1, e2⟩ := q5 G (io ++ [x]) ds es (.ref x) vs zs _ l1 l2 rx (r1.mono (Same.refl _) pr) (r2.mono (Same.refl _) pr)
    have hm2 : MemA L.x G (io ++ [x]) (upd (upd H dx (.own x)) x (.ins (L.x.ca c) dx [])) (m ++ [.ob c [] []]) := by
      refine ⟨by simp [hm.1], ?_, fun k o b h1 h2 => ?_⟩
      · rw [List.nodup_append]
        exact ⟨hm.2.1, by simp, fun a ha b hb => by simp at hb; rw [hb]; exact fun z => nio (by rw [← z]; exact ha)⟩
      · by_cases hk : k < io.length
        · rw [List.getElem?_append_left (by rw [hm.1]; exact hk)] at h1
          rw [List.getElem?_append_left hk] at h2
          obtain ⟨ws, ho, w1, w2, w3, w4⟩ := hm.2.2 k o b h1 h2
          exact ⟨ws, ho, sH _ _ w1, w2, w3.mono (Same.refl _) pr, w4⟩
        · rw [List.getElem?_append_right (by rw [hm.1]; omega)] at h1
          rw [List.getElem?_append_right (by omega)] at h2
          rw [hm.1] at h1
          cases hz : k - io.length with
          | zero =>
            rw [hz] at h1 h2
            cases h1
            cases h2
            exact ⟨[], _, upd_same, gx, rfl, ⟨hlv, dx, rfl⟩, rfl⟩
          | succ j => rw [hz] at h2; simp at h2
    refine ⟨e1, _, m ++ [.ob c [] []], G, io ++ [x], gh2, hm2, e2, ?_⟩
    have widen : ∀ {m' : List MO} {H' G' : Hp} {io' : List Addr}, FF L.x (upd (upd H dx (.own x)) x (.ins (L.x.ca c) dx [])) G (io ++ [x]) m' H' G' io' → FF L.x H G io m' H' G' io' := fun {m' H' G' io'} f => by
      obtain ⟨f1, f2, f3, f4, f5, f6, f7⟩ := f
      refine ⟨f1, f2, fun b o e hb nt => f3 b o (sH _ _ e) (fun z => ?_) nt, fun b hb => f4 b ?_, pr.trans f5, fun k b hk e => ?_, fun b q u e => f7 _ _ _ (sH _ _ e)⟩
      · rcases List.mem_append.mp z with z | z
        · exact hb z
        · simp at z
          rw [z, hx] at e; cases e
      · cases e : H b with
        | none => exact absurd e hb
        | some o => rw [sH _ _ e]; simp
      · by_cases hk2 : k = io.length
        · subst hk2
          obtain ⟨z, hz⟩ := f5
          rw [hz] at e
          simp at e
          rw [← e]
          exact hx
        · have q := f6 k b (by simp; omega) e
          cases e3 : H b with
          | none => rfl
          | some o => rw [sH _ _ e3] at q; cases q
    cases n with
    | zero => exact hp.elim
    | succ n =>
      have hP : (L.T (n + 1)).P f (ds ++ es) m = mkF c (PfC L (n + 1) N.length ps.length code) (gd (ds ++ es)) m := by
        show Pn L.Cd L.Gm (n + 1) f (ds ++ es) m = _
        unfold Pn
        rw [q3]
        dsimp only
        rw [q4]
        rfl
      rw [hP] at hp
      unfold mkF at hp
      cases hr : PfC L (n + 1) N.length ps.length code (.adr m.length :: gd (ds ++ es)) (m ++ [.ob c [] []]) with
      | none => rw [hr] at hp; exact hp.elim
      | some r =>
        obtain ⟨out, m'⟩ := r
        rw [hr] at hp
        cases out with
        | val d =>
          cases d with
          | non =>
            intro v H' G' io' ff rv
            refine ⟨rv, ?_⟩
            have ff2 := widen ff
            dsimp only at hp
            refine stow_val hm (fun z => by cases z) hp ff2 ?_
            exact ⟨x, rfl, ff.pre.get (by rw [hm.1]; simp)⟩
          | _ => exact hp.elim
        | exc k ns es =>
          intro cls dd H' G' io' ff ex
          dsimp only at hp
          exact stow_exc hm (fun z => by cases z) hp (widen ff) ex
        | _ => exact hp.elim
  gv := h.gv
  bl := h.bl
  xq := fun x k c ns vs e => h.xq x k c ns vs e
  lp := show 1 ≤ 4 * n + 4 by omega
end En

namespace En
open PySem PySem.Spec L2
def lay {α : Type} (e : α) (L : List Src) (us ws ds ms : List α) : List α := L.map (Src.at e us ws ds ms)
def gdF (n : Nat) (L : List Src) (dD mD : List D) (l : List D) : List D := lay .non L (l.take n) (l.drop n) dD mD
def gdM (n : Nat) (L : List Src) (dD mD : List D) (l : List D) : List D := (lay .non L (.non :: l.take (n - 1)) (l.drop (n - 1)) dD mD).tail
theorem vals_getD : ∀ {vs : List V} {us : List Value}, Vals vs us → ∀ i, RelV (vs.getD i .non) (us.getD i .none)
  | [], [], _, _ => rfl
  | [], _ :: _, h, _ => by cases h
  | _ :: _, [], h, _ => by cases h
  | v :: vs, u :: us, h, 0 => by
    cases h with
    | cons a b => exact a
  | v :: vs, u :: us, h, i + 1 => by
    cases h with
    | cons a b => exact vals_getD b i
theorem lay_vals {vs zs ds ms : List V} {us ws its mv : List Value} (r1 : Vals vs us) (r2 : Vals zs ws) (r3 : Vals ds its) (r4 : Vals ms mv) : ∀ L : List Src, Vals (lay .non L vs zs ds ms) (lay .none L us ws its mv)
  | [] => .nil
  | s :: L => by
    refine .cons ?_ (lay_vals r1 r2 r3 r4 L)
    cases s with
    | p i => exact vals_getD r1 i
    | k i => exact vals_getD r2 i
    | d i => exact vals_getD r3 i
    | w i => exact vals_getD r4 i
section
variable {K : PySem.W.Frag} {x qual : Str} {params : Arguments} {body : List Stmt} {scope : Scope} {f : Addr} {fd : FuncData}
theorem fund_0 {oc : Value} {od an : Option Addr} {osl : Array (Option Value)} {kV doc pm cdv ct : Value} (l : K.lookup f = some ⟨oc, od, .func (PySem.W.fnOf x qual params body scope .none kV doc pm an cdv ct), osl⟩)
    (c : PySem.W.codeIn K cdv qual = true) (k : PySem.W.keepIn K (.ref f) = true) : FunD K x qual params body scope [] [] f (PySem.W.fnOf x qual params body scope .none kV doc pm an cdv ct) :=
  ⟨⟨oc, od, .none, kV, doc, pm, an, cdv, ct, osl, rfl, l, c, .inl ⟨rfl, rfl⟩, .inl rfl⟩, k⟩
theorem isD_list {K : PySem.W.Frag} {n : Nat} (ih : ∀ {u : Value} {d : D}, isD K n u d = true → ∃ v, RelV v u ∧ ∀ (x : SX) (G : Hp) (io : List Addr), x.K = K → Rp x G io d v) :
    ∀ {us : List Value} {ds : List D}, us.length = ds.length → ((us.zip ds).all fun p => isD K n p.1 p.2) = true → ∃ vs, Vals vs us ∧ ∀ (x : SX) (G : Hp) (io : List Addr), x.K = K → RpL x G io ds vs
  | [], [], _, _ => ⟨[], .nil, fun _ _ _ _ => rfl⟩
  | [], _ :: _, h, _ => by cases h
  | _ :: _, [], h, _ => by cases h
  | u :: us, d :: ds, h, q => by
    rw [List.zip_cons_cons, List.all_cons, Bool.and_eq_true] at q
    obtain ⟨v, e1, e2⟩ := ih q.1
    obtain ⟨vs, e3, e4⟩ := isD_list ih (Nat.succ.inj h) q.2
    exact ⟨v :: vs, .cons e1 e3, fun x G io hx => .cons (e2 x G io hx) (e4 x G io hx)⟩
theorem isD_ok {K : PySem.W.Frag} : ∀ (n : Nat) {u : Value} {d : D}, isD K n u d = true → ∃ v, RelV v u ∧ ∀ (x : SX) (G : Hp) (io : List Addr), x.K = K → Rp x G io d v := by
  intro n
  induction n with
  | zero =>
    intro u d h
    unfold isD at h
    split at h
    · exact ⟨.non, rfl, fun _ _ _ _ => rfl⟩
    · exact ⟨.bl _, rfl, fun _ _ _ _ => congrArg V.bl (of_decide_eq_true h)⟩
    · exact ⟨.int _, ⟨_, rfl⟩, fun _ _ _ _ => congrArg V.int (of_decide_eq_true h)⟩
    · exact ⟨.str _, ⟨_, rfl⟩, fun _ _ _ _ => congrArg V.str (of_decide_eq_true h)⟩
    · rename_i a0 b0 n0 ds0 h0; cases h0
    · cases h
  | succ n ih =>
    intro u d h
    unfold isD at h
    split at h
    · exact ⟨.non, rfl, fun _ _ _ _ => rfl⟩
    · exact ⟨.bl _, rfl, fun _ _ _ _ => congrArg V.bl (of_decide_eq_true h)⟩
    · exact ⟨.int _, ⟨_, rfl⟩, fun _ _ _ _ => congrArg V.int (of_decide_eq_true h)⟩
    · exact ⟨.str _, ⟨_, rfl⟩, fun _ _ _ _ => congrArg V.str (of_decide_eq_true h)⟩
    · rename_i a ds hn
      cases hn
      split at h
      · rename_i t od its k sl hl
        simp only [Bool.and_eq_true, decide_eq_true_eq] at h
        obtain ⟨rfl, h2, h3, h4⟩ := h
        obtain ⟨vs, e1, e2⟩ := isD_list ih (by rw [Array.length_toList]; exact h3) h4
        exact ⟨.ref a, rfl, fun x G io hx => ⟨a, vs, rfl, .inr ⟨_, its, k, by rw [hx]; exact hl, rfl, rfl, by unfold sizeLine; omega, e1⟩, e2 x G io hx⟩⟩
      · cases h
    · cases h
theorem kv_list {K : PySem.W.Frag} {D0 : Addr} : ∀ {names : List Str} {mD : List D}, names.length = mD.length → ((names.zip mD).all (kvOne K D0)) = true →
    ∃ mvs : List V, mvs.length = names.length ∧ (∀ q ∈ names.zip mvs, ∃ u, PySem.W.nsIn K D0 q.1 = some (some u) ∧ RelV q.2 u) ∧ ∀ (x : SX) (G : Hp) (io : List Addr), x.K = K → RpL x G io mD mvs
  | [], [], _, _ => ⟨[], rfl, fun q h => (by cases h), fun _ _ _ _ => rfl⟩
  | [], _ :: _, h, _ => by cases h
  | _ :: _, [], h, _ => by cases h
  | m :: ms, d :: ds, h, q => by
    rw [List.zip_cons_cons, List.all_cons, Bool.and_eq_true] at q
    obtain ⟨mvs, e1, e2, e3⟩ := kv_list (Nat.succ.inj h) q.2
    have q1 := q.1
    unfold kvOne at q1
    split at q1
    · rename_i u hu
      obtain ⟨v, r1, r2⟩ := isD_ok 3 q1
      refine ⟨v :: mvs, congrArg Nat.succ e1, fun p hp => ?_, fun x G io hx => .cons (r2 x G io hx) (e3 x G io hx)⟩
      rcases List.mem_cons.mp (show p ∈ (m, v) :: ms.zip mvs from hp) with rfl | hp
      · exact ⟨u, hu, r1⟩
      · exact e2 p hp
    · cases q1
theorem fund_g {oc : Value} {od an : Option Addr} {osl : Array (Option Value)} {dV kV doc pm cdv ct : Value} {dD mD : List D} {names : List Str} (l : K.lookup f = some ⟨oc, od, .func (PySem.W.fnOf x qual params body scope dV kV doc pm an cdv ct), osl⟩)
    (c : PySem.W.codeIn K cdv qual = true) (k : PySem.W.keepIn K (.ref f) = true) (q1 : dvChk K dV dD = true) (q2 : kvChk K kV names mD = true) (hl : names.length = mD.length := by rfl) :
    ∃ (dvs mvs : List V), FunD K x qual params body scope dvs (names.zip mvs) f (PySem.W.fnOf x qual params body scope dV kV doc pm an cdv ct) ∧ dvs.length = dD.length ∧ mvs.length = names.length ∧
      ∀ (x : SX) (G : Hp) (io : List Addr), x.K = K → RpL x G io dD dvs ∧ RpL x G io mD mvs := by
  obtain ⟨dvs, e1, e2, e3⟩ : ∃ dvs, DflV K dV dvs ∧ dvs.length = dD.length ∧ ∀ (x : SX) (G : Hp) (io : List Addr), x.K = K → RpL x G io dD dvs := by
    unfold dvChk at q1
    split at q1
    · exact ⟨[], .inl ⟨rfl, rfl⟩, rfl, fun _ _ _ _ => RpL.nil⟩
    · rename_i d ds T
      split at q1
      · rename_i c0 d0 its n0 s0 hT
        rw [Bool.and_eq_true] at q1
        have hl2 := of_decide_eq_true q1.1
        obtain ⟨vs, r1, r2⟩ := isD_list (fun h => isD_ok 3 h) hl2 q1.2
        have hlv : vs.length = (d :: ds).length := r1.length.trans hl2
        exact ⟨vs, .inr ⟨(fun z => by rw [z] at hlv; cases hlv), T, _, its.toList, n0, rfl, hT, rfl, r1⟩, hlv, r2⟩
      · cases q1
    · cases q1
  obtain ⟨mvs, e4, e5, e6⟩ : ∃ mvs, KwdV K kV (names.zip mvs) ∧ mvs.length = names.length ∧ ∀ (x : SX) (G : Hp) (io : List Addr), x.K = K → RpL x G io mD mvs := by
    unfold kvChk at q2
    split at q2
    · refine ⟨[], .inl rfl, rfl, fun _ _ _ _ => ?_⟩
      cases mD with
      | nil => rfl
      | cons _ _ => cases hl
    · rename_i m ms D0
      obtain ⟨mvs, r1, r2, r3⟩ := kv_list hl q2
      exact ⟨mvs, .inr ⟨D0, rfl, r2⟩, r1, r3⟩
    · cases q2
  exact ⟨dvs, mvs, ⟨⟨oc, od, dV, kV, doc, pm, an, cdv, ct, osl, rfl, l, c, e1, e4⟩, k⟩, e2, e5, fun x G io hx => ⟨e3 x G io hx, e6 x G io hx⟩⟩
theorem kbn_0 {n : Nat} {ks ps : List Str} {L : List Src} (F : FunD K x qual params body scope [] [] f fd)
    (h : ∀ (kV doc pm : Value) (an : Option Addr) (cdv ct : Value) (us ws : List Value), us.length = n → ws.length = ks.length →
      bindArgs (PySem.W.fnOf x qual params body scope .none kV doc pm an cdv ct) ⟨us, ks.zip ws⟩ = pure (ps.zip (lay .none L us ws [] []))) :
    KBn K fd ps n ks (fun us ws => lay .none L us ws [] []) (fun vs zs => lay .non L vs zs [] []) := by
  obtain ⟨oc, od, dV, kV, doc, pm, an, cdv, ct, osl, rfl, lk, hcd, hD, hK⟩ := F.ex
  rcases hD with ⟨_, rfl⟩ | ⟨e, _⟩
  · exact ⟨fun s us ws X l1 l2 => .of_eq (h kV doc pm an cdv ct us ws l1 l2), fun r1 r2 => lay_vals r1 r2 .nil .nil L⟩
  · exact absurd rfl e
theorem kbn_d {n : Nat} {ks ps : List Str} {L : List Src} {dvs : List V} (F : FunD K x qual params body scope dvs [] f fd) (hne : dvs ≠ [])
    (h : ∀ (T : Addr) (kV doc pm : Value) (an : Option Addr) (cdv ct : Value) (us its ws : List Value), us.length = n → its.length = dvs.length → ws.length = ks.length →
      ∃ k, bindArgs (PySem.W.fnOf x qual params body scope (.ref T) kV doc pm an cdv ct) ⟨us, ks.zip ws⟩ = seqItems? (.ref T) >>= k ∧ k (some its.toArray) = pure (ps.zip (lay .none L us ws its []))) :
    ∃ its : List Value, KBn K fd ps n ks (fun us ws => lay .none L us ws its []) (fun vs zs => lay .non L vs zs dvs []) := by
  obtain ⟨oc, od, dV, kV, doc, pm, an, cdv, ct, osl, rfl, lk, hcd, hD, hK⟩ := F.ex
  rcases hD with ⟨e, _⟩ | ⟨_, T, o, its, m, rfl, lT, oT, rT⟩
  · exact absurd e hne
  · refine ⟨its, ⟨fun s us ws X l1 l2 => ?_, fun r1 r2 => lay_vals r1 r2 rT .nil L⟩⟩
    obtain ⟨k, e1, e2⟩ := h T kV doc pm an cdv ct us its ws l1 rT.length.symm l2
    refine BindsTo.of_looks fun M => ?_
    rw [e1]
    exact looks_items X lT oT (.of_pure e2)
def selJ {α : Type} (e : α) (J : List Nat) (l : List α) : List α := J.map (l.getD · e)
end
section
variable {x : SX} {G : Hp} {io : List Addr}
theorem rpl_getD {ds : List D} {vs : List V} (r : RpL x G io ds vs) (i : Nat) : Rp x G io (ds.getD i .non) (vs.getD i .non) := by
  by_cases hi : i < ds.length
  · obtain ⟨v, e, q⟩ := r.get (List.getElem?_eq_getElem hi)
    rw [List.getD_eq_getElem?_getD, List.getD_eq_getElem?_getD, e, List.getElem?_eq_getElem hi]
    exact q
  · rw [List.getD_eq_getElem?_getD, List.getD_eq_getElem?_getD, List.getElem?_eq_none (by omega), List.getElem?_eq_none (by rw [r.length]; omega)]
    exact rfl
theorem rpl_sel {ds : List D} {vs : List V} (r : RpL x G io ds vs) : ∀ J : List Nat, RpL x G io (selJ .non J ds) (selJ .non J vs)
  | [] => .nil
  | j :: J => .cons (rpl_getD r j) (rpl_sel r J)
theorem lay_rp0 {ds es dD mD : List D} {vs zs dV mV : List V} (r1 : RpL x G io ds vs) (r2 : RpL x G io es zs) (r3 : RpL x G io dD dV) (r4 : RpL x G io mD mV) : ∀ L : List Src, RpL x G io (lay .non L ds es dD mD) (lay .non L vs zs dV mV)
  | [] => .nil
  | s :: L => by
    refine .cons ?_ (lay_rp0 r1 r2 r3 r4 L)
    cases s with
    | p i => exact rpl_getD r1 i
    | k i => exact rpl_getD r2 i
    | d i => exact rpl_getD r3 i
    | w i => exact rpl_getD r4 i
theorem lay_ns {d d' : D} {ds es dD mD : List D} : ∀ {L : List Src}, L.all Src.ns = true → lay .non L (d :: ds) es dD mD = lay .non L (d' :: ds) es dD mD
  | [], _ => rfl
  | s :: L, h => by
    rw [List.all_cons, Bool.and_eq_true] at h
    show _ :: lay _ _ _ _ _ _ = _ :: lay _ _ _ _ _ _
    rw [lay_ns (d' := d') h.2]
    refine congrArg (· :: _) ?_
    cases s with
    | p i =>
      cases i with
      | zero => cases h.1
      | succ i => rfl
    | _ => rfl
theorem lay_rp {L : List Src} {n : Nat} {ds es dD mD : List D} {vs zs dV mV : List V} (l1 : vs.length = n) (r1 : RpL x G io ds vs) (r2 : RpL x G io es zs) (r3 : RpL x G io dD dV) (r4 : RpL x G io mD mV) :
    RpL x G io (gdF n L dD mD (ds ++ es)) (lay .non L vs zs dV mV) := by
  have e : ds.length = n := by rw [← r1.length]; exact l1
  unfold gdF
  rw [List.take_append_of_le_length (by omega), List.take_of_length_le (by omega), List.drop_append_of_le_length (by omega), List.drop_of_length_le (by omega), List.nil_append]
  exact lay_rp0 r1 r2 r3 r4 L
theorem layM_rp {L : List Src} {n : Nat} {d : D} {v : V} {ds es dD mD : List D} {vs zs dV mV : List V} (l1 : vs.length = n) (r0 : Rp x G io d v) (r1 : RpL x G io ds vs) (r2 : RpL x G io es zs) (r3 : RpL x G io dD dV) (r4 : RpL x G io mD mV) (hL : L.all Src.ns = true := by rfl) :
    RpL x G io (d :: gdM (n + 1) (.p 0 :: L) dD mD (ds ++ es)) (lay .non (.p 0 :: L) (v :: vs) zs dV mV) := by
  have e : ds.length = n := by rw [← r1.length]; exact l1
  have e2 : gdM (n + 1) (.p 0 :: L) dD mD (ds ++ es) = lay .non L (.non :: ds) es dD mD := by
    unfold gdM
    rw [Nat.add_sub_cancel, List.take_append_of_le_length (by omega), List.take_of_length_le (by omega), List.drop_append_of_le_length (by omega), List.drop_of_length_le (by omega), List.nil_append]
    rfl
  rw [e2, lay_ns (d' := d) hL]
  exact lay_rp0 (RpL.cons r0 r1) r2 r3 r4 (.p 0 :: L)
end
section
variable {K : PySem.W.Frag}
theorem clChk_of {C : Addr} (h : clChk K C = true) : ClF K C := by
  unfold clChk at h
  simp only [Bool.and_eq_true] at h
  obtain ⟨h1, h2, h3, h4, h5, h6, h7, h8⟩ := h
  refine ⟨⟨h1, h2, h3, He.eqO_ok h4⟩, He.eqO_ok h5, of_decide_eq_true h6, He.eqO_ok h7, fun n hn => ?_⟩
  have := List.all_eq_true.mp h8 n hn
  rw [Bool.and_eq_true] at this
  exact ⟨of_decide_eq_true this.1, of_decide_eq_true this.2⟩
theorem ccChk_of {C D : Addr} {b : Bool} (h : ccChk K C D b = true) : PySem.W.kitOne K (.ref C) (.ref D) = some b := of_decide_eq_true h
theorem obChk_of (h : obChk K = true) : PySem.W.specialIn K (.builtin "object.__class__") "__get__" = some (some (.builtin "getset_descriptor.__get__")) ∧ PySem.W.takesIn K (.builtin "object.__class__") = some true := by
  unfold obChk at h
  rw [Bool.and_eq_true] at h
  exact ⟨He.eqO_ok h.1, of_decide_eq_true h.2⟩
theorem naChk_of {C : Addr} {f : Str} (h : naChk K C f = true) : NoAttr K C f := He.eqO_ok h
theorem mkChk_of {C f : Addr} (h : mkChk K C f = true) : Mk K C f := by
  unfold mkChk at h
  simp only [Bool.and_eq_true] at h
  exact ⟨h.1, He.eqO_ok h.2.1, h.2.2.1, h.2.2.2⟩
theorem meChk_of {C : Addr} {m : Str} {f : Addr} (h : meChk K C m f = true) : Meth K C m f := by
  unfold meChk at h
  simp only [Bool.and_eq_true] at h
  exact ⟨He.eqO_ok h.1, h.2.1, h.2.2⟩
end
def CdOf (S : Nat → Option Ent) (live : List Nat) (lams : List (Nat × Nat × E)) (own : List (Nat × Ent)) (f : Nat) : Option Ent := if f ∈ live then (match lams.lookup f with
  | some (n, e) => some ⟨n, n, .ret e, id, none⟩
  | none => match own.lookup f with
    | some e => some e
    | none => S f) else none
theorem gone_ok {S : Nat → Option Ent} {live : List Nat} {lams : List (Nat × Nat × E)} {own : List (Nat × Ent)} {i : Nat} (h : goneOf live i = true) : CdOf S live lams own i = none := by
  have h := of_decide_eq_true h
  unfold CdOf
  rw [if_neg h]
def TabS (S Cd : Nat → Option Ent) (l : List Nat) : Prop := ∀ f ∈ l, Cd f = S f
theorem TabS.sub {S Cd : Nat → Option Ent} {l l' : List Nat} (T : TabS S Cd l) (h : (l'.all fun f => decide (f ∈ l)) = true) : TabS S Cd l' := fun f hf => T f (of_decide_eq_true (List.all_eq_true.mp h f hf))
theorem TabS.of {S : Nat → Option Ent} {live l : List Nat} {lams : List (Nat × Nat × E)} {own : List (Nat × Ent)} (h : (l.all fun f => decide (f ∈ live) && ((lams.lookup f).isNone && (own.lookup f).isNone)) = true) : TabS S (CdOf S live lams own) l := fun f hf => by
  have q := List.all_eq_true.mp h f hf
  simp only [Bool.and_eq_true, decide_eq_true_eq, Option.isNone_iff_eq_none] at q
  unfold CdOf
  rw [if_pos q.1, q.2.1, q.2.2]
theorem mem_lookP {α β : Type} [BEq α] [LawfulBEq α] {k : α} {z : β} : ∀ {l : List (α × β)}, l.lookup k = some z → (k, z) ∈ l
  | [], h => by cases h
  | (a, b) :: l, h => by
    rw [List.lookup_cons] at h
    split at h
    · rename_i hk
      cases h
      rw [beq_iff_eq.mp hk]
      exact List.mem_cons_self ..
    · exact List.mem_cons_of_mem _ (mem_lookP h)
theorem CdOf.lam {S : Nat → Option Ent} {live : List Nat} {lams : List (Nat × Nat × E)} {own : List (Nat × Ent)} (h : (lams.all fun p => decide (p.1 ∈ live)) = true) {j n : Nat} {e : E} (hj : lams.lookup j = some (n, e)) : CdOf S live lams own j = some ⟨n, n, .ret e, id, none⟩ := by
  unfold CdOf
  rw [if_pos (of_decide_eq_true (List.all_eq_true.mp h _ (mem_lookP hj))), hj]
end En

namespace EnY
open PySem PySem.Spec PyProof.Rows L2
section
variable {P : Program} {w : World} {K : PySem.W.Frag} {mg : Str → Option Value} {base : Heap} {N : List Str} {vs : List V} {cl : List (Str × Addr)} {scope : Scope} {q : Str} {f c' : Addr} {params : Arguments} {body : Expr} {dV pm ctv : Value} {k : Nat} {sp : Hp → VK → XK → Prop}
theorem callableH (mono : ∀ (H : Hp) (Q Q' : VK) (E E' : XK), sp H Q E → (∀ v H', Q v H' → Q' v H') → (∀ cls d H', E cls d H' → E' cls d H') → sp H Q' E') (hh : ∀ H Q E, sp H Q E → H c' = some (LamX.CodeO c' q) ∧ DefH H params scope dV)
    (hf : base.get? f = some (lamO q params body scope cl dV pm (.ref c') ctv)) (S : CloS base N vs cl scope)
    (hb : ∀ (A : Around) (outer : List Env) (s : Shared) (H : Hp) (E : XK), Room k (A.deeper (lamEv q scope s.heap.objs.size f c' cl)) → ∃ t, PE (cxL P w K mg base N q scope f c' cl A outer s H E) body t ∧ ∀ Q, sp H Q E → t (vs.map some) H Q) :
    Callable P w K mg base (k + 1) f sp := by
  refine ⟨mono, ⟨_, hf⟩, fun A outer s H Q E hr e0 hsp => ?_⟩
  have kb : ∀ b o, base.get? b = some o → s.heap.get? b = some o := fun b o e => (e0.bs b o e).1
  obtain ⟨hc, hD⟩ := hh _ _ _ hsp
  have xc : ObjOk P w H s.heap c' (LamX.CodeO c' q) := e0.hok c' _ hc
  obtain ⟨⟨oc, us, t, hoc, hdc, hvc⟩, _⟩ := xc
  obtain ⟨binds, hbi, hloc⟩ : ∃ binds, BindsTo s (lamFd q params body scope cl dV pm c' ctv) ⟨[], []⟩ binds ∧ ∀ y ∈ binds, scope.names.lookup y.1 = some .local := by
    rcases hD with ⟨h1, h2⟩ | ⟨a0, x0, T, i, h1, h2, h3, h4⟩
    · exact ⟨[], bind0 h1 h2, fun y hy => by cases hy⟩
    · have xt : ObjOk P w H s.heap T (.tup [.int i]) := e0.hok T _ h3
      obtain ⟨_, its, rv, o, ho, _, n, hs⟩ := xt
      obtain ⟨u, rfl⟩ : ∃ u, its = [u] := by
        cases rv with
        | cons r0 r1 => cases r1; exact ⟨_, rfl⟩
      exact ⟨[(a0.arg, u)], bindD h1 h2 ho hs, fun y hy => by
        have e : y = (a0.arg, u) := by simpa using hy
        rw [e]
        exact h4⟩
  refine PySem.W.kla_callFunE hr.depth (kb _ _ hf) rfl S.co S.gen rfl ⟨c', oc, us, t, rfl, hoc, hdc, hvc⟩ (hbi _ _ _ _ ?_)
  refine wpAny_newFunctionEnv S.nocell hloc (fun h1 hns hsb => ⟨(e0.mod.nolimit.keeps kb).fresh _ hsb, ?_⟩) S.kind
  show codeAny _ _ (.expr body (lamEv q scope s.heap.objs.size f c' cl)) _ _
  have kp : ∀ b o, s.heap.get? b = some o → h1.get? b = some o := fun b o e => hsb.extBut b o (Nat.ne_of_lt (Heap.lt_size e)) (Heap.get?_push_of_some _ e)
  have J := cxL_start (K := K) (mg := mg) (q := q) (f := f) (c' := c') (E := E) (tk := s.toks + binds.length) e0 hr.hd S hns kp
  cases k with
  | zero =>
    obtain ⟨t, ht, hq⟩ := hb A outer s H E (hr.deeper _)
    exact PySem.W.kla_codeExpr (wpAny_mono (ht.run [] _ _ H Q J (hq Q hsp)) (fun v s' ⟨w', H', J', rv, z⟩ => ⟨w', H', J'.os, J'.bare, J'.base, J'.hok, rv, z⟩) fun e s' z => z)
  | succ k =>
    obtain ⟨t, ht, hq⟩ := hb A outer s H E (hr.deeper _)
    exact PySem.W.kla_codeExpr (wpAny_mono (ht.run [] _ _ H Q J (hq Q hsp)) (fun v s' ⟨w', H', J', rv, z⟩ => ⟨w', H', J'.os, J'.bare, J'.base, J'.hok, rv, z⟩) fun e s' z => z)
end
end EnY
namespace En
open PySem PySem.Spec L2
theorem PE.lk {X : Cx} {e : Expr} {t : TE} (x : SX) (k : Nat) (h : PE X e t) : PE X e (fun σ H Q => t σ H fun v H' => LK x k (Q v) H') := by
  refine ⟨fun pins s σ H Q I q => thn (h.run pins s σ H _ I q) fun u s1 ⟨v, H', I2, r, G, io, m, g1, g2, g3⟩ => ?_⟩
  obtain ⟨H2, I3, a1, a2, a3⟩ := lock_all k I2 g1 g2 (m.length - k)
  exact ⟨v, H2, I3, r, g3 H2 a1 a2 a3⟩
theorem PostF.mono {x : SX} {H G : Hp} {io : List Addr} {r : Option (Out × List MO)} {Q Q' : VK} {E E' : XK} (h : PostF x H G io r Q E) (hq : ∀ v H', Q v H' → Q' v H') (he : ∀ cls d H', E cls d H' → E' cls d H') : PostF x H G io r Q' E' := by
  unfold PostF at h ⊢
  split at h
  · exact fun v H' G' io' a b => hq _ _ (h v H' G' io' a b)
  · exact fun p H' G' io' a b c d => hq _ _ (h p H' G' io' a b c d)
  · exact fun cls dd H' G' io' a b => he _ _ _ (h cls dd H' G' io' a b)
  · exact h.elim
theorem tabB_keeps {base B : Heap} {mg : Str → Option Value} {c P : Addr} (h : LamX.TabB base mg c P) (k : ∀ b o, base.get? b = some o → B.get? b = some o) : LamX.TabB B mg c P := ⟨h.code.keeps k, h.bm.keeps k, h.gP⟩
def Ld.atB (L : Ld) (B : Heap) : Ld := { L with base := B }
theorem FnD.atB {L : Ld} {name qual : Str} {st : Stmt} {a : Addr} {fd : FuncData} {N ps : List Str} {code : E} (q : FnD L name qual st a fd N ps code) {B : Heap} (k : ∀ b o, L.base.get? b = some o → B.get? b = some o) : FnD (L.atB B) name qual st a fd N ps code := ⟨q.fn, q.sc, by
  rcases q.hc with h | ⟨c, P, wc, wc1, lmk, h1, h2, h3⟩
  · exact .inl h
  · exact .inr ⟨c, P, wc, wc1, lmk, h1, tabB_keeps h2 k, h3⟩⟩
theorem FnC.atB {L : Ld} {i n : Nat} {kk : List Str} {a : Addr} (h : FnC L i n kk a) {B : Heap} (k : ∀ b o, L.base.get? b = some o → B.get? b = some o) : FnC (L.atB B) i n kk a := by
  rcases h with ⟨name, qual, st, fd, N, ps, code, gd, g, gV, q1, q2, q3, q4⟩ | ⟨name, qual, st, fd, N, ps, pv, code, q1, q2⟩
  · exact .inl ⟨name, qual, st, fd, N, ps, code, gd, g, gV, q1.atB k, q2, q3, q4⟩
  · exact .inr ⟨name, qual, st, fd, N, ps, pv, code, q1.atB k, q2⟩
theorem LdOk.atB {L : Ld} (h : LdOk L) {B : Heap} (kb : ∀ b o, L.base.get? b = some o → B.get? b = some o) : LdOk (L.atB B) where
  fn := fun f hf => by
    obtain ⟨name, qual, st, a, fd, N, ps, code, q1, q2, q3, q4⟩ := h.fn f hf
    exact ⟨name, qual, st, a, fd, N, ps, code, q1.atB kb, q2, q3, q4⟩
  fk := fun f hf => by
    obtain ⟨a, q1, q2, q3⟩ := h.fk f hf
    exact ⟨a, q1, q2, q3.atB kb⟩
  fm := fun f hf => by
    obtain ⟨name, qual, st, a, fd, N, ps, code, gd, g, gV, c, i, q0, q1, q2⟩ := h.fm f hf
    exact ⟨name, qual, st, a, fd, N, ps, code, gd, g, gV, c, i, q0, q1.atB kb, q2⟩
  nm := h.nm
  nd := h.nd
  lv := h.lv
  ko := h.ko
  fa := h.fa
  me := fun c i m n kk e => by
    obtain ⟨a, q1, q2⟩ := h.me c i m n kk e
    exact ⟨a, q1, q2.atB kb⟩
  cn := h.cn
  go := h.go
  gv := h.gv
  bl := h.bl
  xq := h.xq
theorem start_all {N : List Str} {vs : List V} (h : vs.length = N.length) : L2.start N vs = vs.map some := by
  unfold L2.start
  rw [h, Nat.sub_self]
  simp
theorem lam_at {L : Ld} {n j : Nat} {B : Heap} {capN : List Str} {vs : List V} {cl : List (Str × Addr)} {scope : Scope} {q : Str} {f c' : Addr} {params : Arguments} {body : Expr} {dV pm ctv : Value} (hT : ∀ m, n = m + 1 → TOk ((L.atB B).T m)) (ht : LmT L j capN body scope)
    (hf : B.get? f = some (EnY.lamO q params body scope cl dV pm (.ref c') ctv)) (S : EnY.CloS B capN vs cl scope) :
    EnY.Callable L.prog L.w L.x.K L.mg B (4 * n + 1) f (spL L.x (Pn L.Cd L.Gm n j) vs c' q params scope dV) := by
  have mono : ∀ n, ∀ (H : Hp) (Q Q' : VK) (E E' : XK), spL L.x (Pn L.Cd L.Gm n j) vs c' q params scope dV H Q E → (∀ v H', Q v H' → Q' v H') → (∀ cls d H', E cls d H' → E' cls d H') → spL L.x (Pn L.Cd L.Gm n j) vs c' q params scope dV H Q' E' := fun n H Q Q' E E' hs hq he => by
    obtain ⟨h1, h2, ds, m, G, io, h3, h4, h5, h6⟩ := hs
    exact ⟨h1, h2, ds, m, G, io, h3, h4, h5, h6.mono hq he⟩
  cases n with
  | zero =>
    refine ⟨mono 0, ⟨_, hf⟩, fun A outer s H Q E hr e0 hs => ?_⟩
    obtain ⟨_, _, ds, m, G, io, _, _, _, hp⟩ := hs
    exact hp.elim
  | succ n =>
    obtain ⟨nd, e, hCd, hchk⟩ := ht
    have t : TOk ((L.atB B).T n) := hT n rfl
    refine EnY.callableH (k := 4 * n + 4) (mono (n + 1)) (fun H Q E hs => ⟨hs.1, hs.2.1⟩) hf S fun A outer s H E hr => ?_
    have o : XOk ((L.atB B).T n) { N := capN, sc := scope, loc := [] } (EnY.cxL L.prog L.w L.x.K L.mg B capN q scope f c' cl A outer s H E) (fun cls d _ H => E cls d H) :=
      { prog := rfl, w := rfl, K := rfl, mg := rfl, base := rfl, N := rfl, nd := nd, sc := rfl, calm := rfl, tk := takes_of rfl rfl rfl rfl, po := passes_of rfl, room := hr, loc := fun y hy => by cases hy }
    have d := snd e _ _ _ (.ex body) t o hchk
    refine ⟨fun σ H Q => ∃ F k, rd ((L.atB B).T n) F (fun cls d _ H => E cls d H) e σ H fun v H' => LK L.x k (Q v) H', ⟨fun pins s σ H Q I ⟨F, k, hq⟩ => (PE.lk L.x k (d F).1).run pins s σ H Q I hq⟩, fun Q hs => ?_⟩
    obtain ⟨_, _, ds, m, G, io, gh, hm, r, hp⟩ := hs
    have hlen : vs.length = capN.length := S.len
    have st := ini_str (N := capN) gh hm r (by omega)
    rw [start_all hlen] at st
    refine ⟨⟨H, G, io, zOf H⟩, io.length, ⟨ini capN.length ds, m⟩, G, io, st, ?_⟩
    have hR : Pn L.Cd L.Gm (n + 1) j ds m = runC (Pn L.Cd L.Gm n) L.Gm capN.length capN.length (.ret e) ds m := by
      show (match L.Cd j with | none => none | some e => match e.mkc with | none => runC (Pn L.Cd L.Gm n) L.Gm e.N e.p e.c (e.g ds) m | some (c, i) => match L.Cd i with | none => none | some e2 => mkF c (runC (Pn L.Cd L.Gm n) L.Gm e2.N e2.p e2.c) (e.g ds) m) = _
      rw [hCd]
      rfl
    rw [hR] at hp
    unfold runC at hp
    rw [if_pos (by rw [← r.length]; exact hlen)] at hp
    simp only [ev] at hp
    show Post L.x _ _ G io (ev (Pn L.Cd L.Gm n) L.Gm e ⟨ini capN.length ds, m⟩) _ _
    cases he : ev (Pn L.Cd L.Gm n) L.Gm e ⟨ini capN.length ds, m⟩ with
    | none => rw [he] at hp; exact hp.elim
    | some p =>
      obtain ⟨out, s1⟩ := p
      rw [he] at hp
      cases out with
      | val d =>
        intro v H' G' io' sg si t' rv
        refine ⟨G', io', s1.m, t'.gh, t'.mem, fun H2 g2 m2 k2 => ?_⟩
        have hp : PostF L.x H G io (stow true m (some (.val d, s1.m))) Q E := hp
        rw [← stow_lock, hm.1] at hp
        exact stow_val hm (fun _ => lockM_locked _ _) hp (t'.ff.lock g2 m2 k2) rv
      | fr o1 =>
        intro p H' G' io' sg si t' ni ow _
        refine ⟨G', io', s1.m, t'.gh, t'.mem, fun H2 g2 m2 k2 => ?_⟩
        obtain ⟨ws, h1, e1, e2, e3, e4, e5, e6⟩ := ow
        have hp : PostF L.x H G io (stow true m (some (.fr o1, s1.m))) Q E := hp
        rw [← stow_lock, hm.1] at hp
        exact stow_fr hm (fun _ => lockM_locked _ _) hp (t'.ff.lock g2 m2 k2) ni e3 ⟨ws, h1, by rw [k2 p fun i hi e => ni (List.mem_of_getElem? e)]; exact e1, e2, e4, e5, e6⟩
      | exc c ns es => exact fun cls dd H' G' io' sg si t' ex => stow_exc hm (fun z => by cases z) hp t'.ff ex
      | _ => exact hp.elim
end En

namespace En
open PySem PySem.Spec L2
section
variable {x : SX} {hc : List (Str × Addr)} {hN : List Str} {lm : Nat → List Str → Arguments → Expr → Scope → Prop} {G : Hp} {io : List Addr}
mutual
theorem Rp_fr : ∀ (d : D) (v : V), Rp (x.fr hc hN lm) G io d v = Rp x G io d v
  | .non, _ => rfl
  | .bl _, _ => rfl
  | .int _, _ => rfl
  | .str _, _ => rfl
  | .lst ds, v => by
    show (∃ a vs, v = .ref a ∧ G a = some (.lst vs) ∧ RpL (x.fr hc hN lm) G io ds vs) = (∃ a vs, v = .ref a ∧ G a = some (.lst vs) ∧ RpL x G io ds vs)
    simp only [RpL_fr ds]
  | .fzl ds, v => by
    show (∃ a vs, v = .ref a ∧ SqL x.K G a vs ∧ RpL (x.fr hc hN lm) G io ds vs) = (∃ a vs, v = .ref a ∧ SqL x.K G a vs ∧ RpL x G io ds vs)
    simp only [RpL_fr ds]
  | .tup ds, v => by
    show (∃ a vs, v = .ref a ∧ SqT x.K G a vs ∧ RpL (x.fr hc hN lm) G io ds vs) = (∃ a vs, v = .ref a ∧ SqT x.K G a vs ∧ RpL x G io ds vs)
    simp only [RpL_fr ds]
  | .dct ks ds, v => by
    show (∃ a vs o, v = .ref a ∧ G a = some (.frz o (.dK (ks.zip vs))) ∧ vs.length = ks.length ∧ RpL (x.fr hc hN lm) G io ds vs) = (∃ a vs o, v = .ref a ∧ G a = some (.frz o (.dK (ks.zip vs))) ∧ vs.length = ks.length ∧ RpL x G io ds vs)
    simp only [RpL_fr ds]
  | .obj c ns ds, v => by
    show (x.live c = true ∧ ∃ a dx vs, v = .ref a ∧ G a = some (.ins (x.ca c) dx ((ns.map x.nm).zip vs)) ∧ vs.length = ns.length ∧ RpL (x.fr hc hN lm) G io ds vs) = (x.live c = true ∧ ∃ a dx vs, v = .ref a ∧ G a = some (.ins (x.ca c) dx ((ns.map x.nm).zip vs)) ∧ vs.length = ns.length ∧ RpL x G io ds vs)
    simp only [RpL_fr ds]
  | .adr n, _ => rfl
theorem RpL_fr : ∀ (ds : List D) (vs : List V), RpL (x.fr hc hN lm) G io ds vs = RpL x G io ds vs
  | [], _ => rfl
  | d :: ds, vs => by
    show (∃ v r, vs = v :: r ∧ Rp (x.fr hc hN lm) G io d v ∧ RpL (x.fr hc hN lm) G io ds r) = (∃ v r, vs = v :: r ∧ Rp x G io d v ∧ RpL x G io ds r)
    simp only [Rp_fr d, RpL_fr ds]
end
theorem MoH_fr {o : MO} {vs : List V} {h : HO} : MoH (x.fr hc hN lm) o vs h = MoH x o vs h := by cases o <;> rfl
theorem MemA_fr {H : Hp} {m : List MO} : MemA (x.fr hc hN lm) G io H m = MemA x G io H m := by
  simp only [MemA, MemR, RpL_fr, MoH_fr]
theorem FF_fr {H H' G' : Hp} {io' : List Addr} {m : List MO} : FF (x.fr hc hN lm) H G io m H' G' io' = FF x H G io m H' G' io' := by
  simp only [FF, MemA_fr]
  rfl
theorem ExcR_fr {c : Nat} {ns : List Nat} {ds : List D} {cls : Value} {dd : Option Addr} {H : Hp} : ExcR (x.fr hc hN lm) G io c ns ds cls dd H = ExcR x G io c ns ds cls dd H := by
  simp only [ExcR, RpL_fr]
  rfl
theorem PostF_fr {H : Hp} {r : Option (Out × List MO)} {Q : VK} {E : XK} : PostF (x.fr hc hN lm) H G io r Q E = PostF x H G io r Q E := by
  unfold PostF
  split
  · simp only [FF_fr, Rp_fr]
  · simp only [FF_fr, RpL_fr, MoH_fr]
  · simp only [FF_fr, ExcR_fr]
  · rfl
theorem spP_fr {Pf : List D → List MO → Option (Out × List MO)} {n : Nat} : spP (x.fr hc hN lm) Pf n = spP x Pf n := by
  funext vs H Q E
  simp only [spP, MemA_fr, RpL_fr, PostF_fr]
  rfl
theorem spL_fr {Pf : List D → List MO → Option (Out × List MO)} {vs : List V} {c' : Addr} {q : Str} {params : Arguments} {scope : Scope} {dV : Value} : spL (x.fr hc hN lm) Pf vs c' q params scope dV = spL x Pf vs c' q params scope dV := by
  funext H Q E
  simp only [spL, MemA_fr, RpL_fr, PostF_fr]
  rfl
end
section
variable {T : Tb} {hc : List (Str × Addr)} {hN : List Str} {wc wc1 : Option WhyC} {lmk : Nat → List Str → Arguments → Expr → Scope → Bool}
theorem Cal_fr {i n : Nat} {kk : List Str} {a : Addr} (h : Cal T i n kk a) : Cal (T.fr hc hN wc wc1 lmk) i n kk a := by
  obtain ⟨k, h1, h4⟩ := h
  refine ⟨k, h1, fun A outer s H us ws vs zs Q E hr e0 r rz l1 l2 h => h4 A outer s H us ws vs zs Q E hr e0 r rz l1 l2 ?_⟩
  obtain ⟨ds, es, m, G, io, q1, q2, q3, q4, q5⟩ := h
  exact ⟨ds, es, m, G, io, q1, MemA_fr.mp q2, (RpL_fr _ _).mp q3, (RpL_fr _ _).mp q4, PostF_fr.mp q5⟩
theorem TOk.fr (t : TOk T) : TOk (T.fr hc hN wc wc1 lmk) where
  fn := fun f hf => by
    obtain ⟨a, fd, ps, h1, h2, h3, h4, h5⟩ := t.fn f hf
    refine ⟨a, fd, ps, h1, h2, ?_, h4, h5⟩
    show FnOk T.prog T.w T.x.K T.mg T.base (L2.CX T.prog T.w) T.lv a fd ps (spP (T.x.fr hc hN _) (T.P f) ps.length)
    rw [spP_fr]
    exact h3
  fk := fun f hf => by
    obtain ⟨a, h1, h2, h3⟩ := t.fk f hf
    exact ⟨a, h1, h2, Cal_fr h3⟩
  fm := fun f hf => by
    obtain ⟨C, fI, k, fd, ps, g, gV, sp, h1, h2, h3, h4, h5, h6⟩ := t.fm f hf
    refine ⟨C, fI, k, fd, ps, g, gV, sp, h1, h2, h3, h4, h5, fun vs zs H Q E l1 l2 h => h6 vs zs H Q E l1 l2 ?_⟩
    obtain ⟨ds, es, m, G, io, q1, q2, q3, q4, q5⟩ := h
    exact ⟨ds, es, m, G, io, q1, MemA_fr.mp q2, (RpL_fr _ _).mp q3, (RpL_fr _ _).mp q4, PostF_fr.mp q5⟩
  nm := t.nm
  nd := t.nd
  lv := t.lv
  ko := ⟨t.ko.hn, t.ko.ht, t.ko.cl, t.ko.cc⟩
  fa := t.fa
  me := fun c i m n kk e => by
    obtain ⟨a, h1, h2⟩ := t.me c i m n kk e
    exact ⟨a, h1, Cal_fr h2⟩
  gone := t.gone
  cn := t.cn
  gv := fun g hg => by
    obtain ⟨u, v, h1, h2, h3⟩ := t.gv g hg
    exact ⟨u, v, h1, h2, fun G io => (Rp_fr _ _).mpr (h3 G io)⟩
  bl := t.bl
  xq := t.xq
  lp := t.lp
end
theorem cells_pw : ∀ (names : List (Str × NameKind)) (n : Nat) (acc : List (Str × Addr)), (∀ p ∈ acc, p.2 < n) → acc.Pairwise (fun x y => x.2 ≠ y.2) → (cellsFrom n names acc).Pairwise (fun x y => x.2 ≠ y.2)
  | [], _, _, _, h => h
  | (y, k) :: r, n, acc, hl, h => by
    unfold cellsFrom
    split
    · exact cells_pw r (n + 1) _ (fun p hp => by
        rcases List.mem_cons.mp hp with rfl | hp
        · exact Nat.lt_succ_self _
        · exact Nat.lt_succ_of_lt (hl p hp)) (List.pairwise_cons.mpr ⟨fun p hp z => by
          have q := hl p hp
          rw [← z] at q
          exact Nat.lt_irrefl _ q, h⟩)
    · exact cells_pw r n acc hl h
def LamAt (L : Ld) (n : Nat) : Prop := ∀ {j : Nat} {B : Heap} {capN : List Str} {vs : List V} {cl : List (Str × Addr)} {scope : Scope} {q : Str} {f c' : Addr} {params : Arguments} {body : Expr} {dV pm ctv : Value}, LmT L j capN body scope → (∀ b o, L.base.get? b = some o → B.get? b = some o) →
  B.get? f = some (EnY.lamO q params body scope cl dV pm (.ref c') ctv) → EnY.CloS B capN vs cl scope → EnY.Callable L.prog L.w L.x.K L.mg B (4 * n + 1) f (spL L.x (Pn L.Cd L.Gm n j) vs c' q params scope dV)
theorem fn_lam {L : Ld} {n : Nat} {qual : Str} {st : Stmt} {a : Addr} {fd : FuncData} {N ps : List Str} {code : E} {Pf : List D → List MO → Option (Out × List MO)} (S : FnScope N ps (defScope st))
    (q : LamD L qual (defScope st) (defBody st) N code fd) (t : TOk (L.T n)) (hla : LamAt L n) (hrun : ∀ ds m r, Pf ds m = some r → stowO m (runF (L.T n) N.length code ds m) = some r) : BodyOk L.prog L.w L.x.K L.mg L.base (4 * n + 4) qual st a fd.code N (spP L.x Pf ps.length) := by
  obtain ⟨c, P, wc, wc1, lmk, hcd, TB, hm, hu, hw, hw1, hlk, hc⟩ := q
  intro A outer s H vs Q E hr h
  let X : Cx := cxOf (L2.CX L.prog L.w) L.prog L.w L.x.K L.mg L.base N qual (defScope st) a fd.code A outer s H E
  have t' : TOk ((L.T n).fr X.env.cells N wc wc1 lmk) := t.fr
  have ho : HomeOk ((L.T n).fr X.env.cells N wc wc1 lmk) X := {
    fn := fun _ => rfl
    hc := rfl
    hN := rfl
    inj := fun y z c h1 h2 => name_of_addr (cells_pw (defScope st).names (s.heap.objs.size + 1) [] (fun p hp => by cases hp) .nil) (PySem.mem_of_lookup h1) (PySem.mem_of_lookup h2)
    cel := fun j capN params body scope h y hy => (hlk j capN params body scope h).2.cel y hy
    lam := fun j capN params body scope h => by
      obtain ⟨q1, q2⟩ := hlk j capN params body scope h
      refine ⟨⟨q2.kind, q2.co, q2.gen, q2.nocell, q2.cap, fun y hy e => cell_has (q2.free y hy e)⟩, fun B vs cl q f c' dV pm ctv hB hf SC => ?_⟩
      show EnY.Callable L.prog L.w L.x.K L.mg B (4 * n + 4 - 3) f (spL (L.x.fr _ _ _) (Pn L.Cd L.Gm n j) vs c' q params scope dV)
      rw [spL_fr]
      exact hla q1 hB hf SC
    tab := ⟨c, P, TB, hcd, hm, hu⟩
    made := fun j capN params body scope h => h
    wy := fun w e => by
      obtain ⟨k, a, fw, fd, cs, ms, q, h1, h2, h3, h4, h5, h6⟩ := hw n w e
      exact ⟨k, a, fw, fd, cs, ms, q, h1, h2, h3, h4, h5, ⟨h6.cls, h6.cid, h6.tab⟩⟩
    wy1 := fun w e => by
      obtain ⟨k, a, fw, fd, cs, ms, q, h1, h2, h3, h4, h5, h6⟩ := hw1 n w e
      exact ⟨k, a, fw, fd, cs, ms, q, h1, h2, h3, h4, h5, ⟨h6.cls, h6.cid, h6.tab⟩⟩ }
  have o : XOk ((L.T n).fr X.env.cells N wc wc1 lmk) { CC.fn N (defScope st) with lam := true } X (fun cls d _ H => E cls d H) :=
    { prog := rfl, w := rfl, K := rfl, mg := rfl, base := rfl, N := rfl, nd := S.nd, sc := rfl, calm := rfl, tk := takes_of rfl rfl rfl rfl, po := passes_of rfl, room := hr,
      loc := fun y hy => by
        obtain ⟨_, hy⟩ := List.mem_filter.mp hy
        simp only [Bool.or_eq_true, decide_eq_true_eq] at hy
        exact ⟨hy, .inl rfl⟩
      hom := fun _ => ho }
  rw [← spP_fr (hc := X.env.cells) (hN := N) (lm := fun j capN params body scope => lmk j capN params body scope = true)] at h
  exact fn_body (T := (L.T n).fr X.env.cells N wc wc1 lmk) S t' o hc hrun h
theorem ld_both : ∀ n, (∀ L, LdOk L → LvOk L n) ∧ ∀ L, LdOk L → LamAt L n
  | 0 => ⟨fun L h _ _ _ _ _ _ _ _ q => fn_zero, fun L h _ _ _ _ _ _ _ _ _ _ _ _ _ _ ht hB hf S => lam_at (n := 0) (fun m e => by cases e) ht hf S⟩
  | n + 1 => by
    obtain ⟨i1, i2⟩ := ld_both n
    refine ⟨fun L h _ _ _ _ _ _ _ _ q => ?_, fun L h _ _ _ _ _ _ _ _ _ _ _ _ _ _ ht hB hf S => lam_at (n := n + 1) (fun m e => ?_) ht hf S⟩
    · have t := ld_step h (i1 L h)
      rcases q.hc with hc | hc
      · exact fn_ok (T := L.T n) q.sc hc t fun ds m r e => (PfC_some e).2
      · exact fn_lam q.sc hc t (i2 L h) fun ds m r e => (PfC_some e).2
    · cases e
      exact ld_step (h.atB hB) (i1 _ (h.atB hB))
theorem ld_ok {L : Ld} (h : LdOk L) (n : Nat) : LvOk L n := (ld_both n).1 L h
end En

namespace En
open PySem PySem.Spec PyProof.Rows L2
theorem nmI_of {nt : NT} (nd : nt.fl.Nodup) {f : Nat} (h : nt.nm f ≠ "") : ∀ i, nt.nm i = nt.nm f → i = f := fun i hi => by
  unfold NT.nm at h hi
  rw [List.getD_eq_getElem?_getD] at h hi hi
  have hf : f < nt.fl.length := by
    by_cases hf : f < nt.fl.length
    · exact hf
    · rw [List.getElem?_eq_none (by omega)] at h; exact absurd rfl h
  have hI : i < nt.fl.length := by
    by_cases hI : i < nt.fl.length
    · exact hI
    · rw [List.getElem?_eq_none (show nt.fl.length ≤ i by omega)] at hi; exact absurd hi.symm h
  rw [List.getElem?_eq_getElem hf, List.getElem?_eq_getElem hI] at hi
  exact (List.getElem_inj nd).mp hi
def wtB (nt : NT) (ms : List (EnY.MT × List Str)) (q : List Str × Str) (wc : WhyC) : Bool := decide (nt.nm wc.cid = ("code" : Str)) && wc.tab.all fun p => decide (p.2.map nt.nm = EnY.fldA p.1 ms q) && p.2.all fun g => decide (nt.nm g ≠ "")
theorem whyok_of {L : Ld} {cs : List Value} {ms : List (EnY.MT × List Str)} {q : List Str × Str} {wc : WhyC} (ok : L.x.nm = L.nt.nm ∧ L.nt.fl.Nodup) (h1 : ∀ c ∈ wc.cls, xwChk L.x.K (L.x.ca c) cs = true) (h2 : wtB L.nt ms q wc = true) : WhyOk L.x cs ms q wc := by
  unfold wtB at h2
  rw [Bool.and_eq_true, decide_eq_true_eq] at h2
  refine ⟨fun c hc => ?_, ⟨by rw [ok.1]; exact h2.1, ?_⟩, fun z gs hz => ?_⟩
  · have h := h1 c hc
    unfold xwChk at h
    rw [Bool.and_eq_true, Bool.and_eq_true, decide_eq_true_eq] at h
    exact ⟨h.1, xfB_ok h.2.1, fun g hg => naChk_of (List.all_eq_true.mp h.2.2 g hg)⟩
  · rw [ok.1]
    exact nmI_of ok.2 (by rw [h2.1]; decide)
  · have h := List.all_eq_true.mp h2.2 _ (mem_lookP hz)
    rw [Bool.and_eq_true, decide_eq_true_eq] at h
    refine ⟨by rw [ok.1]; exact h.1, fun g hg => ?_⟩
    rw [ok.1]
    exact nmI_of ok.2 (of_decide_eq_true (List.all_eq_true.mp h.2 g hg))
def whyScB (a e g x1 x2 x3 : Str) (sc : Scope) : Bool := decide (sc.names.lookup a = some .local ∧ sc.names.lookup e = some .local ∧ sc.names.lookup g = some .globalImplicit ∧ sc.names.lookup x1 = some .globalImplicit ∧ sc.names.lookup x2 = some .globalImplicit ∧ sc.names.lookup x3 = some .globalImplicit ∧
  ∀ y ∈ [a, e, g, x1, x2, x3], (y == ("__debug__" : Str)) = false ∧ (y == ("__classdict__" : Str)) = false)
def fldScB (e : Str) (sc : Scope) : Bool := decide (sc.names.lookup e = some .local ∧ (e == ("__debug__" : Str)) = false ∧ (e == ("__classdict__" : Str)) = false)
def whysScB (a y g : Str) (sc : Scope) (body : List Stmt) : Bool := decide (sc.names.lookup a = some .local ∧ (relS (EnY.whysS body) sc).names.lookup g = some .globalImplicit ∧ (relS (EnY.whysS body) sc).names.lookup y = some .local ∧
  (∀ z ∈ [a, y, g], (z == ("__debug__" : Str)) = false ∧ (z == ("__classdict__" : Str)) = false) ∧ (EnY.whysS body).kind = .function ∧ (∀ z ∈ (EnY.whysS body).names, (EnY.whysS body).names.lookup z.1 = some z.2) ∧
  (∀ z ∈ (EnY.whysS body).names, z.2 = .free → sc.names.lookup z.1 = some .cell ∨ sc.names.lookup z.1 = some .free) ∧ ∀ z ∈ (EnY.whysS body).names, z.2 = .local ∨ z.2 = .cell → z.1 = y ∨ z.1 ∉ [a, y])
section
variable {L : Ld} {wc : WhyC} {ff f c1 c2 c3 : Addr} {e a e2 g x1 x2 x3 : Str} {nameF qualF name qual : Str} {stF st : Stmt} {dV kV doc pm cdv ct oc : Value} {an od : Option Addr} {osl : Array (Option Value)} {fd : FuncData} {ms : List (EnY.MT × List Str)} {q : List Str × Str}
theorem why_fn (lk : L.x.K.lookup ff = some ⟨oc, od, .func (PySem.W.fnOf nameF qualF (defArgs stF) (defBody stF) (defScope stF) dV kV doc pm an cdv ct), osl⟩) (hcd : PySem.W.codeIn L.x.K cdv qualF = true) (SF : FnScope [e] [e] (defScope stF)) (hv : fldScB e (defScope stF) = true) (hbF : EnY.fldB e (defBody stF) ms q = true) (hmF : EnY.msB ms q = true)
    (F : FunD L.x.K name qual (defArgs st) (defBody st) (defScope st) [] [] f fd) (S : FnScope [a, e] [a] (defScope st)) (hb : EnY.whyB a e g x1 x2 x3 (defBody st) = true) (hs : whyScB a e g x1 x2 x3 (defScope st) = true)
    (m1 : L.mg x1 = some (.ref c1)) (m2 : L.mg x2 = some (.ref c2)) (m3 : L.mg x3 = some (.ref c3)) (mgf : L.mg g = some (.ref ff)) (kf : PySem.W.keepIn L.x.K (.ref ff) = true) (bf : Binds L.x.K (PySem.W.fnOf nameF qualF (defArgs stF) (defBody stF) (defScope stF) dV kV doc pm an cdv ct) [e] []) (k : Nat) (B : Heap) :
    FnOk L.prog L.w L.x.K L.mg B (L2.CX L.prog L.w) (k + 2) f fd [a] (EnY.spWhy L.prog L.w L.x.K L.mg B (k + 1) [.ref c1, .ref c2, .ref c3] ms q) := by
  obtain ⟨v1, v2, v3⟩ := of_decide_eq_true hv
  obtain ⟨s1, s2, s3, s4, s5, s6, s7⟩ := of_decide_eq_true hs
  exact EnY.why_ok F S hb s1 s2 s3 s4 s5 s6 s7 m1 m2 m3 mgf kf bf (EnY.fields_ok lk hcd SF v1 v2 v3 hbF hmF)
theorem why1_at (ok : WhyOk L.x [.ref c1, .ref c2, .ref c3] ms q wc) (hm : L.mg "_law_why" = some (.ref f)) (hk : PySem.W.keepIn L.x.K (.ref f) = true) (bw : Binds L.x.K fd [a] [])
    (W : ∀ (k : Nat) (B : Heap), FnOk L.prog L.w L.x.K L.mg B (L2.CX L.prog L.w) (k + 2) f fd [a] (EnY.spWhy L.prog L.w L.x.K L.mg B (k + 1) [.ref c1, .ref c2, .ref c3] ms q)) (n : Nat) : WhyAt1 (L.T n) wc :=
  ⟨4 * n + 2, a, f, fd, _, ms, q, (show 4 * n + 2 ≤ 4 * n + 4 by omega), hm, hk, bw, fun B => W (4 * n) B, ok⟩
theorem whys_at {fs : Addr} {fds : FuncData} {b y : Str} {names quals : Str} {sts : Stmt} (ok : WhyOk L.x [.ref c1, .ref c2, .ref c3] ms q wc) (hm : L.mg "_law_why" = some (.ref f)) (hk : PySem.W.keepIn L.x.K (.ref f) = true) (bw : Binds L.x.K fd [a] [])
    (W : ∀ (k : Nat) (B : Heap), FnOk L.prog L.w L.x.K L.mg B (L2.CX L.prog L.w) (k + 2) f fd [a] (EnY.spWhy L.prog L.w L.x.K L.mg B (k + 1) [.ref c1, .ref c2, .ref c3] ms q))
    (F : FunD L.x.K names quals (defArgs sts) (defBody sts) (defScope sts) [] [] fs fds) (S : FnScope [b, y] [b] (defScope sts)) (hb : EnY.whysB b y "_law_why" (defBody sts) = true) (hs : whysScB b y "_law_why" (defScope sts) (defBody sts) = true) (hms : L.mg "_law_whys" = some (.ref fs)) (hks : PySem.W.keepIn L.x.K (.ref fs) = true) (bws : Binds L.x.K fds [b] []) (n : Nat) : WhyAt (L.T n) wc := by
  obtain ⟨s1, s2, s3, s4, s5, s6, s7, s8⟩ := of_decide_eq_true hs
  refine ⟨4 * n + 3, b, fs, fds, _, ms, q, (show 4 * n + 3 ≤ 4 * n + 4 by omega), hms, hks, bws, fun B => ?_, ok⟩
  exact EnY.whys_ok (k := 4 * n + 2) F S hb ⟨s5, s6, fun p hp => by
    have e := List.mem_singleton.mp hp
    rw [e]
    rfl, s7, fun z hz hk => by
    rcases s8 z hz hk with h | h
    · exact .inl (by rw [h]; simp)
    · exact .inr h⟩ s1 s2 s3 s4 hm hk bw (W (4 * n) B)
end
def lamScB (sc : Scope) (capN : List Str) (scope : Scope) : Bool := decide (scope.kind = .function ∧ scope.isCoroutine = false ∧ scope.isGenerator = false ∧ (∀ y ∈ scope.names, y.2 ≠ .cell) ∧ (∀ y ∈ capN, scope.names.lookup y = some .free) ∧ (∀ y ∈ scope.names, y.2 = .free → sc.names.lookup y.1 = some .cell) ∧ ∀ y ∈ capN, sc.names.lookup y = some .cell)
def lmkOf (nt : NT) (tab : List (Nat × Nat × E)) (sc : Scope) (j : Nat) (capN : List Str) (_ : Arguments) (body : Expr) (scope : Scope) : Bool := match tab.lookup j with
  | some (n, e) => decide (capN.length = n ∧ capN.Nodup) && (lamScB sc capN scope && chk nt e { N := capN, sc := scope, loc := [] } (.ex body))
  | none => false
theorem lmkOf_ok {L : Ld} {tab : List (Nat × Nat × E)} (hC : ∀ j n e, tab.lookup j = some (n, e) → L.Cd j = some ⟨n, n, .ret e, id, none⟩) {sc : Scope} : ∀ j capN params body scope, lmkOf L.nt tab sc j capN params body scope = true → LmT L j capN body scope ∧ LamSc sc capN scope := by
  intro j capN params body scope h
  unfold lmkOf at h
  split at h
  · rename_i n e he
    simp only [Bool.and_eq_true, decide_eq_true_eq] at h
    obtain ⟨⟨rfl, h2⟩, h3, h4⟩ := h
    obtain ⟨s1, s2, s3, s4, s5, s6, s7⟩ := of_decide_eq_true h3
    exact ⟨⟨h2, e, hC _ _ _ he, h4⟩, ⟨s1, s2, s3, s4, s5, s6, s7⟩⟩
  · cases h
theorem codB_of {K : PySem.W.Frag} {c : Addr} {e : Value} {dd : Option Addr} {vs : Array Value} {sl : Array (Option Value)} {h : Heap} (q : codB K c e vs = true) (X : K.In h) (l : K.lookup c = some ⟨e, dd, .fields vs, sl⟩) : PySem.W.CodeHd h c (tabOf vs) ∧ K.lookup (tabOf vs) = none ∧ vs[11]? = some (.ref (tabOf vs)) := by
  unfold codB at q
  simp only [Bool.and_eq_true, decide_eq_true_eq, Option.isNone_iff_eq_none] at q
  obtain ⟨rfl, h1, h2, h3, h4, h5, h6, h7⟩ := q
  have e11 : vs[11]? = some (.ref (tabOf vs)) := by
    unfold isRefV at h1
    split at h1
    · rename_i P hP
      unfold tabOf
      rw [hP]
    · cases h1
  have s : ∀ {v : Value}, isStrV v = true → ∃ a t, v = .str a t := fun {v} h => by
    unfold isStrV at h
    split at h
    · exact ⟨_, _, rfl⟩
    · cases h
  have i : ∀ {v : Value}, isIntV v = true → ∃ a t, v = .int a t := fun {v} h => by
    unfold isIntV at h
    split at h
    · exact ⟨_, _, rfl⟩
    · cases h
  have b : ∀ {v : Value}, isBoolV v = true → ∃ a, v = .bool a := fun {v} h => by
    unfold isBoolV at h
    split at h
    · exact ⟨_, rfl⟩
    · cases h
  obtain ⟨f1, f2, g2⟩ := s h2
  obtain ⟨f3, f4, g3⟩ := i h3
  obtain ⟨f5, g4⟩ := b h4
  obtain ⟨f6, f7, g5⟩ := i h5
  exact ⟨⟨_, vs, f1, f2, f3, f4, f5, f6, f7, X _ _ l, rfl, rfl, e11, by rw [Array.getD_eq_getD_getElem?, e11]; rfl, g2, g3, g4, g5, h6⟩, h7, e11⟩
theorem ints_rpZ {x : SX} {G : Hp} {io : List Addr} : ∀ ns : List Int, RpL x G io (ns.map D.int) (ns.map V.int)
  | [] => rfl
  | n :: ns => ⟨.int n, _, rfl, rfl, ints_rpZ ns⟩
def spLawT (K : PySem.W.Frag) (cs : List (Addr × Addr)) : Sp := fun vs H Q _ => ∃ (a : Addr) (ns : List Int), vs = [.ref a] ∧ SqL K H a (ns.map V.int) ∧ ns.length ≤ 63 ∧ (∀ p ∈ cs, H p.2 = some (.tbl #[])) ∧ ∀ H', Q (.bl true) H'
def noTab (cs : List (Addr × Addr)) (H : Hp) : Hp := fun b => if b ∈ cs.map (·.2) then none else H b
theorem law_fin {L : Ld} {cs : List (Addr × Addr)} {N fuel : Nat} {code : E} {fa : Addr} {fd : FuncData} {ps : List Str} {k : Nat} (hps : ps.length = 1) (F : FnOk L.prog L.w L.x.K L.mg L.base (L2.CX L.prog L.w) k fa fd ps (spP L.x (PfC L fuel N ps.length code) ps.length))
    (htb : ∀ p ∈ L.x.tbs, p.1 ∈ cs.map (·.2)) (hrun : ∀ ns : List Int, ns.length ≤ 63 → ∃ m, PfC L fuel N ps.length code [.fzl (ns.map D.int)] [] = some (.val (.bl true), m)) : FnOk L.prog L.w L.x.K L.mg L.base (L2.CX L.prog L.w) k fa fd ps (spLawT L.x.K cs) := by
  refine F.imp fun vs H Q E hs => ?_
  obtain ⟨a, ns, rfl, hS, hl, hT, k⟩ := hs
  obtain ⟨m, hm⟩ := hrun ns hl
  have hT' : ∀ b ∈ cs.map (·.2), H b = some (.tbl #[]) := fun b hb => by
    obtain ⟨p, hp, e⟩ := List.mem_map.mp hb
    rw [← e]
    exact hT p hp
  have at_ : ∀ {b : Addr} {o : HO}, H b = some o → o ≠ .tbl #[] → noTab cs H b = some o := fun {b o} e n => by
    unfold noTab
    rw [if_neg fun z => ?_]
    · exact e
    · rw [hT' b z] at e
      exact n (Option.some.inj e).symm
  have hS' : SqL L.x.K (noTab cs H) a (ns.map V.int) := by
    rcases hS with (h | ⟨o, h⟩) | h
    · exact .inl (.inl (at_ h fun z => by cases z))
    · exact .inl (.inr ⟨o, at_ h fun z => by cases z⟩)
    · exact .inr h
  refine ⟨hps.symm, [.fzl (ns.map D.int)], [], noTab cs H, [], ⟨fun b o e => ?_, fun p hp => LamX.TabS.nil (hT' _ (htb p hp)), fun b hb => ?_⟩, ⟨rfl, .nil, fun _ _ _ h => by simp at h⟩, .cons ⟨a, _, rfl, hS', ints_rpZ ns⟩ .nil, ?_⟩
  · unfold noTab at e
    split at e
    · cases e
    · exact e
  · obtain ⟨p, hp, e⟩ := List.mem_map.mp hb
    unfold noTab
    rw [if_pos (by rw [← e]; exact htb p hp)]
  · rw [hm]
    intro v H' G' io' _ r
    rw [show v = .bl true from r]
    exact k H'
theorem tbsB_of {T : List (Addr × Str)} (h : tbsB T = true) {P : Addr} {q : Str} (hm : (P, q) ∈ T) : ∀ p ∈ T, p.1 = P → p.2 = q := fun p hp e => by
  have h1 := List.all_eq_true.mp (List.all_eq_true.mp h p hp) _ hm
  simp only [e, decide_true, Bool.not_true, Bool.false_or, decide_eq_true_eq] at h1
  exact h1
end En

namespace En
open PySem PySem.Spec L2
section
variable (P : Nat → List D → List MO → Option (Out × List MO)) (Gm : Nat → D)
def varR (o : Option (Option Cell)) (s : S) : Res := match o with
  | some (some (.val d)) => some (.val d, s)
  | _ => none
def mvR (i : Nat) (o : Option (Option Cell)) (s : S) : Res := match o with
  | some (some (.ol ds)) => some (.fr (.bx ds), s.set i none)
  | _ => none
def fzR (i : Nat) (o : Option (Option Cell)) (s : S) : Res := match o with
  | some (some (.ol ds)) => some (.val (.lst ds), s.set i (some (.val (.lst ds))))
  | some (some (.val d)) => some (.val d, s)
  | _ => none
def kBop1 (o : Bop) (b : E) (x : D) (s : S) : Res := bnd (ev P Gm b s) fun y s => bopF o x y s
def kBop2 (o : Bop) (x y : D) (s : S) : Res := bopF o x y s
def kNeg (x : D) (s : S) : Res := match x with
  | .int i => some (.val (.int (-i)), s)
  | _ => none
def kNt (x : D) (s : S) : Res := match x with
  | .bl b => some (.val (.bl (!b)), s)
  | _ => none
def kBand (b : E) (x : D) (s : S) : Res := match x with
  | .bl c => if c then ev P Gm b s else some (.val (.bl false), s)
  | _ => none
def kBor (b : E) (x : D) (s : S) : Res := match x with
  | .bl c => if c then some (.val (.bl true), s) else ev P Gm b s
  | _ => none
def kIte (a b : E) (x : D) (s : S) : Res := match x with
  | .bl c => if c then ev P Gm a s else ev P Gm b s
  | _ => none
def kCmp2 (o : Cop) (x y : D) (s : S) : Res := resB s (cmpF o x y s)
def kCmp1 (o : Cop) (b : E) (x : D) (s : S) : Res := bnd (ev P Gm b s) (kCmp2 o x)
def kChn4 (p : Cop) (y z : D) (s : S) : Res := resB s (cmpF p y z s)
def chnR (p : Cop) (c : E) (y : D) (s : S) (q : Option Bool) : Res := match q with
  | some true => bnd (ev P Gm c s) (kChn4 p y)
  | some false => some (.val (.bl false), s)
  | none => none
def k3Ch4 (p q : Cop) (d : E) (y z : D) (s : S) : Res := chnR P Gm q d z s (cmpF p y z s)
def chn3R (p q : Cop) (c d : E) (y : D) (s : S) (r : Option Bool) : Res := match r with
  | some true => bnd (ev P Gm c s) (k3Ch4 P Gm p q d y)
  | some false => some (.val (.bl false), s)
  | none => none
def k3Ch2 (o p q : Cop) (c d : E) (x y : D) (s : S) : Res := chn3R P Gm p q c d y s (cmpF o x y s)
def k3Ch1 (o p q : Cop) (b c d : E) (x : D) (s : S) : Res := bnd (ev P Gm b s) (k3Ch2 P Gm o p q c d x)
def kChn2 (o p : Cop) (c : E) (x y : D) (s : S) : Res := chnR P Gm p c y s (cmpF o x y s)
def kChn1 (o p : Cop) (b c : E) (x : D) (s : S) : Res := bnd (ev P Gm b s) (kChn2 P Gm o p c x)
def kIsn (x : D) (s : S) : Res := match x with
  | .non => some (.val (.bl true), s)
  | _ => some (.val (.bl false), s)
def kNin (x : D) (s : S) : Res := match x with
  | .non => some (.val (.bl false), s)
  | _ => some (.val (.bl true), s)
def kIx2 (x y : D) (s : S) : Res := resD s (ixF x y s)
def kIx1 (b : E) (x : D) (s : S) : Res := bnd (ev P Gm b s) (kIx2 x)
def kPrt (k : Option Int → S → Res) (d : D) (s : S) : Res := match d with
  | .int i => k (some i) s
  | _ => none
def kSl3 (x : D) (l h : Option Int) (s : S) : Res := slF x l h s
def kSl2 (hi : E) (x : D) (l : Option Int) (s : S) : Res := prt (isAbs hi) (ev P Gm hi s) s (kSl3 x l)
def kSl1 (lo hi : E) (x : D) (s : S) : Res := prt (isAbs lo) (ev P Gm lo s) s (kSl2 P Gm hi x)
def callR (o : Option (Out × List MO)) (s : S) : Res := match o with
  | some (.val d, m) => some (.val d, { s with m := m })
  | some (.fr o, m) => some (.fr o, { s with m := m })
  | some (.exc c ns es, m) => some (.exc c ns es, { s with m := m })
  | _ => none
def kCal (f : Nat) (ds : List D) (s : S) : Res := callR (P f ds s.m) s
def kCalk2 (f n m : Nat) (ds es : List D) (s : S) : Res := if ds.length = n ∧ es.length = m then callR (P f (ds ++ es) s.m) s else none
def kCalk1 (f n m : Nat) (ks : E) (ds : List D) (s : S) : Res := bndA (ev P Gm ks s) (kCalk2 P f n m ds)
def kBi (b : Bi) (ds : List D) (s : S) : Res := biF b ds s
def kBm2 (m : Bm) (x : D) (ds : List D) (s : S) : Res := bmF m x ds s
def kBm1 (m : Bm) (as : E) (x : D) (s : S) : Res := if bmR m x s then bndA (ev P Gm as s) (kBm2 m x) else none
def kSpl2 (ds : List D) (es : List D) (s : S) : Res := some (.vals (ds ++ es), s)
def splR (b : E) (s : S) (o : Option (List D)) : Res := match o with
  | some ds => bndA (ev P Gm b s) (kSpl2 ds)
  | none => none
def kSpl1 (b : E) (x : D) (s : S) : Res := splR P Gm b s (viewQ s x)
def revR (s : S) (o : Option (List D)) : Res := match o with
  | some ds => some (.fr (.bx ds.reverse), s)
  | none => none
def kRev (x : D) (s : S) : Res := revR s (viewL s x)
def kLst (ds : List D) (s : S) : Res := if ds.length ≤ big then some (.fr (.bx ds), s) else none
def kTpl (ds : List D) (s : S) : Res := if ds.length ≤ big then some (.val (.tup ds), s) else none
def kIsi (ts : List Ty) (x : D) (s : S) : Res := resB s (tyAny (s.v x) ts)
def kCns2 (d : D) (ds : List D) (s : S) : Res := some (.vals (d :: ds), s)
def kCns1 (b : E) (d : D) (s : S) : Res := bndA (ev P Gm b s) (kCns2 d)
def itR (o : Option (List D)) (s : S) : Res := match o with
  | some ds => some (.vals ds, s)
  | none => none
def kIt (x : D) (s : S) : Res := itR (itF x s) s
def kRng (x : D) (s : S) : Res := match x with
  | .int j => if -(2 ^ 62) ≤ j ∧ j < 2 ^ 62 then some (.vals ((List.range j.toNat).map fun (k : Nat) => .int k), s) else none
  | _ => none
def kRng2b (x y : D) (s : S) : Res := match x, y with
  | .int i, .int j => if -(2 ^ 62) ≤ i ∧ i < 2 ^ 62 ∧ -(2 ^ 62) ≤ j ∧ j < 2 ^ 62 then some (.vals ((List.range (j - i).toNat).map fun (k : Nat) => .int (i + k)), s) else none
  | _, _ => none
def kRng2a (b : E) (x : D) (s : S) : Res := bnd (ev P Gm b s) (kRng2b x)
def enmR (o : Option (List D)) (s : S) : Res := match o with
  | some ds => some (.vals (enumF 0 ds), s)
  | none => none
def kEnm (x : D) (s : S) : Res := enmR (lstOf x) s
def kZp2 (x y : D) (s : S) : Res := itR (zipOf x y) s
def kZp1 (b : E) (x : D) (s : S) : Res := bnd (ev P Gm b s) (kZp2 x)
def lcR (s : S) (o : Res) : Res := match o with
  | some (.fr (.bx acc), s') => some (.fr (.bx acc), { s with m := s'.m })
  | _ => none
def kLc (own : List Nat) (tg cd el : E) (ds : List D) (s : S) : Res := lcR s (compL (store tg) (ev P Gm cd) (ev P Gm el) (wipeR (valR s.r) own) ds [] s.m)
def seqR (b : E) (o : Res) : Res := match o with
  | some (.nx, s) => ev P Gm b s
  | r => r
def kAsg (i : Nat) (d : D) (s : S) : Res := some (.nx, s.set i (some (.val d)))
def kAug (i : Nat) (k : Int) (d : D) (s : S) : Res := match d with
  | .int j => some (.nx, s.set i (some (.val (.int (k + j)))))
  | _ => none
def augR (i : Nat) (a : E) (s : S) (o : Option (Option Cell)) : Res := match o with
  | some (some (.val (.int k))) => bnd (ev P Gm a s) (kAug i k)
  | _ => none
def nxR (o : Option S) : Res := match o with
  | some s => some (.nx, s)
  | none => none
def kAst (tg : E) (d : D) (s : S) : Res := nxR (store tg d s)
def asoR (i : Nat) (o : Res) : Res := match o with
  | some (.fr o, s) => asoK i o s
  | some (.exc c ns ds, s) => some (.exc c ns ds, s)
  | _ => none
def asbR (i : Nat) (o : Res) : Res := match o with
  | some (.fr o, s) => some (.nx, { r := s.r.set i (some (.val (.adr s.m.length))), m := s.m ++ [o] })
  | some (.exc c ns ds, s) => some (.exc c ns ds, s)
  | _ => none
def kPar2 (i j : Nat) (x y : D) (s : S) : Res := some (.nx, (s.set i (some (.val x))).set j (some (.val y)))
def kPar1 (i j : Nat) (b : E) (x : D) (s : S) : Res := bnd (ev P Gm b s) (kPar2 i j x)
def sitR2 (d : D) (n : Nat) (ds : List D) (o : Option Nat) (s : S) : Res := match o with
  | some j => some (.nx, { s with m := s.m.set n (.bx (ds.set j d)) })
  | none => none
def sitD2 (d : D) (n : Nat) (ks : List Key) (ds : List D) (o : Option Key) (s : S) : Res := match o with
  | some k => if ks.length < big then some (.nx, { s with m := s.m.set n (.dx (putL k d ks ds).1 (putL k d ks ds).2) }) else none
  | none => none
def sitB (d : D) (n : Nat) (ds : List D) (y : D) (s : S) : Res := match y with
  | .int i => sitR2 d n ds (ixN ds.length i) s
  | _ => none
def sitR (d : D) (n : Nat) (y : D) (o : Option MO) (s : S) : Res := match o with
  | some (.bx ds) => sitB d n ds y s
  | some (.dx ks ds) => sitD2 d n ks ds (keyD y) s
  | _ => none
def kSit3 (d x y : D) (s : S) : Res := match x with
  | .adr n => sitR d n y s.m[n]? s
  | _ => none
def kSit2 (k : E) (d x : D) (s : S) : Res := bnd (ev P Gm k s) (kSit3 d x)
def kSit1 (o k : E) (d : D) (s : S) : Res := bnd (ev P Gm o s) (kSit2 P Gm k d)
def retR (o : Res) : Res := match o with
  | some (.val d, s) => some (.rt d, s)
  | some (.fr o, s) => some (.rtf o, s)
  | some (.exc c ns ds, s) => some (.exc c ns ds, s)
  | _ => none
def kIff (a b : E) (x : D) (s : S) : Res := match x with
  | .bl c => if c then ev P Gm a s else ev P Gm b s
  | _ => none
def kFrr (tg b : E) (ds : List D) (s : S) : Res := forL (store tg) (ev P Gm b) ds s
def kExp (d : D) (s : S) : Res := some (.nx, s)
def apoR2 (i : Nat) (d : D) (o : Option (Option Cell)) (s : S) : Res := match o with
  | some (some (.ol ds)) => if ds.length < big then some (.nx, s.set i (some (.ol (ds ++ [d])))) else none
  | _ => none
def kApo (i : Nat) (d : D) (s : S) : Res := apoR2 i d s.r[i]? s
def apoR1 (i : Nat) (e : E) (o : Option (Option Cell)) (s : S) : Res := match o with
  | some (some (.ol _)) => bnd (ev P Gm e s) (kApo i)
  | _ => none
variable {P} {Gm}
variable {s : S} {a b c lo hi : E} {x y : D}
@[simp] theorem le_big {n : Nat} (h : n ≤ 16777216) : (n ≤ big) = True := eq_true h
@[simp] theorem lt_big {n : Nat} (h : n < 16777216) : (n < big) = True := eq_true h
@[simp] theorem bnd_val {d : D} {k : D → S → Res} : bnd (some (.val d, s)) k = k d s := id rfl
@[simp] theorem bnd_frs {ds : List D} {k : D → S → Res} : bnd (some (.fr (.bx ds), s)) k = k (.lst ds) s := id rfl
@[simp] theorem bnd_exc {c : Nat} {ns : List Nat} {ds : List D} {k : D → S → Res} : bnd (some (.exc c ns ds, s)) k = some (.exc c ns ds, s) := id rfl
@[simp] theorem bndA_vals {ds : List D} {k : List D → S → Res} : bndA (some (.vals ds, s)) k = k ds s := id rfl
@[simp] theorem bndA_exc {c : Nat} {ns : List Nat} {ds : List D} {k : List D → S → Res} : bndA (some (.exc c ns ds, s)) k = some (.exc c ns ds, s) := id rfl
@[simp] theorem ev_var {i : Nat} : ev P Gm (.var i) s = varR s.r[i]? s := id rfl
@[simp] theorem ev_mv {i : Nat} : ev P Gm (.mv i) s = mvR i s.r[i]? s := id rfl
@[simp] theorem ev_fz {i : Nat} : ev P Gm (.fz i) s = fzR i s.r[i]? s := id rfl
@[simp] theorem ev_cN : ev P Gm (.cst .non) s = some (.val .non, s) := id rfl
@[simp] theorem ev_cB {b : Bool} : ev P Gm (.cst (.bl b)) s = some (.val (.bl b), s) := id rfl
@[simp] theorem ev_cI {i : Int} : ev P Gm (.cst (.int i)) s = some (.val (.int i), s) := id rfl
@[simp] theorem ev_cS {z : Str} : ev P Gm (.cst (.str z)) s = some (.val (.str z), s) := id rfl
@[simp] theorem ev_gv {g : Nat} : ev P Gm (.gv g) s = some (.val (Gm g), s) := id rfl
@[simp] theorem ev_one : ev P Gm (.one a) s = ev P Gm a s := id rfl
@[simp] theorem ev_bop {o : Bop} : ev P Gm (.bop o a b) s = bnd (ev P Gm a s) (kBop1 P Gm o b) := id rfl
@[simp] theorem kBop1_eq {o : Bop} : kBop1 P Gm o b x s = bnd (ev P Gm b s) (kBop2 o x) := id rfl
@[simp] theorem kBop2_eq {o : Bop} : kBop2 o x y s = bopF o x y s := id rfl
@[simp] theorem ev_neg : ev P Gm (.neg a) s = bnd (ev P Gm a s) kNeg := id rfl
@[simp] theorem kNeg_eq {i : Int} : kNeg (.int i) s = some (.val (.int (-i)), s) := id rfl
@[simp] theorem ev_nt : ev P Gm (.nt a) s = bnd (ev P Gm a s) kNt := id rfl
@[simp] theorem kNt_eq {b : Bool} : kNt (.bl b) s = some (.val (.bl (!b)), s) := id rfl
@[simp] theorem ev_band : ev P Gm (.band a b) s = bnd (ev P Gm a s) (kBand P Gm b) := id rfl
@[simp] theorem kBand_t : kBand P Gm b (.bl true) s = ev P Gm b s := id rfl
@[simp] theorem kBand_f : kBand P Gm b (.bl false) s = some (.val (.bl false), s) := id rfl
@[simp] theorem ev_bor : ev P Gm (.bor a b) s = bnd (ev P Gm a s) (kBor P Gm b) := id rfl
@[simp] theorem kBor_t : kBor P Gm b (.bl true) s = some (.val (.bl true), s) := id rfl
@[simp] theorem kBor_f : kBor P Gm b (.bl false) s = ev P Gm b s := id rfl
@[simp] theorem ev_ite : ev P Gm (.ite c a b) s = bnd (ev P Gm c s) (kIte P Gm a b) := id rfl
@[simp] theorem kIte_t : kIte P Gm a b (.bl true) s = ev P Gm a s := id rfl
@[simp] theorem kIte_f : kIte P Gm a b (.bl false) s = ev P Gm b s := id rfl
@[simp] theorem ev_cmp {o : Cop} : ev P Gm (.cmp o a b) s = bnd (ev P Gm a s) (kCmp1 P Gm o b) := id rfl
@[simp] theorem kCmp1_eq {o : Cop} : kCmp1 P Gm o b x s = bnd (ev P Gm b s) (kCmp2 o x) := id rfl
@[simp] theorem kCmp2_eq {o : Cop} : kCmp2 o x y s = resB s (cmpF o x y s) := id rfl
@[simp] theorem ev_chn {o p : Cop} : ev P Gm (.chn o p a b c) s = bnd (ev P Gm a s) (kChn1 P Gm o p b c) := id rfl
@[simp] theorem kChn1_eq {o p : Cop} : kChn1 P Gm o p b c x s = bnd (ev P Gm b s) (kChn2 P Gm o p c x) := id rfl
@[simp] theorem kChn2_eq {o p : Cop} : kChn2 P Gm o p c x y s = chnR P Gm p c y s (cmpF o x y s) := id rfl
@[simp] theorem ev_chn3 {o p q : Cop} {d : E} : ev P Gm (.chn3 o p q a b c d) s = bnd (ev P Gm a s) (k3Ch1 P Gm o p q b c d) := id rfl
@[simp] theorem k3Ch1_eq {o p q : Cop} {d : E} : k3Ch1 P Gm o p q b c d x s = bnd (ev P Gm b s) (k3Ch2 P Gm o p q c d x) := id rfl
@[simp] theorem k3Ch2_eq {o p q : Cop} {d : E} : k3Ch2 P Gm o p q c d x y s = chn3R P Gm p q c d y s (cmpF o x y s) := id rfl
@[simp] theorem chn3R_t {p q : Cop} {d : E} : chn3R P Gm p q c d y s (some true) = bnd (ev P Gm c s) (k3Ch4 P Gm p q d y) := id rfl
@[simp] theorem chn3R_f {p q : Cop} {d : E} : chn3R P Gm p q c d y s (some false) = some (.val (.bl false), s) := id rfl
@[simp] theorem k3Ch4_eq {p q : Cop} {d : E} {z : D} : k3Ch4 P Gm p q d y z s = chnR P Gm q d z s (cmpF p y z s) := id rfl
@[simp] theorem chnR_t {p : Cop} : chnR P Gm p c y s (some true) = bnd (ev P Gm c s) (kChn4 p y) := id rfl
@[simp] theorem chnR_f {p : Cop} : chnR P Gm p c y s (some false) = some (.val (.bl false), s) := id rfl
@[simp] theorem kChn4_eq {p : Cop} {z : D} : kChn4 p y z s = resB s (cmpF p y z s) := id rfl
@[simp] theorem resB_eq {b : Bool} : resB s (some b) = some (.val (.bl b), s) := id rfl
@[simp] theorem resD_eq {d : D} : resD s (some d) = some (.val d, s) := id rfl
@[simp] theorem ev_isn : ev P Gm (.isn a) s = bnd (ev P Gm a s) kIsn := id rfl
@[simp] theorem ev_nin : ev P Gm (.nin a) s = bnd (ev P Gm a s) kNin := id rfl
@[simp] theorem ev_ix : ev P Gm (.ix a b) s = bnd (ev P Gm a s) (kIx1 P Gm b) := id rfl
@[simp] theorem kIx1_eq : kIx1 P Gm b x s = bnd (ev P Gm b s) (kIx2 x) := id rfl
@[simp] theorem kIx2_eq : kIx2 x y s = resD s (ixF x y s) := id rfl
@[simp] theorem ev_sl : ev P Gm (.sl a lo hi) s = bnd (ev P Gm a s) (kSl1 P Gm lo hi) := id rfl
@[simp] theorem kSl1_eq : kSl1 P Gm lo hi x s = prt (isAbs lo) (ev P Gm lo s) s (kSl2 P Gm hi x) := id rfl
@[simp] theorem kSl2_eq {l : Option Int} : kSl2 P Gm hi x l s = prt (isAbs hi) (ev P Gm hi s) s (kSl3 x l) := id rfl
@[simp] theorem kSl3_eq {l h : Option Int} : kSl3 x l h s = slF x l h s := id rfl
@[simp] theorem prt_t {o : Res} {k : Option Int → S → Res} : prt true o s k = k none s := id rfl
@[simp] theorem prt_f {o : Res} {k : Option Int → S → Res} : prt false o s k = bnd o (kPrt k) := id rfl
@[simp] theorem kPrt_eq {k : Option Int → S → Res} {i : Int} : kPrt k (.int i) s = k (some i) s := id rfl
@[simp] theorem isAbs_abs : isAbs .abs = true := id rfl
@[simp] theorem isAbs_one : isAbs (.one a) = false := id rfl
@[simp] theorem ev_cal {f : Nat} : ev P Gm (.cal f a) s = bndA (ev P Gm a s) (kCal P f) := id rfl
@[simp] theorem kCal_eq {f : Nat} {ds : List D} : kCal P f ds s = callR (P f ds s.m) s := id rfl
@[simp] theorem callR_val {d : D} {m : List MO} : callR (some (.val d, m)) s = some (.val d, ⟨s.r, m⟩) := id rfl
@[simp] theorem callR_fr {o : MO} {m : List MO} : callR (some (.fr o, m)) s = some (.fr o, ⟨s.r, m⟩) := id rfl
@[simp] theorem callR_exc {c : Nat} {ns : List Nat} {es : List D} {m : List MO} : callR (some (.exc c ns es, m)) s = some (.exc c ns es, ⟨s.r, m⟩) := id rfl
@[simp] theorem ev_calk {f n m : Nat} : ev P Gm (.calk f n a m b) s = bndA (ev P Gm a s) (kCalk1 P Gm f n m b) := id rfl
@[simp] theorem kCalk1_eq {f n m : Nat} {ds : List D} : kCalk1 P Gm f n m b ds s = bndA (ev P Gm b s) (kCalk2 P f n m ds) := id rfl
@[simp] theorem kCalk2_eq {f n m : Nat} {ds es : List D} (h1 : ds.length = n) (h2 : es.length = m) : kCalk2 P f n m ds es s = callR (P f (ds ++ es) s.m) s := if_pos ⟨h1, h2⟩
@[simp] theorem ev_bi {k : Bi} : ev P Gm (.bi k a) s = bndA (ev P Gm a s) (kBi k) := id rfl
@[simp] theorem kBi_eq {k : Bi} {ds : List D} : kBi k ds s = biF k ds s := id rfl
@[simp] theorem ev_bm {k : Bm} : ev P Gm (.bm k a b) s = bnd (ev P Gm a s) (kBm1 P Gm k b) := id rfl
@[simp] theorem kBm1_l {k : Bm} {ds : List D} (h : k ≠ .join) : kBm1 P Gm k b (.lst ds) s = bndA (ev P Gm b s) (kBm2 k (.lst ds)) := by
  cases k with
  | join => exact absurd rfl h
  | _ => rfl
@[simp] theorem kBm1_a {k : Bm} {n : Nat} {ds : List D} (h : k ≠ .join) (hm : s.m[n]? = some (.bx ds)) : kBm1 P Gm k b (.adr n) s = bndA (ev P Gm b s) (kBm2 k (.adr n)) := by
  have e : bmR k (.adr n) s = true := by
    have v : viewL s (.adr n) = some ds := by
      unfold viewL; dsimp only; rw [hm]
    cases k with
    | join => exact absurd rfl h
    | _ =>
      show (viewL s (.adr n)).isSome = true
      rw [v]; rfl
  unfold kBm1
  rw [e]; rfl
@[simp] theorem ev_spl : ev P Gm (.spl a b) s = bnd (ev P Gm a s) (kSpl1 P Gm b) := by
  show bnd _ _ = bnd _ _
  congr 1
@[simp] theorem kSpl1_eq : kSpl1 P Gm b x s = splR P Gm b s (viewQ s x) := id rfl
@[simp] theorem splR_eq {ds : List D} : splR P Gm b s (some ds) = bndA (ev P Gm b s) (kSpl2 ds) := id rfl
@[simp] theorem kSpl2_eq {ds es : List D} : kSpl2 ds es s = some (.vals (ds ++ es), s) := id rfl
@[simp] theorem ev_rev : ev P Gm (.rev a) s = bnd (ev P Gm a s) kRev := id rfl
@[simp] theorem kRev_eq : kRev x s = revR s (viewL s x) := id rfl
@[simp] theorem revR_eq {ds : List D} : revR s (some ds) = some (.fr (.bx ds.reverse), s) := id rfl
@[simp] theorem kBm1_j {z : Str} : kBm1 P Gm .join b (.str z) s = bndA (ev P Gm b s) (kBm2 .join (.str z)) := id rfl
@[simp] theorem kBm2_eq {k : Bm} {ds : List D} : kBm2 k x ds s = bmF k x ds s := id rfl
@[simp] theorem ev_lst : ev P Gm (.lst a) s = bndA (ev P Gm a s) kLst := id rfl
@[simp] theorem kLst_eq {ds : List D} (h : ds.length ≤ 16777216) : kLst ds s = some (.fr (.bx ds), s) := if_pos h
@[simp] theorem ev_tpl : ev P Gm (.tpl a) s = bndA (ev P Gm a s) kTpl := id rfl
@[simp] theorem kTpl_eq {ds : List D} (h : ds.length ≤ 16777216) : kTpl ds s = some (.val (.tup ds), s) := if_pos h
@[simp] theorem ev_isi {ts : List Ty} : ev P Gm (.isi a ts) s = bnd (ev P Gm a s) (kIsi ts) := id rfl
@[simp] theorem kIsi_eq {ts : List Ty} : kIsi ts x s = resB s (tyAny (s.v x) ts) := id rfl
@[simp] theorem ev_nil : ev P Gm .nil s = some (.vals [], s) := id rfl
@[simp] theorem ev_cns : ev P Gm (.cns a b) s = bnd (ev P Gm a s) (kCns1 P Gm b) := id rfl
@[simp] theorem kCns1_eq : kCns1 P Gm b x s = bndA (ev P Gm b s) (kCns2 x) := id rfl
@[simp] theorem kCns2_eq {ds : List D} : kCns2 x ds s = some (.vals (x :: ds), s) := id rfl
@[simp] theorem ev_it : ev P Gm (.it a) s = bnd (ev P Gm a s) kIt := id rfl
@[simp] theorem kIt_eq : kIt x s = itR (itF x s) s := id rfl
@[simp] theorem itF_l {ds : List D} : itF (.lst ds) s = some ds := id rfl
@[simp] theorem itF_t {ds : List D} : itF (.tup ds) s = some ds := id rfl
@[simp] theorem itF_s {z : Str} : itF (.str z) s = some (z.cps.toList.map fun c => .str ⟨#[c]⟩) := id rfl
@[simp] theorem itF_d {ks : List Key} {ds : List D} : itF (.dct ks ds) s = some (ks.map keyV) := id rfl
@[simp] theorem itR_eq {ds : List D} : itR (some ds) s = some (.vals ds, s) := id rfl
@[simp] theorem ev_rng : ev P Gm (.rng a) s = bnd (ev P Gm a s) kRng := id rfl
@[simp] theorem kRng_eq {j : Int} (h1 : -4611686018427387904 ≤ j) (h2 : j < 4611686018427387904) : kRng (.int j) s = some (.vals ((List.range j.toNat).map fun (k : Nat) => .int k), s) := if_pos ⟨h1, h2⟩
@[simp] theorem ev_rng2 : ev P Gm (.rng2 a b) s = bnd (ev P Gm a s) (kRng2a P Gm b) := id rfl
@[simp] theorem kRng2a_eq : kRng2a P Gm b x s = bnd (ev P Gm b s) (kRng2b x) := id rfl
@[simp] theorem kRng2b_eq {i j : Int} (h1 : -4611686018427387904 ≤ i) (h2 : i < 4611686018427387904) (h3 : -4611686018427387904 ≤ j) (h4 : j < 4611686018427387904) : kRng2b (.int i) (.int j) s = some (.vals ((List.range (j - i).toNat).map fun (k : Nat) => .int (i + k)), s) := if_pos ⟨h1, h2, h3, h4⟩
@[simp] theorem ev_enm : ev P Gm (.enm a) s = bnd (ev P Gm a s) kEnm := id rfl
@[simp] theorem kEnm_eq {ds : List D} : kEnm (.lst ds) s = some (.vals (enumF 0 ds), s) := id rfl
@[simp] theorem kEnm_t {ds : List D} : kEnm (.tup ds) s = some (.vals (enumF 0 ds), s) := id rfl
@[simp] theorem ev_zp : ev P Gm (.zp a b) s = bnd (ev P Gm a s) (kZp1 P Gm b) := id rfl
@[simp] theorem kZp1_eq : kZp1 P Gm b x s = bnd (ev P Gm b s) (kZp2 x) := id rfl
@[simp] theorem kZp2_l {ds es : List D} : kZp2 (.lst ds) (.lst es) s = some (.vals (List.zipWith (fun p q => .tup [p, q]) ds es), s) := id rfl
@[simp] theorem kZp2_t {ds es : List D} : kZp2 (.tup ds) (.tup es) s = some (.vals (List.zipWith (fun p q => .tup [p, q]) ds es), s) := id rfl
@[simp] theorem ev_lc {own : List Nat} {tg it cd el : E} : ev P Gm (.lc own tg it cd el) s = bndA (ev P Gm it s) (kLc P Gm own tg cd el) := id rfl
@[simp] theorem kLc_eq {own : List Nat} {tg cd el : E} {ds : List D} : kLc P Gm own tg cd el ds s = lcR s (compL (store tg) (ev P Gm cd) (ev P Gm el) (wipeR (valR s.r) own) ds [] s.m) := id rfl
@[simp] theorem lcR_eq {ds : List D} {s' : S} : lcR s (some (.fr (.bx ds), s')) = some (.fr (.bx ds), ⟨s.r, s'.m⟩) := id rfl
def kLc2 (own vs1 : List Nat) (tg cd tg1 it1 cd1 el : E) (ds : List D) (s : S) : Res := lcR s (compL2 (store tg) (ev P Gm cd) (fun acc s => bndA (ev P Gm it1 s) fun ds s => compL (store tg1) (ev P Gm cd1) (ev P Gm el) (wipeR (valR s.r) vs1) ds acc s.m) (wipeR (valR s.r) own) ds [] s.m)
@[simp] theorem ev_lc2 {own vs1 : List Nat} {tg it cd tg1 it1 cd1 el : E} : ev P Gm (.lc2 own vs1 tg it cd tg1 it1 cd1 el) s = bndA (ev P Gm it s) (kLc2 (P := P) (Gm := Gm) own vs1 tg cd tg1 it1 cd1 el) := id rfl
@[simp] theorem kLc2_eq {own vs1 : List Nat} {tg cd tg1 it1 cd1 el : E} {ds : List D} : kLc2 (P := P) (Gm := Gm) own vs1 tg cd tg1 it1 cd1 el ds s = lcR s (compL2 (store tg) (ev P Gm cd) (fun acc s => bndA (ev P Gm it1 s) fun ds s => compL (store tg1) (ev P Gm cd1) (ev P Gm el) (wipeR (valR s.r) vs1) ds acc s.m) (wipeR (valR s.r) own) ds [] s.m) := id rfl
@[simp] theorem ev_skp : ev P Gm .skp s = some (.nx, s) := id rfl
@[simp] theorem ev_seq : ev P Gm (.seq a b) s = seqR P Gm b (ev P Gm a s) := id rfl
@[simp] theorem seqR_nx : seqR P Gm b (some (.nx, s)) = ev P Gm b s := id rfl
@[simp] theorem seqR_rt : seqR P Gm b (some (.rt x, s)) = some (.rt x, s) := id rfl
@[simp] theorem seqR_rtf {o : MO} : seqR P Gm b (some (.rtf o, s)) = some (.rtf o, s) := id rfl
@[simp] theorem seqR_bk : seqR P Gm b (some (.bk, s)) = some (.bk, s) := id rfl
@[simp] theorem seqR_ct : seqR P Gm b (some (.ct, s)) = some (.ct, s) := id rfl
@[simp] theorem seqR_exc {c : Nat} {ns : List Nat} {ds : List D} : seqR P Gm b (some (.exc c ns ds, s)) = some (.exc c ns ds, s) := id rfl
@[simp] theorem ev_aug {i : Nat} : ev P Gm (.aug i a) s = augR P Gm i a s s.r[i]? := id rfl
@[simp] theorem augR_eq {i : Nat} {k : Int} : augR P Gm i a s (some (some (.val (.int k)))) = bnd (ev P Gm a s) (kAug i k) := id rfl
@[simp] theorem kAug_eq {i : Nat} {k j : Int} : kAug i k (.int j) s = some (.nx, s.set i (some (.val (.int (k + j))))) := id rfl
@[simp] theorem ev_asg {i : Nat} : ev P Gm (.asg i a) s = bnd (ev P Gm a s) (kAsg i) := id rfl
@[simp] theorem kAsg_eq {i : Nat} : kAsg i x s = some (.nx, s.set i (some (.val x))) := id rfl
@[simp] theorem ev_ast {tg : E} : ev P Gm (.ast tg a) s = bnd (ev P Gm a s) (kAst tg) := by
  show bnd _ _ = bnd _ _
  congr 1
@[simp] theorem kAst_eq {tg : E} : kAst tg x s = nxR (store tg x s) := id rfl
@[simp] theorem nxR_eq : nxR (some s) = some (.nx, s) := id rfl
@[simp] theorem ev_aso {i : Nat} : ev P Gm (.aso i a) s = asoR i (ev P Gm a s) := id rfl
@[simp] theorem asoR_eq {i : Nat} {ds : List D} : asoR i (some (.fr (.bx ds), s)) = some (.nx, s.set i (some (.ol ds))) := id rfl
@[simp] theorem asoR_exc {i c : Nat} {ns : List Nat} {ds : List D} : asoR i (some (.exc c ns ds, s)) = some (.exc c ns ds, s) := id rfl
@[simp] theorem ev_asb {i : Nat} : ev P Gm (.asb i a) s = asbR i (ev P Gm a s) := id rfl
@[simp] theorem asbR_eq {i : Nat} {o : MO} : asbR i (some (.fr o, s)) = some (.nx, ⟨s.r.set i (some (.val (.adr s.m.length))), s.m ++ [o]⟩) := id rfl
@[simp] theorem asbR_exc {i c : Nat} {ns : List Nat} {ds : List D} : asbR i (some (.exc c ns ds, s)) = some (.exc c ns ds, s) := id rfl
@[simp] theorem ev_par {i j : Nat} : ev P Gm (.par i j a b) s = bnd (ev P Gm a s) (kPar1 P Gm i j b) := id rfl
@[simp] theorem kPar1_eq {i j : Nat} : kPar1 P Gm i j b x s = bnd (ev P Gm b s) (kPar2 i j x) := id rfl
@[simp] theorem kPar2_eq {i j : Nat} : kPar2 i j x y s = some (.nx, (s.set i (some (.val x))).set j (some (.val y))) := id rfl
@[simp] theorem ev_sit {o k : E} : ev P Gm (.sit o k a) s = bnd (ev P Gm a s) (kSit1 P Gm o k) := id rfl
@[simp] theorem kSit1_eq {o k : E} : kSit1 P Gm o k x s = bnd (ev P Gm o s) (kSit2 P Gm k x) := id rfl
@[simp] theorem kSit2_eq {k : E} : kSit2 P Gm k x y s = bnd (ev P Gm k s) (kSit3 x y) := id rfl
@[simp] theorem kSit3_eq {n : Nat} : kSit3 x (.adr n) y s = sitR x n y s.m[n]? s := id rfl
@[simp] theorem sitR_eq {n : Nat} {i : Int} {ds : List D} : sitR x n (.int i) (some (.bx ds)) s = sitR2 x n ds (ixN ds.length i) s := id rfl
@[simp] theorem sitR_d {n : Nat} {ks : List Key} {ds : List D} : sitR x n y (some (.dx ks ds)) s = sitD2 x n ks ds (keyD y) s := id rfl
@[simp] theorem sitD2_eq {n : Nat} {ks : List Key} {ds : List D} {k : Key} (h : ks.length < 16777216) : sitD2 x n ks ds (some k) s = some (.nx, ⟨s.r, s.m.set n (.dx (putL k x ks ds).1 (putL k x ks ds).2)⟩) := if_pos h
@[simp] theorem keyD_i {i : Int} : keyD (.int i) = some (.inl i) := id rfl
@[simp] theorem keyD_s {z : Str} : keyD (.str z) = some (.inr z) := id rfl
@[simp] theorem ev_emp : ev P Gm .emp s = some (.fr (.dx [] []), s) := id rfl
@[simp] theorem bnd_fdx {ks : List Key} {ds : List D} {k : D → S → Res} : bnd (some (.fr (.dx ks ds), s)) k = k (.adr s.m.length) ⟨s.r, s.m ++ [.dx ks ds]⟩ := id rfl
@[simp] theorem sitR2_eq {n j : Nat} {ds : List D} : sitR2 x n ds (some j) s = some (.nx, ⟨s.r, s.m.set n (.bx (ds.set j x))⟩) := id rfl
@[simp] theorem ev_ret : ev P Gm (.ret a) s = retR (ev P Gm a s) := id rfl
@[simp] theorem retR_val : retR (some (.val x, s)) = some (.rt x, s) := id rfl
@[simp] theorem retR_fr {o : MO} : retR (some (.fr o, s)) = some (.rtf o, s) := id rfl
@[simp] theorem retR_exc {c : Nat} {ns : List Nat} {ds : List D} : retR (some (.exc c ns ds, s)) = some (.exc c ns ds, s) := id rfl
@[simp] theorem ev_rtn : ev P Gm .rtn s = some (.rt .non, s) := id rfl
@[simp] theorem ev_iff : ev P Gm (.iff c a b) s = bnd (ev P Gm c s) (kIff P Gm a b) := id rfl
@[simp] theorem kIff_t : kIff P Gm a b (.bl true) s = ev P Gm a s := id rfl
@[simp] theorem kIff_f : kIff P Gm a b (.bl false) s = ev P Gm b s := id rfl
@[simp] theorem ev_frr {tg it : E} : ev P Gm (.frr tg it b) s = bndA (ev P Gm it s) (kFrr P Gm tg b) := id rfl
@[simp] theorem kFrr_eq {tg : E} {ds : List D} : kFrr P Gm tg b ds s = forL (store tg) (ev P Gm b) ds s := id rfl
@[simp] theorem ev_exp : ev P Gm (.exp a) s = bnd (ev P Gm a s) kExp := id rfl
@[simp] theorem kExp_eq : kExp x s = some (.nx, s) := id rfl
@[simp] theorem ev_apo {i : Nat} : ev P Gm (.apo i a) s = apoR1 P Gm i a s.r[i]? s := id rfl
@[simp] theorem apoR1_eq {i : Nat} {ds : List D} : apoR1 P Gm i a (some (some (.ol ds))) s = bnd (ev P Gm a s) (kApo i) := id rfl
@[simp] theorem kApo_eq {i : Nat} : kApo i x s = apoR2 i x s.r[i]? s := id rfl
@[simp] theorem apoR2_eq {i : Nat} {ds : List D} (h : ds.length < 16777216) : apoR2 i x (some (some (.ol ds))) s = some (.nx, s.set i (some (.ol (ds ++ [x])))) := if_pos h
@[simp] theorem varR_eq : varR (some (some (.val x))) s = some (.val x, s) := id rfl
@[simp] theorem mvR_eq {i : Nat} {ds : List D} : mvR i (some (some (.ol ds))) s = some (.fr (.bx ds), s.set i none) := id rfl
@[simp] theorem fzR_ol {i : Nat} {ds : List D} : fzR i (some (some (.ol ds))) s = some (.val (.lst ds), s.set i (some (.val (.lst ds)))) := id rfl
@[simp] theorem fzR_val {i : Nat} : fzR i (some (some (.val x))) s = some (.val x, s) := id rfl
@[simp] theorem set_eq {r : List (Option Cell)} {m : List MO} {i : Nat} {c : Option Cell} : S.set ⟨r, m⟩ i c = ⟨r.set i c, m⟩ := id rfl
@[simp] theorem bxL_l {a : List D} : bxL s (.lst a) = some a := id rfl
@[simp] theorem add_i {i j : Int} : bopF .add (.int i) (.int j) s = some (.val (.int (i + j)), s) := id rfl
@[simp] theorem add_s {a b : Str} (h : a.length + b.length ≤ 16777216) : bopF .add (.str a) (.str b) s = some (.val (.str (a ++ b)), s) := if_pos h
@[simp] theorem add_l {a b : List D} (h : a.length + b.length ≤ 16777216) : bopF .add (.lst a) (.lst b) s = some (.fr (.bx (a ++ b)), s) := if_pos h
@[simp] theorem add_t {a b : List D} (h : a.length + b.length ≤ 16777216) (h2 : a ≠ []) : bopF .add (.tup a) (.tup b) s = some (.val (.tup (a ++ b)), s) := if_pos ⟨h, h2⟩
@[simp] theorem sub_i {i j : Int} : bopF .sub (.int i) (.int j) s = some (.val (.int (i - j)), s) := id rfl
@[simp] theorem mul_l {i j : Int} (h1 : -18446744073709551616 < i) (h2 : i < 18446744073709551616) : bopF .mul (.int i) (.int j) s = some (.val (.int (i * j)), s) := if_pos (.inl ⟨h1, h2⟩)
@[simp] theorem mul_r {i j : Int} (h1 : -18446744073709551616 < j) (h2 : j < 18446744073709551616) : bopF .mul (.int i) (.int j) s = some (.val (.int (i * j)), s) := if_pos (.inr ⟨h1, h2⟩)
@[simp] theorem mul_lst {a : List D} {k : Int} (h1 : -9223372036854775808 ≤ k) (h2 : k < 9223372036854775808) (h3 : a.length * k.toNat ≤ 16777216) : bopF .mul (.lst a) (.int k) s = some (.fr (.bx (List.replicate k.toNat a).flatten), s) := if_pos ⟨h1, h2, h3⟩
@[simp] theorem div_i {i j : Int} (h1 : 0 < j) (h2 : j < 1073741824) : bopF .div (.int i) (.int j) s = some (.val (.int (i / j)), s) := if_pos ⟨h1, h2⟩
@[simp] theorem mod_i {i j : Int} (h1 : 0 < j) : bopF .mod (.int i) (.int j) s = some (.val (.int (i % j)), s) := if_pos h1
@[simp] theorem pow_i {i j : Int} (h1 : 0 ≤ j) (h2 : j ≤ 1000000) (h3 : i.natAbs < 18446744073709551616) : bopF .pow (.int i) (.int j) s = some (.val (.int (i ^ j.toNat)), s) := if_pos ⟨h1, h2, h3⟩
@[simp] theorem cmp_lt {i j : Int} : cmpF .lt (.int i) (.int j) s = some (decide (i < j)) := id rfl
@[simp] theorem cmp_le {i j : Int} : cmpF .le (.int i) (.int j) s = some (decide (i ≤ j)) := id rfl
@[simp] theorem cmp_gt {i j : Int} : cmpF .gt (.int i) (.int j) s = some (decide (j < i)) := id rfl
@[simp] theorem cmp_ge {i j : Int} : cmpF .ge (.int i) (.int j) s = some (decide (j ≤ i)) := id rfl
@[simp] theorem cmp_eq (h1 : okD 8 x = true) (h2 : okD 8 y = true) : cmpF .eq x y s = some (eqD x y) := by
  show (if (okD 8 x && okD 8 y) = true then some (eqD x y) else none) = _
  rw [h1, h2]; rfl
@[simp] theorem cmp_ne (h1 : okD 8 x = true) (h2 : okD 8 y = true) : cmpF .ne x y s = some (!eqD x y) := by
  show (if (okD 8 x && okD 8 y) = true then some (!eqD x y) else none) = _
  rw [h1, h2]; rfl
@[simp] theorem okD_n {k : Nat} : okD k .non = true := by cases k <;> rfl
@[simp] theorem okD_b {k : Nat} {b : Bool} : okD k (.bl b) = true := by cases k <;> rfl
@[simp] theorem okD_i {k : Nat} {i : Int} : okD k (.int i) = true := by cases k <;> rfl
@[simp] theorem okD_s {k : Nat} {z : Str} : okD k (.str z) = true := by cases k <;> rfl
@[simp] theorem okD_l8 {ds : List D} : okD 8 (.lst ds) = ds.all (okD 7) := id rfl
@[simp] theorem okD_t8 {ds : List D} : okD 8 (.tup ds) = ds.all (okD 7) := id rfl
@[simp] theorem okD_l7 {ds : List D} : okD 7 (.lst ds) = ds.all (okD 6) := id rfl
@[simp] theorem okD_t7 {ds : List D} : okD 7 (.tup ds) = ds.all (okD 6) := id rfl
@[simp] theorem okD_l6 {ds : List D} : okD 6 (.lst ds) = ds.all (okD 5) := id rfl
@[simp] theorem okD_t6 {ds : List D} : okD 6 (.tup ds) = ds.all (okD 5) := id rfl
@[simp] theorem okD_l5 {ds : List D} : okD 5 (.lst ds) = ds.all (okD 4) := id rfl
@[simp] theorem okD_t5 {ds : List D} : okD 5 (.tup ds) = ds.all (okD 4) := id rfl
@[simp] theorem okD_l4 {ds : List D} : okD 4 (.lst ds) = ds.all (okD 3) := id rfl
@[simp] theorem okD_t4 {ds : List D} : okD 4 (.tup ds) = ds.all (okD 3) := id rfl
@[simp] theorem okD_l3 {ds : List D} : okD 3 (.lst ds) = ds.all (okD 2) := id rfl
@[simp] theorem okD_t3 {ds : List D} : okD 3 (.tup ds) = ds.all (okD 2) := id rfl
@[simp] theorem okD_l2 {ds : List D} : okD 2 (.lst ds) = ds.all (okD 1) := id rfl
@[simp] theorem okD_t2 {ds : List D} : okD 2 (.tup ds) = ds.all (okD 1) := id rfl
@[simp] theorem okD_l1 {ds : List D} : okD 1 (.lst ds) = ds.all (okD 0) := id rfl
@[simp] theorem okD_t1 {ds : List D} : okD 1 (.tup ds) = ds.all (okD 0) := id rfl
@[simp] theorem eqD_b {a b : Bool} : eqD (.bl a) (.bl b) = (a == b) := by simp only [eqD]
@[simp] theorem eqD_i {i j : Int} : eqD (.int i) (.int j) = (i == j) := by simp only [eqD]
@[simp] theorem eqD_s {a b : Str} : eqD (.str a) (.str b) = (a == b) := by simp only [eqD]
@[simp] theorem eqD_l {a b : List D} : eqD (.lst a) (.lst b) = eqDs a b := by simp only [eqD]
@[simp] theorem eqD_t {a b : List D} : eqD (.tup a) (.tup b) = eqDs a b := by simp only [eqD]
@[simp] theorem eqDs_n : eqDs [] [] = true := by simp only [eqDs]
@[simp] theorem eqDs_c {a b : D} {as bs : List D} : eqDs (a :: as) (b :: bs) = (eqD a b && eqDs as bs) := by simp only [eqDs]
@[simp] theorem eqDs_nc {b : D} {bs : List D} : eqDs [] (b :: bs) = false := by simp only [eqDs]
@[simp] theorem eqDs_cn {b : D} {bs : List D} : eqDs (b :: bs) [] = false := by simp only [eqDs]
@[simp] theorem cmp_in : cmpF .isin x y s = inF x y s := id rfl
@[simp] theorem cmp_nin : cmpF .notin x y s = (inF x y s).map (!·) := id rfl
@[simp] theorem in_c {c : Nat} {z : Str} : inF (.str ⟨#[c]⟩) (.str z) s = some (decide (c ∈ z.cps.toList)) := id rfl
theorem in_q {ds : List D} (h : viewQ s y = some ds) (hM : viewM s y = none) (h1 : flat x = true) (h2 : ds.all flat = true) (hx : ∀ a z, ¬ (x = .str a ∧ y = .str z)) : inF x y s = some (ds.any fun z => eqD z x) := by
  unfold inF
  split
  · exact absurd ⟨rfl, rfl⟩ (hx _ _)
  · unfold inQ
    rw [hM, h, h1]
    simp [h2]
@[simp] theorem in_l {ds : List D} (h1 : flat x = true) (h2 : ds.all flat = true) : inF x (.lst ds) s = some (ds.any fun z => eqD z x) := in_q rfl rfl h1 h2 (fun _ _ h => by cases h.2)
@[simp] theorem in_t {ds : List D} (h1 : flat x = true) (h2 : ds.all flat = true) : inF x (.tup ds) s = some (ds.any fun z => eqD z x) := in_q rfl rfl h1 h2 (fun _ _ h => by cases h.2)
theorem in_m {ks : List Key} {ds : List D} {k : Key} (h : viewM s y = some (ks, ds)) (hk : keyD x = some k) : inF x y s = some (ks.any fun a => decide (a = k)) := by
  unfold inF
  split
  · cases h
  · unfold inQ
    rw [h]
    dsimp only
    rw [hk]
@[simp] theorem in_ds {z : Str} {ks : List Key} {ds : List D} : inF (.str z) (.dct ks ds) s = some (ks.any fun a => decide (a = .inr z)) := in_m rfl rfl
@[simp] theorem in_di {i : Int} {ks : List Key} {ds : List D} : inF (.int i) (.dct ks ds) s = some (ks.any fun a => decide (a = .inl i)) := in_m rfl rfl
@[simp] theorem viewM_dct {ks : List Key} {ds : List D} : viewM s (.dct ks ds) = some (ks, ds) := id rfl
theorem viewM_bx {n : Nat} {ds : List D} (h : s.m[n]? = some (.bx ds)) : viewM s (.adr n) = none := by
  unfold viewM; dsimp only; rw [h]
@[simp] theorem view_l {ds : List D} : viewL s (.lst ds) = some ds := id rfl
@[simp] theorem view_ql {ds : List D} : viewQ s (.lst ds) = some ds := id rfl
@[simp] theorem view_qt {ds : List D} : viewQ s (.tup ds) = some ds := id rfl
theorem view_a {n : Nat} {ds : List D} (h : s.m[n]? = some (.bx ds)) : viewL s (.adr n) = some ds := by
  unfold viewL; dsimp only; rw [h]
@[simp] theorem ix_l {ds : List D} {i : Int} : ixF (.lst ds) (.int i) s = atI ds i := id rfl
@[simp] theorem ix_t {ds : List D} {i : Int} : ixF (.tup ds) (.int i) s = atI ds i := id rfl
@[simp] theorem ix_a {n : Nat} {ds : List D} {i : Int} (h : s.m[n]? = some (.bx ds)) : ixF (.adr n) (.int i) s = atI ds i := by
  show (match viewM s (.adr n) with
    | some (ks, ds) => (match keyD (.int i) with
      | some k => lookK k ks ds
      | none => none)
    | none => match viewL s (.adr n) with
      | some ds => atI ds i
      | none => none) = _
  rw [viewM_bx h, view_a h]
@[simp] theorem ix_di {ks : List Key} {ds : List D} {i : Int} : ixF (.dct ks ds) (.int i) s = lookK (.inl i) ks ds := id rfl
@[simp] theorem ix_ds {ks : List Key} {ds : List D} {i : Str} : ixF (.dct ks ds) (.str i) s = lookK (.inr i) ks ds := id rfl
theorem atI_nat {α : Type} {ds : List α} {i : Nat} (h : i < ds.length) : atI ds (i : Int) = some ds[i] := by
  have h2 : (i : Int) < ds.length := by omega
  unfold atI ixN
  rw [if_pos (by omega), if_pos h2]
  show ds[(i : Int).toNat]? = _
  rw [Int.toNat_natCast]
  exact List.getElem?_eq_getElem h
@[simp] theorem sl_s {z : Str} {lo hi : Option Int} (h : z.length ≤ 16777216) : slF (.str z) lo hi s = some (.val (.str (cutS z lo hi)), s) := if_pos h
@[simp] theorem sl_t {ds : List D} {lo hi : Option Int} : slF (.tup ds) lo hi s = some (.val (.tup (cutD ds lo hi)), s) := id rfl
@[simp] theorem sl_f {ds : List D} {lo hi : Option Int} : slF (.fzl ds) lo hi s = some (.fr (.bx (cutD ds lo hi)), s) := id rfl
@[simp] theorem sl_l {ds : List D} {lo hi : Option Int} : slF (.lst ds) lo hi s = some (.fr (.bx (cutD ds lo hi)), s) := id rfl
@[simp] theorem len_s {z : Str} (h : z.length ≤ 16777216) : biF .len [.str z] s = some (.val (.int z.length), s) := if_pos h
@[simp] theorem len_d {ks : List Key} {ds : List D} : biF .len [.dct ks ds] s = some (.val (.int ks.length), s) := id rfl
@[simp] theorem len_l {ds : List D} : biF .len [.lst ds] s = some (.val (.int ds.length), s) := id rfl
@[simp] theorem len_t {ds : List D} : biF .len [.tup ds] s = some (.val (.int ds.length), s) := id rfl
@[simp] theorem len_a {n : Nat} {ds : List D} (h : s.m[n]? = some (.bx ds)) : biF .len [.adr n] s = some (.val (.int ds.length), s) := by
  show (match viewM s (.adr n) with
    | some (ks, _) => (some (.val (.int ks.length), s) : Res)
    | none => match viewL s (.adr n) with
      | some ds => some (.val (.int ds.length), s)
      | none => none) = _
  rw [viewM_bx h, view_a h]
@[simp] theorem int_i {i : Int} : biF .int [.int i] s = some (.val (.int i), s) := id rfl
@[simp] theorem int_b {b : Bool} : biF .int [.bl b] s = some (.val (.int (if b then 1 else 0)), s) := id rfl
theorem all_l {ds : List D} {bs : List Bool} (h : blsOf ds = some bs) : biF .all [.lst ds] s = some (.val (.bl (bs.all id)), s) := by
  show (match blsOf ds with
    | some bs => (some (.val (.bl (bs.all id)), s) : Res)
    | none => none) = _
  rw [h]
@[simp] theorem list_l {ds : List D} : biF .list [.lst ds] s = some (.fr (.bx ds), s) := id rfl
@[simp] theorem list_t {ds : List D} : biF .list [.tup ds] s = some (.fr (.bx ds), s) := id rfl
@[simp] theorem tuple_l {ds : List D} : biF .tuple [.lst ds] s = some (.val (.tup ds), s) := id rfl
@[simp] theorem tuple_t {ds : List D} : biF .tuple [.tup ds] s = some (.val (.tup ds), s) := id rfl
@[simp] theorem append_a {n : Nat} {ds : List D} (hm : s.m[n]? = some (.bx ds)) (h : ds.length < 16777216) : bmF .append (.adr n) [x] s = some (.val .non, ⟨s.r, s.m.set n (.bx (ds ++ [x]))⟩) := by
  show (match s.m[n]? with
    | some (.bx ds) => (if ds.length < big then some (.val .non, { s with m := s.m.set n (.bx (ds ++ [x])) }) else none : Res)
    | _ => none) = _
  rw [hm]
  exact if_pos h
@[simp] theorem insert_a {n : Nat} {i : Int} {ds : List D} (hm : s.m[n]? = some (.bx ds)) (h : ds.length < 16777216) (h0 : 0 ≤ i) (h1 : i < 4611686018427387904) : bmF .insert (.adr n) [.int i, x] s = some (.val .non, ⟨s.r, s.m.set n (.bx (ds.take i.toNat ++ [x] ++ ds.drop i.toNat))⟩) := by
  show (match s.m[n]? with
    | some (.bx ds) => (if ds.length < big ∧ 0 ≤ i ∧ i < 2 ^ 62 then some (.val .non, { s with m := s.m.set n (.bx (ds.take i.toNat ++ [x] ++ ds.drop i.toNat)) }) else none : Res)
    | _ => none) = _
  rw [hm]
  exact if_pos ⟨h, h0, h1⟩
def idxR (s : S) : Option Nat → Res
  | some j => some (.val (.int (j : Nat)), s)
  | none => none
@[simp] theorem idxR_eq {j : Nat} : idxR s (some j) = some (.val (.int (j : Nat)), s) := id rfl
@[simp] theorem bool_b {b : Bool} : biF .bool [.bl b] s = some (.val (.bl b), s) := id rfl
@[simp] theorem fin_rt {m : List MO} {r : List (Option Cell)} : fin (some (.rt x, ⟨r, m⟩)) = some (.val x, m) := id rfl
@[simp] theorem fin_rtf {m : List MO} {r : List (Option Cell)} {o : MO} : fin (some (.rtf o, ⟨r, m⟩)) = some (.fr o, m) := id rfl
@[simp] theorem fin_nx {m : List MO} {r : List (Option Cell)} : fin (some (.nx, ⟨r, m⟩)) = some (.val .non, m) := id rfl
@[simp] theorem fin_exc {m : List MO} {r : List (Option Cell)} {c : Nat} {ns : List Nat} {ds : List D} : fin (some (.exc c ns ds, ⟨r, m⟩)) = some (.exc c ns ds, m) := id rfl
end
def Sat (o : Option (Out × List MO)) (Q : Out → List MO → Prop) : Prop := ∃ x m, o = some (x, m) ∧ Q x m
@[simp] theorem Sat_some {x : Out} {m : List MO} {Q : Out → List MO → Prop} : Sat (some (x, m)) Q ↔ Q x m := ⟨fun ⟨_, _, e, q⟩ => by cases e; exact q, fun q => ⟨x, m, rfl, q⟩⟩
theorem Sat.imp {o : Option (Out × List MO)} {Q R : Out → List MO → Prop} (h : Sat o Q) (k : ∀ x m, Q x m → R x m) : Sat o R := by
  obtain ⟨x, m, e, q⟩ := h
  exact ⟨x, m, e, k x m q⟩
theorem Pn_def {Cd : Nat → Option Ent} {Gm : Nat → D} {f N p : Nat} {c : E} {g : List D → List D} (h : Cd f = some ⟨N, p, c, g, none⟩) (n : Nat) (ds : List D) (m : List MO) :
    Pn Cd Gm (n + 1) f ds m = if (g ds).length = p then stowO m (fin (ev (Pn Cd Gm n) Gm c ⟨ini N (g ds), m⟩)) else none := by
  conv => lhs; unfold Pn
  rw [h]
  rfl
noncomputable def mkR (m : List MO) : Option (Out × List MO) → Option (Out × List MO)
  | some (.val .non, m') => stow false m (some (.val (.adr m.length), m'))
  | some (.exc k ns es, m') => stow false m (some (.exc k ns es, m'))
  | _ => none
theorem Pn_mk {Cd : Nat → Option Ent} {Gm : Nat → D} {f i k N0 p0 N p : Nat} {c0 c : E} {g0 g : List D → List D} (h : Cd f = some ⟨N0, p0, c0, g0, some (k, i)⟩) (h2 : Cd i = some ⟨N, p, c, g, none⟩) (n : Nat) (ds : List D) (m : List MO) :
    Pn Cd Gm (n + 1) f ds m = mkR m (if (.adr m.length :: g0 ds).length = p then stowO (m ++ [.ob k [] []]) (fin (ev (Pn Cd Gm n) Gm c ⟨ini N (.adr m.length :: g0 ds), m ++ [.ob k [] []]⟩)) else none) := by
  conv => lhs; unfold Pn
  rw [h]
  dsimp only
  rw [h2]
  rfl
@[simp] theorem mkR_ok {m m' : List MO} : mkR m (some (.val .non, m')) = stow false m (some (.val (.adr m.length), m')) := id rfl
@[simp] theorem mkR_exc {m m' : List MO} {k : Nat} {ns : List Nat} {es : List D} : mkR m (some (.exc k ns es, m')) = stow false m (some (.exc k ns es, m')) := id rfl
@[simp] theorem stow_id {lk : Bool} {m0 : List MO} {o : Out} {m : List MO} (h : m.length = m0.length) : stow lk m0 (some (o, m)) = some (o, m) := by
  unfold stow
  dsimp only
  rw [if_pos h]
@[simp] theorem stowO_val {m0 m : List MO} {d : D} : stowO m0 (some (.val d, m)) = stow true m0 (some (.val d, m)) := id rfl
@[simp] theorem stowO_fr {m0 m : List MO} {o : MO} : stowO m0 (some (.fr o, m)) = stow true m0 (some (.fr o, m)) := id rfl
@[simp] theorem stowO_exc {m0 m : List MO} {c : Nat} {ns : List Nat} {ds : List D} : stowO m0 (some (.exc c ns ds, m)) = stow false m0 (some (.exc c ns ds, m)) := id rfl
def stwR : Option (List MO) → Option Out → Option (Out × List MO)
  | some m', some o' => some (o', m')
  | _, _ => none
@[simp] theorem stwR_eq {m : List MO} {o : Out} : stwR (some m) (some o) = some (o, m) := id rfl
theorem stow_new {lk : Bool} {m0 l : List MO} {o : Out} (hl : l ≠ []) : stow lk m0 (some (o, m0 ++ l)) = stwR (some m0) (frzO lk (m0 ++ l) m0.length o) := by
  unfold stow
  dsimp only
  rw [if_neg (by rw [List.length_append]; cases l with | nil => exact absurd rfl hl | cons a l => simp)]
  have e : keepM lk (m0 ++ l) m0 = some m0 := by
    unfold keepM
    rw [if_pos (List.take_left' rfl)]
  rw [e]
  cases frzO lk (m0 ++ l) m0.length o <;> rfl
@[simp] theorem stow_new1 {lk : Bool} {m0 l : List MO} {a : MO} {o : Out} : stow lk m0 (some (o, m0 ++ (a :: l))) = stwR (some m0) (frzO lk (m0 ++ (a :: l)) m0.length o) := stow_new (by simp)
def Pu (d : D) : Prop := ∀ f, mapD f d = some d
theorem Pu.at {d : D} (h : Pu d) (f : Nat → Option D) : mapD f d = some d := h f
theorem Pu.all {ds : List D} (h : ∀ d ∈ ds, Pu d) (f : Nat → Option D) : mapDs f ds = some ds := by
  induction ds with
  | nil => rfl
  | cons d ds ih =>
    rw [mapDs, h d (List.mem_cons_self ..) f, ih fun x hx => h x (List.mem_cons_of_mem _ hx)]
section
variable {f : Nat → Option D} {ds : List D}
@[simp] theorem mapD_non : mapD f .non = some .non := id rfl
@[simp] theorem mapD_bl {b : Bool} : mapD f (.bl b) = some (.bl b) := id rfl
@[simp] theorem mapD_int {i : Int} : mapD f (.int i) = some (.int i) := id rfl
@[simp] theorem mapD_str {z : Str} : mapD f (.str z) = some (.str z) := id rfl
@[simp] theorem mapD_lst : mapD f (.lst ds) = (mapDs f ds).map D.lst := id rfl
@[simp] theorem mapD_tup : mapD f (.tup ds) = (mapDs f ds).map D.tup := id rfl
@[simp] theorem mapD_fzl : mapD f (.fzl ds) = (mapDs f ds).map D.fzl := id rfl
@[simp] theorem mapD_dct {ks : List Key} : mapD f (.dct ks ds) = (mapDs f ds).map (D.dct ks) := id rfl
@[simp] theorem mapD_obj {c : Nat} {ns : List Nat} : mapD f (.obj c ns ds) = (mapDs f ds).map (D.obj c ns) := id rfl
@[simp] theorem mapD_adr {j : Nat} : mapD f (.adr j) = f j := id rfl
def mapC (o : Option D) (p : Option (List D)) : Option (List D) := match o with
  | none => none
  | some e => match p with
    | none => none
    | some es => some (e :: es)
@[simp] theorem mapC_eq {d : D} {es : List D} : mapC (some d) (some es) = some (d :: es) := id rfl
@[simp] theorem mapDs_nil : mapDs f [] = some [] := id rfl
@[simp] theorem mapDs_cons {d : D} : mapDs f (d :: ds) = mapC (mapD f d) (mapDs f ds) := by
  rw [mapDs]
  unfold mapC
  cases mapD f d <;> rfl
end
section
variable {lk : Bool} {m : List MO} {k n j : Nat}
theorem frz_low (h : j < k) : frz lk m k n j = some (.adr j) := by
  cases n <;> (unfold frz; rw [if_pos h])
theorem frz_ob {c : Nat} {ns : List Nat} {ds : List D} (h : ¬ j < k) (e : m[j]? = some (.ob c ns ds)) : frz lk m k (n + 1) j = (mapDs (frz lk m k n) ds).map (D.obj c ns) := by
  rw [frz, if_neg h, e]
  rfl
theorem frz_bx {ds : List D} (h : ¬ j < k) (e : m[j]? = some (.bx ds)) : frz lk m k (n + 1) j = (mapDs (frz lk m k n) ds).map D.lst := by
  rw [frz, if_neg h, e]
  rfl
@[simp] theorem frzO_val {d : D} : frzO lk m k (.val d) = (mapD (frz lk m k 16) d).map Out.val := id rfl
@[simp] theorem frzO_exc {c : Nat} {ns : List Nat} {ds : List D} : frzO lk m k (.exc c ns ds) = (mapDs (frz lk m k 16) ds).map (Out.exc c ns) := id rfl
@[simp] theorem frzO_bx {ds : List D} : frzO lk m k (.fr (.bx ds)) = ((mapDs (frz lk m k 16) ds).map MO.bx).map Out.fr := id rfl
@[simp] theorem frzO_dx {ks : List Key} {ds : List D} : frzO lk m k (.fr (.dx ks ds)) = ((mapDs (frz lk m k 16) ds).map (MO.dx ks)).map Out.fr := id rfl
end
section
variable {α : Type} {m l : List α} {a b : α}
@[simp] theorem at_last : (m ++ (a :: l))[m.length]? = some a := by simp
@[simp] theorem at_last1 : (m ++ (a :: b :: l))[m.length + 1]? = some b := by
  have e : m.length + 1 - m.length = 1 := by omega
  rw [List.getElem?_append_right (by omega), e]; rfl
@[simp] theorem set_last : (m ++ (a :: l)).set m.length b = m ++ (b :: l) := by
  rw [List.set_append_right _ _ (Nat.le_refl _), Nat.sub_self]; rfl
@[simp] theorem set_last1 {c : α} : (m ++ (a :: b :: l)).set (m.length + 1) c = m ++ (a :: c :: l) := by
  have e : m.length + 1 - m.length = 1 := by omega
  rw [List.set_append_right _ _ (by omega), e]; rfl
@[simp] theorem app_app {x y : List α} : (m ++ (a :: l)) ++ (b :: y) = m ++ (a :: (l ++ (b :: y))) := by simp
end
section
variable {P : Nat → List D → List MO → Option (Out × List MO)} {Gm : Nat → D} {s : S} {a b o as ks : E} {x y : D} {tbl : List (Nat × Nat)} {f n k c i : Nat} {cs : List Nat}
def lookR (cs : List Nat) (f : Nat) : Option (Nat × List Nat × List D) → Option D
  | some (c, ns, ds) => if c ∈ cs then lookF f ns ds else none
  | none => none
@[simp] theorem lookR_eq {ns : List Nat} {ds : List D} (h : c ∈ cs) : lookR cs f (some (c, ns, ds)) = lookF f ns ds := if_pos h
@[simp] theorem lookF_hit {ns : List Nat} {ds : List D} {d : D} : lookF f (f :: ns) (d :: ds) = some d := if_pos rfl
@[simp] theorem lookF_miss {ns : List Nat} {ds : List D} {d : D} (h : n ≠ f) : lookF f (n :: ns) (d :: ds) = lookF f ns ds := if_neg h
def kFld (f : Nat) (cs : List Nat) (x : D) (s : S) : Res := resD s (lookR cs f (clsF s x))
@[simp] theorem ev_fld : ev P Gm (.fld a f cs) s = bnd (ev P Gm a s) (kFld f cs) := by
  show bnd (ev P Gm a s) (fun x s => resD s (fldF cs f x s)) = _
  congr 1
@[simp] theorem kFld_eq : kFld f cs x s = resD s (lookR cs f (clsF s x)) := id rfl
@[simp] theorem clsF_obj {ns : List Nat} {ds : List D} : clsF s (.obj c ns ds) = some (c, ns, ds) := id rfl
@[simp] theorem clsF_adr {ns : List Nat} {ds : List D} (h : s.m[n]? = some (.ob c ns ds)) : clsF s (.adr n) = some (c, ns, ds) := by
  unfold clsF; dsimp only; rw [h]
@[simp] theorem clsN_obj {ns : List Nat} {ds : List D} : clsN s (.obj c ns ds) = some c := id rfl
@[simp] theorem clsN_non : clsN s .non = none := id rfl
@[simp] theorem clsN_bl {b : Bool} : clsN s (.bl b) = none := id rfl
@[simp] theorem clsN_int {i : Int} : clsN s (.int i) = none := id rfl
@[simp] theorem clsN_str {z : Str} : clsN s (.str z) = none := id rfl
@[simp] theorem clsN_lst {ds : List D} : clsN s (.lst ds) = none := id rfl
@[simp] theorem clsN_tup {ds : List D} : clsN s (.tup ds) = none := id rfl
@[simp] theorem clsN_dct {ks : List Key} {ds : List D} : clsN s (.dct ks ds) = none := id rfl
@[simp] theorem clsN_fzl {ds : List D} : clsN s (.fzl ds) = none := id rfl
@[simp] theorem v_non : s.v .non = .non := id rfl
@[simp] theorem v_bl {b : Bool} : s.v (.bl b) = .bl b := id rfl
@[simp] theorem v_int {i : Int} : s.v (.int i) = .int i := id rfl
@[simp] theorem v_str {z : Str} : s.v (.str z) = .str z := id rfl
@[simp] theorem v_lst {ds : List D} : s.v (.lst ds) = .lst ds := id rfl
@[simp] theorem v_tup {ds : List D} : s.v (.tup ds) = .tup ds := id rfl
@[simp] theorem v_dct {ks : List Key} {ds : List D} : s.v (.dct ks ds) = .dct ks ds := id rfl
@[simp] theorem v_fzl {ds : List D} : s.v (.fzl ds) = .fzl ds := id rfl
@[simp] theorem v_obj {ns : List Nat} {ds : List D} : s.v (.obj c ns ds) = .obj c ns ds := id rfl
def flsR (f : Nat) (cs : List Nat) (d : D) (n : Nat) (o : Option MO) (s : S) : Res := match o with
  | some (.ob c ns ds) => if c ∈ cs ∧ ns.length < 1000 then some (.nx, { s with m := s.m.set n (.ob c (putN f d ns ds).1 (putN f d ns ds).2) }) else none
  | _ => none
def kFls2 (f : Nat) (cs : List Nat) (d x : D) (s : S) : Res := match x with
  | .adr n => flsR f cs d n s.m[n]? s
  | _ => none
def kFls1 (P : Nat → List D → List MO → Option (Out × List MO)) (Gm : Nat → D) (o : E) (f : Nat) (cs : List Nat) (d : D) (s : S) : Res := bnd (ev P Gm o s) (kFls2 f cs d)
@[simp] theorem ev_fls : ev P Gm (.fls o f cs a) s = bnd (ev P Gm a s) (kFls1 P Gm o f cs) := id rfl
@[simp] theorem kFls1_eq {d : D} : kFls1 P Gm o f cs d s = bnd (ev P Gm o s) (kFls2 f cs d) := id rfl
@[simp] theorem kFls2_eq {d : D} : kFls2 f cs d (.adr n) s = flsR f cs d n s.m[n]? s := id rfl
@[simp] theorem flsR_eq {d : D} {ns : List Nat} {ds : List D} (h : c ∈ cs) (h2 : ns.length < 1000) : flsR f cs d n (some (.ob c ns ds)) s = some (.nx, ⟨s.r, s.m.set n (.ob c (putN f d ns ds).1 (putN f d ns ds).2)⟩) := if_pos ⟨h, h2⟩
@[simp] theorem putN_nil {d : D} : putN f d [] [] = ([f], [d]) := id rfl
@[simp] theorem putN_hit {d e : D} {ns : List Nat} {ds : List D} : putN f d (f :: ns) (e :: ds) = (f :: ns, d :: ds) := if_pos rfl
@[simp] theorem putN_miss {d e : D} {ns : List Nat} {ds : List D} (h : n ≠ f) : putN f d (n :: ns) (e :: ds) = (n :: (putN f d ns ds).1, e :: (putN f d ns ds).2) := if_neg h
def kMet4 (P : Nat → List D → List MO → Option (Out × List MO)) (n k i : Nat) (x : D) (ds es : List D) (s : S) : Res := if ds.length = n ∧ es.length = k then callR (P i (x :: (ds ++ es)) s.m) s else none
def kMet3 (P : Nat → List D → List MO → Option (Out × List MO)) (Gm : Nat → D) (n k : Nat) (ks : E) (i : Nat) (x : D) (ds : List D) (s : S) : Res := bndA (ev P Gm ks s) (kMet4 P n k i x ds)
def metR2 (P : Nat → List D → List MO → Option (Out × List MO)) (Gm : Nat → D) (n : Nat) (as : E) (k : Nat) (ks : E) (x : D) (s : S) (o : Option Nat) : Res := match o with
  | some i => bndA (ev P Gm as s) (kMet3 P Gm n k ks i x)
  | none => none
def metR (P : Nat → List D → List MO → Option (Out × List MO)) (Gm : Nat → D) (tbl : List (Nat × Nat)) (n : Nat) (as : E) (k : Nat) (ks : E) (x : D) (s : S) (o : Option Nat) : Res := match o with
  | some c => metR2 P Gm n as k ks x s (tbl.lookup c)
  | none => none
def kMet (P : Nat → List D → List MO → Option (Out × List MO)) (Gm : Nat → D) (tbl : List (Nat × Nat)) (n : Nat) (as : E) (k : Nat) (ks : E) (x : D) (s : S) : Res := metR P Gm tbl n as k ks x s (clsN s x)
@[simp] theorem ev_met : ev P Gm (.met tbl o n as k ks) s = bnd (ev P Gm o s) (kMet P Gm tbl n as k ks) := id rfl
@[simp] theorem kMet_eq : kMet P Gm tbl n as k ks x s = metR P Gm tbl n as k ks x s (clsN s x) := id rfl
@[simp] theorem metR_eq : metR P Gm tbl n as k ks x s (some c) = metR2 P Gm n as k ks x s (tbl.lookup c) := id rfl
@[simp] theorem metR2_eq : metR2 P Gm n as k ks x s (some i) = bndA (ev P Gm as s) (kMet3 P Gm n k ks i x) := id rfl
@[simp] theorem kMet3_eq {ds : List D} : kMet3 P Gm n k ks i x ds s = bndA (ev P Gm ks s) (kMet4 P n k i x ds) := id rfl
@[simp] theorem kMet4_eq {ds es : List D} (h1 : ds.length = n) (h2 : es.length = k) : kMet4 P n k i x ds es s = callR (P i (x :: (ds ++ es)) s.m) s := if_pos ⟨h1, h2⟩
@[simp] theorem look_hit {i : Nat} : List.lookup c ((c, i) :: tbl) = some i := by simp [List.lookup]
@[simp] theorem look_miss {c' i : Nat} (h : (c == c') = false) : List.lookup c ((c', i) :: tbl) = List.lookup c tbl := by rw [List.lookup_cons, h]
def calB (neg : Bool) (o : Option (Out × List MO)) (s : S) : Res := match o with
  | some (.val (.bl b), m) => some (.val (.bl (neg != b)), { s with m := m })
  | _ => none
def cmoS (P : Nat → List D → List MO → Option (Out × List MO)) (o : Cop) (x y : D) (s : S) (nf : Bool) (q : Option Nat) : Res := match q with
  | some i => if nf then (match o with
    | .eq => calB false (P i [x, y] s.m) s
    | .ne => calB true (P i [x, y] s.m) s
    | _ => none) else none
  | none => none
def cmoR (P : Nat → List D → List MO → Option (Out × List MO)) (o : Cop) (tbl : List (Nat × Nat)) (x y : D) (s : S) (p q : Option Nat) : Res := match p with
  | some c => cmoS P o x y s (nfD c (s.v y)) (tbl.lookup c)
  | none => match q with
    | some _ => none
    | none => resB s (cmpF o x y s)
def kCmo2 (P : Nat → List D → List MO → Option (Out × List MO)) (o : Cop) (tbl : List (Nat × Nat)) (x y : D) (s : S) : Res := cmoR P o tbl x y s (clsN s x) (clsN s y)
def kCmo1 (P : Nat → List D → List MO → Option (Out × List MO)) (Gm : Nat → D) (o : Cop) (tbl : List (Nat × Nat)) (b : E) (x : D) (s : S) : Res := bnd (ev P Gm b s) (kCmo2 P o tbl x)
@[simp] theorem ev_cmo {q : Cop} : ev P Gm (.cmo q tbl a b) s = bnd (ev P Gm a s) (kCmo1 P Gm q tbl b) := by
  show bnd (ev P Gm a s) (fun x s => bnd (ev P Gm b s) fun y s => cmoF P q tbl x y s) = _
  congr 1
@[simp] theorem kCmo1_eq {q : Cop} : kCmo1 P Gm q tbl b x s = bnd (ev P Gm b s) (kCmo2 P q tbl x) := id rfl
@[simp] theorem kCmo2_eq {q : Cop} : kCmo2 P q tbl x y s = cmoR P q tbl x y s (clsN s x) (clsN s y) := id rfl
@[simp] theorem cmoR_no {q : Cop} : cmoR P q tbl x y s none none = resB s (cmpF q x y s) := id rfl
@[simp] theorem cmoR_own {q : Cop} {r : Option Nat} : cmoR P q tbl x y s (some c) r = cmoS P q x y s (nfD c (s.v y)) (tbl.lookup c) := id rfl
@[simp] theorem cmoS_eq : cmoS P .eq x y s true (some i) = calB false (P i [x, y] s.m) s := id rfl
@[simp] theorem cmoS_ne : cmoS P .ne x y s true (some i) = calB true (P i [x, y] s.m) s := id rfl
@[simp] theorem calB_eq {neg b : Bool} {m : List MO} : calB neg (some (.val (.bl b), m)) s = some (.val (.bl (neg != b)), ⟨s.r, m⟩) := id rfl
@[simp] theorem nfD_non : nfD c .non = true := id rfl
@[simp] theorem nfD_bl {b : Bool} : nfD c (.bl b) = true := id rfl
@[simp] theorem nfD_int {i : Int} : nfD c (.int i) = true := id rfl
@[simp] theorem nfD_str {z : Str} : nfD c (.str z) = true := id rfl
@[simp] theorem nfD_lst {ds : List D} : nfD c (.lst ds) = true := id rfl
@[simp] theorem nfD_tup {ds : List D} : nfD c (.tup ds) = true := id rfl
@[simp] theorem nfD_dct {ks : List Key} {ds : List D} : nfD c (.dct ks ds) = true := id rfl
@[simp] theorem nfD_obj {k : Nat} {ns : List Nat} {ds : List D} : nfD c (.obj k ns ds) = (k == c || !subC k c) := id rfl
def calV (b : Bi) (o : Option (Out × List MO)) (s : S) : Res := match o with
  | some (.val d, m) => if bioOk b d then some (.val d, { s with m := m }) else none
  | _ => none
def bioS (P : Nat → List D → List MO → Option (Out × List MO)) (b : Bi) (x : D) (s : S) (q : Option Nat) : Res := match q with
  | some i => if bioB b then calV b (P i [x] s.m) s else none
  | none => none
def bioR (P : Nat → List D → List MO → Option (Out × List MO)) (b : Bi) (tbl : List (Nat × Nat)) (x : D) (s : S) (p : Option Nat) : Res := match p with
  | some c => bioS P b x s (tbl.lookup c)
  | none => biF b [x] s
def kBio (P : Nat → List D → List MO → Option (Out × List MO)) (b : Bi) (tbl : List (Nat × Nat)) (x : D) (s : S) : Res := bioR P b tbl x s (clsN s x)
@[simp] theorem ev_bio {q : Bi} : ev P Gm (.bio q tbl a) s = bnd (ev P Gm a s) (kBio P q tbl) := by
  show bnd (ev P Gm a s) (fun x s => bioF P q tbl x s) = _
  congr 1
@[simp] theorem kBio_eq {q : Bi} : kBio P q tbl x s = bioR P q tbl x s (clsN s x) := id rfl
@[simp] theorem bioR_no {q : Bi} : bioR P q tbl x s none = biF q [x] s := id rfl
@[simp] theorem bioR_own {q : Bi} : bioR P q tbl x s (some c) = bioS P q x s (tbl.lookup c) := id rfl
@[simp] theorem bioS_len : bioS P .len x s (some i) = calV .len (P i [x] s.m) s := id rfl
@[simp] theorem bioS_bool : bioS P .bool x s (some i) = calV .bool (P i [x] s.m) s := id rfl
@[simp] theorem bioS_repr : bioS P .repr x s (some i) = calV .repr (P i [x] s.m) s := id rfl
@[simp] theorem calV_len {j : Int} {m : List MO} (h0 : 0 ≤ j) (h1 : j < 9223372036854775808) : calV .len (some (.val (.int j), m)) s = some (.val (.int j), ⟨s.r, m⟩) := by
  show (if bioOk .len (.int j) then _ else none) = _
  rw [if_pos (by show (decide (0 ≤ j) && decide (j < 9223372036854775808)) = true; rw [decide_eq_true h0, decide_eq_true h1]; rfl)]
@[simp] theorem calV_bool {b : Bool} {m : List MO} : calV .bool (some (.val (.bl b), m)) s = some (.val (.bl b), ⟨s.r, m⟩) := id rfl
@[simp] theorem calV_repr {z : Str} {m : List MO} : calV .repr (some (.val (.str z), m)) s = some (.val (.str z), ⟨s.r, m⟩) := id rfl
def varP : Option (Option Cell) → Option D
  | some (some (.val d)) => some d
  | _ => none
@[simp] theorem varP_eq {d : D} : varP (some (some (.val d))) = some d := id rfl
@[simp] theorem pathV_var {i : Nat} : pathV (.var i) s = varP s.r[i]? := id rfl
def fldP (cs : List Nat) (f : Nat) (s : S) : Option D → Option D
  | some x => lookR cs f (clsF s x)
  | none => none
@[simp] theorem fldP_eq : fldP cs f s (some x) = lookR cs f (clsF s x) := id rfl
@[simp] theorem pathV_fld : pathV (.fld a f cs) s = fldP cs f s (pathV a s) := by
  show (match pathV a s with
    | some x => fldF cs f x s
    | none => none) = _
  cases pathV a s <;> rfl
def lkR2 (P : Nat → List D → List MO → Option (Out × List MO)) (Gm : Nat → D) (a : E) (n : Nat) (s : S) : Option MO → Res
  | some (.dx ks ds) => unlk n (ev P Gm a ⟨s.r, s.m.set n (.dl ks ds)⟩)
  | some (.bx ds) => unlk n (ev P Gm a ⟨s.r, s.m.set n (.ll ds)⟩)
  | _ => ev P Gm a s
def lkR1 (P : Nat → List D → List MO → Option (Out × List MO)) (Gm : Nat → D) (a : E) (s : S) : Option D → Res
  | some (.adr n) => lkR2 P Gm a n s s.m[n]?
  | _ => ev P Gm a s
@[simp] theorem ev_lkp {p : E} : ev P Gm (.lkp p a) s = lkR1 P Gm a s (pathV p s) := by
  show (match pathV p s with
    | some (.adr n) => (match s.m[n]? with
      | some (.dx ks ds) => unlk n (ev P Gm a { s with m := s.m.set n (.dl ks ds) })
      | some (.bx ds) => unlk n (ev P Gm a { s with m := s.m.set n (.ll ds) })
      | _ => ev P Gm a s)
    | _ => ev P Gm a s) = _
  unfold lkR1 lkR2
  rfl
@[simp] theorem lkR1_adr : lkR1 P Gm a s (some (.adr n)) = lkR2 P Gm a n s s.m[n]? := id rfl
@[simp] theorem lkR2_dx {ks : List Key} {ds : List D} : lkR2 P Gm a n s (some (.dx ks ds)) = unlk n (ev P Gm a ⟨s.r, s.m.set n (.dl ks ds)⟩) := id rfl
@[simp] theorem lkR2_bx {ds : List D} : lkR2 P Gm a n s (some (.bx ds)) = unlk n (ev P Gm a ⟨s.r, s.m.set n (.ll ds)⟩) := id rfl
@[simp] theorem lkR2_ll {ds : List D} : lkR2 P Gm a n s (some (.ll ds)) = ev P Gm a s := id rfl
@[simp] theorem lkR2_dl {ks : List Key} {ds : List D} : lkR2 P Gm a n s (some (.dl ks ds)) = ev P Gm a s := id rfl
@[simp] theorem lkR1_dct {ks : List Key} {ds : List D} : lkR1 P Gm a s (some (.dct ks ds)) = ev P Gm a s := id rfl
def unlR (o : MO → Res) : Option MO → Res
  | some (.dl ks ds) => o (.dx ks ds)
  | some (.ll ds) => o (.bx ds)
  | _ => none
@[simp] theorem unlk_val {d : D} : unlk n (some (.val d, s)) = unlR (fun o => some (.val d, ⟨s.r, s.m.set n o⟩)) s.m[n]? := by
  unfold unlk unlR
  dsimp only
  all_goals (cases s.m[n]? with
  | none => rfl
  | some o => cases o <;> rfl)
@[simp] theorem unlk_fr {q : MO} : unlk n (some (.fr q, s)) = unlR (fun o => some (.fr q, ⟨s.r, s.m.set n o⟩)) s.m[n]? := by
  unfold unlk unlR
  dsimp only
  all_goals (cases s.m[n]? with
  | none => rfl
  | some o => cases o <;> rfl)
@[simp] theorem unlR_ll {o : MO → Res} {ds : List D} : unlR o (some (.ll ds)) = o (.bx ds) := id rfl
@[simp] theorem unlR_eq {o : MO → Res} {ks : List Key} {ds : List D} : unlR o (some (.dl ks ds)) = o (.dx ks ds) := id rfl
def lkS2 (P : Nat → List D → List MO → Option (Out × List MO)) (Gm : Nat → D) (a : E) (n : Nat) (s : S) : Option MO → Res
  | some (.dx ks ds) => unlkS n (ev P Gm a ⟨s.r, s.m.set n (.dl ks ds)⟩)
  | some (.bx ds) => unlkS n (ev P Gm a ⟨s.r, s.m.set n (.ll ds)⟩)
  | _ => ev P Gm a s
def lkS1 (P : Nat → List D → List MO → Option (Out × List MO)) (Gm : Nat → D) (a : E) (s : S) : Option D → Res
  | some (.adr n) => lkS2 P Gm a n s s.m[n]?
  | _ => ev P Gm a s
@[simp] theorem ev_lks {p : E} : ev P Gm (.lks p a) s = lkS1 P Gm a s (pathV p s) := by
  show (match pathV p s with
    | some (.adr n) => (match s.m[n]? with
      | some (.dx ks ds) => unlkS n (ev P Gm a { s with m := s.m.set n (.dl ks ds) })
      | some (.bx ds) => unlkS n (ev P Gm a { s with m := s.m.set n (.ll ds) })
      | _ => ev P Gm a s)
    | _ => ev P Gm a s) = _
  unfold lkS1 lkS2
  rfl
@[simp] theorem lkS1_adr : lkS1 P Gm a s (some (.adr n)) = lkS2 P Gm a n s s.m[n]? := id rfl
@[simp] theorem lkS1_lst {ds : List D} : lkS1 P Gm a s (some (.lst ds)) = ev P Gm a s := id rfl
@[simp] theorem lkS1_tup {ds : List D} : lkS1 P Gm a s (some (.tup ds)) = ev P Gm a s := id rfl
@[simp] theorem lkS1_dct {ks : List Key} {ds : List D} : lkS1 P Gm a s (some (.dct ks ds)) = ev P Gm a s := id rfl
@[simp] theorem lkS2_dx {ks : List Key} {ds : List D} : lkS2 P Gm a n s (some (.dx ks ds)) = unlkS n (ev P Gm a ⟨s.r, s.m.set n (.dl ks ds)⟩) := id rfl
@[simp] theorem lkS2_bx {ds : List D} : lkS2 P Gm a n s (some (.bx ds)) = unlkS n (ev P Gm a ⟨s.r, s.m.set n (.ll ds)⟩) := id rfl
@[simp] theorem lkS2_ll {ds : List D} : lkS2 P Gm a n s (some (.ll ds)) = ev P Gm a s := id rfl
@[simp] theorem lkS2_dl {ks : List Key} {ds : List D} : lkS2 P Gm a n s (some (.dl ks ds)) = ev P Gm a s := id rfl
@[simp] theorem lkR1_lst {ds : List D} : lkR1 P Gm a s (some (.lst ds)) = ev P Gm a s := id rfl
@[simp] theorem lkR1_tup {ds : List D} : lkR1 P Gm a s (some (.tup ds)) = ev P Gm a s := id rfl
@[simp] theorem bkO_ll {ds : List D} : bkO (some (.ll ds)) = some (.bx ds) := id rfl
@[simp] theorem bkO_dl {ks : List Key} {ds : List D} : bkO (some (.dl ks ds)) = some (.dx ks ds) := id rfl
@[simp] theorem ev_bxe : ev P Gm (.bxe a) s = bxF (ev P Gm a s) := id rfl
@[simp] theorem bxF_fr {o : MO} : bxF (some (.fr o, s)) = some (.val (.adr s.m.length), ⟨s.r, s.m ++ [o]⟩) := id rfl
@[simp] theorem bxF_val {d : D} : bxF (some (.val d, s)) = some (.val d, s) := id rfl
def conS (P : Nat → List D → List MO → Option (Out × List MO)) (neg : Bool) (x y : D) (s : S) (q : Option Nat) : Res := match q with
  | some i => calB neg (P i [y, x] s.m) s
  | none => none
def conR (P : Nat → List D → List MO → Option (Out × List MO)) (neg : Bool) (tbl : List (Nat × Nat)) (x y : D) (s : S) (p : Option Nat) : Res := match p with
  | some c => conS P neg x y s (tbl.lookup c)
  | none => resB s (cmpF (if neg then .notin else .isin) x y s)
def kCon2 (P : Nat → List D → List MO → Option (Out × List MO)) (neg : Bool) (tbl : List (Nat × Nat)) (x y : D) (s : S) : Res := conR P neg tbl x y s (clsN s y)
def kCon1 (P : Nat → List D → List MO → Option (Out × List MO)) (Gm : Nat → D) (neg : Bool) (tbl : List (Nat × Nat)) (b : E) (x : D) (s : S) : Res := bnd (ev P Gm b s) (kCon2 P neg tbl x)
@[simp] theorem ev_con {neg : Bool} : ev P Gm (.con neg tbl a b) s = bnd (ev P Gm a s) (kCon1 P Gm neg tbl b) := by
  show bnd (ev P Gm a s) (fun x s => bnd (ev P Gm b s) fun y s => conF P neg tbl x y s) = _
  congr 1
@[simp] theorem kCon1_eq {neg : Bool} : kCon1 P Gm neg tbl b x s = bnd (ev P Gm b s) (kCon2 P neg tbl x) := id rfl
@[simp] theorem kCon2_eq {neg : Bool} : kCon2 P neg tbl x y s = conR P neg tbl x y s (clsN s y) := id rfl
@[simp] theorem conR_own {neg : Bool} : conR P neg tbl x y s (some c) = conS P neg x y s (tbl.lookup c) := id rfl
@[simp] theorem conR_in : conR P false tbl x y s none = resB s (cmpF .isin x y s) := id rfl
@[simp] theorem conR_ni : conR P true tbl x y s none = resB s (cmpF .notin x y s) := id rfl
@[simp] theorem conS_eq {neg : Bool} {i : Nat} : conS P neg x y s (some i) = calB neg (P i [y, x] s.m) s := id rfl
def kIsb (k : Bool) (x : D) (s : S) : Res := match x with
  | .bl b => some (.val (.bl (b == k)), s)
  | _ => none
@[simp] theorem ev_isb {k : Bool} : ev P Gm (.isb k a) s = bnd (ev P Gm a s) (kIsb k) := id rfl
@[simp] theorem kIsb_eq {k b : Bool} : kIsb k (.bl b) s = some (.val (.bl (b == k)), s) := id rfl
def fmtR (o : Option Str) (s : S) : Res := match o with
  | some y => if y.length ≤ 100000 then some (.val (.str y), s) else none
  | none => none
def kFmt (x : D) (s : S) : Res := fmtR (txD x) s
def fstR (o : Option Str) (s : S) : Res := match o with
  | some z => some (.val (.str z), s)
  | none => none
def kFst (ds : List D) (s : S) : Res := fstR (fstF ds) s
@[simp] theorem ev_fmt : ev P Gm (.fmt a) s = bnd (ev P Gm a s) kFmt := id rfl
@[simp] theorem kFmt_eq : kFmt x s = fmtR (txD x) s := id rfl
@[simp] theorem txD_str {z : Str} : txD (.str z) = some z := id rfl
@[simp] theorem txD_int {i : Int} (h : i.natAbs.log2 < 1920) : txD (.int i) = some (toString i : String) := if_pos h
@[simp] theorem fmtR_eq {z : Str} (h : z.length ≤ 100000) : fmtR (some z) s = some (.val (.str z), s) := if_pos h
@[simp] theorem ev_fst : ev P Gm (.fst a) s = bndA (ev P Gm a s) kFst := id rfl
@[simp] theorem kFst_eq {ds : List D} : kFst ds s = fstR (fstF ds) s := id rfl
@[simp] theorem fstR_eq {z : Str} : fstR (some z) s = some (.val (.str z), s) := id rfl
def fstC (y : Str) (o : Option Str) : Option Str := match o with
  | some z => some (y ++ z)
  | none => none
@[simp] theorem fstF_nil : fstF [] = some Str.empty := id rfl
@[simp] theorem fstF_cons {y : Str} {ds : List D} : fstF (.str y :: ds) = fstC y (fstF ds) := id rfl
@[simp] theorem fstC_eq {y z : Str} : fstC y (some z) = some (y ++ z) := id rfl
end
end En

namespace En
open PySem PySem.Spec L2
theorem bind1 {fd : FuncData} {a0 : Arg} (hp : fd.params = ⟨[], [a0], none, [], [], none, []⟩) (hd : fd.defaults = .none) {us : List Value} (hl : us.length = 1) : bindArgs fd ⟨us, []⟩ = pure ([a0.arg].zip us) := by
  obtain ⟨nm, qn, pp, bd, sc, gl, cl, dV, kV, dc, pm, an, cv, ct, bl⟩ := fd
  dsimp only at hp hd
  subst hp hd
  match us, hl with
  | [u], _ =>
    have e : (a0.arg == a0.arg) = true := beq_self_eq_true _
    unfold bindArgs
    simp [e, List.lookup, seqItems?]
    rfl
theorem bind2 {fd : FuncData} {a0 a1 : Arg} (hp : fd.params = ⟨[], [a0, a1], none, [], [], none, []⟩) (hne : a0.arg ≠ a1.arg) (hd : fd.defaults = .none) {us : List Value} (hl : us.length = 2) : bindArgs fd ⟨us, []⟩ = pure ([a0.arg, a1.arg].zip us) := by
  obtain ⟨nm, qn, pp, bd, sc, gl, cl, dV, kV, dc, pm, an, cv, ct, bl⟩ := fd
  dsimp only at hp hd
  subst hp hd
  match us, hl with
  | [u, w], _ =>
    have e : (a0.arg == a0.arg) = true := beq_self_eq_true _
    have e1 : (a1.arg == a1.arg) = true := beq_self_eq_true _
    have e2 : (a1.arg == a0.arg) = false := by simpa using Ne.symm hne
    unfold bindArgs
    simp [e, e1, e2, List.lookup, seqItems?]
    rfl
theorem xmatch_all {n : Nat} : ∀ {vs : List XV}, vs.all (xArg n) = true → XMatch n [] vs vs
  | [], _ => .nil
  | .cst z :: vs, h => by
    rw [List.all_cons, Bool.and_eq_true] at h
    exact .cst (xmatch_all h.2)
  | .arg i :: vs, h => by
    rw [List.all_cons, Bool.and_eq_true] at h
    exact .arg (of_decide_eq_true h.1) (xmatch_all h.2)
theorem xcOne_of {T : Tb} {x : Str} {n c : Nat} {ns : List Nat} {vs : List XV} {B newId initId : String} {bmB : List Value} (XB : EnX.XB B newId initId bmB) (hm : T.mg x = some (.ref (T.x.ca c))) (h : xcOne T.prog T.x.K (T.x.ca c) B newId initId bmB n (ns.map T.x.nm) vs = true) : XAt T x n c ns vs := by
  refine ⟨hm, ?_⟩
  unfold xcOne at h
  split at h
  · rename_i fI hI
    split at h
    · rename_i oc od fd osl hl
      unfold xInit at h
      split at h
      · rename_i cda cn cc su p0 p1 ini p2 msg k p3 p4 p5 body a0 as e1 e2 e3 e4
        have h := of_decide_eq_true h
        obtain ⟨⟨rfl, rfl, rfl, hln, hn, hn1, hd⟩, ⟨g1, g2, g3, g4, g5, g6, g7⟩, ⟨s1, s2, s3, s4, s5, s6, s7, s8⟩, ⟨t1, t2, t3, t4, t5, t6, t7⟩, u1, u2, u3, u4, u5, u6, u7, u8, u9, u10⟩ := h
        have hz1 : ((ns.map T.x.nm).zip vs).reverse.reverse.map (·.1) = ns.map T.x.nm := by
          rw [List.reverse_reverse]
          exact List.map_fst_zip (by omega)
        have hz2 : ((ns.map T.x.nm).zip vs).reverse.reverse.map (·.2) = vs := by
          rw [List.reverse_reverse]
          exact List.map_snd_zip (by omega)
        have bd : L2.Binds T.x.K fd (a0.arg :: argN as) [] := Binds.all fun us hus => by
          match as, hn, e4, hus, u4 with
          | [], _, e4, hus, _ => exact bind1 e4 hd (by simpa [argN] using hus)
          | [a1], _, e4, hus, nd => exact bind2 e4 (by intro z; simp [argN, z] at nd) hd (by simpa [argN] using hus)
          | _ :: _ :: _, hn, _, _, _ => simp at hn; omega
        refine ⟨fI, cda, cc, B, newId, initId, bmB, a0.arg, argN as, ((ns.map T.x.nm).zip vs).reverse, fd, [], [], ?_, .nil, ?_, by omega, hz1, by rw [hz2]; exact xmatch_all u8⟩
        · refine { sup := { xb := XB, q := g1, sup := g2, sB := g3, sC := g4, op := g5, cell := ?_, code := ?_, fn := ⟨oc, od, fd, osl, a0, hl, by rw [e4]; rfl, rfl⟩, ks := s1, kc := s2, ka := (s8 _ (List.mem_cons_self ..)).1, kf := s3, top := s4 }, st := ⟨XB.sf, t1, t2, t3⟩, iC := hI, tI := t4, exC := t5, tyC := t6, kC := t7, no := ?_, few := ?_, some_ := ?_, lk := ⟨oc, od, osl, hl⟩, cl := e2, gl := u1, bl := u2, cdv := e1, cd := u3, body := ⟨p0, p1, p2, p3, p4, p5, msg, k, body, e3, hln, u10⟩, bd := bd, nd := u4, loc := s8, nocell := s7, co := s5, gen := s6 }
          · unfold xCell at g6
            split at g6
            · rename_i D csl hc
              have e := of_decide_eq_true g6
              subst e
              exact ⟨_, _, _, hc⟩
            · cases g6
          · unfold xFile at g7
            split at g7
            · rename_i cvs ccs hc
              split at g7
              · rename_i file tf hv
                exact ⟨_, _, cvs, ccs, file, tf, hc, hv, g7⟩
              · cases g7
            · cases g7
          · intro p hp
            have := (List.of_mem_zip (List.mem_reverse.mp hp)).1
            exact u9 _ this
          · rw [List.length_reverse, List.length_zip]
            omega
          · intro z
            have := congrArg List.length z
            rw [List.length_reverse, List.length_zip, ← u5, Nat.min_self] at this
            exact u7 (List.length_eq_zero_iff.mp this)
        · simp [argN, hn]
      · cases h
    · cases h
  · cases h
theorem xcChk_of {T : Tb} {x : Str} {n c : Nat} {ns : List Nat} {vs : List XV} (hm : T.mg x = some (.ref (T.x.ca c))) (h : xcChk T.prog T.x.K (T.x.ca c) n (ns.map T.x.nm) vs = true) : XAt T x n c ns vs := by
  unfold xcChk at h
  rw [Bool.or_eq_true, Bool.or_eq_true] at h
  rcases h with h | h | h
  · exact xcOne_of EnX.xbV hm h
  · exact xcOne_of EnX.xbL hm h
  · exact xcOne_of EnX.xbI hm h
theorem mem_lookX {a : Str × Nat} {b : Nat × List Nat × List XV} : ∀ {l : List ((Str × Nat) × (Nat × List Nat × List XV))}, l.lookup a = some b → (a, b) ∈ l
  | (p, q) :: l, h => by
    rw [List.lookup_cons] at h
    cases hb : (a == p) with
    | true =>
      rw [hb] at h
      cases h
      rw [beq_iff_eq.mp hb]
      exact List.mem_cons_self
    | false =>
      rw [hb] at h
      exact List.mem_cons_of_mem _ (mem_lookX h)
def xvG : Option D → Option (List D) → Option (List D)
  | some d, some es => some (d :: es)
  | _, _ => none
@[simp] theorem xvD_nil {ds : List D} : xvD ds [] = some [] := id rfl
@[simp] theorem xvD_cst {ds : List D} {z : Str} {r : List XV} : xvD ds (.cst z :: r) = xvG (some (.str z)) (xvD ds r) := by
  simp only [xvD]
  cases xvD ds r <;> rfl
@[simp] theorem xvD_arg {ds : List D} {i : Nat} {r : List XV} : xvD ds (.arg i :: r) = xvG ds[i]? (xvD ds r) := by
  simp only [xvD]
  cases ds[i]? with
  | none => rfl
  | some d => cases xvD ds r <;> rfl
@[simp] theorem xvG_eq {d : D} {es : List D} : xvG (some d) (some es) = some (d :: es) := id rfl
def rseR (c : Nat) (ns : List Nat) (s : S) : Option (List D) → Res
  | some es => some (.exc c ns es, s)
  | none => none
@[simp] theorem rseR_eq {c : Nat} {ns : List Nat} {s : S} {es : List D} : rseR c ns s (some es) = some (.exc c ns es, s) := id rfl
section
variable {P : Nat → List D → List MO → Option (Out × List MO)} {Gm : Nat → D} {s : S}
@[simp] theorem ev_rse {c n : Nat} {ns : List Nat} {vs : List XV} {a : E} : ev P Gm (.rse c n ns vs a) s = bndA (ev P Gm a s) fun ds s => if ds.length = n then rseR c ns s (xvD ds vs) else none := by
  show (bndA (ev P Gm a s) fun ds s => if ds.length = n then (match xvD ds vs with
    | some es => some (.exc c ns es, s)
    | none => none) else none) = _
  refine congrArg _ ?_
  funext ds s
  split
  · cases xvD ds vs <;> rfl
  · rfl
end
end En

namespace En
open PySem PySem.Spec L2
def Yld (o : Res) (d : D) (s : S) : Prop := o = some (.val d, s) ∨ ∃ ds, o = some (.fr (.bx ds), s) ∧ d = .lst ds
theorem Yld.bnd {o : Res} {d : D} {s : S} (h : Yld o d s) (k : D → S → Res) : bnd o k = k d s := by
  rcases h with h | ⟨ds, h, rfl⟩
  · rw [h]; rfl
  · rw [h]; rfl
@[simp] theorem Yld_val {d e : D} {s t : S} : Yld (some (.val d, s)) e t ↔ d = e ∧ s = t := by
  constructor
  · rintro (h | ⟨ds, h, _⟩)
    · cases h; exact ⟨rfl, rfl⟩
    · cases h
  · rintro ⟨rfl, rfl⟩; exact .inl rfl
@[simp] theorem Yld_frs {ds : List D} {e : D} {s t : S} : Yld (some (.fr (.bx ds), s)) e t ↔ D.lst ds = e ∧ s = t := by
  constructor
  · rintro (h | ⟨es, h, rfl⟩)
    · cases h
    · cases h; exact ⟨rfl, rfl⟩
  · rintro ⟨rfl, rfl⟩; exact .inr ⟨_, rfl, rfl⟩
section
variable {st : D → S → Option S} {cd el : S → Res} {body : S → Res} {r : List (Option Cell)}
theorem compL_map (p : D → Bool) (f : D → D) : ∀ (ds : List D) (acc : List D) (m : List MO), (∀ d ∈ ds, ∃ s1, st d ⟨r, m⟩ = some s1 ∧ ∃ s2, Yld (cd s1) (.bl (p d)) s2 ∧ s2.m = m ∧ (p d = true → ∃ s3, Yld (el s2) (f d) s3 ∧ s3.m = m)) → acc.length + ds.length ≤ big →
    compL st cd el r ds acc m = some (.fr (.bx (acc ++ (ds.filter p).map f)), ⟨r, m⟩)
  | [], acc, m, _, _ => by rw [compL]; simp
  | d :: ds, acc, m, h, hl => by
    obtain ⟨s1, e1, s2, e2, e3, h3⟩ := h d (List.mem_cons_self ..)
    have ih := fun acc => compL_map p f ds acc m (fun x hx => h x (List.mem_cons_of_mem _ hx))
    rw [compL, e1]
    show bnd (cd s1) _ = _
    rw [e2.bnd]
    cases hp : p d with
    | true =>
      obtain ⟨s3, e4, e5⟩ := h3 hp
      show bnd (el s2) _ = _
      rw [e4.bnd, List.filter_cons, hp, if_pos rfl, List.map_cons]
      rw [List.length_cons] at hl
      have hb : acc.length < big := by omega
      show (if acc.length < big then compL st cd el r ds (acc ++ [f d]) s3.m else none) = _
      rw [if_pos hb, e5, ih _ (by rw [List.length_append, List.length_singleton]; omega), List.append_assoc]
      rfl
    | false =>
      show compL st cd el r ds acc s2.m = _
      rw [List.length_cons] at hl
      rw [e3, ih _ (by omega), List.filter_cons, hp]
      rfl
theorem compL_all (f : D → D) (ds : List D) (acc : List D) (m : List MO) (h : ∀ d ∈ ds, ∃ s1, st d ⟨r, m⟩ = some s1 ∧ ∃ s2, Yld (cd s1) (.bl true) s2 ∧ s2.m = m ∧ ∃ s3, Yld (el s2) (f d) s3 ∧ s3.m = m) (hl : acc.length + ds.length ≤ big) :
    compL st cd el r ds acc m = some (.fr (.bx (acc ++ ds.map f)), ⟨r, m⟩) := by
  have e := compL_map (st := st) (cd := cd) (el := el) (r := r) (fun _ => true) f ds acc m (fun d hd => by
    obtain ⟨s1, e1, s2, e2, e3, s3, e4⟩ := h d hd
    exact ⟨s1, e1, s2, e2, e3, fun _ => ⟨s3, e4⟩⟩) hl
  rw [e, List.filter_eq_self.mpr fun _ _ => rfl]
theorem compL_inv (J : List MO → Prop) (R : D → Prop) : ∀ (ds : List D) (acc : List D) (m : List MO), J m → (∀ d ∈ ds, ∀ m, J m → ∃ s1, st d ⟨r, m⟩ = some s1 ∧ ∃ s2, Yld (cd s1) (.bl true) s2 ∧ ∃ y s3, Yld (el s2) y s3 ∧ J s3.m ∧ R y) → acc.length + ds.length ≤ big →
    ∃ ys m', compL st cd el r ds acc m = some (.fr (.bx (acc ++ ys)), ⟨r, m'⟩) ∧ ys.length = ds.length ∧ (∀ y ∈ ys, R y) ∧ J m'
  | [], acc, m, hj, _, _ => ⟨[], m, by rw [compL]; simp, rfl, (fun y hy => by cases hy), hj⟩
  | d :: ds, acc, m, hj, h, hl => by
    obtain ⟨s1, e1, s2, e2, y, s3, e4, e5, e6⟩ := h d (List.mem_cons_self ..) m hj
    rw [List.length_cons] at hl
    obtain ⟨ys, m', q1, q2, q3, q4⟩ := compL_inv J R ds (acc ++ [y]) s3.m e5 (fun x hx => h x (List.mem_cons_of_mem _ hx)) (by rw [List.length_append, List.length_singleton]; omega)
    refine ⟨y :: ys, m', ?_, by rw [List.length_cons, q2]; rfl, fun z hz => ?_, q4⟩
    · rw [compL, e1]
      show bnd (cd s1) _ = _
      rw [e2.bnd]
      show bnd (el s2) _ = _
      rw [e4.bnd]
      have hb : acc.length < big := by omega
      show (if acc.length < big then compL st cd el r ds (acc ++ [y]) s3.m else none) = _
      rw [if_pos hb, q1, List.append_assoc]
      rfl
    · rcases List.mem_cons.mp hz with rfl | hz
      · exact e6
      · exact q3 z hz
theorem forL_inv (J : List D → S → Prop) : ∀ (ds : List D) (s : S), J ds s → (∀ d ds s, J (d :: ds) s → ∃ s1, st d s = some s1 ∧ ∃ s2, (body s1 = some (.nx, s2) ∨ body s1 = some (.ct, s2)) ∧ J ds s2) → ∃ s', forL st body ds s = some (.nx, s') ∧ J [] s'
  | [], s, hj, _ => ⟨s, by rw [forL], hj⟩
  | d :: ds, s, hj, h => by
    obtain ⟨s1, e1, s2, e2, e3⟩ := h d ds s hj
    obtain ⟨s', q1, q2⟩ := forL_inv J ds s2 e3 h
    refine ⟨s', ?_, q2⟩
    rw [forL, e1]
    show (match body s1 with
      | some (.nx, s2) => forL st body ds s2
      | some (.ct, s2) => forL st body ds s2
      | some (.bk, s2) => some (.nx, s2)
      | r => r) = _
    rcases e2 with e2 | e2
    · rw [e2]; exact q1
    · rw [e2]; exact q1
end
def az : List Nat := [97, 98, 99, 100, 101, 102, 103, 104, 105, 106, 107, 108, 109, 110, 111, 112, 113, 114, 115, 116, 117, 118, 119, 120, 121, 122]
theorem tx_tl (x : Str) : tx x.cps.toList = x := TL.mk_tl x
theorem tx_len (a : List Nat) : (tx a).length = a.length := by simp [tx, Str.length]
theorem tx_cat (a b : List Nat) : tx a ++ tx b = tx (a ++ b) := TL.ext_tl (TL.tl_append (tx a) (tx b))
theorem tx_inj {a b : List Nat} : (tx a = tx b) ↔ a = b := ⟨fun h => congrArg (fun x : Str => x.cps.toList) h, fun h => by rw [h]⟩
theorem tx_cut (a : List Nat) (lo hi : Option Int) : cutS (tx a) lo hi = tx ((a.drop (HT.sIx a.length 0 lo)).take (HT.sIx a.length a.length hi - HT.sIx a.length 0 lo)) := by
  unfold cutS
  rw [tx_len]
theorem tx_join (ys : List (List Nat)) : Txt.join (tx []) (ys.map tx) = tx ys.flatten := by
  have e := SX.join_S [] ys
  have z : ∀ ys : List (List Nat), TL.joinL [] ys = ys.flatten := by
    intro ys
    induction ys with
    | nil => rfl
    | cons y ys ih =>
      cases ys with
      | nil => simp [TL.joinL]
      | cons z zs => simp only [TL.joinL, List.flatten_cons, ih, List.nil_append]
  rw [z] at e
  exact e
theorem strs_tx : ∀ ys : List (List Nat), strsOf (ys.map fun l => D.str (tx l)) = some (ys.map tx)
  | [] => rfl
  | y :: ys => by simp [strsOf, strs_tx ys]
theorem join_tx (ys : List (List Nat)) (s : S) (h : ys.flatten.length ≤ 16777216) : bmF .join (.str (tx [])) [.lst (ys.map fun l => .str (tx l))] s = some (.val (.str (tx ys.flatten)), s) := by
  have e : ((ys.map tx).map (·.length)).sum = ys.flatten.length := by
    rw [List.length_flatten, List.map_map]
    exact congrArg List.sum (List.map_congr_left fun l _ => tx_len l)
  simp only [bmF, viewQ, viewL, strs_tx, e, tx_join]
  rw [if_pos]
  show _ ≤ 16777216
  simpa [Str.length] using h
theorem join_one (w : List Nat) (s : S) (h : w.length ≤ 16777216) : bmF .join (.str (tx [])) [.lst (w.map fun c => .str (tx [c]))] s = some (.val (.str (tx w)), s) := by
  have e : (w.map fun c => [c]).flatten = w := by
    clear h
    induction w with
    | nil => rfl
    | cons c w ih => simpa using ih
  have := join_tx (w.map fun c => [c]) s (by rw [e]; exact h)
  rw [e, List.map_map] at this
  exact this
theorem tx_to (w : List Nat) (k : Nat) : cutS (tx w) none (some (k : Int)) = tx (w.take k) := by
  rw [tx_cut, HT.sIx_none, HT.sIx_nat, List.drop_zero]
  refine congrArg tx ?_
  rw [Nat.sub_zero]
  by_cases h : k ≤ w.length
  · rw [Nat.min_eq_left h]
  · rw [Nat.min_eq_right (by omega), List.take_of_length_le (Nat.le_refl _), List.take_of_length_le (by omega)]
theorem tx_from (w : List Nat) (k : Nat) : cutS (tx w) (some (k : Int)) none = tx (w.drop k) := by
  rw [tx_cut, HT.sIx_none, HT.sIx_nat]
  refine congrArg tx ?_
  by_cases h : k ≤ w.length
  · rw [Nat.min_eq_left h, List.take_of_length_le (by rw [List.length_drop]; omega)]
  · rw [Nat.min_eq_right (by omega), List.drop_of_length_le (Nat.le_refl _), List.drop_of_length_le (by omega), List.take_nil]
theorem ix_tx {l : List Nat} {x : Int} (s : S) (h0 : 0 ≤ x) (h1 : x < l.length) (h2 : l.length ≤ 16777216) : ixF (.str (tx l)) (.int x) s = some (.str (tx [l.getD x.toNat 0])) := by
  have hl : x.toNat < l.length := by omega
  simp [ixF, tx_len, h2, atI, ixN, h0, h1, hl]
theorem getD_mem {l : List Nat} {x : Nat} (h : x < l.length) : l.getD x 0 ∈ l := by
  rw [List.getD_eq_getElem?_getD, List.getElem?_eq_getElem h]
  exact List.getElem_mem h
theorem az_len : az.length = 26 := rfl
end En

namespace En
open PySem PySem.Spec L2
section
variable {P : Nat → List D → List MO → Option (Out × List MO)} {Gm : Nat → D} {s : S} {wc : WhyC} {ls : List (Nat × List D)} {m m' : List MO} {acc : List D} {i j : Nat} {ds : List D} {ks js : List (Nat × List Nat)} {d : D}
def lmbR (i : Nat) (ks : List (Nat × List Nat)) (o : Option (Option Cell)) (s : S) : Res := match o with
  | some (some (.lms js)) => if js.length + ks.length < big then some (.nx, s.set i (some (.lms (js ++ ks)))) else none
  | _ => none
variable (P wc) in
def whsR2 (o : Option (List D × List MO)) (s : S) : Res := match o with
  | none => none
  | some (res, m) => some (.fr (.bx res), { s with m := m })
variable (P wc) in
def whsR1 (o : Option (List (Nat × List D))) (s : S) : Res := match o with
  | none => none
  | some ls => whsR2 (whsL P wc ls s.m []) s
variable (P wc) in
def whsR (o : Option (Option Cell)) (s : S) : Res := match o with
  | some (some (.lms ks)) => whsR1 P wc (capsD s.r ks) s
  | _ => none
@[simp] theorem ev_lma : ev P Gm (.lma i ks) s = some (.nx, s.set i (some (.lms ks))) := id rfl
@[simp] theorem ev_lmb : ev P Gm (.lmb i ks) s = lmbR i ks s.r[i]? s := id rfl
@[simp] theorem lmbR_eq (h : js.length + ks.length < 16777216) : lmbR i ks (some (some (.lms js))) s = some (.nx, s.set i (some (.lms (js ++ ks)))) := if_pos h
@[simp] theorem ev_whs : ev P Gm (.whs i wc) s = whsR P wc s.r[i]? s := by
  simp only [ev]
  unfold whsR whsR1 whsR2
  rfl
@[simp] theorem whsR_eq : whsR P wc (some (some (.lms ks))) s = whsR1 P wc (capsD s.r ks) s := id rfl
@[simp] theorem whsR1_eq : whsR1 P wc (some ls) s = whsR2 (whsL P wc ls s.m []) s := id rfl
@[simp] theorem whsR2_eq : whsR2 (some (acc, m)) s = some (.fr (.bx acc), { s with m := m }) := id rfl
variable (P wc ls acc) in
def whsK2 (m' : List MO) : Option D → Option (List D × List MO)
  | none => none
  | some d => whsL P wc ls m' (acc ++ [d])
variable (P wc ls acc) in
def whsK : Option (Out × List MO) → Option (List D × List MO)
  | none => none
  | some (o, m') => whsK2 P wc ls acc m' (whyD wc o)
@[simp] theorem whsL_nil : whsL P wc [] m acc = some (acc, m) := id rfl
@[simp] theorem whsL_cons (h : acc.length < 16777216) : whsL P wc ((j, ds) :: ls) m acc = whsK P wc ls acc (P j ds m) := by
  show (if acc.length < big then _ else _) = _
  rw [if_pos (show acc.length < big from h)]
  unfold whsK whsK2
  rfl
@[simp] theorem whsK_eq {o : Out} : whsK P wc ls acc (some (o, m')) = whsK2 P wc ls acc m' (whyD wc o) := id rfl
@[simp] theorem whsK2_eq : whsK2 P wc ls acc m' (some d) = whsL P wc ls m' (acc ++ [d]) := id rfl
theorem val_tx : ("value" : Str) = tx [118, 97, 108, 117, 101] := by decide +kernel
@[simp] theorem whyD_val : whyD wc (.val d) = some (.tup [.str (tx [118, 97, 108, 117, 101]), d]) := by
  rw [← val_tx]
  rfl
@[simp] theorem whyD_frx {o : MO} (h : o.isX = false) : whyD wc (.fr o) = some (.tup [.str (tx [118, 97, 108, 117, 101]), o.d]) := by
  rw [← val_tx]
  simp only [whyD, h]
  rfl
def wh1R2 (wc : WhyC) (s : S) (m : List MO) : Option D → Res
  | none => none
  | some d => some (.val d, { s with m := m })
def wh1R1 (wc : WhyC) (s : S) : Option (Out × List MO) → Res
  | none => none
  | some (o, m) => wh1R2 wc s m (whyD wc o)
variable (P) in
def wh1R (j : Nat) (wc : WhyC) (s : S) : Option (List D) → Res
  | none => none
  | some ds => wh1R1 wc s (P j ds s.m)
@[simp] theorem ev_wh1 {is : List Nat} : ev P Gm (.wh1 j is wc) s = wh1R P j wc s (capD1 s.r is) := by
  simp only [ev]
  unfold wh1R wh1R1 wh1R2
  rfl
@[simp] theorem wh1R_eq : wh1R P j wc s (some ds) = wh1R1 wc s (P j ds s.m) := id rfl
@[simp] theorem wh1R1_eq {o : Out} : wh1R1 wc s (some (o, m')) = wh1R2 wc s m' (whyD wc o) := id rfl
@[simp] theorem wh1R2_eq : wh1R2 wc s m' (some d) = some (.val d, { s with m := m' }) := id rfl
theorem whyD_exc {c : Nat} {ns gs : List Nat} {z : Str} {xs : List D} (hc : c ∈ wc.cls) (hz : lookF wc.cid ns ds = some (.str z)) (hg : wc.tab.lookup z = some gs) (hx : fldDs ns ds gs = some xs) : whyD wc (.exc c ns ds) = some (.tup [.str z, .tup xs]) := by
  simp only [whyD, if_pos hc, hz, hg, hx]
end
end En

namespace En
open PySem PySem.Spec L2
def tEq : List (Nat × Nat) := [(0, 2005), (1, 2006), (2, 2007), (3, 2008), (14, 2009), (18, 2010)]
def t_parts_0 : List (Nat × Nat) := [(0, 2035), (1, 2036), (2, 2037)]
def t_narrowed_2 : List (Nat × Nat) := [(0, 2091)]
def t_narrowed_0_last_first : List (Nat × Nat) := [(0, 2197)]
def t_may_be_1 : List (Nat × Nat) := [(0, 2073)]
def c_law_feed : E := (.seq (.asg 1 (.lc [3] (.tn 3) (.it (.sl (.var 0) .abs (.one (.cst (.int 63))))) (.cst (.bl true)) (.bi .int (.cns (.var 3) .nil)))) (.seq (.asg 2 (.bop .add (.cst (.int 10029)) (.bop .mul (.cst (.int 71)) (.bi .len (.cns (.var 1) .nil))))) (.seq (.frr (.tn 3) (.it (.var 1)) (.seq (.asg 2 (.bop .mod (.bi .int (.cns (.bop .add (.bop .mul (.var 2) (.cst (.int 8101))) (.var 3)) .nil)) (.cst (.int 2147483269)))) .skp)) (.seq (.ret (.lst (.cns (.var 1) (.cns (.cst (.int 0)) (.cns (.cst (.int 0)) (.cns (.var 2) .nil)))))) .skp))))
def c_law_take : E := (.seq (.iff (.cmp .lt (.ix (.var 0) (.cst (.int 2))) (.cst (.int 2))) (.seq (.sit (.var 0) (.cst (.int 1)) (.bop .add (.ix (.var 0) (.cst (.int 1))) (.cst (.int 1)))) (.seq (.asg 3 (.bop .add (.ix (.var 0) (.cst (.int 3))) (.bop .mul (.ix (.var 0) (.cst (.int 1))) (.cst (.int 9311))))) (.seq (.iff (.cmp .le (.ix (.var 0) (.cst (.int 1))) (.bi .len (.cns (.ix (.var 0) (.cst (.int 0))) .nil))) (.seq (.asg 3 (.ix (.ix (.var 0) (.cst (.int 0))) (.bop .sub (.ix (.var 0) (.cst (.int 1))) (.cst (.int 1))))) .skp) .skp) (.seq (.iff (.bor (.cmp .gt (.ix (.var 0) (.cst (.int 1))) (.bi .len (.cns (.ix (.var 0) (.cst (.int 0))) .nil))) (.one (.cmp .lt (.var 3) (.bop .pow (.cst (.int 10)) (.cst (.int 18)))))) (.seq (.asg 4 (.bop .mod (.bi .int (.cns (.bop .add (.bop .add (.bop .mul (.var 3) (.cst (.int 46687))) (.bop .mul (.ix (.var 0) (.cst (.int 1))) (.cst (.int 36007)))) (.ix (.var 0) (.cst (.int 3)))) .nil)) (.cst (.int 2147483647)))) (.seq (.asg 5 (.bop .mod (.bi .int (.cns (.bop .add (.bop .mul (.var 4) (.var 4)) (.bop .mul (.ix (.var 0) (.cst (.int 1))) (.cst (.int 51539)))) .nil)) (.cst (.int 998244353)))) (.seq (.ret (.bop .mod (.bop .div (.bop .mod (.bi .int (.cns (.bop .add (.bop .mul (.var 5) (.cst (.int 48109))) (.var 4)) .nil)) (.cst (.int 2147483579))) (.cst (.int 29))) (.var 1))) .skp))) .skp) (.seq (.sit (.var 0) (.cst (.int 2)) (.var 3)) .skp))))) .skp) (.seq (.asg 2 (.bop .mod (.bi .int (.cns (.ix (.var 0) (.cst (.int 2))) .nil)) (.var 1))) (.seq (.sit (.var 0) (.cst (.int 2)) (.bop .div (.bi .int (.cns (.ix (.var 0) (.cst (.int 2))) .nil)) (.var 1))) (.seq (.ret (.var 2)) .skp))))
def c_law_of : E := (.seq (.ret (.ix (.var 1) (.cal 11 (.cns (.var 0) (.cns (.bi .len (.cns (.var 1) .nil)) .nil))))) .skp)
def c_law_same : E := (.seq (.iff (.isn (.var 1)) (.seq (.ret (.isn (.var 0))) .skp) .skp) (.seq (.iff (.bor (.isi (.var 1) [.bool]) (.one (.isi (.var 0) [.bool]))) (.seq (.ret (.band (.isi (.var 1) [.bool]) (.band (.isi (.var 0) [.bool]) (.one (.cmp .eq (.var 0) (.var 1)))))) .skp) .skp) (.seq (.iff (.isi (.var 1) [.int, .str]) (.seq (.ret (.band (.isi (.var 0) [.int, .str]) (.band (.cmp .eq (.isi (.var 0) [.int]) (.isi (.var 1) [.int])) (.one (.cmp .eq (.var 0) (.var 1)))))) .skp) .skp) (.seq (.iff (.isi (.var 1) [.dict]) (.seq (.ret (.band (.isi (.var 0) [.dict]) (.band (.cmp .eq (.bi .len (.cns (.var 0) .nil)) (.bi .len (.cns (.var 1) .nil))) (.one (.bi .all (.cns (.lc [2] (.tn 2) (.it (.var 1)) (.cst (.bl true)) (.band (.cmp .isin (.var 2) (.var 0)) (.one (.cal 13 (.cns (.ix (.var 0) (.var 2)) (.cns (.ix (.var 1) (.var 2)) .nil)))))) .nil)))))) .skp) .skp) (.seq (.iff (.bor (.cmp .ne (.isi (.var 1) [.list]) (.isi (.var 0) [.list])) (.one (.cmp .ne (.isi (.var 1) [.tuple]) (.isi (.var 0) [.tuple])))) (.seq (.ret (.cst (.bl false))) .skp) .skp) (.seq (.ret (.band (.cmp .eq (.bi .len (.cns (.var 0) .nil)) (.bi .len (.cns (.var 1) .nil))) (.one (.bi .all (.cns (.lc [3, 4] (.tt [3, 4]) (.zp (.var 0) (.var 1)) (.cst (.bl true)) (.cal 13 (.cns (.var 3) (.cns (.var 4) .nil)))) .nil))))) .skp))))))
def c_is_word : E := (.seq (.iff (.bor (.nt (.isi (.var 0) [.str])) (.one (.nt (.chn .le .le (.cst (.int 1)) (.bi .len (.cns (.var 0) .nil)) (.gv 1))))) (.seq (.ret (.cst (.bl false))) .skp) .skp) (.seq (.ret (.bi .all (.cns (.lc [1] (.tn 1) (.it (.var 0)) (.cst (.bl true)) (.cmp .isin (.var 1) (.gv 0))) .nil))) .skp))
def c_is_number : E := (.seq (.ret (.band (.isi (.var 0) [.int]) (.band (.nt (.isi (.var 0) [.bool])) (.one (.chn .le .le (.var 1) (.var 0) (.var 2)))))) .skp)
def c_is_date : E := (.seq (.ret (.cal 1 (.cns (.var 0) (.cns (.cst (.int 0)) (.cns (.gv 2) .nil))))) .skp)
def c_law_new_names : E := (.seq (.asg 2 (.cst (.str (tx az)))) (.seq (.asg 3 (.bm .join (.cst (.str (tx []))) (.cns (.lc [6] (.tn 6) (.rng (.cal 11 (.cns (.var 0) (.cns (.cst (.int 5)) .nil)))) (.cst (.bl true)) (.cal 12 (.cns (.var 0) (.cns (.var 2) .nil)))) .nil))) (.seq (.ast (.tt [4, 5]) (.tpl (.cns (.cal 11 (.cns (.var 0) (.cns (.bop .add (.bi .len (.cns (.var 3) .nil)) (.cst (.int 1))) .nil))) (.cns (.cal 11 (.cns (.var 0) (.cns (.cst (.int 26)) .nil))) .nil)))) (.seq (.ret (.lc [6] (.tn 6) (.rng (.var 1)) (.cst (.bl true)) (.bop .add (.bop .add (.sl (.var 3) .abs (.one (.var 4))) (.ix (.var 2) (.bop .mod (.bi .int (.cns (.bop .add (.var 5) (.bop .mul (.cst (.int 7)) (.var 6))) .nil)) (.cst (.int 26))))) (.sl (.var 3) (.one (.var 4)) .abs)))) .skp))))
def c_law_dates : E := (.seq (.asg 2 (.bop .add (.cal 12 (.cns (.var 0) (.cns (.lst (.cns (.cst (.int 0)) (.cns (.cst (.int 7)) (.cns (.cst (.int 1753)) (.cns (.cst (.int 9990)) .nil))))) .nil))) (.cal 11 (.cns (.var 0) (.cns (.cst (.int 4)) .nil))))) (.seq (.ret (.tpl (.cns (.var 2) (.cns (.bop .add (.var 2) (.cal 11 (.cns (.var 0) (.cns (.var 1) .nil)))) .nil)))) .skp))
def c_Label_init : E := (.seq (.frr (.tn 6) (.it (.tpl (.cns (.var 1) (.cns (.var 2) (.cns (.var 3) .nil))))) (.seq (.iff (.nt (.cal 0 (.cns (.var 6) .nil))) (.seq (.rse 32 1 [44, 43] [(.arg 0), (.cst (tx [73, 110, 118, 97, 108, 105, 100, 87, 111, 114, 100]))] (.cns (.var 6) .nil)) .skp) .skp) .skp)) (.seq (.iff (.nt (.cal 2 (.cns (.var 4) .nil))) (.seq (.rse 33 1 [44, 43] [(.arg 0), (.cst (tx [73, 110, 118, 97, 108, 105, 100, 68, 97, 116, 101]))] (.cns (.var 4) .nil)) .skp) .skp) (.seq (.iff (.band (.nin (.var 5)) (.one (.bor (.nt (.cal 2 (.cns (.var 5) .nil))) (.one (.cmp .lt (.var 5) (.var 4)))))) (.seq (.rse 33 1 [44, 43] [(.arg 0), (.cst (tx [73, 110, 118, 97, 108, 105, 100, 68, 97, 116, 101]))] (.cns (.var 5) .nil)) .skp) .skp) (.seq (.fls (.var 0) 0 [0, 4, 5, 6, 7, 8, 15] (.var 1)) (.seq (.fls (.var 0) 1 [0] (.var 2)) (.seq (.fls (.var 0) 2 [0] (.var 3)) (.seq (.fls (.var 0) 3 [0] (.var 4)) (.seq (.fls (.var 0) 4 [0] (.ite (.isn (.var 5)) (.var 4) (.var 5))) .skp))))))))
def c_Label_may_be : E := (.seq (.ret (.cal 1 (.cns (.var 1) (.cns (.fld (.var 0) 3 [0]) (.cns (.fld (.var 0) 4 [0]) .nil))))) .skp)
def c_Label_parts : E := (.seq (.ret (.tpl (.cns (.fld (.var 0) 0 [0, 4, 5, 6, 7, 8, 15]) (.cns (.fld (.var 0) 1 [0]) (.cns (.fld (.var 0) 2 [0]) (.cns (.fld (.var 0) 3 [0]) (.cns (.fld (.var 0) 4 [0]) .nil))))))) .skp)
def c_Label_eq : E := (.seq (.ret (.band (.isi (.var 1) [.own 0]) (.one (.cmp .eq (.met t_parts_0 (.var 0) 0 .nil 0 .nil) (.met t_parts_0 (.var 1) 0 .nil 0 .nil))))) .skp)
def c_Label_repr : E := (.seq (.ret (.fst (.cns (.fmt (.cst (.str (tx [76, 97, 98, 101, 108, 40])))) (.cns (.fmt (.fld (.var 0) 0 [0, 4, 5, 6, 7, 8, 15])) (.cns (.fmt (.cst (.str (tx [32])))) (.cns (.fmt (.fld (.var 0) 1 [0])) (.cns (.fmt (.cst (.str (tx [41])))) .nil))))))) .skp)
def c_Label_narrowed : E := (.seq (.iff (.nt (.met t_may_be_1 (.var 0) 1 (.cns (.var 1) .nil) 0 .nil)) (.seq (.rse 33 1 [44, 43] [(.arg 0), (.cst (tx [73, 110, 118, 97, 108, 105, 100, 68, 97, 116, 101]))] (.cns (.var 1) .nil)) .skp) .skp) (.seq (.iff (.bor (.nt (.met t_may_be_1 (.var 0) 1 (.cns (.var 2) .nil) 0 .nil)) (.one (.cmp .lt (.var 2) (.var 1)))) (.seq (.rse 33 1 [44, 43] [(.arg 0), (.cst (tx [73, 110, 118, 97, 108, 105, 100, 68, 97, 116, 101]))] (.cns (.var 2) .nil)) .skp) .skp) (.seq (.ret (.calk 2003 5 (.cns (.fld (.var 0) 0 [0, 4, 5, 6, 7, 8, 15]) (.cns (.fld (.var 0) 1 [0]) (.cns (.fld (.var 0) 2 [0]) (.cns (.var 1) (.cns (.var 2) .nil))))) 0 .nil)) .skp)))
def GmS : Nat → D
  | 0 => .str (tx az)
  | 1 => .int 6
  | 2 => .int 9999
  | 5 => .int 8
  | 7 => .int 16
  | 4 => .tup [.str (tx [97, 115, 105, 100, 101]), .str (tx [107, 101, 112, 116]), .str (tx [102, 114, 101, 101])]
  | 3 => .int 200
  | 9 => .int 4
  | 10 => .int 3
  | 11 => .tup [.str (tx [97, 115, 105, 100, 101]), .str (tx [107, 101, 112, 116])]
  | 12 => .int 4
  | 14 => .int 40
  | _ => .non
def CdS : Nat → Option Ent
  | 0 => some ⟨2, 1, c_is_word, id, none⟩
  | 1 => some ⟨3, 3, c_is_number, id, none⟩
  | 2 => some ⟨1, 1, c_is_date, id, none⟩
  | 3 => some ⟨2, 1, c_is_word, gdF 0 [.k 0] [] [], none⟩
  | 4 => some ⟨1, 1, c_is_date, gdF 0 [.k 0] [] [], none⟩
  | 10 => some ⟨4, 1, c_law_feed, id, none⟩
  | 11 => some ⟨6, 2, c_law_take, id, none⟩
  | 12 => some ⟨2, 2, c_law_of, id, none⟩
  | 13 => some ⟨5, 2, c_law_same, id, none⟩
  | 14 => some ⟨7, 2, c_law_new_names, id, none⟩
  | 108 => some ⟨3, 2, c_law_dates, id, none⟩
  | 1000 => some ⟨7, 6, c_Label_init, id, none⟩
  | 2002 => some ⟨0, 0, .nil, gdM 5 [.p 0, .p 1, .p 2, .p 3, .p 4, .d 0] [.non] [], some (0, 1000)⟩
  | 2003 => some ⟨0, 0, .nil, gdM 6 [.p 0, .p 1, .p 2, .p 3, .p 4, .p 5] [.non] [], some (0, 1000)⟩
  | 2004 => some ⟨0, 0, .nil, gdM 1 [.p 0, .k 4, .k 3, .k 2, .k 1, .k 0] [.non] [], some (0, 1000)⟩
  | 2005 => some ⟨2, 2, c_Label_eq, gdF 2 [.p 0, .p 1] [] [], none⟩
  | 2024 => some ⟨1, 1, c_Label_repr, gdF 1 [.p 0] [] [], none⟩
  | 2034 => some ⟨2, 2, c_Label_may_be, gdF 1 [.p 0, .k 0] [] [], none⟩
  | 2035 => some ⟨1, 1, c_Label_parts, gdF 1 [.p 0] [] [], none⟩
  | 2073 => some ⟨2, 2, c_Label_may_be, gdF 2 [.p 0, .p 1] [] [], none⟩
  | 2091 => some ⟨3, 3, c_Label_narrowed, gdF 3 [.p 0, .p 1, .p 2] [] [], none⟩
  | 2197 => some ⟨3, 3, c_Label_narrowed, gdF 1 [.p 0, .k 1, .k 0] [] [], none⟩
  | _ => none
end En

namespace En
open PySem PySem.Spec L2
def Ints (ds : List D) : Prop := ∀ d ∈ ds, ∃ i : Int, d = .int i
def FdB (b : MO) : Prop := ∃ (cs : List D) (k d mk : Int), b = .bx [.lst cs, .int k, .int d, .int mk] ∧ Ints cs ∧ 0 ≤ k
section
variable {Cd : Nat → Option Ent} {Gm : Nat → D}
theorem feed_ok (hc : Cd 10 = some ⟨4, 1, c_law_feed, id, none⟩) (n : Nat) (m : List MO) (ns : List Int) (hl : ns.length ≤ 63) : ∃ ds, Pn Cd Gm (n + 1) 10 [.fzl (ns.map D.int)] m = some (.fr (.bx ds), m) ∧ FdB (.bx ds) := by
  have hI : ∀ l : List D, Ints l → l.length ≤ 63 → compL (store (.tn 3)) (ev (Pn Cd Gm n) Gm (.cst (.bl true))) (ev (Pn Cd Gm n) Gm (.bi .int (.cns (.var 3) .nil))) [some (.val (.fzl (ns.map D.int))), none, none, none] l [] m = some (.fr (.bx l), ⟨[some (.val (.fzl (ns.map D.int))), none, none, none], m⟩) := by
    intro l hi hl
    have e := compL_map (st := store (.tn 3)) (cd := ev (Pn Cd Gm n) Gm (.cst (.bl true))) (el := ev (Pn Cd Gm n) Gm (.bi .int (.cns (.var 3) .nil))) (r := [some (.val (.fzl (ns.map D.int))), none, none, none]) (fun _ => true) id l [] m (fun d hd => by
      obtain ⟨i, rfl⟩ := hi d hd
      simp [store]) (by simp; unfold big; omega)
    rw [e]
    simp
  have hcut : Ints (cutD (ns.map D.int) none (some 63)) ∧ (cutD (ns.map D.int) none (some 63)).length ≤ 63 := by
    unfold cutD
    constructor
    · intro d hd
      have := List.mem_of_mem_drop (List.mem_of_mem_take hd)
      obtain ⟨i, _, rfl⟩ := List.mem_map.mp this
      exact ⟨i, rfl⟩
    · simp
      omega
  have hi := hI _ hcut.1 hcut.2
  generalize hL : cutD (ns.map D.int) none (some 63) = l at hi hcut
  rw [Pn_def hc]
  obtain ⟨s', e, _, mk, c3, rfl⟩ := forL_inv (st := store (.tn 3)) (body := ev (Pn Cd Gm n) Gm (.seq (.asg 2 (.bop .mod (.bi .int (.cns (.bop .add (.bop .mul (.var 2) (.cst (.int 8101))) (.var 3)) .nil)) (.cst (.int 2147483269)))) .skp))
    (fun ds s => Ints ds ∧ ∃ (mk : Int) (c3 : Option Cell), s = ⟨[some (.val (.fzl (ns.map D.int))), some (.val (.lst l)), some (.val (.int mk)), c3], m⟩) l ⟨[some (.val (.fzl (ns.map D.int))), some (.val (.lst l)), some (.val (.int (10029 + 71 * l.length))), none], m⟩ ⟨hcut.1, _, _, rfl⟩ (by
      rintro d ds s ⟨h1, mk, c3, rfl⟩
      obtain ⟨i, rfl⟩ := h1 d (List.mem_cons_self ..)
      simp [store]
      exact fun x hx => h1 x (List.mem_cons_of_mem _ hx))
  refine ⟨[.lst l, .int 0, .int 0, .int mk], ?_, l, 0, 0, mk, rfl, hcut.1, by omega⟩
  simp [c_law_feed, ini, hL, valR, wipeR, itemsOf, hi, e, List.replicate]
theorem take_ok (hc : Cd 11 = some ⟨6, 2, c_law_take, id, none⟩) (n : Nat) {m : List MO} {i : Nat} {cs : List D} {k d mk many : Int} (hm : m[i]? = some (.bx [.lst cs, .int k, .int d, .int mk])) (hI : Ints cs) (hk : 0 ≤ k) (h0 : 0 < many) (h1 : many < 1073741824) :
    Sat (Pn Cd Gm (n + 1) 11 [.adr i, .int many] m) fun x m' => ∃ r k' d' : Int, x = .val (.int r) ∧ m' = m.set i (.bx [.lst cs, .int k', .int d', .int mk]) ∧ 0 ≤ r ∧ r < many ∧ 0 ≤ k' := by
  have hi : i < m.length := (List.getElem?_eq_some_iff.mp hm).1
  have hr := fun z : Int => And.intro (Int.emod_nonneg z (show many ≠ 0 by omega)) (Int.emod_lt_of_pos z h0)
  have he := fun z : Int => And.intro (show -18446744073709551616 < z % 2147483647 by omega) (show z % 2147483647 < 18446744073709551616 by omega)
  have hs : ∀ b : MO, (m.set i b)[i]? = some b := fun b => List.getElem?_set_self hi
  clear hi
  rw [Pn_def hc]
  by_cases hd : d < 2
  · by_cases hl : k + 1 ≤ cs.length
    · obtain ⟨c, hcl⟩ := hI cs[k.toNat] (List.getElem_mem (by omega))
      have hkk : k.toNat < cs.length := by omega
      have e2 : cs[k.toNat]? = some (.int c) := by rw [List.getElem?_eq_getElem hkk, hcl]
      have hn : ¬ (cs.length : Int) < k + 1 := by omega
      have hk2 : k < cs.length := by omega
      by_cases hc2 : c < 1000000000000000000
      · simp [c_law_take, ini, hm, atI, ixN, hd, hl, hs, hn, hk, hk2, e2, hcl, hc2, h0, h1, hr, he]
        exact ⟨k + 1, ⟨_, rfl⟩, by omega⟩
      · simp [c_law_take, ini, hm, atI, ixN, hd, hl, hs, hn, hk, hk2, e2, hcl, hc2, h0, h1, hr, he]
        exact ⟨k + 1, ⟨_, rfl⟩, by omega⟩
    · have hn : (cs.length : Int) < k + 1 := by omega
      simp [c_law_take, ini, hm, atI, ixN, hd, hl, hn, hs, h0, h1, hr, he]
      exact ⟨k + 1, ⟨_, rfl⟩, by omega⟩
  · simp [c_law_take, ini, hm, atI, ixN, hd, hs, h0, h1, hr]
    exact ⟨k, ⟨_, rfl⟩, hk⟩
theorem take_b (hc : Cd 11 = some ⟨6, 2, c_law_take, id, none⟩) (n : Nat) (hn : 1 ≤ n) {m : List MO} {i : Nat} {b : MO} {many : Int} (hm : m[i]? = some b) (hb : FdB b) (h0 : 0 < many) (h1 : many < 1073741824) :
    ∃ (r : Int) (b' : MO), Pn Cd Gm n 11 [.adr i, .int many] m = some (.val (.int r), m.set i b') ∧ FdB b' ∧ 0 ≤ r ∧ r < many := by
  obtain ⟨cs, k, d, mk, rfl, hI, hk⟩ := hb
  obtain ⟨n, rfl⟩ : ∃ n', n = n' + 1 := ⟨n - 1, by omega⟩
  obtain ⟨x, m', e, r, k', d', rfl, rfl, q1, q2, q3⟩ := take_ok (Gm := Gm) hc n hm hI hk h0 h1
  exact ⟨r, _, e, ⟨cs, k', d', mk, rfl, hI, q3⟩, q1, q2⟩
theorem of_lst (hc : Cd 12 = some ⟨2, 2, c_law_of, id, none⟩) (ht : Cd 11 = some ⟨6, 2, c_law_take, id, none⟩) (n : Nat) (hn : 2 ≤ n) {m : List MO} {i : Nat} {b : MO} {ds : List D} (hm : m[i]? = some b) (hb : FdB b) (h0 : 0 < ds.length) (h1 : ds.length ≤ 16777216) :
    ∃ (d : D) (b' : MO), Pn Cd Gm n 12 [.adr i, .lst ds] m = some (.val d, m.set i b') ∧ FdB b' ∧ d ∈ ds := by
  obtain ⟨n, rfl⟩ : ∃ n', n = n' + 1 := ⟨n - 1, by omega⟩
  obtain ⟨r, b', e, q1, q2, q3⟩ := take_b (Gm := Gm) ht n (by omega) (many := ds.length) hm hb (by omega) (by omega)
  have hr : r.toNat < ds.length := by omega
  refine ⟨ds[r.toNat], b', ?_, q1, List.getElem_mem hr⟩
  rw [Pn_def hc]
  simp [c_law_of, ini, e, atI, ixN, q2, q3, hr]
theorem of_str (hc : Cd 12 = some ⟨2, 2, c_law_of, id, none⟩) (ht : Cd 11 = some ⟨6, 2, c_law_take, id, none⟩) (n : Nat) (hn : 2 ≤ n) {m : List MO} {i : Nat} {b : MO} {z : List Nat} (hm : m[i]? = some b) (hb : FdB b) (h0 : 0 < z.length) (h1 : z.length ≤ 16777216) :
    ∃ (c : Nat) (b' : MO), Pn Cd Gm n 12 [.adr i, .str (tx z)] m = some (.val (.str (tx [c])), m.set i b') ∧ FdB b' ∧ c ∈ z := by
  obtain ⟨n, rfl⟩ : ∃ n', n = n' + 1 := ⟨n - 1, by omega⟩
  obtain ⟨r, b', e, q1, q2, q3⟩ := take_b (Gm := Gm) ht n (by omega) (many := z.length) hm hb (by omega) (by omega)
  have hr : r.toNat < z.length := by omega
  refine ⟨z[r.toNat], b', ?_, q1, List.getElem_mem hr⟩
  rw [Pn_def hc]
  have q := ix_tx (l := z) (x := r) ⟨[some (.val (.adr i)), some (.val (.str (tx z)))], m.set i b'⟩ q2 q3 h1
  rw [List.getD_eq_getElem?_getD, List.getElem?_eq_getElem hr] at q
  simp [c_law_of, ini, tx_len, e, h1, q]
theorem zip_self (ds : List D) : List.zipWith (fun p q => D.tup [p, q]) ds ds = ds.map fun p => D.tup [p, p] := by
  induction ds with
  | nil => rfl
  | cons d ds ih => simp [ih]
theorem bls_true (l : List D) (h : ∀ d ∈ l, d = .bl true) : ∃ bs, blsOf l = some bs ∧ bs.all id = true := by
  induction l with
  | nil => exact ⟨[], rfl, rfl⟩
  | cons d l ih =>
    obtain ⟨bs, e1, e2⟩ := ih fun x hx => h x (List.mem_cons_of_mem _ hx)
    have e := h d (List.mem_cons_self ..)
    subst e
    exact ⟨true :: bs, by simp [blsOf, e1], by simp [e2]⟩
def smD : Nat → D → Bool
  | n + 1, .lst ds => decide (ds.length ≤ big) && ds.all (smD n)
  | n + 1, .tup ds => decide (ds.length ≤ big) && ds.all (smD n)
  | _, .non => true
  | _, .bl _ => true
  | _, .int _ => true
  | _, .str _ => true
  | _, _ => false
theorem same_refl (hc : Cd 13 = some ⟨5, 2, c_law_same, id, none⟩) : ∀ (k : Nat) (d : D) (m : List MO), smD k d = true → ∀ n, k < n → Pn Cd Gm n 13 [d, d] m = some (.val (.bl true), m) := by
  intro k
  induction k with
  | zero =>
    intro d m hd n hn
    obtain ⟨n, rfl⟩ : ∃ n', n = n' + 1 := ⟨n - 1, by omega⟩
    rw [Pn_def hc]
    cases d <;> first | (cases hd; done) | simp [c_law_same, ini, tyAny, tyIs, kIsn]
  | succ k ih =>
    intro d m hd n hn
    obtain ⟨n, rfl⟩ : ∃ n', n = n' + 1 := ⟨n - 1, by omega⟩
    have key : ∀ (r : List (Option Cell)) (ds : List D), ds.all (smD k) = true → ds.length ≤ big → r.length = 5 → ∃ bs, (compL (store (.tt [3, 4])) (ev (Pn Cd Gm n) Gm (.cst (.bl true))) (ev (Pn Cd Gm n) Gm (.cal 13 (.cns (.var 3) (.cns (.var 4) .nil)))) r (ds.map fun p => D.tup [p, p]) [] m = some (.fr (.bx bs), ⟨r, m⟩)) ∧ ∃ qs, blsOf bs = some qs ∧ qs.all id = true := by
      intro r ds hds hl hr
      match r, hr with
      | [a, b, c, e, f], _ =>
      refine ⟨_, compL_map (fun _ => true) (fun _ => .bl true) _ _ _ (fun d hd => ?_) (by simpa using hl), bls_true _ fun d hd => ?_⟩
      · obtain ⟨p, hp, rfl⟩ := List.mem_map.mp hd
        have e := ih p m (List.all_eq_true.mp hds p hp) n (by omega)
        simp [store, storeAll, e]
      · obtain ⟨_, _, e⟩ := List.mem_map.mp hd
        exact e.symm
    rw [Pn_def hc]
    cases d with
    | lst ds =>
      simp only [smD, Bool.and_eq_true, decide_eq_true_eq] at hd
      obtain ⟨bs, e1, qs, e2, e3⟩ := key [some (.val (.lst ds)), some (.val (.lst ds)), none, none, none] ds hd.2 hd.1 rfl
      simp [c_law_same, ini, tyAny, tyIs, kIsn, zip_self, valR, wipeR, e1, all_l e2, e3]
    | tup ds =>
      simp only [smD, Bool.and_eq_true, decide_eq_true_eq] at hd
      obtain ⟨bs, e1, qs, e2, e3⟩ := key [some (.val (.tup ds)), some (.val (.tup ds)), none, none, none] ds hd.2 hd.1 rfl
      simp [c_law_same, ini, tyAny, tyIs, kIsn, zip_self, valR, wipeR, e1, all_l e2, e3]
    | _ => first | (cases hd; done) | simp [c_law_same, ini, tyAny, tyIs, kIsn]
def nmL (w : List Nat) (k r j : Nat) : List Nat := w.take k ++ [az.getD ((r + 7 * j) % 26) 0] ++ w.drop k
def NmD (d : D) : Prop := ∃ l : List Nat, d = .str (tx l) ∧ 1 ≤ l.length ∧ l.length ≤ 5 ∧ ∀ c ∈ l, c ∈ az
theorem store_len {b b' : MO} {m : List MO} {i : Nat} (hm : m[i]? = some b) : (m.set i b')[i]? = some b' := List.getElem?_set_self (List.getElem?_eq_some_iff.mp hm).1
def Fdm (i : Nat) (m m' : List MO) : Prop := ∃ b, m' = m.set i b ∧ FdB b
theorem names_okx (hc : Cd 14 = some ⟨7, 2, c_law_new_names, id, none⟩) (ho : Cd 12 = some ⟨2, 2, c_law_of, id, none⟩) (ht : Cd 11 = some ⟨6, 2, c_law_take, id, none⟩) (n : Nat) (hn : 3 ≤ n) {m : List MO} {i : Nat} {b : MO} {many : Int} (hm : m[i]? = some b) (hb : FdB b) (hm0 : 0 ≤ many) (hmy : many ≤ 1000) :
    ∃ (w : List Nat) (k r : Nat) (b' : MO), Pn Cd Gm n 14 [.adr i, .int many] m = some (.fr (.bx ((List.range many.toNat).map fun j => .str (tx (nmL w k r j)))), m.set i b') ∧ FdB b' ∧ w.length ≤ 4 ∧ k ≤ w.length ∧ (∀ c ∈ w, c ∈ az) ∧ r < 26 := by
  obtain ⟨n, rfl⟩ : ∃ n', n = n' + 1 := ⟨n - 1, by omega⟩
  -- how many letters
  obtain ⟨r1, b1, e1, f1, p1, p2⟩ := take_b (Gm := Gm) ht n (by omega) (many := 5) hm hb (by omega) (by omega)
  -- the stem
  obtain ⟨ys, m2, e2, l2, q2, b2, rfl, f2⟩ := compL_inv (st := store (.tn 6)) (cd := ev (Pn Cd Gm n) Gm (.cst (.bl true))) (el := ev (Pn Cd Gm n) Gm (.cal 12 (.cns (.var 0) (.cns (.var 2) .nil)))) (r := [some (.val (.adr i)), some (.val (.int many)), some (.val (.str (tx az))), none, none, none, none])
    (Fdm i m) (fun d => ∃ c, d = .str (tx [c]) ∧ c ∈ az) ((List.range r1.toNat).map fun (k : Nat) => D.int k) [] (m.set i b1) ⟨b1, rfl, f1⟩ (by
      rintro d hd m' ⟨b2, rfl, f2⟩
      obtain ⟨c, b3, e, g1, g2⟩ := of_str (Gm := Gm) ho ht n (by omega) (z := az) (store_len (b' := b2) hm) f2 (by rw [az_len]; omega) (by rw [az_len]; omega)
      simp [store, e]
      exact ⟨_, _, ⟨rfl, rfl⟩, ⟨b3, rfl, g1⟩, c, rfl, g2⟩) (by simp; unfold big; omega)
  obtain ⟨w, rfl⟩ : ∃ w : List Nat, ys = w.map fun c => .str (tx [c]) := by
    clear e2 l2
    induction ys with
    | nil => exact ⟨[], rfl⟩
    | cons y ys ih =>
      obtain ⟨c, rfl, _⟩ := q2 y (List.mem_cons_self ..)
      obtain ⟨w, rfl⟩ := ih fun z hz => q2 z (List.mem_cons_of_mem _ hz)
      exact ⟨c :: w, rfl⟩
  have hw : ∀ c ∈ w, c ∈ az := fun c hcw => by
    obtain ⟨c', e, h⟩ := q2 _ (List.mem_map.mpr ⟨c, hcw, rfl⟩)
    cases e
    exact h
  have lw : w.length = r1.toNat := by simpa using l2
  rw [Pn_def hc]
  have u1 : -4611686018427387904 ≤ r1 := by omega
  have u2 : r1 < 4611686018427387904 := by omega
  have e3 := join_one w
  -- where, and the first sign
  obtain ⟨r2, b3, e4, f3, p3, p4⟩ := take_b (Gm := Gm) ht n (by omega) (many := w.length + 1) (store_len (b' := b2) hm) f2 (by omega) (by omega)
  obtain ⟨r3, b4, e5, f4, p5, p6⟩ := take_b (Gm := Gm) ht n (by omega) (many := 26) (store_len (b' := b3) hm) f3 (by omega) (by omega)
  rw [List.set_set] at e4
  rw [List.set_set] at e5
  obtain ⟨k, rfl⟩ : ∃ k : Nat, r2 = k := ⟨r2.toNat, by omega⟩
  obtain ⟨r3, rfl⟩ : ∃ r : Nat, r3 = r := ⟨r3.toNat, by omega⟩
  have u3 : w.length ≤ 16777216 := by omega
  have e6 : compL (store (.tn 6)) (ev (Pn Cd Gm n) Gm (.cst (.bl true))) (ev (Pn Cd Gm n) Gm (.bop .add (.bop .add (.sl (.var 3) .abs (.one (.var 4))) (.ix (.var 2) (.bop .mod (.bi .int (.cns (.bop .add (.var 5) (.bop .mul (.cst (.int 7)) (.var 6))) .nil)) (.cst (.int 26))))) (.sl (.var 3) (.one (.var 4)) .abs)))
    [some (.val (.adr i)), some (.val (.int many)), some (.val (.str (tx az))), some (.val (.str (tx w))), some (.val (.int k)), some (.val (.int r3)), none] ((List.range many.toNat).map fun (k : Nat) => D.int k) [] (m.set i b4) = some (.fr (.bx ((List.range many.toNat).map fun j => .str (tx (nmL w k r3 j)))), ⟨[some (.val (.adr i)), some (.val (.int many)), some (.val (.str (tx az))), some (.val (.str (tx w))), some (.val (.int k)), some (.val (.int r3)), none], m.set i b4⟩) := by
    have e := compL_all (st := store (.tn 6)) (cd := ev (Pn Cd Gm n) Gm (.cst (.bl true))) (el := ev (Pn Cd Gm n) Gm (.bop .add (.bop .add (.sl (.var 3) .abs (.one (.var 4))) (.ix (.var 2) (.bop .mod (.bi .int (.cns (.bop .add (.var 5) (.bop .mul (.cst (.int 7)) (.var 6))) .nil)) (.cst (.int 26))))) (.sl (.var 3) (.one (.var 4)) .abs))) (r := [some (.val (.adr i)), some (.val (.int many)), some (.val (.str (tx az))), some (.val (.str (tx w))), some (.val (.int k)), some (.val (.int r3)), none])
        (fun d => match d with
          | .int j => .str (tx (w.take k ++ [az.getD (((r3 : Int) + 7 * j) % 26).toNat 0] ++ w.drop k))
          | _ => .non) ((List.range many.toNat).map fun (k : Nat) => D.int k) [] (m.set i b4) (by
          intro d hd
          obtain ⟨j, _, rfl⟩ := List.mem_map.mp hd
          have q := ix_tx (l := az) (x := ((r3 : Int) + 7 * (j : Int)) % 26) ⟨[some (.val (.adr i)), some (.val (.int many)), some (.val (.str (tx az))), some (.val (.str (tx w))), some (.val (.int k)), some (.val (.int r3)), some (.val (.int j))], m.set i b4⟩ (by omega) (by rw [az_len]; omega) (by rw [az_len]; omega)
          have v1 : min k w.length + 1 ≤ 16777216 := by omega
          have v2 : min k w.length + 1 + (w.length - k) ≤ 16777216 := by omega
          simp [store, tx_len, u3, tx_to, tx_from, q, tx_cat, v1, v2]) (by simp; unfold big; omega)
    rw [e, List.nil_append, List.map_map]
    congr 4
  have u4 : many < 4611686018427387904 := by omega
  have u5 : -4611686018427387904 ≤ many := by omega
  refine ⟨w, k, r3, b4, ?_, f4, by omega, by omega, hw, by omega⟩
  simp [c_law_new_names, store, storeAll, ini, e1, p1, u1, u2, valR, wipeR, e2, e3, u3, tx_len, e4, e5, u4, u5, e6]
theorem nmL_len {w : List Nat} {k r j : Nat} (h : k ≤ w.length) : (nmL w k r j).length = w.length + 1 := by
  unfold nmL
  simp
  omega
theorem nmL_az {w : List Nat} {k r j : Nat} (hw : ∀ c ∈ w, c ∈ az) : ∀ c ∈ nmL w k r j, c ∈ az := by
  intro c hc
  unfold nmL at hc
  simp only [List.mem_append, List.mem_singleton] at hc
  rcases hc with (hc | rfl) | hc
  · exact hw c (List.mem_of_mem_take hc)
  · exact getD_mem (by rw [az_len]; omega)
  · exact hw c (List.mem_of_mem_drop hc)
end
end En

namespace En
open PySem PySem.Spec L2
section
variable {Cd : Nat → Option Ent} {Gm : Nat → D}
def isWord : D → Bool
  | .str z => decide (1 ≤ z.length ∧ z.length ≤ 6) && z.cps.toList.all fun c => decide (c ∈ az)
  | _ => false
def isDate : D → Bool
  | .int i => decide (0 ≤ i ∧ i ≤ 9999)
  | _ => false
def tellD : D → Bool
  | .str z => decide (z.length ≤ 16777216)
  | .obj _ _ _ => false
  | .adr _ => false
  | .fzl _ => false
  | _ => true
theorem word_ok (hc : Cd 0 = some ⟨2, 1, c_is_word, id, none⟩) (g0 : Gm 0 = .str (tx az)) (g1 : Gm 1 = .int 6) (n : Nat) (hn : 1 ≤ n) (d : D) (m : List MO) (hd : tellD d = true) : Pn Cd Gm n 0 [d] m = some (.val (.bl (isWord d)), m) := by
  obtain ⟨n, rfl⟩ : ∃ n', n = n' + 1 := ⟨n - 1, by omega⟩
  rw [Pn_def hc]
  cases d with
  | str z =>
    have hz : z.length ≤ 16777216 := by simpa [tellD] using hd
    by_cases h1 : 1 ≤ z.length
    · by_cases h2 : z.length ≤ 6
      · have e := compL_all (st := store (.tn 1)) (cd := ev (Pn Cd Gm n) Gm (.cst (.bl true))) (el := ev (Pn Cd Gm n) Gm (.cmp .isin (.var 1) (.gv 0))) (r := [some (.val (.str z)), none]) (fun d => match d with
          | .str a => .bl (a.cps.toList.all fun c => decide (c ∈ az))
          | _ => .non) (z.cps.toList.map fun c => D.str ⟨#[c]⟩) [] m (fun d hd => by
            obtain ⟨c, _, rfl⟩ := List.mem_map.mp hd
            simp [store, g0]) (by
            have : z.cps.toList.length = z.length := by simp [Str.length]
            simp only [List.length_nil, List.length_map, Nat.zero_add, this]
            exact hz)
        have e2 : ∀ l : List Nat, blsOf ((l.map fun c => D.str ⟨#[c]⟩).map (fun d => match d with
          | .str a => .bl (a.cps.toList.all fun c => decide (c ∈ az))
          | _ => .non)) = some (l.map fun c => decide (c ∈ az)) := by
          intro l
          induction l with
          | nil => rfl
          | cons c l ih => simp only [List.map_cons, blsOf, ih]; simp
        have e3 := all_l (s := ⟨[some (.val (.str z)), none], m⟩) (e2 z.cps.toList)
        obtain ⟨ws, e, e3⟩ : ∃ ws, compL (store (.tn 1)) (ev (Pn Cd Gm n) Gm (.cst (.bl true))) (ev (Pn Cd Gm n) Gm (.cmp .isin (.var 1) (.gv 0))) [some (.val (.str z)), none] (z.cps.toList.map fun c => D.str ⟨#[c]⟩) [] m = some (.fr (.bx ws), ⟨[some (.val (.str z)), none], m⟩) ∧
          biF .all [.lst ws] ⟨[some (.val (.str z)), none], m⟩ = some (.val (.bl (isWord (.str z))), ⟨[some (.val (.str z)), none], m⟩) := by
          refine ⟨_, e, ?_⟩
          rw [List.nil_append, e3]
          have q : (List.map (fun c => decide (c ∈ az)) z.cps.toList).all id = isWord (.str z) := by
            show _ = (decide (1 ≤ z.length ∧ z.length ≤ 6) && z.cps.toList.all fun c => decide (c ∈ az))
            rw [decide_eq_true (And.intro h1 h2), Bool.true_and, List.all_map]
            rfl
          rw [q]
        have i1 : (1 : Int) ≤ z.length := by omega
        have i2 : (z.length : Int) ≤ 6 := by omega
        simp [c_is_word, ini, tyAny, tyIs, hz, i1, i2, g1, valR, wipeR, itemsOf, e, e3]
      · have i1 : (1 : Int) ≤ z.length := by omega
        have i2 : ¬ (z.length : Int) ≤ 6 := by omega
        have w : isWord (.str z) = false := by simp [isWord, h2]
        simp [c_is_word, ini, tyAny, tyIs, hz, i1, i2, g1, w]
    · have i1 : ¬ (1 : Int) ≤ z.length := by omega
      have w : isWord (.str z) = false := by simp [isWord, h1]
      simp [c_is_word, ini, tyAny, tyIs, hz, i1, g1, w]
  | _ => first | (cases hd; done) | simp [c_is_word, ini, tyAny, tyIs, isWord]
theorem date_ok (hc : Cd 2 = some ⟨1, 1, c_is_date, id, none⟩) (hk : Cd 1 = some ⟨3, 3, c_is_number, id, none⟩) (g2 : Gm 2 = .int 9999) (n : Nat) (hn : 2 ≤ n) (d : D) (m : List MO) (hd : tellD d = true) : Pn Cd Gm n 2 [d] m = some (.val (.bl (isDate d)), m) := by
  obtain ⟨n, rfl⟩ : ∃ n', n = n' + 2 := ⟨n - 2, by omega⟩
  have key : Pn Cd Gm (n + 1) 1 [d, .int 0, .int 9999] m = some (.val (.bl (isDate d)), m) := by
    rw [Pn_def hk]
    cases d with
    | int i =>
      by_cases h1 : 0 ≤ i
      · simp [c_is_number, ini, tyAny, tyIs, h1, isDate]
      · simp [c_is_number, ini, tyAny, tyIs, h1, isDate]
    | _ => first | (cases hd; done) | simp [c_is_number, ini, tyAny, tyIs, isDate]
  rw [Pn_def hc]
  simp [c_is_date, ini, g2, key]
end
end En

namespace En
open PySem PySem.Spec L2
theorem TabS.at {Cd : Nat → Option Ent} {l : List Nat} (T : TabS CdS Cd l) (f : Nat) {e : Ent} (hf : f ∈ l := by decide) (he : CdS f = some e := by rfl) : Cd f = some e := (T f hf).trans he
section
variable {st : D → S → Option S} {body : S → Res} {s : S}
def forR2 (st : D → S → Option S) (body : S → Res) (ds : List D) : Res → Res
  | some (.nx, s2) => forL st body ds s2
  | some (.ct, s2) => forL st body ds s2
  | some (.bk, s2) => some (.nx, s2)
  | r => r
def forR1 (st : D → S → Option S) (body : S → Res) (ds : List D) : Option S → Res
  | some s => forR2 st body ds (body s)
  | none => none
theorem forL_nil : forL st body [] s = some (.nx, s) := by rw [forL]
theorem forL_cons {d : D} {ds : List D} : forL st body (d :: ds) s = forR1 st body ds (st d s) := by
  rw [forL]
  unfold forR1 forR2
  cases st d s with
  | none => rfl
  | some s1 =>
    show (match body s1 with
      | some (.nx, s2) => forL st body ds s2
      | some (.ct, s2) => forL st body ds s2
      | some (.bk, s2) => some (.nx, s2)
      | r => r) = forR2 st body ds (body s1)
    unfold forR2
    cases body s1 with
    | none => rfl
    | some p =>
      obtain ⟨o, s2⟩ := p
      cases o <;> rfl
@[simp] theorem forR1_eq {ds : List D} : forR1 st body ds (some s) = forR2 st body ds (body s) := id rfl
@[simp] theorem forR2_nx {ds : List D} : forR2 st body ds (some (.nx, s)) = forL st body ds s := id rfl
@[simp] theorem forR2_ct {ds : List D} : forR2 st body ds (some (.ct, s)) = forL st body ds s := id rfl
@[simp] theorem forR2_bk {ds : List D} : forR2 st body ds (some (.bk, s)) = some (.nx, s) := id rfl
@[simp] theorem forR2_rt {ds : List D} {x : D} : forR2 st body ds (some (.rt x, s)) = some (.rt x, s) := id rfl
@[simp] theorem forR2_rtf {ds : List D} {x : MO} : forR2 st body ds (some (.rtf x, s)) = some (.rtf x, s) := id rfl
@[simp] theorem forR2_exc {ds : List D} {c : Nat} {ns : List Nat} {es : List D} : forR2 st body ds (some (.exc c ns es, s)) = some (.exc c ns es, s) := id rfl
def cmpR3 (st : D → S → Option S) (cd el : S → Res) (r : List (Option Cell)) (ds acc : List D) (y : D) (s : S) : Res := if acc.length < big then compL st cd el r ds (acc ++ [y]) s.m else none
def cmpR2 (st : D → S → Option S) (cd el : S → Res) (r : List (Option Cell)) (ds acc : List D) (c : D) (s : S) : Res := match c with
  | .bl true => bnd (el s) (cmpR3 st cd el r ds acc)
  | .bl false => compL st cd el r ds acc s.m
  | _ => none
def cmpR1 (st : D → S → Option S) (cd el : S → Res) (r : List (Option Cell)) (ds acc : List D) : Option S → Res
  | some s => bnd (cd s) (cmpR2 st cd el r ds acc)
  | none => none
variable {cd el : S → Res} {r : List (Option Cell)} {ds acc : List D} {m : List MO}
@[simp] theorem cmpR1_eq : cmpR1 st cd el r ds acc (some s) = bnd (cd s) (cmpR2 st cd el r ds acc) := id rfl
@[simp] theorem cmpR2_t : cmpR2 st cd el r ds acc (.bl true) s = bnd (el s) (cmpR3 st cd el r ds acc) := id rfl
@[simp] theorem cmpR2_f : cmpR2 st cd el r ds acc (.bl false) s = compL st cd el r ds acc s.m := id rfl
@[simp] theorem cmpR3_eq {y : D} (h : acc.length < 16777216) : cmpR3 st cd el r ds acc y s = compL st cd el r ds (acc ++ [y]) s.m := if_pos h
def valC : Option Cell → Option Cell
  | some (.val d) => some (.val d)
  | _ => none
@[simp] theorem valC_v {d : D} : valC (some (.val d)) = some (.val d) := id rfl
@[simp] theorem valC_n : valC none = none := id rfl
end
section
variable {Cd : Nat → Option Ent}
@[simp] theorem frz_obl {lk : Bool} {m l : List MO} {n c : Nat} {ns : List Nat} {ds : List D} : frz lk (m ++ (.ob c ns ds :: l)) m.length (n + 1) m.length = (mapDs (frz lk (m ++ (.ob c ns ds :: l)) m.length n) ds).map (D.obj c ns) := frz_ob (Nat.lt_irrefl _) at_last
@[simp] theorem frz_bxl {lk : Bool} {m l : List MO} {n : Nat} {ds : List D} : frz lk (m ++ (.bx ds :: l)) m.length (n + 1) m.length = (mapDs (frz lk (m ++ (.bx ds :: l)) m.length n) ds).map D.lst := frz_bx (Nat.lt_irrefl _) at_last
def lab (k w b f l : D) : D := .obj 0 [0, 1, 2, 3, 4] [k, w, b, f, l]
theorem isWord_str {d : D} (h : isWord d = true) : ∃ z : Str, d = .str z ∧ 1 ≤ z.length ∧ z.length ≤ 6 := by
  cases d with
  | str z =>
    simp only [isWord, Bool.and_eq_true, decide_eq_true_eq] at h
    exact ⟨z, rfl, h.1.1, h.1.2⟩
  | _ => cases h
theorem isWord_tell {d : D} (h : isWord d = true) : tellD d = true := by
  obtain ⟨z, rfl, _, h2⟩ := isWord_str h
  show decide (z.length ≤ 16777216) = true
  exact decide_eq_true (by omega)
theorem label_ok (T : TabS CdS Cd [0, 1, 2, 1000]) {fid N0 p0 : Nat} {c0 : E} {g : List D → List D} (hf : Cd fid = some ⟨N0, p0, c0, g, some (0, 1000)⟩) (n : Nat) (hn : 3 ≤ n) {ds : List D} {m : List MO} {k w b l : D} {f : Int}
    (e : g ds = [k, w, b, .int f, l]) (hk : isWord k = true) (hw : isWord w = true) (hb : isWord b = true) (hf0 : 0 ≤ f) (hf1 : f ≤ 9999) {i : Int} (hl : (l = .non ∧ i = f) ∨ (l = .int i ∧ f ≤ i ∧ i ≤ 9999)) :
    Pn Cd GmS n fid ds m = some (.val (lab k w b (.int f) (.int i)), m) := by
  obtain ⟨n, rfl⟩ : ∃ n', n = n' + 1 := ⟨n - 1, by omega⟩
  have w0 := fun (d : D) (m : List MO) (h : isWord d = true) => h ▸ word_ok (Gm := GmS) (T.at 0) rfl rfl n (by omega) d m (isWord_tell h)
  have d0 := fun (i : Int) (m : List MO) => date_ok (Gm := GmS) (T.at 2) (T.at 1) rfl n (by omega) (.int i) m rfl
  have df : isDate (.int f) = true := decide_eq_true ⟨hf0, hf1⟩
  obtain ⟨k, rfl, _⟩ := isWord_str hk
  obtain ⟨w, rfl, _⟩ := isWord_str hw
  obtain ⟨b, rfl, _⟩ := isWord_str hb
  rw [Pn_mk hf (T.at 1000), e]
  rcases hl with ⟨rfl, rfl⟩ | ⟨rfl, h1, h2⟩
  · simp [c_Label_init, ini, itemsOf, forL_cons, forL_nil, store, w0 _ _ hk, w0 _ _ hw, w0 _ _ hb, d0, df, kNin, kIsn, lab]
  · have di : isDate (.int i) = true := decide_eq_true ⟨by omega, h2⟩
    have h3 : ¬ i < f := by omega
    simp [c_Label_init, ini, itemsOf, forL_cons, forL_nil, store, w0 _ _ hk, w0 _ _ hw, w0 _ _ hb, d0, df, di, h3, kNin, kIsn, lab]
@[simp] theorem app_empty (x : Str) : x ++ Str.empty = x := by
  have h := tx_cat x.cps.toList []
  rw [tx_tl, List.append_nil, tx_tl] at h
  exact h
@[simp] theorem str_i {i : Int} {s : S} (h : i.natAbs.log2 < 1920) : biF .str [.int i] s = some (.val (.str (toString i : String)), s) := if_pos h
def isIn (f l : Int) : D → Bool
  | .int i => decide (f ≤ i ∧ i ≤ l)
  | _ => false
def tellN : D → Bool
  | .obj _ _ _ => false
  | .adr _ => false
  | .fzl _ => false
  | _ => true
section
variable {b : Bool} {i f l : Int} {z : Str} {ds : List D}
@[simp] theorem tellN_n : tellN .non = true := id rfl
@[simp] theorem tellN_b : tellN (.bl b) = true := id rfl
@[simp] theorem tellN_i : tellN (.int i) = true := id rfl
@[simp] theorem tellN_s : tellN (.str z) = true := id rfl
@[simp] theorem tellN_l : tellN (.lst ds) = true := id rfl
@[simp] theorem tellN_t : tellN (.tup ds) = true := id rfl
@[simp] theorem isIn_n : isIn f l .non = false := id rfl
@[simp] theorem isIn_b : isIn f l (.bl b) = false := id rfl
@[simp] theorem isIn_s : isIn f l (.str z) = false := id rfl
@[simp] theorem isIn_l : isIn f l (.lst ds) = false := id rfl
@[simp] theorem isIn_t : isIn f l (.tup ds) = false := id rfl
end
theorem number_ok (T : TabS CdS Cd [1]) (n : Nat) (hn : 1 ≤ n) (d : D) (m : List MO) (f l : Int) (hd : tellN d = true) : Pn Cd GmS n 1 [d, .int f, .int l] m = some (.val (.bl (isIn f l d)), m) := by
  obtain ⟨n, rfl⟩ : ∃ n', n = n' + 1 := ⟨n - 1, by omega⟩
  rw [Pn_def (T.at 1)]
  cases d with
  | int i =>
    by_cases h1 : f ≤ i
    · simp [c_is_number, ini, tyAny, tyIs, h1, isIn]
    · simp [c_is_number, ini, tyAny, tyIs, h1, isIn]
  | _ => first | (cases hd; done) | simp [c_is_number, ini, tyAny, tyIs, isIn]
theorem parts_ok (T : TabS CdS Cd [2035]) (n : Nat) (hn : 1 ≤ n) {m : List MO} {k w b f l : D} : Pn Cd GmS n 2035 [lab k w b f l] m = some (.val (.tup [k, w, b, f, l]), m) := by
  obtain ⟨n, rfl⟩ : ∃ n', n = n' + 1 := ⟨n - 1, by omega⟩
  rw [Pn_def (T.at 2035)]
  simp [c_Label_parts, ini, gdF, lay, Src.at, lab]
theorem labEq_ok (T : TabS CdS Cd [2005, 2035]) (n : Nat) (hn : 2 ≤ n) {m : List MO} {k w b k' w' b' : Str} {f l f' l' : Int} : Pn Cd GmS n 2005 [lab (.str k) (.str w) (.str b) (.int f) (.int l), lab (.str k') (.str w') (.str b') (.int f') (.int l')] m =
    some (.val (.bl (k == k' && (w == w' && (b == b' && (f == f' && l == l'))))), m) := by
  obtain ⟨n, rfl⟩ : ∃ n', n = n' + 1 := ⟨n - 1, by omega⟩
  have h := fun {m k w b f l} => parts_ok (T.sub (l' := [2035]) rfl) n (by omega) (m := m) (k := k) (w := w) (b := b) (f := f) (l := l)
  simp only [lab] at h
  rw [Pn_def (T.at 2005)]
  simp [c_Label_eq, ini, gdF, lay, Src.at, lab, h, tyAny, tyIs, subC, t_parts_0]
end
end En

namespace En
open PySem PySem.Spec L2
section
variable {Cd : Nat → Option Ent}
def Row.lab (r : Row) : D := En.lab (.str (tx r.k)) (.str (tx r.w)) (.str (tx r.b)) (.int r.f) (.int r.l)
def Row.ok (r : Row) : Prop := isWord (.str (tx r.k)) = true ∧ isWord (.str (tx r.w)) = true ∧ isWord (.str (tx r.b)) = true ∧ 0 ≤ r.f ∧ r.f ≤ r.l ∧ r.l ≤ 9999
end
end En

namespace En
open PySem PySem.Spec L2
abbrev sD (l : List Nat) : D := .str (tx l)
@[simp] theorem tx_beq {a b : List Nat} : (tx a == tx b) = decide (a = b) := by
  by_cases h : a = b
  · subst h; simp
  · rw [decide_eq_false h]
    exact beq_false_of_ne fun e => h (tx_inj.mp e)
def Clo (n : Nat) (o : MO) : Prop := ∀ f : Nat → Option D, (∀ j, j < n → f j = some (.adr j)) → mapDs f o.ds = some o.ds
def ClM (m : List MO) : Prop := ∀ o ∈ m, Clo m.length o
theorem Clo.fz {n : Nat} {o : MO} (h : Clo n o) (lk : Bool) (m : List MO) {k : Nat} (hk : n ≤ k) : frzM lk m k o = some o := by
  have e := h (frz lk m k 16) fun j hj => frz_low (by omega)
  cases o with
  | bx ds => show (mapDs _ ds).map MO.bx = _; rw [show mapDs (En.frz lk m k 16) ds = some ds from e]; rfl
  | ob c ns ds => show (mapDs _ ds).map (MO.ob c ns) = _; rw [show mapDs (En.frz lk m k 16) ds = some ds from e]; rfl
  | dx ks ds => show (mapDs _ ds).map (MO.dx ks) = _; rw [show mapDs (En.frz lk m k 16) ds = some ds from e]; rfl
  | dl ks ds => show (mapDs _ ds).map (MO.dl ks) = _; rw [show mapDs (En.frz lk m k 16) ds = some ds from e]; rfl
  | ll ds => show (mapDs _ ds).map MO.ll = _; rw [show mapDs (En.frz lk m k 16) ds = some ds from e]; rfl
theorem Pu.str (z : Str) : Pu (.str z) := fun _ => rfl
theorem Pu.int (i : Int) : Pu (.int i) := fun _ => rfl
theorem Pu.obj {c : Nat} {ns : List Nat} {ds : List D} (h : ∀ d ∈ ds, Pu d) : Pu (.obj c ns ds) := fun f => by rw [mapD_obj, Pu.all h]; rfl
theorem Pu.lst {ds : List D} (h : ∀ d ∈ ds, Pu d) : Pu (.lst ds) := fun f => by rw [mapD_lst, Pu.all h]; rfl
theorem Pu.tup {ds : List D} (h : ∀ d ∈ ds, Pu d) : Pu (.tup ds) := fun f => by rw [mapD_tup, Pu.all h]; rfl
theorem Pu.dct {ks : List Key} {ds : List D} (h : ∀ d ∈ ds, Pu d) : Pu (.dct ks ds) := fun f => by rw [mapD_dct, Pu.all h]; rfl
theorem Pu.clo {n : Nat} {o : MO} (h : ∀ d ∈ o.ds, Pu d) : Clo n o := fun f _ => Pu.all h f
theorem Row.pu (r : Row) : Pu r.lab := Pu.obj fun d hd => by
  simp only [List.mem_cons, List.not_mem_nil, or_false] at hd
  rcases hd with rfl | rfl | rfl | rfl | rfl <;> first | exact Pu.str _ | exact Pu.int _
theorem FdB.clo {b : MO} (h : FdB b) (n : Nat) : Clo n b := by
  obtain ⟨cs, k, d, mk, rfl, hI, _⟩ := h
  refine Pu.clo fun x hx => ?_
  simp only [MO.ds, List.mem_cons, List.not_mem_nil, or_false] at hx
  rcases hx with rfl | rfl | rfl | rfl
  · exact Pu.lst fun y hy => by
      obtain ⟨i, rfl⟩ := hI y hy
      exact Pu.int i
  all_goals exact Pu.int _
theorem ClM.nil : ClM [] := fun o h => by cases h
theorem ClM.one {b : MO} (h : Clo 1 b) : ClM [b] := fun o ho => by
  cases List.mem_singleton.mp ho
  exact h
section
variable {Cd : Nat → Option Ent}
@[simp] theorem flat_s {z : Str} : flat (.str z) = true := rfl
@[simp] theorem flat_all (l : List (List Nat)) : (l.map sD).all flat = true := List.all_eq_true.mpr fun d hd => by
  obtain ⟨x, _, rfl⟩ := List.mem_map.mp hd
  rfl
theorem any_sD (l : List (List Nat)) (x : List Nat) : ((l.map sD).any fun z => eqD z (sD x)) = decide (x ∈ l) := by
  rw [Bool.eq_iff_iff, List.any_eq_true, decide_eq_true_eq]
  constructor
  · rintro ⟨d, hd, e⟩
    obtain ⟨y, hy, rfl⟩ := List.mem_map.mp hd
    rw [eqD_s, tx_beq, decide_eq_true_eq] at e
    exact e ▸ hy
  · intro h
    exact ⟨sD x, List.mem_map.mpr ⟨x, h, rfl⟩, by rw [eqD_s, tx_beq, decide_eq_true rfl]⟩
def okT (th : List (List Nat)) : Prop := th ≠ [] ∧ th.length ≤ 8 ∧ th.Nodup ∧ ∀ t ∈ th, isWord (sD t) = true
end
end En

namespace En
open PySem PySem.Spec L2
theorem iBeq (i j : Int) : (i == j) = decide (i = j) := by
  by_cases h : i = j
  · subst h; simp
  · rw [decide_eq_false h]; exact beq_false_of_ne h
section
variable {Cd : Nat → Option Ent}
@[simp] theorem in_ll {x : List Nat} {l : List (List Nat)} {s : S} : inF (.str (tx x)) (.lst (l.map sD)) s = some (decide (x ∈ l)) := by rw [in_l rfl (flat_all l), any_sD]
@[simp] theorem in_tt {x : List Nat} {l : List (List Nat)} {s : S} : inF (.str (tx x)) (.tup (l.map sD)) s = some (decide (x ∈ l)) := by rw [in_t rfl (flat_all l), any_sD]
def okR (th : List (List Nat)) (R : List Row) : Prop := R.length ≤ 16 ∧ (R.map Row.k).Nodup ∧ ∀ r ∈ R, r.b ∈ th
end
end En

namespace En
open PySem PySem.Spec L2
theorem ClM.set {m : List MO} {i : Nat} {b : MO} (h : ClM m) (hb : FdB b) : ClM (m.set i b) := fun o ho => by
  rw [List.length_set]
  rcases List.mem_or_eq_of_mem_set ho with h1 | rfl
  · exact h o h1
  · exact hb.clo _
section
variable {a b c d e : D} {l : List D}
theorem at_0 : atI (a :: l) 0 = some a := by simp [atI, ixN]
theorem at_1 : atI (a :: b :: l) 1 = some b := atI_nat (ds := a :: b :: l) (i := 1) (by simp)
end
def NmL (l : List Nat) : Prop := 1 ≤ l.length ∧ l.length ≤ 5 ∧ ∀ c ∈ l, c ∈ az
theorem NmL.word {l : List Nat} (h : NmL l) : isWord (sD l) = true := by
  obtain ⟨h1, h2, h3⟩ := h
  show (decide (1 ≤ (tx l).length ∧ (tx l).length ≤ 6) && (tx l).cps.toList.all fun c => decide (c ∈ az)) = true
  rw [tx_len, decide_eq_true (And.intro h1 (show l.length ≤ 6 by omega)), Bool.true_and]
  exact List.all_eq_true.mpr fun c hc => decide_eq_true (h3 c (by simpa using hc))
theorem nmL_ok {w : List Nat} {k r j : Nat} (h4 : w.length ≤ 4) (h : k ≤ w.length) (hw : ∀ c ∈ w, c ∈ az) : NmL (nmL w k r j) :=
  ⟨by rw [nmL_len h]; omega, by rw [nmL_len h]; omega, nmL_az hw⟩
structure SpOk (tn ln wd : Nat) (th : List (List Nat)) (R : List Row) (A Q : List (List Nat)) : Prop where
  t0 : th ≠ []
  tl : th.length ≤ tn
  rl : R.length ≤ ln
  nd : (th ++ R.map Row.k).Nodup
  nt : ∀ t ∈ th, NmL t
  row : ∀ r ∈ R, NmL r.k ∧ NmL r.w ∧ r.b ∈ th ∧ 0 ≤ r.f ∧ r.f ≤ 9993 ∧ r.f ≤ r.l ∧ r.l < r.f + wd
  sa : A.Sublist (R.map Row.k)
  sq : Q.Sublist (R.map Row.k)
  dj : ∀ x ∈ A, x ∉ Q
end En

namespace En
open PySem PySem.Spec L2
theorem eqDs_map {α : Type} [DecidableEq α] {f : α → D} (hf : ∀ a b, eqD (f a) (f b) = decide (a = b)) : ∀ l l' : List α, eqDs (l.map f) (l'.map f) = decide (l = l')
  | [], [] => by simp
  | [], _ :: _ => by simp
  | _ :: _, [] => by simp
  | a :: l, b :: l' => by
    rw [List.map_cons, List.map_cons, eqDs_c, hf, eqDs_map hf l l']
    by_cases h : a = b
    · by_cases h2 : l = l' <;> simp [h, h2]
    · simp [h]
theorem eqD_sD (a b : List Nat) : eqD (sD a) (sD b) = decide (a = b) := by rw [eqD_s, tx_beq]
theorem eqD_row (a b : Row) : eqD a.d b.d = decide (a = b) := by
  obtain ⟨a1, a2, a3, a4, a5⟩ := a
  obtain ⟨b1, b2, b3, b4, b5⟩ := b
  simp only [Row.d, eqD_t, eqDs_c, eqDs_n, eqD_s, eqD_i, tx_beq, iBeq, Row.mk.injEq, Bool.and_true]
  rw [Bool.eq_iff_iff]
  simp [Bool.and_eq_true, and_assoc]
@[simp] theorem eqDs_sD (l l' : List (List Nat)) : eqDs (l.map sD) (l'.map sD) = decide (l = l') := eqDs_map eqD_sD l l'
@[simp] theorem eqDs_row (l l' : List Row) : eqDs (l.map Row.d) (l'.map Row.d) = decide (l = l') := eqDs_map eqD_row l l'
section
variable {Cd : Nat → Option Ent}
structure BkOk (th : List (List Nat)) (R : List Row) (A Q : List (List Nat)) : Prop where
  t : okT th
  r : okR th R
  ok : ∀ r ∈ R, r.ok
  nd : (A ++ Q).Nodup
  ke : ∀ x ∈ A ++ Q, x ∈ R.map Row.k
abbrev fk (R : List Row) (A : List (List Nat)) : List (List Nat) := (R.map Row.k).filter fun x => decide (x ∈ A)
theorem fk_nodup {th : List (List Nat)} {R : List Row} (h : okR th R) (a : List (List Nat)) : (fk R a).Nodup := h.2.1.sublist List.filter_sublist
structure Bk0 (th : List (List Nat)) (R : List Row) (a q : List (List Nat)) : Prop where
  t : okT th
  r : okR th R
  fa : fk R a = a
  fq : fk R q = q
  dj : ∀ x ∈ a, x ∉ q
theorem Bk0.nd {th a q : List (List Nat)} {R : List Row} (h : Bk0 th R a q) : (a ++ q).Nodup := by
  refine List.nodup_append.mpr ⟨by rw [← h.fa]; exact fk_nodup h.r a, by rw [← h.fq]; exact fk_nodup h.r q, fun x hx y hy e => h.dj x hx (e ▸ hy)⟩
end
end En

namespace En
open PySem PySem.Spec L2
theorem Pu.non : Pu .non := fun _ => rfl
theorem Pu.bl (b : Bool) : Pu (.bl b) := fun _ => rfl
structure Od (d : D) : Prop where
  tl : tellD d = true
  pu : Pu d
  sm : smD 3 d = true
theorem Od.non : Od .non := ⟨rfl, .non, rfl⟩
theorem Od.bl (b : Bool) : Od (.bl b) := ⟨rfl, .bl b, rfl⟩
theorem Od.int (i : Int) : Od (.int i) := ⟨rfl, .int i, rfl⟩
theorem Od.str (z : Str) (h : z.length ≤ 16777216) : Od (.str z) := ⟨decide_eq_true h, .str z, rfl⟩
theorem Od.tx (l : List Nat) (h : l.length ≤ 16777216) : Od (sD l) := Od.str _ (by rw [tx_len]; exact h)
theorem Od.word {d : D} (h : isWord d = true) : Od d := by
  obtain ⟨z, rfl, _, h2⟩ := isWord_str h
  exact Od.str z (by omega)
def zD : Str := tx [73, 110, 118, 97, 108, 105, 100, 68, 97, 116, 101]
def xD (d : D) : Out := .exc 33 [44, 43] [d, .str zD]
section
variable {b : Bool} {z : Str} {ds : List D} {ks : List Key}
@[simp] theorem isDate_n : isDate .non = false := id rfl
@[simp] theorem isDate_b : isDate (.bl b) = false := id rfl
@[simp] theorem isDate_s : isDate (.str z) = false := id rfl
@[simp] theorem isDate_l : isDate (.lst ds) = false := id rfl
@[simp] theorem isDate_t : isDate (.tup ds) = false := id rfl
@[simp] theorem isDate_d : isDate (.dct ks ds) = false := id rfl
end
section
variable {Cd : Nat → Option Ent}
theorem dates_ok (T : TabS CdS Cd [11, 12, 108]) (n : Nat) (hn : 3 ≤ n) {m : List MO} {i : Nat} {b : MO} {wide : Int} (hm : m[i]? = some b) (hb : FdB b) (h0 : 0 < wide) (h1 : wide < 1073741824) :
    ∃ (f l : Int) (b' : MO), Pn Cd GmS n 108 [.adr i, .int wide] m = some (.val (.tup [.int f, .int l]), m.set i b') ∧ FdB b' ∧ 0 ≤ f ∧ f ≤ 9993 ∧ f ≤ l ∧ l < f + wide := by
  obtain ⟨n, rfl⟩ : ∃ n', n = n' + 1 := ⟨n - 1, by omega⟩
  obtain ⟨d, b1, e1, f1, q1⟩ := of_lst (Gm := GmS) (T.at 12) (T.at 11) n (by omega) (ds := [.int 0, .int 7, .int 1753, .int 9990]) hm hb (by simp) (by simp)
  obtain ⟨j, rfl, j0, j1⟩ : ∃ j : Int, d = .int j ∧ 0 ≤ j ∧ j ≤ 9990 := by
    simp only [List.mem_cons, List.not_mem_nil, or_false] at q1
    rcases q1 with h | h | h | h <;> exact ⟨_, h, by omega, by omega⟩
  obtain ⟨r, b2, e2, f2, p0, p1⟩ := take_b (Gm := GmS) (T.at 11) n (by omega) (many := 4) (store_len (b' := b1) hm) f1 (by omega) (by omega)
  obtain ⟨r2, b3, e3, f3, p2, p3⟩ := take_b (Gm := GmS) (T.at 11) n (by omega) (many := wide) (store_len (b' := b2) hm) f2 (by omega) (by omega)
  rw [List.set_set] at e2 e3
  refine ⟨j + r, j + r + r2, b3, ?_, f3, by omega, by omega, by omega, by omega⟩
  rw [Pn_def (T.at 108)]
  simp [c_law_dates, ini, e1, e2, e3]
end
theorem NmD.word {d : D} (h : NmD d) : ∃ l : List Nat, d = .str (tx l) ∧ 1 ≤ l.length ∧ l.length ≤ 5 ∧ isWord (.str (tx l)) = true := by
  obtain ⟨l, rfl, h1, h2, h3⟩ := h
  refine ⟨l, rfl, h1, h2, ?_⟩
  show (decide (1 ≤ (tx l).length ∧ (tx l).length ≤ 6) && (tx l).cps.toList.all fun c => decide (c ∈ az)) = true
  rw [tx_len, decide_eq_true (And.intro h1 (show l.length ≤ 6 by omega)), Bool.true_and]
  exact List.all_eq_true.mpr fun c hc => decide_eq_true (h3 c (by simpa using hc))
end En

namespace En
open PySem PySem.Spec L2
section
variable {Cd : Nat → Option Ent}
def Unl (d : D) : Prop := ∀ s : S, tyAny (s.v d) [.list, .tuple] = some false
theorem Unl.non : Unl .non := fun _ => rfl
theorem Unl.int (i : Int) : Unl (.int i) := fun _ => rfl
theorem Unl.bl (b : Bool) : Unl (.bl b) := fun _ => rfl
theorem Unl.str (z : Str) : Unl (.str z) := fun _ => rfl
structure BadT (ds : List D) (K : Nat) : Prop where
  lt : K < ds.length
  k8 : K ≤ 8
  pre : ∃ pre : List (List Nat), ds.take K = pre.map sD ∧ pre.Nodup ∧ ∀ x ∈ pre, isWord (sD x) = true
  tl : tellD (ds[K]'lt) = true
  bad : isWord (ds[K]'lt) = false ∨ ds[K]'lt ∈ ds.take K ∨ K = 8
end
end En

namespace En
open PySem PySem.Spec L2
def Kp (own js : List Nat) (r r' : List (Option Cell)) : Prop := r'.length = r.length ∧ ∀ (i : Nat) (d : D), i ∉ own → i ∉ js → r[i]? = some (some (.val d)) → r'[i]? = some (some (.val d))
theorem Kp.at {own js : List Nat} {r r' : List (Option Cell)} (h : Kp own js r r') (i : Nat) {d : D} (e : r[i]? = some (some (.val d))) (h1 : i ∉ own := by decide) (h2 : i ∉ js := by decide) : r'[i]? = some (some (.val d)) := h.2 i d h1 h2 e
section
variable {P : Nat → List D → List MO → Option (Out × List MO)} {Gm : Nat → D}
theorem Yld.val {d : D} {s : S} {o : Res} (h : o = some (.val d, s)) : Yld o d s := .inl h
end
end En

namespace En
open PySem PySem.Spec L2
abbrev Wd := List Nat
def ptD (p : List Wd) : D := .tup (p.map sD)
def nearF (ps : List (List Wd)) (line : List Wd) : List Wd := (ps.map fun p => p.filter fun _ => line.any fun l => decide (l ∈ p)).flatten
def lineS (th : List Wd) (ps : List (List Wd)) (line : List Wd) : List Wd := th.filter fun t => decide (t ∈ nearF ps line) || decide (t ∈ line)
def lineN (th : List Wd) (ps : List (List Wd)) (t : Wd) : Nat → List Wd
  | 0 => [t]
  | k + 1 => lineS th ps (lineN th ps t k)
def connS (th : List Wd) (ps : List (List Wd)) (found : List (List Wd)) (t : Wd) : List (List Wd) := if found.any (fun p => decide (t ∈ p)) then found else found ++ [lineN th ps t th.length]
def connF (th : List Wd) (ps : List (List Wd)) : List (List Wd) := th.foldl (connS th ps) []
end En

namespace En
open PySem PySem.Spec L2
abbrev Pr := Wd × Wd
def prL (p : Pr) : List Wd := [p.1, p.2]
def prD (p : Pr) : D := ptD (prL p)
def clsL (th : List Wd) (tg : List Pr) : List (List Wd) := connF th (tg.map prL)
def partF (parts : List (List Wd)) (t : Wd) : List Wd := (parts.filter fun p => decide (t ∈ p)).headD []
def clsOf (th : List Wd) (tg : List Pr) (t : Wd) : List Wd := partF (clsL th tg) t
theorem lineN_mem {th : List Wd} {ps : List (List Wd)} {t : Wd} (h : t ∈ th) : ∀ k, t ∈ lineN th ps t k
  | 0 => List.mem_singleton.mpr rfl
  | k + 1 => List.mem_filter.mpr ⟨h, by rw [decide_eq_true (lineN_mem h k), Bool.or_true]⟩
theorem conn_mem {th : List Wd} {ps : List (List Wd)} {t : Wd} (h : t ∈ th) : ∃ p ∈ connF th ps, t ∈ p := by
  have key : ∀ (l : List Wd) (f : List (List Wd)), (∀ x ∈ l, x ∈ th) → (t ∈ l ∨ ∃ p ∈ f, t ∈ p) → ∃ p ∈ l.foldl (connS th ps) f, t ∈ p := by
    intro l
    induction l with
    | nil =>
      intro f _ h
      rcases h with h | h
      · cases h
      · exact h
    | cons x l ih =>
      intro f hs h
      rw [List.foldl_cons]
      refine ih _ (fun y hy => hs y (List.mem_cons_of_mem _ hy)) ?_
      rcases h with h | ⟨p, hp, ht⟩
      · rcases List.mem_cons.mp h with rfl | h
        · right
          unfold connS
          split
          · rename_i ha
            obtain ⟨p, hp, ht⟩ := List.any_eq_true.mp ha
            exact ⟨p, hp, of_decide_eq_true ht⟩
          · exact ⟨_, List.mem_append_right _ (List.mem_singleton.mpr rfl), lineN_mem (hs _ (List.mem_cons_self ..)) _⟩
        · exact .inl h
      · right
        unfold connS
        split
        · exact ⟨p, hp, ht⟩
        · exact ⟨p, List.mem_append_left _ hp, ht⟩
  exact key th [] (fun _ h => h) (.inl h)
def okP (th : List Wd) (l : List Pr) : Prop := ∀ p ∈ l, p.1 ∈ th ∧ p.2 ∈ th ∧ p.1 ≠ p.2
end En

namespace En
open PySem PySem.Spec L2
def nms (w : List Nat) (k r c : Nat) : List Wd := (List.range c).map (nmL w k r)
theorem nms_ok {w : List Nat} {k r c : Nat} (h4 : w.length ≤ 4) (h : k ≤ w.length) (hw : ∀ x ∈ w, x ∈ az) : ∀ x ∈ nms w k r c, NmL x := fun x hx => by
  obtain ⟨j, _, rfl⟩ := List.mem_map.mp hx
  exact nmL_ok h4 h hw
end En

namespace En
open PySem PySem.Spec L2
def Nr (ps : List (List Wd)) (u v : Wd) : Prop := ∃ p ∈ ps, u ∈ p ∧ v ∈ p
inductive Rch (ps : List (List Wd)) : Wd → Wd → Prop
  | refl (t : Wd) : Rch ps t t
  | step {t u v : Wd} (h : Rch ps t u) (n : Nr ps u v) : Rch ps t v
theorem Nr.symm {ps : List (List Wd)} {u v : Wd} (h : Nr ps u v) : Nr ps v u := by
  obtain ⟨p, h1, h2, h3⟩ := h
  exact ⟨p, h1, h3, h2⟩
theorem Rch.trans {ps : List (List Wd)} {t u v : Wd} (h : Rch ps t u) (g : Rch ps u v) : Rch ps t v := by
  induction g with
  | refl => exact h
  | step _ n ih => exact ih.step n
theorem Rch.symm {ps : List (List Wd)} {t u : Wd} (h : Rch ps t u) : Rch ps u t := by
  induction h with
  | refl => exact .refl _
  | step _ n ih => exact (Rch.step (.refl _) n.symm).trans ih
end En

namespace En
open PySem PySem.Spec L2
def fL (th : List Wd) (tg ap : List Pr) : D := .tup [.lst (th.map sD), .lst (tg.map prD), .lst (ap.map prD)]
def oD : Option Pr → D
  | none => .non
  | some p => prD p
structure FcOk (th : List Wd) (tg ap : List Pr) : Prop where
  t : okT th
  p : okP th (tg ++ ap)
  c : ∀ p ∈ ap, p.2 ∉ clsOf th tg p.1
theorem FcOk.tg {th : List Wd} {tg ap : List Pr} (h : FcOk th tg ap) : okP th tg := fun p hp => h.p p (List.mem_append_left _ hp)
theorem cls_some {th : List Wd} {tg : List Pr} {t : Wd} (h : t ∈ th) : ∃ p ∈ clsL th tg, t ∈ p := conn_mem h
end En

namespace En
open PySem PySem.Spec L2
@[simp] theorem kNin_tup {ds : List D} {s : S} : kNin (.tup ds) s = some (.val (.bl true), s) := id rfl
@[simp] theorem kNin_non {s : S} : kNin .non s = some (.val (.bl false), s) := id rfl
end En

namespace En
open PySem PySem.Spec L2
def wcL : WhyC := { cid := 43, tab := [((tx [73, 110, 118, 97, 108, 105, 100, 87, 111, 114, 100]), [44]), ((tx [73, 110, 118, 97, 108, 105, 100, 68, 97, 116, 101]), [44]), ((tx [78, 111, 116, 104, 105, 110, 103, 76, 101, 102, 116]), [])], cls := [32, 33, 54] }
def c_lam900 : E := (.met t_narrowed_2 (.var 0) 2 (.cns (.var 1) (.cns (.cst .non) .nil)) 0 .nil)
def c_lam901 : E := (.met t_narrowed_0_last_first (.var 0) 0 .nil 2 (.cns (.var 1) (.cns (.var 2) .nil)))
def c_lam902 : E := (.cmo .eq tEq (.met t_narrowed_2 (.var 0) 2 (.cns (.var 1) (.cns (.var 2) .nil)) 0 .nil) (.var 0))
def c_lam903 : E := (.met t_narrowed_2 (.var 0) 2 (.cns (.var 1) (.cns (.var 2) .nil)) 0 .nil)
def lamL : List (Nat × Nat × E) := [(900, 2, c_lam900), (901, 3, c_lam901), (902, 3, c_lam902), (903, 3, c_lam903)]
def c_law_b0 : E := (.seq (.ast (.tt [8, 9, 10]) (.cal 14 (.cns (.var 1) (.cns (.cst (.int 3)) .nil)))) (.seq (.ast (.tt [11, 12]) (.cal 108 (.cns (.var 1) (.cns (.cst (.int 5)) .nil)))) (.seq (.asg 3 (.calk 2003 5 (.cns (.var 8) (.cns (.var 9) (.cns (.var 10) (.cns (.var 11) (.cns (.var 12) .nil))))) 0 .nil)) (.seq (.ast (.tt [13, 14]) (.tpl (.cns (.bop .add (.bop .sub (.var 11) (.cst (.int 1))) (.cal 11 (.cns (.var 1) (.cns (.cst (.int 7)) .nil)))) (.cns (.bop .add (.bop .sub (.var 11) (.cst (.int 1))) (.cal 11 (.cns (.var 1) (.cns (.cst (.int 7)) .nil)))) .nil)))) (.seq (.asg 4 (.ite (.chn3 .le .le .le (.var 11) (.var 13) (.var 14) (.var 12)) (.tpl (.cns (.cst (.str (tx [118, 97, 108, 117, 101]))) (.cns (.tpl (.cns (.var 13) (.cns (.var 14) .nil))) .nil))) (.tpl (.cns (.cst (.str (tx [73, 110, 118, 97, 108, 105, 100, 68, 97, 116, 101]))) (.cns (.ite (.chn .le .le (.var 11) (.var 13) (.var 12)) (.tpl (.cns (.var 14) .nil)) (.tpl (.cns (.var 13) .nil))) .nil))))) (.seq (.asg 5 (.wh1 903 [3, 13, 14] wcL)) (.seq (.iff (.cmo .eq tEq (.ix (.var 4) (.cst (.int 0))) (.cst (.str (tx [118, 97, 108, 117, 101])))) (.seq (.asg 5 (.ite (.band (.cmo .eq tEq (.ix (.var 5) (.cst (.int 0))) (.cst (.str (tx [118, 97, 108, 117, 101])))) (.one (.cmo .eq tEq (.ix (.var 5) (.cst (.int 1))) (.calk 2003 5 (.cns (.var 8) (.cns (.var 9) (.cns (.var 10) (.cns (.var 13) (.cns (.var 14) .nil))))) 0 .nil)))) (.tpl (.cns (.ix (.var 5) (.cst (.int 0))) (.cns (.tpl (.cns (.fld (.ix (.var 5) (.cst (.int 1))) 3 [0]) (.cns (.fld (.ix (.var 5) (.cst (.int 1))) 4 [0]) .nil))) .nil))) (.tpl (.cns (.cst (.str (tx [111, 116, 104, 101, 114]))) (.cns (.tpl .nil) .nil))))) .skp) .skp) (.seq (.iff (.bor (.nt (.cal 13 (.cns (.var 5) (.cns (.var 4) .nil)))) (.one (.cmo .ne tEq (.var 3) (.calk 2003 5 (.cns (.var 8) (.cns (.var 9) (.cns (.var 10) (.cns (.var 11) (.cns (.var 12) .nil))))) 0 .nil)))) (.seq (.ret (.cst (.bl false))) .skp) .skp) (.seq (.asg 6 (.cal 12 (.cns (.var 1) (.cns (.lst (.cns (.cst .non) (.cns (.cst (.bl true)) (.cns (.cst (.str (tx [55]))) (.cns (.tpl (.cns (.var 11) .nil)) (.cns (.lst (.cns (.var 11) .nil)) (.cns (.cst (.int 10000)) .nil))))))) .nil)))) (.seq (.lma 7 [(900, [3, 6]), (901, [3, 6, 11]), (902, [3, 11, 12])]) (.seq (.iff (.nt (.cal 13 (.cns (.whs 7 wcL) (.cns (.lst (.cns (.tpl (.cns (.cst (.str (tx [73, 110, 118, 97, 108, 105, 100, 68, 97, 116, 101]))) (.cns (.tpl (.cns (.var 6) .nil)) .nil))) (.cns (.tpl (.cns (.cst (.str (tx [73, 110, 118, 97, 108, 105, 100, 68, 97, 116, 101]))) (.cns (.tpl (.cns (.var 6) .nil)) .nil))) (.cns (.tpl (.cns (.cst (.str (tx [118, 97, 108, 117, 101]))) (.cns (.cst (.bl true)) .nil))) .nil)))) .nil)))) (.seq (.ret (.cst (.bl false))) .skp) .skp) .skp)))))))))))
def c_law : E := (.seq (.asb 1 (.cal 10 (.cns (.var 0) .nil))) (.seq (.frr (.tn 2) (.rng (.cst (.int 5))) c_law_b0) (.seq (.ret (.cst (.bl true))) .skp)))
section
variable {Cd : Nat → Option Ent}
abbrev tabK05 : List Nat := [0, 1, 2, 10, 11, 12, 13, 14, 108, 1000, 2003, 2005, 2035, 2073, 2091, 2197]
def LamsOk (Cd : Nat → Option Ent) : Prop := ∀ j n e, lamL.lookup j = some (n, e) → Cd j = some ⟨n, n, .ret e, id, none⟩
theorem maybe1_ok (T : TabS CdS Cd [1, 2073]) (n : Nat) (hn : 2 ≤ n) {m : List MO} {k w b d : D} {f l : Int} (hd : tellN d = true) : Pn Cd GmS n 2073 [lab k w b (.int f) (.int l), d] m = some (.val (.bl (isIn f l d)), m) := by
  obtain ⟨n, rfl⟩ : ∃ n', n = n' + 1 := ⟨n - 1, by omega⟩
  have h := fun m => number_ok (T.sub (l' := [1]) rfl) n (by omega) d m f l hd
  rw [Pn_def (T.at 2073)]
  simp [c_Label_may_be, ini, gdF, lay, Src.at, lab, h]
theorem nar_a (T : TabS CdS Cd [1, 2073]) {fid : Nat} {g : List D → List D} (hf : Cd fid = some ⟨3, 3, c_Label_narrowed, g, none⟩) (n : Nat) (hn : 3 ≤ n) {ds : List D} {m : List MO} {k w b x y : D} {f l : Int} (e : g ds = [lab k w b (.int f) (.int l), x, y]) (hx : tellN x = true) (h : isIn f l x = false) :
    Pn Cd GmS n fid ds m = some (xD x, m) := by
  obtain ⟨n, rfl⟩ : ∃ n', n = n' + 1 := ⟨n - 1, by omega⟩
  have q := fun m => maybe1_ok (T.sub (l' := [1, 2073]) rfl) n (by omega) (m := m) (k := k) (w := w) (b := b) (f := f) (l := l) hx
  rw [h] at q
  rw [Pn_def hf, e]
  simp only [lab, xD, zD] at q ⊢
  simp [c_Label_narrowed, ini, t_may_be_1, q]
theorem nar_b (T : TabS CdS Cd [1, 2073]) {fid : Nat} {g : List D → List D} (hf : Cd fid = some ⟨3, 3, c_Label_narrowed, g, none⟩) (n : Nat) (hn : 3 ≤ n) {ds : List D} {m : List MO} {k w b y : D} {f l i : Int} (e : g ds = [lab k w b (.int f) (.int l), .int i, y]) (h1 : f ≤ i) (h2 : i ≤ l) (hy : tellN y = true) (h : isIn f l y = false ∨ ∃ j, y = .int j ∧ j < i) :
    Pn Cd GmS n fid ds m = some (xD y, m) := by
  obtain ⟨n, rfl⟩ : ∃ n', n = n' + 1 := ⟨n - 1, by omega⟩
  have q := fun m => maybe1_ok (T.sub (l' := [1, 2073]) rfl) n (by omega) (m := m) (k := k) (w := w) (b := b) (f := f) (l := l) (d := .int i) rfl
  have q2 := fun m => maybe1_ok (T.sub (l' := [1, 2073]) rfl) n (by omega) (m := m) (k := k) (w := w) (b := b) (f := f) (l := l) hy
  rw [show isIn f l (.int i) = true from decide_eq_true ⟨h1, h2⟩] at q
  rw [Pn_def hf, e]
  cases hb : isIn f l y with
  | false =>
    rw [hb] at q2
    simp only [lab, xD, zD] at q q2 ⊢
    simp [c_Label_narrowed, ini, t_may_be_1, q, q2]
  | true =>
    rw [hb] at q2
    obtain ⟨j, rfl, hj⟩ : ∃ j, y = .int j ∧ j < i := by
      rcases h with h | h
      · rw [h] at hb; cases hb
      · exact h
    simp only [lab, xD, zD] at q q2 ⊢
    simp [c_Label_narrowed, ini, t_may_be_1, q, q2, hj]
theorem nar_c (T : TabS CdS Cd [0, 1, 2, 1000, 2003, 2073]) {fid : Nat} {g : List D → List D} (hf : Cd fid = some ⟨3, 3, c_Label_narrowed, g, none⟩) (n : Nat) (hn : 4 ≤ n) {ds : List D} {m : List MO} {k w b : D} {f l i j : Int} (e : g ds = [lab k w b (.int f) (.int l), .int i, .int j]) (h1 : f ≤ i) (h2 : i ≤ j) (h3 : j ≤ l) (hk : isWord k = true) (hw : isWord w = true) (hb : isWord b = true) (h0 : 0 ≤ f) (h9 : l ≤ 9999) :
    Pn Cd GmS n fid ds m = some (.val (lab k w b (.int i) (.int j)), m) := by
  obtain ⟨n, rfl⟩ : ∃ n', n = n' + 1 := ⟨n - 1, by omega⟩
  have q := fun m => maybe1_ok (T.sub (l' := [1, 2073]) rfl) n (by omega) (m := m) (k := k) (w := w) (b := b) (f := f) (l := l) (d := .int i) rfl
  have q2 := fun m => maybe1_ok (T.sub (l' := [1, 2073]) rfl) n (by omega) (m := m) (k := k) (w := w) (b := b) (f := f) (l := l) (d := .int j) rfl
  rw [show isIn f l (.int i) = true from decide_eq_true ⟨h1, by omega⟩] at q
  rw [show isIn f l (.int j) = true from decide_eq_true ⟨by omega, h3⟩] at q2
  have q3 := fun m => label_ok (T.sub (l' := [0, 1, 2, 1000]) rfl) (T.at 2003) n (by omega) (ds := [k, w, b, .int i, .int j]) (m := m) (by rfl) hk hw hb (by omega) (by omega) (.inr ⟨rfl, h2, by omega⟩)
  have hlt : ¬ j < i := by omega
  rw [Pn_def hf, e]
  simp only [lab] at q q2 q3 ⊢
  simp [c_Label_narrowed, ini, t_may_be_1, q, q2, q3, hlt]
theorem smD_up {k : Nat} {d : D} (h : smD k d = true) : smD (k + 1) d = true := by
  induction k generalizing d with
  | zero =>
    cases d <;> first | rfl | (cases h; done) | exact h
  | succ k ih =>
    have hl : ∀ ds : List D, ds.all (smD k) = true → ds.all (smD (k + 1)) = true := fun ds h => List.all_eq_true.mpr fun x hx => ih (List.all_eq_true.mp h x hx)
    cases d with
    | lst ds =>
      simp only [smD, Bool.and_eq_true] at h ⊢
      exact ⟨h.1, hl ds h.2⟩
    | tup ds =>
      simp only [smD, Bool.and_eq_true] at h ⊢
      exact ⟨h.1, hl ds h.2⟩
    | _ => first | rfl | (cases h; done) | exact h
theorem wyD (d : D) : whyD wcL (xD d) = some (.tup [.str zD, .tup [d]]) := whyD_exc (by decide) rfl rfl rfl
abbrev lbD (x y z : List Nat) (f l : Int) : D := lab (sD x) (sD y) (sD z) (.int f) (.int l)
theorem b0_ok (T : TabS CdS Cd tabK05) (hL : LamsOk Cd) (n : Nat) (hn : 8 ≤ n) (b : MO) (hb : FdB b) (sc t c3 c4 c5 c6 c7 c8 c9 c10 c11 c12 c13 c14 : Option Cell) :
    ∃ b' d3 d4 d5 d6 d7 d8 d9 d10 d11 d12 d13 d14, FdB b' ∧ ev (Pn Cd GmS n) GmS c_law_b0 ⟨[sc, some (.val (.adr 0)), t, c3, c4, c5, c6, c7, c8, c9, c10, c11, c12, c13, c14], [b]⟩ =
      some (.nx, ⟨[sc, some (.val (.adr 0)), t, d3, d4, d5, d6, d7, d8, d9, d10, d11, d12, d13, d14], [b']⟩) := by
  obtain ⟨w, k, r, b1, e1, f1, w4, kw, hw, r26⟩ := names_okx (Gm := GmS) (m := [b]) (i := 0) (T.at 14) (T.at 12) (T.at 11) n (by omega) rfl hb (many := 3) (by omega) (by omega)
  have wd : ∀ j, isWord (.str (tx (nmL w k r j))) = true := fun j => by
    have := nms_ok (r := r) (c := j + 1) w4 kw hw (nmL w k r j) (List.mem_map.mpr ⟨j, List.mem_range.mpr (by omega), rfl⟩)
    exact this.word
  have e1' : Pn Cd GmS n 14 [.adr 0, .int 3] [b] = some (.fr (.bx [.str (tx (nmL w k r 0)), .str (tx (nmL w k r 1)), .str (tx (nmL w k r 2))]), [b1]) := e1
  have w0 := wd 0
  have w1 := wd 1
  have w2 := wd 2
  clear e1 wd
  generalize nmL w k r 0 = x at *
  generalize nmL w k r 1 = y at *
  generalize nmL w k r 2 = z at *
  obtain ⟨f, l, b2, e2, f2, p1, p2, p3, p4⟩ := dates_ok (T.sub (l' := [11, 12, 108]) rfl) n (by omega) (m := [b1]) (i := 0) (wide := 5) rfl f1 (by omega) (by omega)
  obtain ⟨r1, b3, e3, f3, p5, p6⟩ := take_b (Gm := GmS) (T.at 11) n (by omega) (m := [b2]) (i := 0) (many := 7) rfl f2 (by omega) (by omega)
  obtain ⟨r2, b4, e4, f4, p7, p8⟩ := take_b (Gm := GmS) (T.at 11) n (by omega) (m := [b3]) (i := 0) (many := 7) rfl f3 (by omega) (by omega)
  obtain ⟨o, ho⟩ : ∃ o, o = f - 1 + r1 := ⟨_, rfl⟩
  obtain ⟨q, hq⟩ : ∃ q, q = f - 1 + r2 := ⟨_, rfl⟩
  have L1 := fun m => label_ok (T.sub (l' := [0, 1, 2, 1000]) rfl) (T.at 2003) n (by omega) (ds := [.str (tx x), .str (tx y), .str (tx z), .int f, .int l]) (m := m) (by rfl) w0 w1 w2 (by omega) (by omega) (.inr ⟨rfl, p3, by omega⟩)
  obtain ⟨odd, b5, e5, f5, q5⟩ := of_lst (Gm := GmS) (T.at 12) (T.at 11) n (by omega) (ds := [.non, .bl true, .str (tx [55]), .tup [.int f], .lst [.int f], .int 10000]) (m := [b4]) (i := 0) rfl f4 (by simp) (by simp)
  have odN : tellN odd = true ∧ isIn f l odd = false ∧ smD 3 odd = true := by
    simp only [List.mem_cons, List.not_mem_nil, or_false] at q5
    rcases q5 with rfl | rfl | rfl | rfl | rfl | rfl
    · exact ⟨rfl, rfl, rfl⟩
    · exact ⟨rfl, rfl, rfl⟩
    · exact ⟨rfl, rfl, rfl⟩
    · exact ⟨rfl, rfl, rfl⟩
    · exact ⟨rfl, rfl, rfl⟩
    · exact ⟨rfl, decide_eq_false (by omega), rfl⟩
  obtain ⟨o1, o2, o3⟩ := odN
  obtain ⟨n, rfl⟩ : ∃ n', n = n' + 1 := ⟨n - 1, by omega⟩
  have g0 := nar_a (T.sub (l' := [1, 2073]) rfl) (T.at 2091) n (by omega) (ds := [lbD x y z f l, odd, .non]) (m := [b5]) (by rfl) o1 o2
  have g1 := nar_b (T.sub (l' := [1, 2073]) rfl) (T.at 2197) n (by omega) (ds := [lbD x y z f l, odd, .int f]) (m := [b5]) (by rfl) (Int.le_refl f) p3 o1 (.inl o2)
  have g2 := nar_c (T.sub (l' := [0, 1, 2, 1000, 2003, 2073]) rfl) (T.at 2091) n (by omega) (ds := [lbD x y z f l, .int f, .int l]) (m := [b5]) (by rfl) (Int.le_refl f) p3 (Int.le_refl l) w0 w1 w2 p1 (by omega)
  have le := fun m a b c d => labEq_ok (T.sub (l' := [2005, 2035]) rfl) n (by omega) (m := m) (k := tx x) (w := tx y) (b := tx z) (k' := tx x) (w' := tx y) (b' := tx z) (f := a) (l := b) (f' := c) (l' := d)
  have k900 : Pn Cd GmS (n + 1) 900 [lbD x y z f l, odd] [b5] = some (xD odd, [b5]) := by
    rw [Pn_def (hL 900 _ _ rfl)]
    simp only [lbD, lab, xD, zD, sD] at g0 ⊢
    simp [c_lam900, ini, t_narrowed_2, g0]
  have k901 : Pn Cd GmS (n + 1) 901 [lbD x y z f l, odd, .int f] [b5] = some (xD odd, [b5]) := by
    rw [Pn_def (hL 901 _ _ rfl)]
    simp only [lbD, lab, xD, zD, sD] at g1 ⊢
    simp [c_lam901, ini, t_narrowed_0_last_first, g1]
  have k902 : Pn Cd GmS (n + 1) 902 [lbD x y z f l, .int f, .int l] [b5] = some (.val (.bl true), [b5]) := by
    rw [Pn_def (hL 902 _ _ rfl)]
    have le' := le [b5] f l f l
    simp only [lbD, lab, sD] at g2 le' ⊢
    simp [c_lam902, ini, t_narrowed_2, g2, le', tEq]
  -- what narrowed answers
  obtain ⟨W, D1, D2, hW, hD, gW⟩ : ∃ (W : Out) (D1 D2 : D), ((f ≤ o ∧ o ≤ q ∧ q ≤ l ∧ W = .val (lbD x y z o q) ∧ D1 = .tup [.str (tx [118, 97, 108, 117, 101]), .tup [.int o, .int q]] ∧ D2 = .tup [.str (tx [118, 97, 108, 117, 101]), lbD x y z o q]) ∨
      (¬ (f ≤ o ∧ o ≤ q ∧ q ≤ l) ∧ ∃ d, (d = if f ≤ o ∧ o ≤ l then q else o) ∧ W = xD (.int d) ∧ D1 = .tup [.str zD, .tup [.int d]] ∧ D2 = D1)) ∧ whyD wcL W = some D2 ∧ Pn Cd GmS n 2091 [lbD x y z f l, .int o, .int q] [b4] = some (W, [b4]) := by
    by_cases h : f ≤ o ∧ o ≤ q ∧ q ≤ l
    · obtain ⟨h1, h2, h3⟩ := h
      refine ⟨_, _, _, .inl ⟨h1, h2, h3, rfl, rfl, rfl⟩, rfl, ?_⟩
      exact nar_c (T.sub (l' := [0, 1, 2, 1000, 2003, 2073]) rfl) (T.at 2091) n (by omega) (ds := [lbD x y z f l, .int o, .int q]) (m := [b4]) (by rfl) h1 h2 h3 w0 w1 w2 p1 (by omega)
    · by_cases h1 : f ≤ o ∧ o ≤ l
      · refine ⟨_, _, _, .inr ⟨h, q, by rw [if_pos h1], rfl, rfl, rfl⟩, wyD _, ?_⟩
        refine nar_b (T.sub (l' := [1, 2073]) rfl) (T.at 2091) n (by omega) (ds := [lbD x y z f l, .int o, .int q]) (m := [b4]) (by rfl) h1.1 h1.2 rfl ?_
        by_cases h2 : q < o
        · exact .inr ⟨q, rfl, h2⟩
        · exact .inl (decide_eq_false (by omega))
      · refine ⟨_, _, _, .inr ⟨h, o, by rw [if_neg h1], rfl, rfl, rfl⟩, wyD _, ?_⟩
        exact nar_a (T.sub (l' := [1, 2073]) rfl) (T.at 2091) n (by omega) (ds := [lbD x y z f l, .int o, .int q]) (m := [b4]) (by rfl) rfl (decide_eq_false h1)
  have k903 : Pn Cd GmS (n + 1) 903 [lbD x y z f l, .int o, .int q] [b4] = some (W, [b4]) := by
    rcases hW with ⟨_, _, _, rfl, _⟩ | ⟨_, d, _, rfl, _⟩
    · rw [Pn_def (hL 903 _ _ rfl)]
      simp only [lbD, lab, sD] at gW ⊢
      simp [c_lam903, ini, t_narrowed_2, gW]
    · rw [Pn_def (hL 903 _ _ rfl)]
      simp only [lbD, lab, sD, xD, zD] at gW ⊢
      simp [c_lam903, ini, t_narrowed_2, gW]
  have s1 := fun d m h => same_refl (Gm := GmS) (T.at 13) 6 d m h (n + 1) (by omega)
  have le2 := fun m a b c d => labEq_ok (T.sub (l' := [2005, 2035]) rfl) (n + 1) (by omega) (m := m) (k := tx x) (w := tx y) (b := tx z) (k' := tx x) (w' := tx y) (b' := tx z) (f := a) (l := b) (f' := c) (l' := d)
  have y0 := wyD odd
  have hnf : ∀ a b c d e, nfD 0 (lab a b c d e) = true := fun _ _ _ _ _ => rfl
  -- what is told behind the first
  have told : ∀ R : E, ev (Pn Cd GmS (n + 1)) GmS (.seq (.asg 4 (.ite (.chn3 .le .le .le (.var 11) (.var 13) (.var 14) (.var 12)) (.tpl (.cns (.cst (.str (tx [118, 97, 108, 117, 101]))) (.cns (.tpl (.cns (.var 13) (.cns (.var 14) .nil))) .nil))) (.tpl (.cns (.cst (.str (tx [73, 110, 118, 97, 108, 105, 100, 68, 97, 116, 101]))) (.cns (.ite (.chn .le .le (.var 11) (.var 13) (.var 12)) (.tpl (.cns (.var 14) .nil)) (.tpl (.cns (.var 13) .nil))) .nil))))) (.seq (.asg 5 (.wh1 903 [3, 13, 14] wcL)) (.seq (.iff (.cmo .eq tEq (.ix (.var 4) (.cst (.int 0))) (.cst (.str (tx [118, 97, 108, 117, 101])))) (.seq (.asg 5 (.ite (.band (.cmo .eq tEq (.ix (.var 5) (.cst (.int 0))) (.cst (.str (tx [118, 97, 108, 117, 101])))) (.one (.cmo .eq tEq (.ix (.var 5) (.cst (.int 1))) (.calk 2003 5 (.cns (.var 8) (.cns (.var 9) (.cns (.var 10) (.cns (.var 13) (.cns (.var 14) .nil))))) 0 .nil)))) (.tpl (.cns (.ix (.var 5) (.cst (.int 0))) (.cns (.tpl (.cns (.fld (.ix (.var 5) (.cst (.int 1))) 3 [0]) (.cns (.fld (.ix (.var 5) (.cst (.int 1))) 4 [0]) .nil))) .nil))) (.tpl (.cns (.cst (.str (tx [111, 116, 104, 101, 114]))) (.cns (.tpl .nil) .nil))))) .skp) .skp) R)))
      ⟨[sc, some (.val (.adr 0)), t, some (.val (lbD x y z f l)), c4, c5, c6, c7, some (.val (.str (tx x))), some (.val (.str (tx y))), some (.val (.str (tx z))), some (.val (.int f)), some (.val (.int l)), some (.val (.int o)), some (.val (.int q))], [b4]⟩ =
      ev (Pn Cd GmS (n + 1)) GmS R ⟨[sc, some (.val (.adr 0)), t, some (.val (lbD x y z f l)), some (.val D1), some (.val D1), c6, c7, some (.val (.str (tx x))), some (.val (.str (tx y))), some (.val (.str (tx z))), some (.val (.int f)), some (.val (.int l)), some (.val (.int o)), some (.val (.int q))], [b4]⟩ := by
    intro R
    rcases hW with ⟨h1, h2, h3, rfl, rfl, rfl⟩ | ⟨hn, d, hd, rfl, rfl, rfl⟩
    · have L2 := fun m => label_ok (T.sub (l' := [0, 1, 2, 1000]) rfl) (T.at 2003) (n + 1) (by omega) (ds := [.str (tx x), .str (tx y), .str (tx z), .int o, .int q]) (m := m) (by rfl) w0 w1 w2 (by omega) (by omega) (.inr ⟨rfl, h2, by omega⟩)
      have le3 := le2 [b4] o q o q
      simp only [lbD, lab, sD] at k903 hD L2 le3 ⊢
      simp [h1, h2, h3, capD1, k903, hD, at_0, at_1, tEq, L2, le3]
    · have zv : (zD == tx [118, 97, 108, 117, 101]) = false := by decide
      have c1 : cmpF .le (.int f) (.int o) ⟨[sc, some (.val (.adr 0)), t, some (.val (lbD x y z f l)), c4, c5, c6, c7, some (.val (.str (tx x))), some (.val (.str (tx y))), some (.val (.str (tx z))), some (.val (.int f)), some (.val (.int l)), some (.val (.int o)), some (.val (.int q))], [b4]⟩ = some (decide (f ≤ o)) := rfl
      simp only [lbD, lab, sD, xD, zD] at k903 hD zv ⊢
      subst hd
      by_cases h1 : f ≤ o
      · by_cases h2 : o ≤ l
        · by_cases h3 : o ≤ q
          · have h4 : ¬ q ≤ l := fun z => hn ⟨h1, h3, z⟩
            simp [h1, h2, h3, h4] at k903 hD ⊢
            simp [h1, h2, h3, h4, capD1, k903, hD, at_0, at_1, tEq, zv]
          · simp [h1, h2, h3] at k903 hD ⊢
            simp [h1, h2, h3, capD1, k903, hD, at_0, at_1, tEq, zv]
        · by_cases h3 : o ≤ q
          · have h4 : ¬ q ≤ l := by omega
            simp [h1, h2, h3, h4] at k903 hD ⊢
            simp [h1, h2, h3, h4, capD1, k903, hD, at_0, at_1, tEq, zv]
          · simp [h1, h2, h3] at k903 hD ⊢
            simp [h1, h2, h3, capD1, k903, hD, at_0, at_1, tEq, zv]
      · simp [h1] at k903 hD ⊢
        simp [h1, capD1, k903, hD, at_0, at_1, tEq, zv]
  have sm1 : smD 3 D1 = true := by
    rcases hW with ⟨_, _, _, _, rfl, _⟩ | ⟨_, d, _, _, rfl, _⟩ <;> rfl
  refine ⟨b5, some (.val (lbD x y z f l)), some (.val D1), some (.val D1), some (.val odd), some (.lms [(900, [3, 6]), (901, [3, 6, 11]), (902, [3, 11, 12])]), some (.val (.str (tx x))), some (.val (.str (tx y))), some (.val (.str (tx z))), some (.val (.int f)), some (.val (.int l)), some (.val (.int o)), some (.val (.int q)), f5, ?_⟩
  have s2 := s1 D1 [b4] (smD_up (smD_up (smD_up sm1)))
  have le3 := le2 [b4] f l f l
  have s3 := s1 (.lst [.tup [.str zD, .tup [odd]], .tup [.str zD, .tup [odd]], .tup [.str (tx [118, 97, 108, 117, 101]), .bl true]]) [b5] (by
    simp only [smD, List.all_cons, List.all_nil, List.length_cons, List.length_nil, o3]
    rfl)
  have f0 : f - 1 + r1 = o := ho.symm
  have f9 : f - 1 + r2 = q := hq.symm
  clear hW hD gW k903 ho hq
  have pre : ∀ R : E, ev (Pn Cd GmS (n + 1)) GmS (.seq (.ast (.tt [8, 9, 10]) (.cal 14 (.cns (.var 1) (.cns (.cst (.int 3)) .nil)))) (.seq (.ast (.tt [11, 12]) (.cal 108 (.cns (.var 1) (.cns (.cst (.int 5)) .nil)))) (.seq (.asg 3 (.calk 2003 5 (.cns (.var 8) (.cns (.var 9) (.cns (.var 10) (.cns (.var 11) (.cns (.var 12) .nil))))) 0 .nil)) (.seq (.ast (.tt [13, 14]) (.tpl (.cns (.bop .add (.bop .sub (.var 11) (.cst (.int 1))) (.cal 11 (.cns (.var 1) (.cns (.cst (.int 7)) .nil)))) (.cns (.bop .add (.bop .sub (.var 11) (.cst (.int 1))) (.cal 11 (.cns (.var 1) (.cns (.cst (.int 7)) .nil)))) .nil)))) R)))) ⟨[sc, some (.val (.adr 0)), t, c3, c4, c5, c6, c7, c8, c9, c10, c11, c12, c13, c14], [b]⟩ = ev (Pn Cd GmS (n + 1)) GmS R ⟨[sc, some (.val (.adr 0)), t, some (.val (lbD x y z f l)), c4, c5, c6, c7, some (.val (.str (tx x))), some (.val (.str (tx y))), some (.val (.str (tx z))), some (.val (.int f)), some (.val (.int l)), some (.val (.int o)), some (.val (.int q))], [b4]⟩ := by
    intro R
    simp only [lbD, lab, sD] at L1 ⊢
    simp [e1', e2, L1, e3, e4, f0, f9, storeAll, store]
  have post : ev (Pn Cd GmS (n + 1)) GmS (.seq (.iff (.bor (.nt (.cal 13 (.cns (.var 5) (.cns (.var 4) .nil)))) (.one (.cmo .ne tEq (.var 3) (.calk 2003 5 (.cns (.var 8) (.cns (.var 9) (.cns (.var 10) (.cns (.var 11) (.cns (.var 12) .nil))))) 0 .nil)))) (.seq (.ret (.cst (.bl false))) .skp) .skp) (.seq (.asg 6 (.cal 12 (.cns (.var 1) (.cns (.lst (.cns (.cst .non) (.cns (.cst (.bl true)) (.cns (.cst (.str (tx [55]))) (.cns (.tpl (.cns (.var 11) .nil)) (.cns (.lst (.cns (.var 11) .nil)) (.cns (.cst (.int 10000)) .nil))))))) .nil)))) (.seq (.lma 7 [(900, [3, 6]), (901, [3, 6, 11]), (902, [3, 11, 12])]) (.seq (.iff (.nt (.cal 13 (.cns (.whs 7 wcL) (.cns (.lst (.cns (.tpl (.cns (.cst (.str (tx [73, 110, 118, 97, 108, 105, 100, 68, 97, 116, 101]))) (.cns (.tpl (.cns (.var 6) .nil)) .nil))) (.cns (.tpl (.cns (.cst (.str (tx [73, 110, 118, 97, 108, 105, 100, 68, 97, 116, 101]))) (.cns (.tpl (.cns (.var 6) .nil)) .nil))) (.cns (.tpl (.cns (.cst (.str (tx [118, 97, 108, 117, 101]))) (.cns (.cst (.bl true)) .nil))) .nil)))) .nil)))) (.seq (.ret (.cst (.bl false))) .skp) .skp) .skp)))) ⟨[sc, some (.val (.adr 0)), t, some (.val (lbD x y z f l)), some (.val D1), some (.val D1), c6, c7, some (.val (.str (tx x))), some (.val (.str (tx y))), some (.val (.str (tx z))), some (.val (.int f)), some (.val (.int l)), some (.val (.int o)), some (.val (.int q))], [b4]⟩ =
      some (.nx, ⟨[sc, some (.val (.adr 0)), t, some (.val (lbD x y z f l)), some (.val D1), some (.val D1), some (.val odd), some (.lms [(900, [3, 6]), (901, [3, 6, 11]), (902, [3, 11, 12])]), some (.val (.str (tx x))), some (.val (.str (tx y))), some (.val (.str (tx z))), some (.val (.int f)), some (.val (.int l)), some (.val (.int o)), some (.val (.int q))], [b5]⟩) := by
    simp only [lbD, lab, sD, xD, zD] at L1 k900 k901 k902 y0 s3 le3 ⊢
    simp [L1, s2, le3, tEq, e5, capsD, capD1, k900, k901, k902, y0, s3]
  unfold c_law_b0
  rw [pre, told, post]
theorem law_ok (T : TabS CdS Cd tabK05) (hc : Cd 299 = some ⟨15, 1, c_law, id, none⟩) (hL : LamsOk Cd) (ns : List Int) (hl : ns.length ≤ 63) : ∃ m, Pn Cd GmS 14 299 [.fzl (ns.map D.int)] [] = some (.val (.bl true), m) := by
  obtain ⟨fd, e0, f0⟩ := feed_ok (Gm := GmS) (T.at 10) 12 [] ns hl
  rw [Pn_def hc]
  obtain ⟨s', e1, b, c2, c3, c4, c5, c6, c7, c8, c9, c10, c11, c12, c13, c14, hb, rfl⟩ := forL_inv (st := store (.tn 2)) (body := ev (Pn Cd GmS 13) GmS c_law_b0) (fun ds s => ∃ b c2 c3 c4 c5 c6 c7 c8 c9 c10 c11 c12 c13 c14, FdB b ∧ s = ⟨[some (.val (.fzl (ns.map D.int))), some (.val (.adr 0)), c2, c3, c4, c5, c6, c7, c8, c9, c10, c11, c12, c13, c14], [b]⟩) ((List.range 5).map fun (k : Nat) => D.int k)
    ⟨[some (.val (.fzl (ns.map D.int))), some (.val (.adr 0)), none, none, none, none, none, none, none, none, none, none, none, none, none], [.bx fd]⟩ ⟨_, _, _, _, _, _, _, _, _, _, _, _, _, _, f0, rfl⟩ (by
      rintro t ds s ⟨b, c2, c3, c4, c5, c6, c7, c8, c9, c10, c11, c12, c13, c14, hb, rfl⟩
      obtain ⟨b', d3, d4, d5, d6, d7, d8, d9, d10, d11, d12, d13, d14, q1, q2⟩ := b0_ok T hL 13 (by omega) b hb (some (.val (.fzl (ns.map D.int)))) (some (.val t)) c3 c4 c5 c6 c7 c8 c9 c10 c11 c12 c13 c14
      exact ⟨_, rfl, _, .inl q2, b', _, _, _, _, _, _, _, _, _, _, _, _, _, q1, rfl⟩)
  simp [c_law, ini, e0, e1, List.replicate]
  exact ⟨[], by rw [show [b] = [] ++ [b] from rfl, stow_new (by simp)]; rfl⟩
end
end En

namespace En
open PySem PySem.Spec L2
def CdL : Nat → Option Ent := CdOf CdS liveL lamL [(299, ⟨15, 1, c_law, id, none⟩)]
def msL : List (EnY.MT × List Str) := [(.inn ["InvalidWord", "InvalidDate", "InvalidCount", "InvalidLimit"], ["value"]), (.inn ["DuplicateKey", "UnknownKey"], ["key"]), (.inn ["SameThing", "UnknownThing"], ["name"]), (.eq "InvalidText", ["line"]), (.eq "TooMany", ["most", "subject"])]
def qL : List Str × Str := (["ThingsDiffer", "InvalidDating", "Clash", "NothingLeft"], "at")
theorem sc_is_word : FnScope ["value", "letter"] ["value"] (defScope (top 11)) := ⟨rfl, rfl, rfl, by decide +kernel, rfl, by decide +kernel, by decide +kernel⟩
theorem ck_is_word : chk ntL c_is_word (CC.fn ["value", "letter"] (defScope (top 11))) (.blk (defBody (top 11))) = true := by decide +kernel
theorem sc_is_number : FnScope ["value", "least", "most"] ["value", "least", "most"] (defScope (top 12)) := ⟨rfl, rfl, rfl, by decide +kernel, rfl, by decide +kernel, by decide +kernel⟩
theorem ck_is_number : chk ntL c_is_number (CC.fn ["value", "least", "most"] (defScope (top 12))) (.blk (defBody (top 12))) = true := by decide +kernel
theorem sc_is_date : FnScope ["value"] ["value"] (defScope (top 13)) := ⟨rfl, rfl, rfl, by decide +kernel, rfl, by decide +kernel, by decide +kernel⟩
theorem ck_is_date : chk ntL c_is_date (CC.fn ["value"] (defScope (top 13))) (.blk (defBody (top 13))) = true := by decide +kernel
theorem sc_law_feed : FnScope ["_law_script", "_law_cells", "_law_mark", "_law_cell"] ["_law_script"] (defScope (top 16)) := ⟨rfl, rfl, rfl, by decide +kernel, rfl, by decide +kernel, by decide +kernel⟩
theorem ck_law_feed : chk ntL c_law_feed (CC.fn ["_law_script", "_law_cells", "_law_mark", "_law_cell"] (defScope (top 16))) (.blk (defBody (top 16))) = true := by decide +kernel
theorem sc_law_take : FnScope ["_law_feed_here", "_law_many", "_law_drawn", "_law_cell", "_law_early", "_law_late"] ["_law_feed_here", "_law_many"] (defScope (top 17)) := ⟨rfl, rfl, rfl, by decide +kernel, rfl, by decide +kernel, by decide +kernel⟩
theorem ck_law_take : chk ntL c_law_take (CC.fn ["_law_feed_here", "_law_many", "_law_drawn", "_law_cell", "_law_early", "_law_late"] (defScope (top 17))) (.blk (defBody (top 17))) = true := by decide +kernel
theorem sc_law_of : FnScope ["_law_feed_here", "_law_items"] ["_law_feed_here", "_law_items"] (defScope (top 18)) := ⟨rfl, rfl, rfl, by decide +kernel, rfl, by decide +kernel, by decide +kernel⟩
theorem ck_law_of : chk ntL c_law_of (CC.fn ["_law_feed_here", "_law_items"] (defScope (top 18))) (.blk (defBody (top 18))) = true := by decide +kernel
theorem sc_law_same : FnScope ["_law_found", "_law_due", "_law_key", "_law_one", "_law_two"] ["_law_found", "_law_due"] (defScope (top 19)) := ⟨rfl, rfl, rfl, by decide +kernel, rfl, by decide +kernel, by decide +kernel⟩
theorem ck_law_same : chk ntL c_law_same (CC.fn ["_law_found", "_law_due", "_law_key", "_law_one", "_law_two"] (defScope (top 19))) (.blk (defBody (top 19))) = true := by decide +kernel
theorem sc_law_new_names : FnScope ["_law_feed_here", "_law_many", "_law_letters", "_law_stem", "_law_at", "_law_first_z", "_law_k"] ["_law_feed_here", "_law_many"] (defScope (top 21)) := ⟨rfl, rfl, rfl, by decide +kernel, rfl, by decide +kernel, by decide +kernel⟩
theorem ck_law_new_names : chk ntL c_law_new_names (CC.fn ["_law_feed_here", "_law_many", "_law_letters", "_law_stem", "_law_at", "_law_first_z", "_law_k"] (defScope (top 21))) (.blk (defBody (top 21))) = true := by decide +kernel
theorem sc_law_dates : FnScope ["_law_feed_here", "_law_wide", "_law_first_z"] ["_law_feed_here", "_law_wide"] (defScope (top 24)) := ⟨rfl, rfl, rfl, by decide +kernel, rfl, by decide +kernel, by decide +kernel⟩
theorem ck_law_dates : chk ntL c_law_dates (CC.fn ["_law_feed_here", "_law_wide", "_law_first_z"] (defScope (top 24))) (.blk (defBody (top 24))) = true := by decide +kernel
theorem sc_law : FnScope ["_law_script", "_law_feed_here", "_law_turn", "_law_made", "_law_due", "_law_told", "_law_odd", "_law_asks", "_law_a", "_law_b", "_law_c", "_law_first_z", "_law_last_z", "_law_one", "_law_two"] ["_law_script"] (defScope (top 25)) := ⟨rfl, rfl, rfl, by decide +kernel, rfl, by decide +kernel, by decide +kernel⟩
theorem ck_law : chk { ntL with wc := some wcL, wc1 := some wcL, lmk := lmkOf ntL lamL (defScope (top 25)) } c_law { CC.fn ["_law_script", "_law_feed_here", "_law_turn", "_law_made", "_law_due", "_law_told", "_law_odd", "_law_asks", "_law_a", "_law_b", "_law_c", "_law_first_z", "_law_last_z", "_law_one", "_law_two"] (defScope (top 25)) with lam := true } (.blk (defBody (top 25))) = true := by decide +kernel
theorem sc_Label__init : FnScope ["self", "key", "word", "bearer", "first", "last", "value"] ["self", "key", "word", "bearer", "first", "last"] (defScope (mem 14 0)) := ⟨rfl, rfl, rfl, by decide +kernel, rfl, by decide +kernel, by decide +kernel⟩
theorem ck_Label__init : chk ntL c_Label_init (CC.fn ["self", "key", "word", "bearer", "first", "last", "value"] (defScope (mem 14 0))) (.blk (defBody (mem 14 0))) = true := by decide +kernel
theorem sc_Label_may_be : FnScope ["self", "date"] ["self", "date"] (defScope (mem 14 2)) := ⟨rfl, rfl, rfl, by decide +kernel, rfl, by decide +kernel, by decide +kernel⟩
theorem ck_Label_may_be : chk ntL c_Label_may_be (CC.fn ["self", "date"] (defScope (mem 14 2))) (.blk (defBody (mem 14 2))) = true := by decide +kernel
theorem sc_Label_narrowed : FnScope ["self", "first", "last"] ["self", "first", "last"] (defScope (mem 14 3)) := ⟨rfl, rfl, rfl, by decide +kernel, rfl, by decide +kernel, by decide +kernel⟩
theorem ck_Label_narrowed : chk ntL c_Label_narrowed (CC.fn ["self", "first", "last"] (defScope (mem 14 3))) (.blk (defBody (mem 14 3))) = true := by decide +kernel
theorem sc_Label_parts : FnScope ["self"] ["self"] (defScope (mem 14 4)) := ⟨rfl, rfl, rfl, by decide +kernel, rfl, by decide +kernel, by decide +kernel⟩
theorem ck_Label_parts : chk ntL c_Label_parts (CC.fn ["self"] (defScope (mem 14 4))) (.blk (defBody (mem 14 4))) = true := by decide +kernel
theorem sc_Label__eq : FnScope ["self", "other"] ["self", "other"] (defScope (mem 14 5)) := ⟨rfl, rfl, rfl, by decide +kernel, rfl, by decide +kernel, by decide +kernel⟩
theorem ck_Label__eq : chk ntL c_Label_eq (CC.fn ["self", "other"] (defScope (mem 14 5))) (.blk (defBody (mem 14 5))) = true := by decide +kernel
theorem sc_Label__repr : FnScope ["self"] ["self"] (defScope (mem 14 6)) := ⟨rfl, rfl, rfl, by decide +kernel, rfl, by decide +kernel, by decide +kernel⟩
theorem ck_Label__repr : chk ntL c_Label_repr (CC.fn ["self"] (defScope (mem 14 6))) (.blk (defBody (mem 14 6))) = true := by decide +kernel
theorem sc_law_fields : FnScope ["_law_e"] ["_law_e"] (defScope (top 22)) := ⟨rfl, rfl, rfl, by decide +kernel, rfl, by decide +kernel, by decide +kernel⟩
theorem sc_law_why : FnScope ["_law_ask", "_law_e"] ["_law_ask"] (defScope (top 23)) := ⟨rfl, rfl, rfl, by decide +kernel, rfl, by decide +kernel, by decide +kernel⟩
theorem sc_law_whys : FnScope ["_law_asks", "_law_ask"] ["_law_asks"] (defScope (top 20)) := ⟨rfl, rfl, rfl, by decide +kernel, rfl, by decide +kernel, by decide +kernel⟩
theorem all_mk {l : PySem.W.OpenLaw} {w : World} {K : PySem.W.Frag} {h : Heap} {mg : Str → Option Value} {fa f0 f1 f2 f3 f4 f5 f6 f7 f8 f9 f10 f11 f12 f13 f14 f15 f16 f17 f18 C0 C30 C31 C32 C33 C54 cc9 : Addr} (X : K.In h) (G : h.Ns mainGlobals mg) (hfa : mg "law" = some (.ref fa)) (own : ∀ nm ∈ namesL, ∀ f, mg nm = some (.ref f) → LamX.OwnTab K f h)
    {od0 an0 od1 an1 od2 an2 od3 an3 od4 an4 od5 an5 od6 an6 od7 an7 od8 an8 od9 an9 od10 an10 od11 an11 od12 an12 od13 an13 od14 an14 od15 an15 od16 an16 od17 an17 od18 an18 : Option Addr} {sl0 sl1 sl2 sl3 sl4 sl5 sl6 sl7 sl8 sl9 sl10 sl11 sl12 sl13 sl14 sl15 sl16 sl17 sl18 : Array (Option Value)} {oc0 kV0 dc0 pm0 cd0 ct0 oc1 kV1 dc1 pm1 cd1 ct1 oc2 kV2 dc2 pm2 cd2 ct2 oc3 kV3 dc3 pm3 cd3 ct3 oc4 kV4 dc4 pm4 cd4 ct4 oc5 kV5 dc5 pm5 cd5 ct5 oc6 kV6 dc6 pm6 cd6 ct6 oc7 kV7 dc7 pm7 cd7 ct7 oc8 kV8 dc8 pm8 cd8 ct8 oc9 kV9 dc9 pm9 cd9 ct9 oc10 kV10 dc10 pm10 cd10 ct10 oc11 kV11 dc11 pm11 cd11 ct11 oc12 kV12 dc12 pm12 cd12 ct12 oc13 kV13 dc13 pm13 cd13 ct13 oc14 kV14 dc14 pm14 cd14 ct14 oc15 kV15 dc15 pm15 cd15 ct15 oc16 kV16 dc16 pm16 cd16 ct16 oc17 kV17 dc17 pm17 cd17 ct17 oc18 kV18 dc18 pm18 cd18 ct18 : Value} {t0 : Tok} {t1 : Tok} {t2 : Tok}
    {dV10 : Value}
    (cC0 : PySem.W.nsIn K mainGlobals "Label" = some (some (.ref C0)))
    (cC30 : PySem.W.nsIn K mainGlobals "StandError" = some (some (.ref C30)))
    (cC31 : PySem.W.nsIn K mainGlobals "Missing" = some (some (.ref C31)))
    (cC32 : PySem.W.nsIn K mainGlobals "InvalidWord" = some (some (.ref C32)))
    (cC33 : PySem.W.nsIn K mainGlobals "InvalidDate" = some (some (.ref C33)))
    (cC54 : PySem.W.nsIn K mainGlobals "NothingLeft" = some (some (.ref C54)))
    {ec9 : Value} {de9 : Option Addr} {ve9 : Array Value} {se9 : Array (Option Value)}
    (a0 : PySem.W.nsIn K mainGlobals "is_word" = some (some (.ref f0)))
      (l0 : K.lookup f0 = some ⟨oc0, od0, .func (PySem.W.fnOf "is_word" "is_word" (defArgs (top 11)) (defBody (top 11)) (defScope (top 11)) .none kV0 dc0 pm0 an0 cd0 ct0), sl0⟩) (c0 : PySem.W.codeIn K cd0 "is_word" = true) (k0 : PySem.W.keepIn K (.ref f0) = true)
    (a1 : PySem.W.nsIn K mainGlobals "is_number" = some (some (.ref f1)))
      (l1 : K.lookup f1 = some ⟨oc1, od1, .func (PySem.W.fnOf "is_number" "is_number" (defArgs (top 12)) (defBody (top 12)) (defScope (top 12)) .none kV1 dc1 pm1 an1 cd1 ct1), sl1⟩) (c1 : PySem.W.codeIn K cd1 "is_number" = true) (k1 : PySem.W.keepIn K (.ref f1) = true)
    (a2 : PySem.W.nsIn K mainGlobals "is_date" = some (some (.ref f2)))
      (l2 : K.lookup f2 = some ⟨oc2, od2, .func (PySem.W.fnOf "is_date" "is_date" (defArgs (top 13)) (defBody (top 13)) (defScope (top 13)) .none kV2 dc2 pm2 an2 cd2 ct2), sl2⟩) (c2 : PySem.W.codeIn K cd2 "is_date" = true) (k2 : PySem.W.keepIn K (.ref f2) = true)
    (a3 : PySem.W.nsIn K mainGlobals "_law_feed" = some (some (.ref f3)))
      (l3 : K.lookup f3 = some ⟨oc3, od3, .func (PySem.W.fnOf "_law_feed" "_law_feed" (defArgs (top 16)) (defBody (top 16)) (defScope (top 16)) .none kV3 dc3 pm3 an3 cd3 ct3), sl3⟩) (c3 : PySem.W.codeIn K cd3 "_law_feed" = true) (k3 : PySem.W.keepIn K (.ref f3) = true)
    (a4 : PySem.W.nsIn K mainGlobals "_law_take" = some (some (.ref f4)))
      (l4 : K.lookup f4 = some ⟨oc4, od4, .func (PySem.W.fnOf "_law_take" "_law_take" (defArgs (top 17)) (defBody (top 17)) (defScope (top 17)) .none kV4 dc4 pm4 an4 cd4 ct4), sl4⟩) (c4 : PySem.W.codeIn K cd4 "_law_take" = true) (k4 : PySem.W.keepIn K (.ref f4) = true)
    (a5 : PySem.W.nsIn K mainGlobals "_law_of" = some (some (.ref f5)))
      (l5 : K.lookup f5 = some ⟨oc5, od5, .func (PySem.W.fnOf "_law_of" "_law_of" (defArgs (top 18)) (defBody (top 18)) (defScope (top 18)) .none kV5 dc5 pm5 an5 cd5 ct5), sl5⟩) (c5 : PySem.W.codeIn K cd5 "_law_of" = true) (k5 : PySem.W.keepIn K (.ref f5) = true)
    (a6 : PySem.W.nsIn K mainGlobals "_law_same" = some (some (.ref f6)))
      (l6 : K.lookup f6 = some ⟨oc6, od6, .func (PySem.W.fnOf "_law_same" "_law_same" (defArgs (top 19)) (defBody (top 19)) (defScope (top 19)) .none kV6 dc6 pm6 an6 cd6 ct6), sl6⟩) (c6 : PySem.W.codeIn K cd6 "_law_same" = true) (k6 : PySem.W.keepIn K (.ref f6) = true)
    (a7 : PySem.W.nsIn K mainGlobals "_law_new_names" = some (some (.ref f7)))
      (l7 : K.lookup f7 = some ⟨oc7, od7, .func (PySem.W.fnOf "_law_new_names" "_law_new_names" (defArgs (top 21)) (defBody (top 21)) (defScope (top 21)) .none kV7 dc7 pm7 an7 cd7 ct7), sl7⟩) (c7 : PySem.W.codeIn K cd7 "_law_new_names" = true) (k7 : PySem.W.keepIn K (.ref f7) = true)
    (a8 : PySem.W.nsIn K mainGlobals "_law_dates" = some (some (.ref f8)))
      (l8 : K.lookup f8 = some ⟨oc8, od8, .func (PySem.W.fnOf "_law_dates" "_law_dates" (defArgs (top 24)) (defBody (top 24)) (defScope (top 24)) .none kV8 dc8 pm8 an8 cd8 ct8), sl8⟩) (c8 : PySem.W.codeIn K cd8 "_law_dates" = true) (k8 : PySem.W.keepIn K (.ref f8) = true)
    (a9 : PySem.W.nsIn K mainGlobals "law" = some (some (.ref f9)))
      (l9 : K.lookup f9 = some ⟨oc9, od9, .func (PySem.W.fnOf "law" "law" (defArgs (top 25)) (defBody (top 25)) (defScope (top 25)) .none kV9 dc9 pm9 an9 cd9 ct9), sl9⟩) (c9 : PySem.W.codeIn K cd9 "law" = true) (k9 : PySem.W.keepIn K (.ref f9) = true)
    (a10 : PySem.W.findIn K (.ref C0) "__init__" = some (some (.ref f10)))
      (l10 : K.lookup f10 = some ⟨oc10, od10, .func (PySem.W.fnOf "__init__" "Label.__init__" (defArgs (mem 14 0)) (defBody (mem 14 0)) (defScope (mem 14 0)) dV10 kV10 dc10 pm10 an10 cd10 ct10), sl10⟩) (c10 : PySem.W.codeIn K cd10 "Label.__init__" = true) (k10 : PySem.W.keepIn K (.ref f10) = true)
    (a11 : PySem.W.findIn K (.ref C0) "may_be" = some (some (.ref f11)))
      (l11 : K.lookup f11 = some ⟨oc11, od11, .func (PySem.W.fnOf "may_be" "Label.may_be" (defArgs (mem 14 2)) (defBody (mem 14 2)) (defScope (mem 14 2)) .none kV11 dc11 pm11 an11 cd11 ct11), sl11⟩) (c11 : PySem.W.codeIn K cd11 "Label.may_be" = true) (k11 : PySem.W.keepIn K (.ref f11) = true)
    (a12 : PySem.W.findIn K (.ref C0) "narrowed" = some (some (.ref f12)))
      (l12 : K.lookup f12 = some ⟨oc12, od12, .func (PySem.W.fnOf "narrowed" "Label.narrowed" (defArgs (mem 14 3)) (defBody (mem 14 3)) (defScope (mem 14 3)) .none kV12 dc12 pm12 an12 cd12 ct12), sl12⟩) (c12 : PySem.W.codeIn K cd12 "Label.narrowed" = true) (k12 : PySem.W.keepIn K (.ref f12) = true)
    (a13 : PySem.W.findIn K (.ref C0) "parts" = some (some (.ref f13)))
      (l13 : K.lookup f13 = some ⟨oc13, od13, .func (PySem.W.fnOf "parts" "Label.parts" (defArgs (mem 14 4)) (defBody (mem 14 4)) (defScope (mem 14 4)) .none kV13 dc13 pm13 an13 cd13 ct13), sl13⟩) (c13 : PySem.W.codeIn K cd13 "Label.parts" = true) (k13 : PySem.W.keepIn K (.ref f13) = true)
    (a14 : PySem.W.findIn K (.ref C0) "__eq__" = some (some (.ref f14)))
      (l14 : K.lookup f14 = some ⟨oc14, od14, .func (PySem.W.fnOf "__eq__" "Label.__eq__" (defArgs (mem 14 5)) (defBody (mem 14 5)) (defScope (mem 14 5)) .none kV14 dc14 pm14 an14 cd14 ct14), sl14⟩) (c14 : PySem.W.codeIn K cd14 "Label.__eq__" = true) (k14 : PySem.W.keepIn K (.ref f14) = true)
    (a15 : PySem.W.findIn K (.ref C0) "__repr__" = some (some (.ref f15)))
      (l15 : K.lookup f15 = some ⟨oc15, od15, .func (PySem.W.fnOf "__repr__" "Label.__repr__" (defArgs (mem 14 6)) (defBody (mem 14 6)) (defScope (mem 14 6)) .none kV15 dc15 pm15 an15 cd15 ct15), sl15⟩) (c15 : PySem.W.codeIn K cd15 "Label.__repr__" = true) (k15 : PySem.W.keepIn K (.ref f15) = true)
    (a16 : PySem.W.nsIn K mainGlobals "_law_fields" = some (some (.ref f16)))
      (l16 : K.lookup f16 = some ⟨oc16, od16, .func (PySem.W.fnOf "_law_fields" "_law_fields" (defArgs (top 22)) (defBody (top 22)) (defScope (top 22)) .none kV16 dc16 pm16 an16 cd16 ct16), sl16⟩) (c16 : PySem.W.codeIn K cd16 "_law_fields" = true) (k16 : PySem.W.keepIn K (.ref f16) = true)
    (a17 : PySem.W.nsIn K mainGlobals "_law_why" = some (some (.ref f17)))
      (l17 : K.lookup f17 = some ⟨oc17, od17, .func (PySem.W.fnOf "_law_why" "_law_why" (defArgs (top 23)) (defBody (top 23)) (defScope (top 23)) .none kV17 dc17 pm17 an17 cd17 ct17), sl17⟩) (c17 : PySem.W.codeIn K cd17 "_law_why" = true) (k17 : PySem.W.keepIn K (.ref f17) = true)
    (a18 : PySem.W.nsIn K mainGlobals "_law_whys" = some (some (.ref f18)))
      (l18 : K.lookup f18 = some ⟨oc18, od18, .func (PySem.W.fnOf "_law_whys" "_law_whys" (defArgs (top 20)) (defBody (top 20)) (defScope (top 20)) .none kV18 dc18 pm18 an18 cd18 ct18), sl18⟩) (c18 : PySem.W.codeIn K cd18 "_law_whys" = true) (k18 : PySem.W.keepIn K (.ref f18) = true)
    (e9 : cd9 = .ref cc9) (lc9 : K.lookup cc9 = some ⟨ec9, de9, .fields ve9, se9⟩)
    (gv0 : PySem.W.nsIn K mainGlobals "LETTERS" = some (some (.str "abcdefghijklmnopqrstuvwxyz" t0)))
    (gv1 : PySem.W.nsIn K mainGlobals "MOST_LETTERS" = some (some (.int 6 t1)))
    (gv2 : PySem.W.nsIn K mainGlobals "MOST_DATE" = some (some (.int 9999 t2)))
    (z0 : PySem.W.nsIn K mainGlobals "len" = some none)
    (z1 : PySem.W.nsIn K mainGlobals "int" = some none)
    (z2 : PySem.W.nsIn K mainGlobals "all" = some none)
    (z3 : PySem.W.nsIn K mainGlobals "any" = some none)
    (z4 : PySem.W.nsIn K mainGlobals "list" = some none)
    (z5 : PySem.W.nsIn K mainGlobals "tuple" = some none)
    (z6 : PySem.W.nsIn K mainGlobals "str" = some none)
    (z7 : PySem.W.nsIn K mainGlobals "bool" = some none)
    (z8 : PySem.W.nsIn K mainGlobals "isinstance" = some none)
    (z9 : PySem.W.nsIn K mainGlobals "dict" = some none)
    (z10 : PySem.W.nsIn K mainGlobals "range" = some none)
    (z11 : PySem.W.nsIn K mainGlobals "enumerate" = some none)
    (z12 : PySem.W.nsIn K mainGlobals "zip" = some none)
    (z13 : PySem.W.nsIn K mainGlobals "sorted" = some none)
    (z14 : PySem.W.nsIn K mainGlobals "min" = some none)
    (z15 : PySem.W.nsIn K mainGlobals "max" = some none)
    (z16 : PySem.W.nsIn K mainGlobals "repr" = some none)
    (z17 : PySem.W.nsIn K mainGlobals "sum" = some none)
    (z18 : PySem.W.nsIn K mainGlobals "super" = some none)
    (q0 : clChk K C0 = true)
    (q1 : ccChk K C0 C0 true = true)
    (q2 : obChk K = true)
    (q3 : naChk K C0 "key" = true)
    (q4 : naChk K C0 "word" = true)
    (q5 : naChk K C0 "bearer" = true)
    (q6 : naChk K C0 "first" = true)
    (q7 : naChk K C0 "last" = true)
    (q8 : mkChk K C0 f10 = true)
    (q9 : meChk K C0 "__eq__" f14 = true)
    (q10 : meChk K C0 "__repr__" f15 = true)
    (q11 : meChk K C0 "may_be" f11 = true)
    (q12 : meChk K C0 "parts" f13 = true)
    (q13 : meChk K C0 "narrowed" f12 = true)
    (q14 : dvChk K dV10 [.non] = true)
    (q15 : kvChk K kV10 [] [] = true)
    (q16 : xcChk l.prog K C33 1 ([44, 43].map ntL.nm) [(.arg 0), (.cst (tx [73, 110, 118, 97, 108, 105, 100, 68, 97, 116, 101]))] = true)
    (q17 : xcChk l.prog K C32 1 ([44, 43].map ntL.nm) [(.arg 0), (.cst (tx [73, 110, 118, 97, 108, 105, 100, 87, 111, 114, 100]))] = true)
    (q18 : xwChk K C32 [.ref C30, .ref C31, .ref C54] = true)
    (q19 : xwChk K C33 [.ref C30, .ref C31, .ref C54] = true)
    (q20 : xwChk K C54 [.ref C30, .ref C31, .ref C54] = true)
    (q21 : codB K cc9 ec9 ve9 = true)
    (q22 : tbsB [(tabOf ve9, ("law" : Str) ++ (".<locals>." : Str) ++ ("<lambda>" : Str))] = true)
    : LamX.LawAtS l w K (L2.CX l.prog w) 57 63 "_law_script" mg fa h := by
  have e := hfa.symm.trans (PySem.W.mg_of X G a9)
  cases e
  subst e9
  have hc9 := codB_of q21 X lc9
  refine ⟨PySem.W.fnOf "law" "law" (defArgs (top 25)) (defBody (top 25)) (defScope (top 25)) .none kV9 dc9 pm9 an9 (.ref cc9) ct9, [(cc9, tabOf ve9)], spLawT K [(cc9, tabOf ve9)], fun p hp => by have hp := List.mem_singleton.mp hp; subst hp; exact own "law" (by decide) fa hfa cc9 (tabOf ve9) _ _ _ _ _ _ l9 rfl rfl lc9 hc9.2.2, fun p hp => by have hp := List.mem_singleton.mp hp; subst hp; exact hc9.2.1, fun p hp => by have hp := List.mem_singleton.mp hp; subst hp; exact hc9.1, fun s v => .of_eq rfl, fun H a ns hl _ hT hS => ⟨a, ns, rfl, hS, hl, hT, fun _ => rfl⟩, fun base hK hN hTB => ?_⟩
  let caL : Nat → Addr := fun c => match c with | 0 => C0 | 30 => C30 | 31 => C31 | 32 => C32 | 33 => C33 | 54 => C54 | _ => 0
  let L : Ld := { x := { K := K, ca := caL, nm := ntL.nm, live := ntL.live, tbs := [(tabOf ve9, ("law" : Str) ++ (".<locals>." : Str) ++ ("<lambda>" : Str))] }, nt := ntL, prog := l.prog, w := w, mg := mg, base := base, Gm := GmS, Cd := CdL }
  have F0 : FunD K "is_word" "is_word" (defArgs (top 11)) (defBody (top 11)) (defScope (top 11)) [] [] f0 (PySem.W.fnOf "is_word" "is_word" (defArgs (top 11)) (defBody (top 11)) (defScope (top 11)) .none kV0 dc0 pm0 an0 cd0 ct0) := fund_0 l0 c0 k0
  have D0 : FnD L "is_word" "is_word" (top 11) f0 _ ["value", "letter"] ["value"] c_is_word := ⟨⟨_, _, F0⟩, sc_is_word, .inl ck_is_word⟩
  have F1 : FunD K "is_number" "is_number" (defArgs (top 12)) (defBody (top 12)) (defScope (top 12)) [] [] f1 (PySem.W.fnOf "is_number" "is_number" (defArgs (top 12)) (defBody (top 12)) (defScope (top 12)) .none kV1 dc1 pm1 an1 cd1 ct1) := fund_0 l1 c1 k1
  have D1 : FnD L "is_number" "is_number" (top 12) f1 _ ["value", "least", "most"] ["value", "least", "most"] c_is_number := ⟨⟨_, _, F1⟩, sc_is_number, .inl ck_is_number⟩
  have F2 : FunD K "is_date" "is_date" (defArgs (top 13)) (defBody (top 13)) (defScope (top 13)) [] [] f2 (PySem.W.fnOf "is_date" "is_date" (defArgs (top 13)) (defBody (top 13)) (defScope (top 13)) .none kV2 dc2 pm2 an2 cd2 ct2) := fund_0 l2 c2 k2
  have D2 : FnD L "is_date" "is_date" (top 13) f2 _ ["value"] ["value"] c_is_date := ⟨⟨_, _, F2⟩, sc_is_date, .inl ck_is_date⟩
  have F3 : FunD K "_law_feed" "_law_feed" (defArgs (top 16)) (defBody (top 16)) (defScope (top 16)) [] [] f3 (PySem.W.fnOf "_law_feed" "_law_feed" (defArgs (top 16)) (defBody (top 16)) (defScope (top 16)) .none kV3 dc3 pm3 an3 cd3 ct3) := fund_0 l3 c3 k3
  have D3 : FnD L "_law_feed" "_law_feed" (top 16) f3 _ ["_law_script", "_law_cells", "_law_mark", "_law_cell"] ["_law_script"] c_law_feed := ⟨⟨_, _, F3⟩, sc_law_feed, .inl ck_law_feed⟩
  have F4 : FunD K "_law_take" "_law_take" (defArgs (top 17)) (defBody (top 17)) (defScope (top 17)) [] [] f4 (PySem.W.fnOf "_law_take" "_law_take" (defArgs (top 17)) (defBody (top 17)) (defScope (top 17)) .none kV4 dc4 pm4 an4 cd4 ct4) := fund_0 l4 c4 k4
  have D4 : FnD L "_law_take" "_law_take" (top 17) f4 _ ["_law_feed_here", "_law_many", "_law_drawn", "_law_cell", "_law_early", "_law_late"] ["_law_feed_here", "_law_many"] c_law_take := ⟨⟨_, _, F4⟩, sc_law_take, .inl ck_law_take⟩
  have F5 : FunD K "_law_of" "_law_of" (defArgs (top 18)) (defBody (top 18)) (defScope (top 18)) [] [] f5 (PySem.W.fnOf "_law_of" "_law_of" (defArgs (top 18)) (defBody (top 18)) (defScope (top 18)) .none kV5 dc5 pm5 an5 cd5 ct5) := fund_0 l5 c5 k5
  have D5 : FnD L "_law_of" "_law_of" (top 18) f5 _ ["_law_feed_here", "_law_items"] ["_law_feed_here", "_law_items"] c_law_of := ⟨⟨_, _, F5⟩, sc_law_of, .inl ck_law_of⟩
  have F6 : FunD K "_law_same" "_law_same" (defArgs (top 19)) (defBody (top 19)) (defScope (top 19)) [] [] f6 (PySem.W.fnOf "_law_same" "_law_same" (defArgs (top 19)) (defBody (top 19)) (defScope (top 19)) .none kV6 dc6 pm6 an6 cd6 ct6) := fund_0 l6 c6 k6
  have D6 : FnD L "_law_same" "_law_same" (top 19) f6 _ ["_law_found", "_law_due", "_law_key", "_law_one", "_law_two"] ["_law_found", "_law_due"] c_law_same := ⟨⟨_, _, F6⟩, sc_law_same, .inl ck_law_same⟩
  have F7 : FunD K "_law_new_names" "_law_new_names" (defArgs (top 21)) (defBody (top 21)) (defScope (top 21)) [] [] f7 (PySem.W.fnOf "_law_new_names" "_law_new_names" (defArgs (top 21)) (defBody (top 21)) (defScope (top 21)) .none kV7 dc7 pm7 an7 cd7 ct7) := fund_0 l7 c7 k7
  have D7 : FnD L "_law_new_names" "_law_new_names" (top 21) f7 _ ["_law_feed_here", "_law_many", "_law_letters", "_law_stem", "_law_at", "_law_first_z", "_law_k"] ["_law_feed_here", "_law_many"] c_law_new_names := ⟨⟨_, _, F7⟩, sc_law_new_names, .inl ck_law_new_names⟩
  have F8 : FunD K "_law_dates" "_law_dates" (defArgs (top 24)) (defBody (top 24)) (defScope (top 24)) [] [] f8 (PySem.W.fnOf "_law_dates" "_law_dates" (defArgs (top 24)) (defBody (top 24)) (defScope (top 24)) .none kV8 dc8 pm8 an8 cd8 ct8) := fund_0 l8 c8 k8
  have D8 : FnD L "_law_dates" "_law_dates" (top 24) f8 _ ["_law_feed_here", "_law_wide", "_law_first_z"] ["_law_feed_here", "_law_wide"] c_law_dates := ⟨⟨_, _, F8⟩, sc_law_dates, .inl ck_law_dates⟩
  have F9 : FunD K "law" "law" (defArgs (top 25)) (defBody (top 25)) (defScope (top 25)) [] [] fa (PySem.W.fnOf "law" "law" (defArgs (top 25)) (defBody (top 25)) (defScope (top 25)) .none kV9 dc9 pm9 an9 (.ref cc9) ct9) := fund_0 l9 c9 k9
  obtain ⟨dv10, mv10, F10, dl10, ml10, dr10⟩ := fund_g (dD := [.non]) (mD := []) (names := []) l10 c10 k10 q14 q15
  have D10 : FnD L "__init__" "Label.__init__" (mem 14 0) f10 _ ["self", "key", "word", "bearer", "first", "last", "value"] ["self", "key", "word", "bearer", "first", "last"] c_Label_init := ⟨⟨_, _, F10⟩, sc_Label__init, .inl ck_Label__init⟩
  have F11 : FunD K "may_be" "Label.may_be" (defArgs (mem 14 2)) (defBody (mem 14 2)) (defScope (mem 14 2)) [] [] f11 (PySem.W.fnOf "may_be" "Label.may_be" (defArgs (mem 14 2)) (defBody (mem 14 2)) (defScope (mem 14 2)) .none kV11 dc11 pm11 an11 cd11 ct11) := fund_0 l11 c11 k11
  have D11 : FnD L "may_be" "Label.may_be" (mem 14 2) f11 _ ["self", "date"] ["self", "date"] c_Label_may_be := ⟨⟨_, _, F11⟩, sc_Label_may_be, .inl ck_Label_may_be⟩
  have F12 : FunD K "narrowed" "Label.narrowed" (defArgs (mem 14 3)) (defBody (mem 14 3)) (defScope (mem 14 3)) [] [] f12 (PySem.W.fnOf "narrowed" "Label.narrowed" (defArgs (mem 14 3)) (defBody (mem 14 3)) (defScope (mem 14 3)) .none kV12 dc12 pm12 an12 cd12 ct12) := fund_0 l12 c12 k12
  have D12 : FnD L "narrowed" "Label.narrowed" (mem 14 3) f12 _ ["self", "first", "last"] ["self", "first", "last"] c_Label_narrowed := ⟨⟨_, _, F12⟩, sc_Label_narrowed, .inl ck_Label_narrowed⟩
  have F13 : FunD K "parts" "Label.parts" (defArgs (mem 14 4)) (defBody (mem 14 4)) (defScope (mem 14 4)) [] [] f13 (PySem.W.fnOf "parts" "Label.parts" (defArgs (mem 14 4)) (defBody (mem 14 4)) (defScope (mem 14 4)) .none kV13 dc13 pm13 an13 cd13 ct13) := fund_0 l13 c13 k13
  have D13 : FnD L "parts" "Label.parts" (mem 14 4) f13 _ ["self"] ["self"] c_Label_parts := ⟨⟨_, _, F13⟩, sc_Label_parts, .inl ck_Label_parts⟩
  have F14 : FunD K "__eq__" "Label.__eq__" (defArgs (mem 14 5)) (defBody (mem 14 5)) (defScope (mem 14 5)) [] [] f14 (PySem.W.fnOf "__eq__" "Label.__eq__" (defArgs (mem 14 5)) (defBody (mem 14 5)) (defScope (mem 14 5)) .none kV14 dc14 pm14 an14 cd14 ct14) := fund_0 l14 c14 k14
  have D14 : FnD L "__eq__" "Label.__eq__" (mem 14 5) f14 _ ["self", "other"] ["self", "other"] c_Label_eq := ⟨⟨_, _, F14⟩, sc_Label__eq, .inl ck_Label__eq⟩
  have F15 : FunD K "__repr__" "Label.__repr__" (defArgs (mem 14 6)) (defBody (mem 14 6)) (defScope (mem 14 6)) [] [] f15 (PySem.W.fnOf "__repr__" "Label.__repr__" (defArgs (mem 14 6)) (defBody (mem 14 6)) (defScope (mem 14 6)) .none kV15 dc15 pm15 an15 cd15 ct15) := fund_0 l15 c15 k15
  have D15 : FnD L "__repr__" "Label.__repr__" (mem 14 6) f15 _ ["self"] ["self"] c_Label_repr := ⟨⟨_, _, F15⟩, sc_Label__repr, .inl ck_Label__repr⟩
  have F16 : FunD K "_law_fields" "_law_fields" (defArgs (top 22)) (defBody (top 22)) (defScope (top 22)) [] [] f16 (PySem.W.fnOf "_law_fields" "_law_fields" (defArgs (top 22)) (defBody (top 22)) (defScope (top 22)) .none kV16 dc16 pm16 an16 cd16 ct16) := fund_0 l16 c16 k16
  have F17 : FunD K "_law_why" "_law_why" (defArgs (top 23)) (defBody (top 23)) (defScope (top 23)) [] [] f17 (PySem.W.fnOf "_law_why" "_law_why" (defArgs (top 23)) (defBody (top 23)) (defScope (top 23)) .none kV17 dc17 pm17 an17 cd17 ct17) := fund_0 l17 c17 k17
  have F18 : FunD K "_law_whys" "_law_whys" (defArgs (top 20)) (defBody (top 20)) (defScope (top 20)) [] [] f18 (PySem.W.fnOf "_law_whys" "_law_whys" (defArgs (top 20)) (defBody (top 20)) (defScope (top 20)) .none kV18 dc18 pm18 an18 cd18 ct18) := fund_0 l18 c18 k18
  have hnd : L.x.nm = L.nt.nm ∧ L.nt.fl.Nodup := ⟨rfl, (show flL.Nodup by decide +kernel)⟩
  have wok : WhyOk L.x [.ref C30, .ref C31, .ref C54] msL qL wcL := whyok_of hnd (fun c hc => by
    have hc : c ∈ ([32, 33, 54] : List Nat) := hc
    simp only [List.mem_cons, List.not_mem_nil, or_false] at hc
    rcases hc with hc | hc | hc
    · subst hc; exact q18
    · subst hc; exact q19
    · subst hc; exact q20
    ) (show wtB ntL msL qL wcL = true by decide +kernel)
  have W0 := why_fn (L := L) (ms := msL) (q := qL) l16 c16 sc_law_fields (by decide +kernel) (by decide +kernel) (by decide +kernel) F17 sc_law_why (by decide +kernel) (by decide +kernel) (PySem.W.mg_of X G cC30) (PySem.W.mg_of X G cC31) (PySem.W.mg_of X G cC54) (PySem.W.mg_of X G a16) k16 (F16.bindsN (ps := ["_law_e"]) (fun _ _ _ _ _ _ us hl => match us, hl with | [_], _ => rfl))
  have bW := F17.bindsN (ps := ["_law_ask"]) (fun _ _ _ _ _ _ us hl => match us, hl with | [_], _ => rfl)
  have W1 := why1_at wok (PySem.W.mg_of X G a17) k17 bW W0
  have W2 := whys_at wok (PySem.W.mg_of X G a17) k17 bW W0 F18 sc_law_whys (by decide +kernel) (by decide +kernel) (PySem.W.mg_of X G a18) k18 (F18.bindsN (ps := ["_law_asks"]) (fun _ _ _ _ _ _ us hl => match us, hl with | [_], _ => rfl))
  have D9 : FnD L "law" "law" (top 25) fa _ ["_law_script", "_law_feed_here", "_law_turn", "_law_made", "_law_due", "_law_told", "_law_odd", "_law_asks", "_law_a", "_law_b", "_law_c", "_law_first_z", "_law_last_z", "_law_one", "_law_two"] ["_law_script"] c_law := ⟨⟨_, _, F9⟩, sc_law, .inr ⟨cc9, tabOf ve9, some wcL, some wcL, lmkOf ntL lamL (defScope (top 25)), rfl, hTB (cc9, tabOf ve9) (.head _), .head _, tbsB_of q22 (.head _), (fun n w e => by cases e; exact W2 n), (fun n w e => by cases e; exact W1 n), lmkOf_ok (L := L) fun j n e hj => CdOf.lam (by decide +kernel) hj, ck_law⟩⟩
  have CO : ClO L.x := {
    hn := (obChk_of q2).1, ht := (obChk_of q2).2,
    cl := fun c hc => by
      have hc : c ∈ ([0] : List Nat) := of_decide_eq_true hc
      simp only [List.mem_cons, List.not_mem_nil, or_false] at hc
      · subst hc; exact clChk_of q0
    cc := fun c k hc hk => by
      have hc : c ∈ ([0] : List Nat) := of_decide_eq_true hc
      have hk : k ∈ ([0] : List Nat) := of_decide_eq_true hk
      simp only [List.mem_cons, List.not_mem_nil, or_false] at hc hk
      subst hc; subst hk
      · exact ccChk_of q1
    }
  have B3 := kbn_0 (ks := ["value"]) (n := 0) (L := [.k 0]) F0 (ps := ["value"]) fun kV doc pm an cdv ct us ws l1 l2 => match us, ws, l1, l2 with | [], [_], _, _ => rfl
  have B4 := kbn_0 (ks := ["value"]) (n := 0) (L := [.k 0]) F2 (ps := ["value"]) fun kV doc pm an cdv ct us ws l1 l2 => match us, ws, l1, l2 with | [], [_], _, _ => rfl
  obtain ⟨iv2002, B2002⟩ := kbn_d (ks := []) (n := 5) (L := [.p 0, .p 1, .p 2, .p 3, .p 4, .d 0]) F10 (by intro z; rw [z] at dl10; cases dl10) (ps := ["self", "key", "word", "bearer", "first", "last"]) fun T kV doc pm an cdv ct us its ws l1 l2 l3 => match us, its, ws, l1, l2.trans dl10, l3 with | [_, _, _, _, _], [_], [], _, _, _ => ⟨_, rfl, rfl⟩
  obtain ⟨iv2003, B2003⟩ := kbn_d (ks := []) (n := 6) (L := [.p 0, .p 1, .p 2, .p 3, .p 4, .p 5]) F10 (by intro z; rw [z] at dl10; cases dl10) (ps := ["self", "key", "word", "bearer", "first", "last"]) fun T kV doc pm an cdv ct us its ws l1 l2 l3 => match us, its, ws, l1, l2.trans dl10, l3 with | [_, _, _, _, _, _], [_], [], _, _, _ => ⟨_, rfl, rfl⟩
  obtain ⟨iv2004, B2004⟩ := kbn_d (ks := ["last", "first", "bearer", "word", "key"]) (n := 1) (L := [.p 0, .k 4, .k 3, .k 2, .k 1, .k 0]) F10 (by intro z; rw [z] at dl10; cases dl10) (ps := ["self", "key", "word", "bearer", "first", "last"]) fun T kV doc pm an cdv ct us its ws l1 l2 l3 => match us, its, ws, l1, l2.trans dl10, l3 with | [_], [_], [_, _, _, _, _], _, _, _ => ⟨_, rfl, rfl⟩
  have B2005 := kbn_0 (ks := []) (n := 2) (L := [.p 0, .p 1]) F14 (ps := ["self", "other"]) fun kV doc pm an cdv ct us ws l1 l2 => match us, ws, l1, l2 with | [_, _], [], _, _ => rfl
  have B2024 := kbn_0 (ks := []) (n := 1) (L := [.p 0]) F15 (ps := ["self"]) fun kV doc pm an cdv ct us ws l1 l2 => match us, ws, l1, l2 with | [_], [], _, _ => rfl
  have B2034 := kbn_0 (ks := ["date"]) (n := 1) (L := [.p 0, .k 0]) F11 (ps := ["self", "date"]) fun kV doc pm an cdv ct us ws l1 l2 => match us, ws, l1, l2 with | [_], [_], _, _ => rfl
  have B2035 := kbn_0 (ks := []) (n := 1) (L := [.p 0]) F13 (ps := ["self"]) fun kV doc pm an cdv ct us ws l1 l2 => match us, ws, l1, l2 with | [_], [], _, _ => rfl
  have B2073 := kbn_0 (ks := []) (n := 2) (L := [.p 0, .p 1]) F11 (ps := ["self", "date"]) fun kV doc pm an cdv ct us ws l1 l2 => match us, ws, l1, l2 with | [_, _], [], _, _ => rfl
  have B2091 := kbn_0 (ks := []) (n := 3) (L := [.p 0, .p 1, .p 2]) F12 (ps := ["self", "first", "last"]) fun kV doc pm an cdv ct us ws l1 l2 => match us, ws, l1, l2 with | [_, _, _], [], _, _ => rfl
  have B2197 := kbn_0 (ks := ["last", "first"]) (n := 1) (L := [.p 0, .k 1, .k 0]) F12 (ps := ["self", "first", "last"]) fun kV doc pm an cdv ct us ws l1 l2 => match us, ws, l1, l2 with | [_], [_, _], _, _ => rfl
  have ok : LdOk L := {
    fn := fun f hf => by
      have hf : f ∈ ([0, 1, 2, 10, 11, 12, 13, 14, 108, 299] : List Nat) := of_decide_eq_true hf
      simp only [List.mem_cons, List.not_mem_nil, or_false] at hf
      rcases hf with h | h | h | h | h | h | h | h | h | h
      · subst h; exact ⟨_, _, _, _, _, _, _, _, D0, PySem.W.mg_of X G a0, F0.bindsN (ps := ["value"]) (fun _ _ _ _ _ _ us hl => match us, hl with | [_], _ => rfl), rfl⟩
      · subst h; exact ⟨_, _, _, _, _, _, _, _, D1, PySem.W.mg_of X G a1, F1.bindsN (ps := ["value", "least", "most"]) (fun _ _ _ _ _ _ us hl => match us, hl with | [_, _, _], _ => rfl), rfl⟩
      · subst h; exact ⟨_, _, _, _, _, _, _, _, D2, PySem.W.mg_of X G a2, F2.bindsN (ps := ["value"]) (fun _ _ _ _ _ _ us hl => match us, hl with | [_], _ => rfl), rfl⟩
      · subst h; exact ⟨_, _, _, _, _, _, _, _, D3, PySem.W.mg_of X G a3, F3.bindsN (ps := ["_law_script"]) (fun _ _ _ _ _ _ us hl => match us, hl with | [_], _ => rfl), rfl⟩
      · subst h; exact ⟨_, _, _, _, _, _, _, _, D4, PySem.W.mg_of X G a4, F4.bindsN (ps := ["_law_feed_here", "_law_many"]) (fun _ _ _ _ _ _ us hl => match us, hl with | [_, _], _ => rfl), rfl⟩
      · subst h; exact ⟨_, _, _, _, _, _, _, _, D5, PySem.W.mg_of X G a5, F5.bindsN (ps := ["_law_feed_here", "_law_items"]) (fun _ _ _ _ _ _ us hl => match us, hl with | [_, _], _ => rfl), rfl⟩
      · subst h; exact ⟨_, _, _, _, _, _, _, _, D6, PySem.W.mg_of X G a6, F6.bindsN (ps := ["_law_found", "_law_due"]) (fun _ _ _ _ _ _ us hl => match us, hl with | [_, _], _ => rfl), rfl⟩
      · subst h; exact ⟨_, _, _, _, _, _, _, _, D7, PySem.W.mg_of X G a7, F7.bindsN (ps := ["_law_feed_here", "_law_many"]) (fun _ _ _ _ _ _ us hl => match us, hl with | [_, _], _ => rfl), rfl⟩
      · subst h; exact ⟨_, _, _, _, _, _, _, _, D8, PySem.W.mg_of X G a8, F8.bindsN (ps := ["_law_feed_here", "_law_wide"]) (fun _ _ _ _ _ _ us hl => match us, hl with | [_, _], _ => rfl), rfl⟩
      · subst h; exact ⟨_, _, _, _, _, _, _, _, D9, PySem.W.mg_of X G a9, F9.bindsN (ps := ["_law_script"]) (fun _ _ _ _ _ _ us hl => match us, hl with | [_], _ => rfl), rfl⟩
    fk := fun f hf => by
      have hf : f ∈ ([3, 4] : List Nat) := of_decide_eq_true hf
      simp only [List.mem_cons, List.not_mem_nil, or_false] at hf
      rcases hf with hf | hf
      · subst hf; exact ⟨_, PySem.W.mg_of X G a0, k0, .inl ⟨_, _, _, _, _, _, _, _, _, _, D0, B3, rfl, fun G io ds es vs zs l1 l2 r1 r2 => ⟨rfl, lay_rp (L := [.k 0]) l1 r1 r2 .nil .nil⟩⟩⟩
      · subst hf; exact ⟨_, PySem.W.mg_of X G a2, k2, .inl ⟨_, _, _, _, _, _, _, _, _, _, D2, B4, rfl, fun G io ds es vs zs l1 l2 r1 r2 => ⟨rfl, lay_rp (L := [.k 0]) l1 r1 r2 .nil .nil⟩⟩⟩
    fm := fun f hf => by
      have hf : f ∈ ([2002, 2003, 2004] : List Nat) := of_decide_eq_true hf
      simp only [List.mem_cons, List.not_mem_nil, or_false] at hf
      rcases hf with hf | hf | hf
      · subst hf; exact ⟨_, _, _, _, _, _, _, _, _, _, _, 0, 1000, rfl, D10, PySem.W.mg_of X G cC0, mkChk_of q8, B2002, ⟨_, _, _, rfl⟩, rfl, fun G io ds es v vs zs d l1 l2 r0 r1 r2 => ⟨rfl, layM_rp (L := [.p 1, .p 2, .p 3, .p 4, .d 0]) l1 r0 r1 r2 (dr10 _ G io rfl).1 (rpl_sel (dr10 _ G io rfl).2 [])⟩⟩
      · subst hf; exact ⟨_, _, _, _, _, _, _, _, _, _, _, 0, 1000, rfl, D10, PySem.W.mg_of X G cC0, mkChk_of q8, B2003, ⟨_, _, _, rfl⟩, rfl, fun G io ds es v vs zs d l1 l2 r0 r1 r2 => ⟨rfl, layM_rp (L := [.p 1, .p 2, .p 3, .p 4, .p 5]) l1 r0 r1 r2 (dr10 _ G io rfl).1 (rpl_sel (dr10 _ G io rfl).2 [])⟩⟩
      · subst hf; exact ⟨_, _, _, _, _, _, _, _, _, _, _, 0, 1000, rfl, D10, PySem.W.mg_of X G cC0, mkChk_of q8, B2004, ⟨_, _, _, rfl⟩, rfl, fun G io ds es v vs zs d l1 l2 r0 r1 r2 => ⟨rfl, layM_rp (L := [.k 4, .k 3, .k 2, .k 1, .k 0]) l1 r0 r1 r2 (dr10 _ G io rfl).1 (rpl_sel (dr10 _ G io rfl).2 [])⟩⟩
    nm := rfl, nd := (show flL.Nodup by decide +kernel), lv := rfl, ko := CO,
    fa := fun c f h => by
      have h : (c, f) ∈ faL := of_decide_eq_true h
      simp only [faL, List.mem_cons, List.not_mem_nil, or_false, Prod.mk.injEq] at h
      rcases h with ⟨rfl, rfl⟩ | ⟨rfl, rfl⟩ | ⟨rfl, rfl⟩ | ⟨rfl, rfl⟩ | ⟨rfl, rfl⟩
      · exact naChk_of q3
      · exact naChk_of q4
      · exact naChk_of q5
      · exact naChk_of q6
      · exact naChk_of q7
    me := fun c i m n kk h => by
      have h := mem_lookP h
      simp only [meL, List.mem_cons, List.not_mem_nil, or_false, Prod.mk.injEq] at h
      rcases h with ⟨⟨rfl, rfl⟩, rfl, rfl, rfl⟩ | ⟨⟨rfl, rfl⟩, rfl, rfl, rfl⟩ | ⟨⟨rfl, rfl⟩, rfl, rfl, rfl⟩ | ⟨⟨rfl, rfl⟩, rfl, rfl, rfl⟩ | ⟨⟨rfl, rfl⟩, rfl, rfl, rfl⟩ | ⟨⟨rfl, rfl⟩, rfl, rfl, rfl⟩ | ⟨⟨rfl, rfl⟩, rfl, rfl, rfl⟩
      · exact ⟨f14, meChk_of q9, .inl ⟨_, _, _, _, _, _, _, _, _, _, D14, B2005, rfl, fun G io ds es vs zs l1 l2 r1 r2 => ⟨rfl, lay_rp (L := [.p 0, .p 1]) l1 r1 r2 .nil .nil⟩⟩⟩
      · exact ⟨f15, meChk_of q10, .inl ⟨_, _, _, _, _, _, _, _, _, _, D15, B2024, rfl, fun G io ds es vs zs l1 l2 r1 r2 => ⟨rfl, lay_rp (L := [.p 0]) l1 r1 r2 .nil .nil⟩⟩⟩
      · exact ⟨f11, meChk_of q11, .inl ⟨_, _, _, _, _, _, _, _, _, _, D11, B2034, rfl, fun G io ds es vs zs l1 l2 r1 r2 => ⟨rfl, lay_rp (L := [.p 0, .k 0]) l1 r1 r2 .nil .nil⟩⟩⟩
      · exact ⟨f13, meChk_of q12, .inl ⟨_, _, _, _, _, _, _, _, _, _, D13, B2035, rfl, fun G io ds es vs zs l1 l2 r1 r2 => ⟨rfl, lay_rp (L := [.p 0]) l1 r1 r2 .nil .nil⟩⟩⟩
      · exact ⟨f11, meChk_of q11, .inl ⟨_, _, _, _, _, _, _, _, _, _, D11, B2073, rfl, fun G io ds es vs zs l1 l2 r1 r2 => ⟨rfl, lay_rp (L := [.p 0, .p 1]) l1 r1 r2 .nil .nil⟩⟩⟩
      · exact ⟨f12, meChk_of q13, .inl ⟨_, _, _, _, _, _, _, _, _, _, D12, B2091, rfl, fun G io ds es vs zs l1 l2 r1 r2 => ⟨rfl, lay_rp (L := [.p 0, .p 1, .p 2]) l1 r1 r2 .nil .nil⟩⟩⟩
      · exact ⟨f12, meChk_of q13, .inl ⟨_, _, _, _, _, _, _, _, _, _, D12, B2197, rfl, fun G io ds es vs zs l1 l2 r1 r2 => ⟨rfl, lay_rp (L := [.p 0, .k 1, .k 0]) l1 r1 r2 .nil .nil⟩⟩⟩
    cn := fun c hc => by
      match c, hc with
      | 0, _ => exact ⟨PySem.W.mg_of X G cC0, rfl⟩
      | n + 1, hc => exact absurd rfl hc
    go := fun i hi => gone_ok hi
    gv := fun g hg => by
      match g, hg with
      | 0, _ => exact ⟨_, .str "abcdefghijklmnopqrstuvwxyz", PySem.W.mg_of X G gv0, ⟨_, rfl⟩, fun _ _ => (by show V.str "abcdefghijklmnopqrstuvwxyz" = V.str (tx az); exact congrArg V.str (by decide +kernel))⟩
      | 1, _ => exact ⟨_, .int 6, PySem.W.mg_of X G gv1, ⟨_, rfl⟩, fun _ _ => rfl⟩
      | 2, _ => exact ⟨_, .int 9999, PySem.W.mg_of X G gv2, ⟨_, rfl⟩, fun _ _ => rfl⟩
      | n + 3, hg => exact absurd rfl hg
    xq := fun x n c ns vs h => by
      have h := mem_lookX h
      simp only [xqT, List.mem_cons, List.not_mem_nil, or_false, Prod.mk.injEq] at h
      rcases h with ⟨⟨rfl, rfl⟩, rfl, rfl, rfl⟩ | ⟨⟨rfl, rfl⟩, rfl, rfl, rfl⟩
      · exact xcChk_of (T := L.T 0) (PySem.W.mg_of X G cC33) q16
      · exact xcChk_of (T := L.T 0) (PySem.W.mg_of X G cC32) q17
    bl := fun n hn => by
      simp only [bltNames, List.mem_cons, List.not_mem_nil, or_false] at hn
      rcases hn with h | h | h | h | h | h | h | h | h | h | h | h | h | h | h | h | h | h | h
      · subst h; exact PySem.W.mg_none_of X G z0
      · subst h; exact PySem.W.mg_none_of X G z1
      · subst h; exact PySem.W.mg_none_of X G z2
      · subst h; exact PySem.W.mg_none_of X G z3
      · subst h; exact PySem.W.mg_none_of X G z4
      · subst h; exact PySem.W.mg_none_of X G z5
      · subst h; exact PySem.W.mg_none_of X G z6
      · subst h; exact PySem.W.mg_none_of X G z7
      · subst h; exact PySem.W.mg_none_of X G z8
      · subst h; exact PySem.W.mg_none_of X G z9
      · subst h; exact PySem.W.mg_none_of X G z10
      · subst h; exact PySem.W.mg_none_of X G z11
      · subst h; exact PySem.W.mg_none_of X G z12
      · subst h; exact PySem.W.mg_none_of X G z13
      · subst h; exact PySem.W.mg_none_of X G z14
      · subst h; exact PySem.W.mg_none_of X G z15
      · subst h; exact PySem.W.mg_none_of X G z16
      · subst h; exact PySem.W.mg_none_of X G z17
      · subst h; exact PySem.W.mg_none_of X G z18
    }
  refine law_fin (L := L) (cs := [(cc9, tabOf ve9)]) (N := 15) (fuel := 14) (code := c_law) rfl (lv_fn (ld_ok ok 14) D9) (fun p hp => by
    have hp : p ∈ [(tabOf ve9, ("law" : Str) ++ (".<locals>." : Str) ++ ("<lambda>" : Str))] := hp
    simp only [List.mem_cons, List.not_mem_nil, or_false] at hp
    rcases hp with hp <;> (subst hp; simp)) fun ns hl => ?_
  obtain ⟨m, hm⟩ := law_ok (Cd := CdL) (TabS.of (live := liveL) (by decide +kernel)) rfl (fun j n e hj => CdOf.lam (by decide +kernel) hj) ns hl
  exact ⟨m, (Pn_eq (L := L) (f := 299) (gd := id) rfl _ _).symm.trans hm⟩
end En
open PySem PySem.W PyProof.Rows
theorem PySem.Challenge.cw_namehold_k05_labels_narrowed_holds : PySem.Challenge.rw_namehold_k05_labels_narrowed.Holds := by
  exact En.early @En.all_mk

