import PyProof.Rows.All
import Wide.All
import OpenK.AllK
import Wide.FinOn
import HandS.ForMost
import HandS.Flow
import HandS.Style
import HandS.Star
import HandS.Zip
import HandS.TupAny
import HandS.TupMul
import HandS.IsInst
import HandS.Wide
import HandS.WideMore
import HandS.WideBits
import HandS.Conv
import HandS.Codes
import HandS.Deep
import HandS.AnyAll
import HandS.EndTab
import HandS.Small
import HandS.More
import HandS.WrittenGet
import KE.SortData
import KE.GoesMore
import KE.GoesZip
import KE.GoesEnum
import HandS.Head0
import HandS.Head1
import HandS.Head2
import HandS.HeadHook1
import HandS.HeadHook2
import HandS.HeadHook3
import HandS.HeadHook4
import HandS.HeadWalk
import HandS.Defaults
import PySem.Challenge.RW_monicsums_k17_whole_zero_sums_partings_a
set_option Elab.async false
set_option linter.all false
set_option maxRecDepth 100000
set_option maxHeartbeats 4000000
/-! The mirror: what each def computes, over plain numbers and lists. -/
namespace Mo
/-! ### numbers -/
def digF (b : Nat) : Nat → Nat → List Nat
  | 0, _ => []
  | f + 1, n => bif Nat.beq n 0 then [] else n % b :: digF b f (n / b)
def digs (b n : Nat) : List Nat := digF b n n
def sumL : List Nat → Nat
  | [] => 0
  | x :: r => x + sumL r
def dsum (b n : Nat) : Nat := sumL (digs b n)
def ofD (b : Nat) (row : List Nat) : Nat := row.reverse.foldl (fun v d => v * b + d) 0
def minL : List Nat → Nat
  | [] => 0
  | [x] => x
  | x :: r => min x (minL r)
def pOf (q : Nat) : Nat := bif Nat.beq q 2 then 2 else bif Nat.beq q 3 then 3 else bif Nat.beq q 4 then 2 else bif Nat.beq q 5 then 5 else bif Nat.beq q 7 then 7 else bif Nat.beq q 8 then 2 else 3
def fOf (q : Nat) : Nat := bif Nat.beq q 4 then 2 else bif Nat.beq q 8 then 3 else bif Nat.beq q 9 then 2 else 1
def Qs : List Nat := [2, 3, 4, 5, 7, 8, 9]

/-! ### the law's field -/
def eSum (p f a b : Nat) : Nat := ((List.range f).foldl (fun (s : Nat × Nat) _ => (s.1 + (a / s.2 + b / s.2) % p * s.2, s.2 * p)) (0, 1)).1
def eInner (p i l : Nat) (found : List Nat) (bs : List Nat) : List Nat :=
  bs.zipIdx.foldl (fun found rj => found.set (i + rj.2) ((found.getD (i + rj.2) 0 + l * rj.1) % p)) found
def eConv (p : Nat) (as bs : List Nat) (found : List Nat) : List Nat := as.zipIdx.foldl (fun found li => eInner p li.2 li.1 found bs) found
def eStep (p f i : Nat) (found : List Nat) : List Nat :=
  if 1 < f then
    let f1 := found.set (i - f) ((found.getD (i - f) 0 + found.getD i 0) % p)
    let f2 := f1.set (i - f + 1) ((f1.getD (i - f + 1) 0 + f1.getD i 0) % p)
    f2.set i 0
  else found
def eRed (p f : Nat) (found : List Nat) : List Nat := (List.range f).foldl (fun found k => eStep p f (2 * f - 1 - k) found) found
def eProd (p f a b : Nat) : Nat := ((eRed p f (eConv p (digs p a) (digs p b) (List.replicate (2 * f) 0))).take f).reverse.foldl (fun v d => v * p + d) 0
def plusT (q : Nat) : List (List Nat) := (List.range q).map fun a => (List.range q).map fun b => eSum (pOf q) (fOf q) a b
def mulT (q : Nat) : List (List Nat) := (List.range q).map fun a => (List.range q).map fun b => eProd (pOf q) (fOf q) a b
def lk (T : List (List Nat)) (a b : Nat) : Nat := (T.getD a []).getD b 0

/-! ### the law's polynomials -/
def trimLen (row : List Nat) : Nat → Nat
  | 0 => 0
  | n + 1 => if row.getD n 0 = 0 then trimLen row n else n + 1
def trim (row : List Nat) : List Nat := row.take (trimLen row row.length)
def padTo (n : Nat) (a : List Nat) : List Nat := a ++ List.replicate (n - a.length) 0
def pPlus (q : Nat) (a b : List Nat) : List Nat :=
  trim (List.zipWith (lk (plusT q)) (padTo (max a.length b.length) a) (padTo (max a.length b.length) b))
def pInner (q j r : Nat) (found : List Nat) (a : List Nat) : List Nat :=
  a.zipIdx.foldl (fun found li => found.set (li.2 + j) (lk (plusT q) (found.getD (li.2 + j) 0) (lk (mulT q) li.1 r))) found
def pProd (q : Nat) (a b : List Nat) : List Nat :=
  if a = [] ∨ b = [] then [] else
    b.zipIdx.foldl (fun found rj => if rj.1 ≠ 0 then pInner q rj.2 rj.1 found a else found) (List.replicate (a.length + b.length - 1) 0)
def stretch (step : Nat) (a : List Nat) : List Nat :=
  a.zipIdx.foldl (fun found xa => found.set (step * xa.2) xa.1) (if a ≠ [] then List.replicate (step * (a.length - 1) + 1) 0 else [])
def pRep (q : Nat) (big : List Nat) : Nat → List Nat → List Nat
  | 0, found => found
  | n + 1, found => pRep q big n (pProd q found big)
def pPow (q : Nat) (a : List Nat) (k : Nat) : List Nat :=
  (digs q k).zipIdx.foldl (fun found di => pRep q (stretch (q ^ di.2) a) di.1 found) [1]
def lower (q d : Nat) : List (List Nat) := (List.range (q ^ d)).map fun n => digs q n
def monic (d : Nat) (a : List Nat) : List Nat := a ++ List.replicate (d - a.length) 0 ++ [1]
def monics (q d : Nat) : List (List Nat) := (lower q d).map (monic d)
def pSum (q d k : Nat) : List Nat := (monics q d).foldl (fun found a => pPlus q found (pPow q a k)) []

/-! ### the law's numbers -/
def sizeGo (q most : Nat) : Nat → Nat → Nat
  | 0, d => d
  | f + 1, d => if q ^ (d + 1) ≤ most then sizeGo q most f (d + 1) else d
def sizeM (q most : Nat) : Nat := sizeGo q most (most + 1) 0
def mostM (q k : Nat) : Nat := minL ((List.range (fOf q)).map fun j => dsum q (pOf q ^ j * k) / (q - 1))
def withinGo (p : Nat) : List Nat → List Nat → Nat → List Nat
  | [], found, _ => found
  | d :: r, found, place => withinGo p r ((List.range (d + 1)).flatMap fun more => found.map fun one => one + more * place) (place * p)
def within (p k : Nat) : List Nat := withinGo p (digs p k) [0] 1
def partStep (q : Nat) (found : List (List Nat × Nat)) : List (List Nat × Nat) :=
  found.flatMap fun pl => ((within (pOf q) pl.2).filter fun one => decide (0 < one) && decide (one % (q - 1) = 0)).map fun one => (pl.1 ++ [one], pl.2 - one)
def partGo (q : Nat) : Nat → List (List Nat × Nat) → List (List Nat × Nat)
  | 0, found => found
  | d + 1, found => partGo q d (partStep q found)
def partingsM (q d k : Nat) : List (List Nat × Nat) := partGo q d [([], k)]
def isPartM (q d k : Nat) (v : List Nat) : Bool :=
  decide (v.length = d + 1) && (decide (sumL v = k) && ((v.take d).all (fun one => !decide (one = 0) && decide (one % (q - 1) = 0)) &&
    decide (sumL (v.map (dsum (pOf q))) = dsum (pOf q) k)))
def barsM (q d k : Nat) : List Nat := (List.range (fOf q)).filter fun j => decide (dsum q (pOf q ^ j * k) / (q - 1) < d)

/-! ### the program -/
def shiftsGo (q p : Nat) : Nat → Nat → List Nat
  | 0, _ => []
  | f + 1, k => dsum q k :: shiftsGo q p f (k * p)
def shifts (q k : Nat) : List Nat := shiftsGo q (pOf q) (fOf q) k
def mostParts (q k : Nat) : Nat := minL (shifts q k) / (q - 1)
def weights (q : Nat) : List Nat := [1, pOf q, pOf q * pOf q].take (fOf q)
def rowsGo (q : Nat) : Nat → List (List Nat) → List (List Nat)
  | 0, rows => rows
  | f + 1, rows => rowsGo q f (rows.flatMap fun row => (List.range q).map fun u => row ++ [u])
def rowsOf (q : Nat) : List (List Nat) := rowsGo q (fOf q) [[]]
def dot : List Nat → List Nat → Nat
  | w :: ws, n :: ns => n * w + dot ws ns
  | _, _ => 0
def restOf (q : Nat) (units : List Nat) : Nat := dot (weights q) units % (q - 1)
def putRow (q : Nat) (found : List (List (List Nat))) (row : List Nat) : List (List (List Nat)) :=
  found.set (restOf q row) (found.getD (restOf q row) [] ++ [row])
def vecs (q : Nat) : List (List (List Nat)) := (rowsOf q).foldl (putRow q) (List.replicate (q - 1) [])
def everyGo (f : Nat) : Nat → List Nat → List Nat
  | _, [] => []
  | 0, x :: r => x :: everyGo f (f - 1) r
  | n + 1, _ :: r => everyGo f n r
def every (f r : Nat) (row : List Nat) : List Nat := everyGo f r row
def unitsOf (f : Nat) (row : List Nat) : List Nat := (List.range f).map fun r => sumL (every f r row)
def turnW (q s : Nat) : List Nat := (weights q).drop s ++ (weights q).take s
def hasRoom (q : Nat) (units : List Nat) (n : Nat) : Bool := (List.range (fOf q)).all fun s => !Nat.blt (dot (turnW q s) units) (n * (q - 1))
def leL : List Nat → List Nat → Bool
  | a :: as, b :: bs => Nat.ble a b && leL as bs
  | _, _ => true
def subL : List Nat → List Nat → List Nat
  | a :: as, b :: bs => (a - b) :: subL as bs
  | _, _ => []
def addL : List Nat → List Nat → List Nat
  | a :: as, b :: bs => (a + b) :: addL as bs
  | _, _ => []
def leftOk (q : Nat) (vec : List (List (List Nat))) (fixed free : List Nat) (n : Nat) : Bool :=
  (vec.getD (restOf q (addL fixed free)) []).any fun row => leL row free && hasRoom q (subL (addL fixed free) row) n
def withUnit (units : List Nat) (place digit : Nat) : List Nat := units.set (place % units.length) (units.getD (place % units.length) 0 + digit)
def findD (ok : Nat → Bool) : Nat → Nat → Option Nat
  | 0, _ => none
  | f + 1, d => bif ok d then some d else findD ok f (d + 1)
/-- places n - 1, .., 0 of the row -/
def restGo (q : Nat) (vec : List (List (List Nat))) (row : List Nat) (n : Nat) : Nat → List Nat → List Nat → Option (List Nat)
  | 0, told, _ => some told
  | place + 1, told, fixed =>
    match findD (fun digit => leftOk q vec (withUnit fixed place digit) (unitsOf (fOf q) (row.take place)) n) (pOf q) 0 with
    | none => none
    | some digit => restGo q vec row n place (told ++ [digit]) (withUnit fixed place digit)
def leastRest (q : Nat) (vec : List (List (List Nat))) (whole n : Nat) : Option Nat :=
  match restGo q vec (digs (pOf q) whole) n (digs (pOf q) whole).length [] (List.replicate (fOf q) 0) with
  | none => none
  | some told => some (ofD (pOf q) told.reverse)
def greatGo (q : Nat) (vec : List (List (List Nat))) : Nat → List Nat → Nat → Option (List Nat)
  | 0, found, left => some (left :: found.reverse)
  | n + 1, found, left =>
    match leastRest q vec left (n + 1) with
    | none => none
    | some rest => bif Nat.ble rest left then greatGo q vec n (found ++ [left - rest]) rest else none
/-- none: not told; some none: None -/
def greatest (q : Nat) (vec : List (List (List Nat))) (d k : Nat) : Option (Option (List Nat)) :=
  bif Nat.blt (mostParts q k) d then some none else (greatGo q vec d [] k).map some
def barGo (lim : Nat) : Nat → List Nat → Option Nat
  | _, [] => none
  | i, s :: r => bif Nat.blt s lim then some i else barGo lim (i + 1) r
def barM (q d k : Nat) : Option Nat := barGo (d * (q - 1)) 0 (shifts q k)

/-! ### the law, once -/
def paperOk (q : Nat) (vec : List (List (List Nat))) (d k : Nat) (due : Bool) : Bool :=
  match greatest q vec d k with
  | none => false
  | some told => (Nat.blt (mostParts q k) d == due) && ((told.isNone == due) && (((barM q d k).isNone != due) &&
      ((match told with | none => true | some v => isPartM q d k v) && (match barM q d k with | none => true | some b => (barsM q d k).contains b))))
def restOk (q : Nat) (vec : List (List (List Nat))) (d k : Nat) (due : Bool) : Bool :=
  (due == Nat.blt (mostM q k) d) && ((due == (partingsM q d k).isEmpty) && (paperOk q vec d k due && paperOk q vec d (k * pOf q) due))
def dMax (q : Nat) : Nat := min 4 (sizeM q 81)
def kMax (d : Nat) : Nat := if 2 < d then 30 else 80
end Mo
/-! Rules of our own beside the hand layer's. -/
namespace Mo
open PySem PySem.Spec PyProof.Rows L2
abbrev vn (n : Nat) : V := .int (n : Int)

/-! ### ints from 0 on -/
section
variable {X : Cx}
theorem opN {f : Value → Value → Sem Value} {C : Int → Int → Prop} {g : Int → Int → Int} {D : Nat → Nat → Prop} {k : Nat → Nat → Nat} (h : OpR X f (rI C fun i j => .int (g i j)))
    (hc : ∀ n m, D n m → C n m ∧ g n m = ((k n m : Nat) : Int)) : OpR X f (fun x y H Q => ∃ n m : Nat, x = vn n ∧ y = vn m ∧ D n m ∧ Q (vn (k n m)) H) := by
  intro pins s σ H x y v u Q I rx ry ⟨n, m, e1, e2, d, q⟩
  obtain ⟨c, e⟩ := hc n m d
  exact h pins s σ H x y v u Q I rx ry ⟨n, m, e1, e2, c, by dsimp only; rw [e]; exact q⟩
def rN (D : Nat → Nat → Prop) (k : Nat → Nat → Nat) : R2 := fun x y H Q => ∃ n m : Nat, x = vn n ∧ y = vn m ∧ D n m ∧ Q (vn (k n m)) H
theorem nMul : OpR X (binaryOp .Mult) (rN (fun n m => n < 2 ^ 60 ∨ m < 2 ^ 60) fun n m => n * m) := opN op_mul fun n m d => by
  refine ⟨?_, by simp⟩
  have e : (2 : Nat) ^ 60 = 1152921504606846976 := by decide
  have e2 : (2 : Int) ^ 64 = 18446744073709551616 := by decide
  unfold CMul
  rw [e2]
  rw [e] at d
  omega
theorem nMod : OpR X (binaryOp .Mod) (rN (fun _ m => 0 < m) fun n m => n % m) := opN op_mod fun n m d => ⟨by omega, by simp⟩
theorem nDiv : OpR X (binaryOp .FloorDiv) (rN (fun _ m => 0 < m ∧ m < 1073741824) fun n m => n / m) := opN op_fdiv fun n m d => ⟨by unfold CDiv; omega, by simp⟩
theorem nSub : OpR X (binaryOp .Sub) (rN (fun n m => m ≤ n) fun n m => n - m) := by
  intro pins s σ H x y v u Q I rx ry ⟨n, m, e1, e2, d, q⟩
  refine op_sub pins s σ H x y v u Q I rx ry ⟨n, m, e1, e2, ?_⟩
  have e : ((n : Int) - (m : Int)) = ((n - m : Nat) : Int) := by omega
  dsimp only; rw [e]; exact q
theorem nAdd : OpR X (binaryOp .Add) (rN (fun _ _ => True) fun n m => n + m) := by
  intro pins s σ H x y v u Q I rx ry ⟨n, m, e1, e2, d, q⟩
  exact op_add pins s σ H x y v u Q I rx ry ⟨n, m, e1, e2, q⟩
def rNB (g : Nat → Nat → Bool) : R2 := fun x y H Q => ∃ n m : Nat, x = vn n ∧ y = vn m ∧ Q (.bl (g n m)) H
theorem opNB {f : Value → Value → Sem Value} {g : Int → Int → Bool} {k : Nat → Nat → Bool} (h : OpR X f (rI0 fun i j => .bl (g i j))) (hc : ∀ n m : Nat, g n m = k n m) : OpR X f (rNB k) := by
  intro pins s σ H x y v u Q I rx ry ⟨n, m, e1, e2, q⟩
  exact h pins s σ H x y v u Q I rx ry ⟨n, m, e1, e2, by dsimp only; rw [hc]; exact q⟩
theorem nLt : OpR X (compareOp .Lt) (rNB fun n m => decide (n < m)) := opNB op_lt fun n m => decide_eq_decide.mpr (by omega)
theorem nLe : OpR X (compareOp .LtE) (rNB fun n m => decide (n ≤ m)) := opNB op_le fun n m => decide_eq_decide.mpr (by omega)
theorem nGt : OpR X (compareOp .Gt) (rNB fun n m => decide (m < n)) := opNB op_gt fun n m => decide_eq_decide.mpr (by omega)
theorem nGe : OpR X (compareOp .GtE) (rNB fun n m => decide (m ≤ n)) := opNB op_ge fun n m => decide_eq_decide.mpr (by omega)
theorem vn_eq {n m : Nat} : decide (vn n = vn m) = decide (n = m) := decide_eq_decide.mpr ⟨fun h => by injection h with h; omega, fun h => by rw [h]⟩
theorem nEq : OpR X (compareOp .Eq) (rNB fun n m => decide (n = m)) := by
  intro pins s σ H x y v u Q I rx ry ⟨n, m, e1, e2, q⟩
  subst e1 e2
  exact op_eq pins s σ H _ _ v u Q I rx ry ⟨rfl, by rw [vn_eq]; exact q⟩
theorem nNe : OpR X (compareOp .NotEq) (rNB fun n m => !decide (n = m)) := by
  intro pins s σ H x y v u Q I rx ry ⟨n, m, e1, e2, q⟩
  subst e1 e2
  exact op_ne pins s σ H _ _ v u Q I rx ry ⟨rfl, by rw [vn_eq]; exact q⟩
/-- a op= e at a name -/
theorem ipN {op : Operator} {r : R2} (h : OpR X (inplaceOp op) r) : PIp X op r := h
theorem ip_addN : PIp X .Add (rN (fun _ _ => True) fun n m => n + m) := by
  intro pins s σ H x y v u Q I rx ry ⟨n, m, e1, e2, d, q⟩
  exact iop_add pins s σ H x y v u Q I rx ry ⟨n, m, e1, e2, q⟩
theorem ip_fdiv : PIp X .FloorDiv (rN (fun _ m => 0 < m ∧ m < 1073741824) fun n m => n / m) := opN iop_fdiv fun n m d => ⟨by unfold CDiv; omega, by simp⟩
theorem ip_mul : PIp X .Mult (rN (fun n m => n < 2 ^ 60 ∨ m < 2 ^ 60) fun n m => n * m) := opN iop_mul fun n m d => by
  refine ⟨?_, by simp⟩
  have e : (2 : Nat) ^ 60 = 1152921504606846976 := by decide
  have e2 : (2 : Int) ^ 64 = 18446744073709551616 := by decide
  unfold CMul
  rw [e2]
  rw [e] at d
  omega
/-- o[i] of a list, for o[i] op= e -/
def rGetN (K : PySem.W.Frag) : R2 := fun x y H Q => ∃ (p : Addr) (xs : List V) (i : Nat) (v : V), x = .ref p ∧ y = vn i ∧ SqL K H p xs ∧ xs[i]? = some v ∧ Q v H
theorem get_list : PGet X (rGetN X.K) := by
  intro pins s σ H x y v u Q I rx ry h
  obtain ⟨p, xs, i, z, rfl, rfl, hq, he, q⟩ := h
  cases rx
  obtain ⟨t, rfl⟩ := ry
  obtain ⟨its, r, pl, hz⟩ := I.list hq
  obtain ⟨w, ew, rw'⟩ := r.get he
  have hl := r.length
  have hn := line63
  have hi : i < xs.length := (List.getElem?_eq_some_iff.mp he).1
  exact wpAny_getItem_list pl.isList (by omega) (by omega) (by simpa using ew) ⟨z, H, I, rw', q⟩
/-- d[k] of a dict of the written part, int keys -/
def KIntD (K : PySem.W.Frag) (a : Addr) (f : Int → Option V) : Prop :=
  ∃ es n, K.lookup a = some ⟨.type "dict", none, .dict es n, #[]⟩ ∧ (∀ e ∈ es, ∃ i t, e.key = .int i t ∧ e.hash = hashInt i) ∧ ∀ i v, f i = some v → ∃ u, findBy Value.isInt es i = some u ∧ RelV v u
def rIxKI (K : PySem.W.Frag) : R2 := fun x y H Q => ∃ p i v f, x = .ref p ∧ y = .int i ∧ KIntD K p f ∧ f i = some v ∧ Q v H
theorem ix_kint : IxR X (rIxKI X.K) := by
  intro value slice pins s σ H x y v u Q I rx ry h hs
  obtain ⟨p, i, z, f, rfl, rfl, ⟨es, n, hl, hk, hf⟩, he, q⟩ := h
  cases rx
  obtain ⟨t, rfl⟩ := ry
  obtain ⟨u0, e, ru⟩ := hf i z he
  have hm : s.heap.MapOf (intKind X.prog X.w) p (fun k => findBy Value.isInt es k) :=
    ⟨_, es, n, I.kIn _ _ hl, ⟨rfl, rfl, rfl⟩, rfl, fun e he => by
      obtain ⟨i, t, e1, e2⟩ := hk e he
      exact ⟨i, by rw [e1]; exact intKind_is X.prog X.w i t, e2⟩, fun _ => rfl⟩
  exact tail_any hm.typeIs slot_dict_getitem.lookup (wpAny_getItem_of (intKind_is X.prog X.w i t) hm e ⟨z, H, I.tok _, ru, q⟩) hs
end

/-! ### a list or a tuple -/
def SqK (k : Bool) (K : PySem.W.Frag) (H : Hp) (a : Addr) (xs : List V) : Prop := match k with | true => SqT K H a xs | false => SqL K H a xs
def IsItK (k : Bool) (h : Heap) (it a : Addr) (i : Nat) : Prop := match k with | true => h.IsTupleIter it a i | false => h.IsListIter it a i
def IsSqK (k : Bool) (h : Heap) (a : Addr) (its : Array Value) : Prop := match k with | true => h.IsTuple a its | false => h.IsList a its
def itObj (k : Bool) (a : Addr) : Obj := match k with | true => { cls := .type "tuple_iterator", data := .fields #[.ref a, .int 0 0] } | false => { cls := .type "list_iterator", data := .fields #[.ref a, .int 0 0] }
theorem itK_at {k : Bool} {h : Heap} {it a : Addr} (e : h.get? it = some (itObj k a)) : IsItK k h it a 0 := by
  cases k
  · exact ⟨_, e, rfl, rfl⟩
  · exact ⟨_, e, rfl, rfl⟩
theorem IsItK.at {k : Bool} {h h' : Heap} {it a : Addr} {i : Nat} (x : IsItK k h it a i) (e : ∀ o, h.get? it = some o → h'.get? it = some o) : IsItK k h' it a i := by
  cases k
  · exact Heap.IsListIter.at x e
  · exact Heap.IsTupleIter.at x e
theorem IsItK.obj {k : Bool} {h : Heap} {it a : Addr} {i : Nat} (x : IsItK k h it a i) : ∃ o, h.get? it = some o ∧ ∀ v, o.data ≠ .cell v := by
  cases k
  · obtain ⟨o, ho, _, hd⟩ := x
    exact ⟨o, ho, fun v q => by rw [hd] at q; cases q⟩
  · obtain ⟨o, ho, _, hd⟩ := x
    exact ⟨o, ho, fun v q => by rw [hd] at q; cases q⟩
theorem draws_k {prog : Program} {w : World} {A : Around} (hh : A.handled = none) (k : Bool) (it l : Addr) (hne : l ≠ it) (items : Array Value) :
    Draws prog w A it [it, l] items.size (fun i v => items[i]? = some v) (fun i h => IsItK k h it l i ∧ IsSqK k h l items) := by
  cases k
  · exact Draws.list hh it l hne items
  · exact Draws.tuple hh it l hne items
theorem begins_k (k : Bool) (l : Addr) (items : Array Value) : Begins (.ref l) (itObj k l) fun h => IsSqK k h l items := by
  cases k
  · exact begins_list l items
  · exact begins_tuple l items
theorem inv_sqk {X : Cx} {pins : List (Addr × Obj)} {σ : L2.St} {H : Hp} {s : Shared} {k : Bool} {a : Addr} {xs : List V} (I : Inv X pins σ H s) (h : SqK k X.K H a xs) :
    ∃ its : List Value, Vals xs its ∧ IsSqK k s.heap a its.toArray ∧ xs.length ≤ sizeLine ∧ a < s.heap.objs.size := by
  cases k
  · obtain ⟨its, r, p, z⟩ := I.list h
    exact ⟨its, r, p.isList, z, p.lt⟩
  · obtain ⟨its, r, p, z⟩ := I.tuple h
    exact ⟨its, r, p, z, p.lt⟩
theorem inv_sqk_inj {X : Cx} {pins : List (Addr × Obj)} {σ : L2.St} {H : Hp} {s : Shared} {k : Bool} {a : Addr} {xs ys : List V} (I : Inv X pins σ H s) (h : SqK k X.K H a xs) (h' : SqK k X.K H a ys) : xs = ys := by
  cases k
  · exact I.list_inj h h'
  · exact I.tuple_inj h h'
/-- an iterator's object is no list, no tuple -/
theorem itk_ne {k k2 : Bool} {h : Heap} {it a b : Addr} {i : Nat} {its : Array Value} (x : IsItK k h it a i) (y : IsSqK k2 h b its) : b ≠ it := by
  intro e
  subst e
  cases k <;> cases k2 <;> (obtain ⟨o, ho, hc, _⟩ := x; obtain ⟨o2, ho2, hc2, _⟩ := y; rw [ho] at ho2; cases ho2; rw [hc] at hc2; injection hc2 with q; exact absurd q (by decide))

/-! ### enumerate(list or tuple) -/
def IteK (k : Bool) (K : PySem.W.Frag) (a : Addr) : It :=
  ⟨fun i H => ∃ (xs : List V) (x : V), SqK k K H a xs ∧ xs[i]? = some x, fun i H v H' => ∃ T x, v = .ref T ∧ H T = none ∧ H' = upd H T (.tup [.int (i : Nat), x]) ∧ ∀ xs, SqK k K H a xs → xs[i]? = some x, fun i H => ∃ xs : List V, SqK k K H a xs ∧ xs.length = i⟩
theorem turn_enumK {P : Program} {w : World} {K : PySem.W.Frag} {elts : List Expr} {kk : Nat} {tpos : Pos} (k : Bool) (a e it : Addr) :
    Turn P w K (.Tuple elts kk tpos) (IteK k K a) [e, it] e (fun i h => (∃ old, IsEnum h e it ((i : Nat) : Int) old) ∧ IsItK k h it a i ∧ e ≠ it) where
  mem := by simp
  obj := fun i h st b hb => by
    obtain ⟨⟨old, he⟩, hit, _⟩ := st
    have e' : b = e ∨ b = it := by simpa using hb
    rcases e' with z | z
    · rw [z]; exact ⟨_, he, fun v q => nomatch q⟩
    · rw [z]; exact hit.obj
  keep := fun i h h' st k => let ⟨⟨old, he⟩, hi, hne⟩ := st; ⟨⟨old, k e (by simp) _ he⟩, hi.at fun o q => k it (by simp) o q, hne⟩
  item := by
    intro X hP hw hK hc i pins s σ H E I hf st hg
    subst hP hw hK
    obtain ⟨⟨old, he⟩, hit, hne⟩ := st
    obtain ⟨xs, x, hq, hx⟩ := hg
    obtain ⟨its, rv, p, hz, _⟩ := inv_sqk I hq
    obtain ⟨u, hu, ru⟩ := rv.get hx
    have hel : e < s.heap.objs.size := Heap.lt_size he
    have hil : it < s.heap.objs.size := by obtain ⟨_, q, _⟩ := hit.obj; exact Heap.lt_size q
    have hai : a ≠ it := itk_ne hit p
    have hea : e ≠ a := fun z => by
      rw [z] at he
      cases k <;> (obtain ⟨o2, ho2, hc2, _⟩ := p; rw [he] at ho2; cases ho2; injection hc2 with q; exact absurd q (by decide))
    have hlt : i < its.toArray.size := by
      have q1 := (List.getElem?_eq_some_iff.mp hu).1
      rw [List.size_toArray]; exact q1
    refine wpAny_pyNext_enum_itemD (draws_k (A := X.A.in1) (I.ok.hd hc) k it a hai its.toArray) he ⟨hit, p⟩ hlt hne (by simp [hne, hea]) fun y h' tk hy ho hst' hT hsz hk => ?_
    have ey : y = u := by
      have hy' : its.toArray[i]? = some y := hy
      rw [List.getElem?_toArray, hu] at hy'
      exact (Option.some.inj hy').symm
    subst ey
    obtain ⟨hit', _⟩ := hst'
    refine ⟨_, rfl, wpAny_letOwnedTupleGo_enum (s := { s with heap := h', toks := tk + 1 }) ho fun h'' he' sb => ?_⟩
    have hT2 : h''.get? s.heap.objs.size = some { cls := .type "tuple", data := .seq #[.int i tk, y] } := (sb.2 _ (Nat.ne_of_gt hel)).trans hT
    have new : ObjOk X.prog X.w (upd H s.heap.objs.size (.tup [.int (i : Nat), x])) h'' s.heap.objs.size (.tup [.int (i : Nat), x]) :=
      ⟨by show 2 ≤ sizeLine; decide, [.int i tk, y], .cons ⟨_, rfl⟩ (.cons ru .nil), ⟨_, hT2, rfl, _, rfl⟩⟩
    have I1 : Inv X pins σ (upd H s.heap.objs.size (.tup [.int (i : Nat), x])) { s with heap := h'', toks := tk + 1 } :=
      I.turnedNew (ch := [e, it]) (fun b ob hb q => (sb.2 b (fun z => hb (by simp [z]))).trans (hk b ob (fun z => hb (by simp [z])) (fun z => hb (by simp [z])) q)) hf (Nat.le_refl _) new
    refine ⟨.ref s.heap.objs.size, _, I1, rfl, ⟨_, x, rfl, I.hok.fresh (Nat.le_refl _), rfl, fun ys hy => by rw [inv_sqk_inj I hy hq]; exact hx⟩, ⟨⟨y, ?_⟩, hit'.at fun o q => (sb.2 it (Ne.symm hne)).trans q, hne⟩, fun b hb => ?_⟩
    · have e1 : ((i + 1 : Nat) : Int) = (i : Int) + 1 := by omega
      rw [e1]; exact he'
    · have hb' : b < s.heap.objs.size := by
        have e' : b = e ∨ b = it := by simpa using hb
        rcases e' with z | z
        · rw [z]; exact hel
        · rw [z]; exact hil
      rw [upd_ne (Nat.ne_of_lt hb')]
      exact (hf b hb).1
  done := by
    intro X hP hw hK hc i pins s σ H E I hf st hg
    subst hP hw hK
    obtain ⟨⟨old, he⟩, hit, hne⟩ := st
    obtain ⟨xs, hq, hx⟩ := hg
    obtain ⟨its, rv, p, hz, _⟩ := inv_sqk I hq
    obtain ⟨f0, f1, f2, f3, f4, f5⟩ := hf it (by simp)
    have hl := rv.length
    have hai : a ≠ it := itk_ne hit p
    have hin : i = its.toArray.size := by rw [List.size_toArray]; omega
    rw [hin] at hit
    exact wpAny_pyNext_enum_endD (draws_k (A := X.A.in1) (I.ok.hd hc) k it a hai its.toArray) he ⟨hit, p⟩ fun h' eb => ⟨rfl, I.turned (t' := s.toks) (fun b o hb q => eb b o hb q) f0 f1 f3 f4 f5⟩
  self := fun A i s Q E st h => let ⟨⟨_, he⟩, _⟩ := st; wpAny_pyIter_enum he h
def iEnumK (k : Bool) (K : PySem.W.Frag) (ta : TA) : TI := fun σ H R => ta σ H fun vs H1 => ∃ a xs, vs = [.ref a] ∧ SqK k K H1 a xs ∧ R (IteK k K a) H1
theorem meets_enum1 {v : Value} {o : Obj} {H : Heap → Prop} (B : Begins v o H) :
    Meets (Builtin.«enumerate.__new__» ⟨[.type "enumerate", v], []⟩) (fun _ R s => H s.heap ∧
      R (.ok (.ret (.ref (s.heap.push o).objs.size))) { s with heap := (s.heap.push o).push { cls := .type "enumerate", data := .fields #[.none, .bool false, .ref s.heap.objs.size, rawInt 0, .none, .none] } }) :=
  .of_wp fun prog w A R s h => by
    obtain ⟨hp, g, d, tk, os⟩ := s; obtain ⟨h1, h⟩ := h
    have hsub := sub_enumerate
    have q1 : ∀ {A' : Around} {E : Value → Shared → Prop} {Q : Value → Shared → Prop}, Q (.ref hp.objs.size) ⟨hp.push o, g, d, tk, os⟩ → wpAny (model prog w) A' (pyIter v) Q E ⟨hp, g, d, tk, os⟩ :=
      fun q => B.iter prog w _ _ ⟨hp, g, d, tk, os⟩ _ h1 q
    wp_walk using q1
    refine wpAny_stack_any fun st => wpAny_pure ?_
    split
    · rename_i c _ _ _ _ _
      cases (c == Value.type "enumerate")
      · wp_walk using q1
        exact ⟨_, rfl, h⟩
      · wp_walk using q1
        exact ⟨_, rfl, h⟩
    · wp_walk using q1
      exact ⟨_, rfl, h⟩
theorem enum_begins1 {prog : Program} {w : World} {A : Around} {E : Value → Shared → Prop} {s : Shared} {v : Value} {o : Obj} {H : Heap → Prop} {Q : Value → Shared → Prop} (B : Begins v o H) (h1 : H s.heap)
    (h : ∀ h', IsEnum h' (s.heap.objs.size + 1) s.heap.objs.size 0 .none → h'.get? s.heap.objs.size = some o → h'.objs.size = s.heap.objs.size + 2 →
      (∀ b o, s.heap.get? b = some o → h'.get? b = some o) → Q (.ref (s.heap.objs.size + 1)) { s with heap := h' }) :
    wpAny (model prog w) A (call (.type "enumerate") [v]) Q E s := by
  refine callType_new F.called_enumerate (by decide) (F.typeCall_enumerate_1 _) (F.newCall_enumerate_1 _) (fun obj => F.args_object_init_2 obj _) F.entry_enumerate_new
    (meets_enum1 B) ⟨h1, ?_⟩
  have hz : (s.heap.push o).objs.size = s.heap.objs.size + 1 := Heap.size_push ..
  show _ ∧ _
  rw [hz]
  have he : IsEnum ((s.heap.push o).push { cls := .type "enumerate", data := .fields #[.none, .bool false, .ref s.heap.objs.size, rawInt 0, .none, .none] }) (s.heap.objs.size + 1) s.heap.objs.size 0 .none := by
    have := Heap.get?_push_size (s.heap.push o) (o := { cls := .type "enumerate", data := .fields #[.none, .bool false, .ref s.heap.objs.size, rawInt 0, .none, .none] }) rfl
    rw [hz] at this; exact this
  refine ⟨⟨_, he, rfl⟩, h _ he (Heap.get?_push_of_some _ (Heap.get?_push_size _ B.free)) (by rw [Heap.size_push, hz]) fun b o x => Heap.get?_push_of_some _ (Heap.get?_push_of_some _ x)⟩
theorem pi_enumK {X : Cx} {e : Expr} {ta : TA} {p pos tpos : Pos} {elts : List Expr} {kk : Nat} (k : Bool) (hg : Gl X "enumerate") (hm : X.mg "enumerate" = none) (ha : PA X [e] ta) (hs : starEach [e] X.env = [(false, eval e X.env)] := by rfl) :
    PI X (.Tuple elts kk tpos) (.Call (.Name "enumerate" p) [e] [] pos) (iEnumK k X.K ta) := by
  refine ⟨fun pins s σ H R I h => ?_⟩
  refine Call_ (ld_blt I hg hm boot_enumerate (PyProof.Rows.callWith_type1 (thn (ha.run pos pins s σ H _ I h) fun us s1 ⟨vs, H1, I1, r1, q1⟩ => ?_) hs rfl))
  obtain ⟨a, xs, ex, hq, q⟩ := q1
  subst ex
  cases r1 with
  | cons r rr =>
    cases rr
    cases r
    obtain ⟨its, rv, p', hz, _⟩ := inv_sqk I1 hq
    refine enum_begins1 (begins_k k a its.toArray) p' fun h' he hit hsz hk => wpAny_pyIter_enum he ?_
    have I2 : Inv X pins σ H1 { s1 with heap := h' } := I1.kept (t' := s1.toks) hk
    refine ⟨s1.heap.objs.size + 1, [s1.heap.objs.size + 1, s1.heap.objs.size], _, _, H1, rfl, I2, turn_enumK k a (s1.heap.objs.size + 1) s1.heap.objs.size, ⟨⟨.none, he⟩, itK_at hit, Nat.succ_ne_self _⟩, fun b hb => ?_, q⟩
    have e' : b = s1.heap.objs.size + 1 ∨ b = s1.heap.objs.size := by simpa using hb
    have hle : s1.heap.objs.size ≤ b := by
      rcases e' with z | z
      · rw [z]; exact Nat.le_add_right _ _
      · rw [z]; exact Nat.le_refl _
    exact I1.fpOk hle (I1.hok.fresh hle)

/-! ### zip of two, lists or tuples -/
def ItzK (k k2 : Bool) (K : PySem.W.Frag) (a b : Addr) : It :=
  ⟨fun i H => ∃ (xs ys : List V) (x y : V), SqK k K H a xs ∧ SqK k2 K H b ys ∧ xs[i]? = some x ∧ ys[i]? = some y,
    fun i H v H' => ∃ T x y, v = .ref T ∧ H T = none ∧ H' = upd H T (.tup [x, y]) ∧ (∀ xs, SqK k K H a xs → xs[i]? = some x) ∧ ∀ ys, SqK k2 K H b ys → ys[i]? = some y,
    fun i H => ∃ xs ys : List V, SqK k K H a xs ∧ SqK k2 K H b ys ∧ i ≤ xs.length ∧ i ≤ ys.length ∧ (i = xs.length ∨ i = ys.length)⟩
theorem zsep {z TI TO i1 i2 a b : Addr} (D : ZipApart z TI TO i1 i2 a b) : ZipSep2 z TI TO i1 i2 [i1, a] [i2, b] := by
  obtain ⟨d1, d2, d3, d4, d5, d6, d7, d8, d9, d10, d11, d12, d13, d14, d15, d16, d17, d18⟩ := D
  exact ⟨d1, d2, d5, d6, by simp, by simp [Ne.symm d3, Ne.symm d11], by simp [d8, Ne.symm d12], d7, by simp, by simp [Ne.symm d4, Ne.symm d15], by simp [d9, Ne.symm d16], by simp [d10, Ne.symm d17], by simp [Ne.symm d10, Ne.symm d14]⟩
theorem turn_zipK {P : Program} {w : World} {K : PySem.W.Frag} {elts : List Expr} {kk : Nat} {tpos : Pos} {a b z TI TO i1 i2 : Addr} (k k2 : Bool) (D : ZipApart z TI TO i1 i2 a b) :
    Turn P w K (.Tuple elts kk tpos) (ItzK k k2 K a b) [z, TI, TO, i1, i2] z (fun i h => IsZip h z TI TO .none ∧ IsPair h TI (.ref i1) (.ref i2) ∧ (∃ x y, IsPair h TO x y) ∧ IsItK k h i1 a i ∧ IsItK k2 h i2 b i) where
  mem := by simp
  obj := fun i h st c hc => by
    obtain ⟨hz, hTI, ⟨x, y, hTO⟩, hi1, hi2⟩ := st
    have e' : c = z ∨ c = TI ∨ c = TO ∨ c = i1 ∨ c = i2 := by simpa using hc
    rcases e' with q | q | q | q | q
    · rw [q]; exact ⟨_, hz, fun v q => nomatch q⟩
    · rw [q]; exact ⟨_, hTI, fun v q => nomatch q⟩
    · rw [q]; exact ⟨_, hTO, fun v q => nomatch q⟩
    · rw [q]; exact hi1.obj
    · rw [q]; exact hi2.obj
  keep := fun i h h' st k => by
    obtain ⟨hz, hTI, ⟨x, y, hTO⟩, h1, h2⟩ := st
    exact ⟨k z (by simp) _ hz, k TI (by simp) _ hTI, ⟨x, y, k TO (by simp) _ hTO⟩, h1.at fun o q => k i1 (by simp) o q, h2.at fun o q => k i2 (by simp) o q⟩
  item := by
    intro X hP hw hK hc i pins s σ H E I hf st hg
    subst hP hw hK
    obtain ⟨hz, hTI, ⟨x0, y0, hTO⟩, h1, h2⟩ := st
    obtain ⟨xs, ys, x, y, hqx, hqy, hx, hy⟩ := hg
    obtain ⟨its, rv, p, _, _⟩ := inv_sqk I hqx
    obtain ⟨its2, rv2, p2, _, _⟩ := inv_sqk I hqy
    obtain ⟨u, hu, ru⟩ := rv.get hx
    obtain ⟨u2, hu2, ru2⟩ := rv2.get hy
    have hzl : z < s.heap.objs.size := Heap.lt_size hz
    have hlt1 : i < its.toArray.size := by
      have q1 := (List.getElem?_eq_some_iff.mp hu).1
      rw [List.size_toArray]; exact q1
    have hlt2 : i < its2.toArray.size := by
      have q1 := (List.getElem?_eq_some_iff.mp hu2).1
      rw [List.size_toArray]; exact q1
    refine wpAny_pyNext_zipD2_item (zsep D) (draws_k (A := X.A.in1) (I.ok.hd hc) k i1 a D.l1i1 its.toArray) (draws_k (A := X.A.in1) (I.ok.hd hc) k2 i2 b D.l2i2 its2.toArray) hz hTI hTO ⟨h1, p⟩ ⟨h2, p2⟩ hlt1 hlt2 fun u' u2' h' tk hu' hu2' z' TO' st1' st2' hT hsz hk => ?_
    have eu : u' = u := by
      have q : its.toArray[i]? = some u' := hu'
      rw [List.getElem?_toArray, hu] at q
      exact (Option.some.inj q).symm
    have eu2 : u2' = u2 := by
      have q : its2.toArray[i]? = some u2' := hu2'
      rw [List.getElem?_toArray, hu2] at q
      exact (Option.some.inj q).symm
    subst eu eu2
    obtain ⟨h1', _⟩ := st1'
    obtain ⟨h2', _⟩ := st2'
    refine ⟨_, rfl, wpAny_letOwnedTupleGo_zip (s := { s with heap := h', toks := tk }) z' fun h'' z'' sb => ?_⟩
    have hT2 : h''.get? s.heap.objs.size = some { cls := .type "tuple", data := .seq #[u', u2'] } := (sb.2 _ (Nat.ne_of_gt hzl)).trans hT
    have new : ObjOk X.prog X.w (upd H s.heap.objs.size (.tup [x, y])) h'' s.heap.objs.size (.tup [x, y]) :=
      ⟨by show 2 ≤ sizeLine; decide, [u', u2'], .cons ru (.cons ru2 .nil), ⟨_, hT2, rfl, _, rfl⟩⟩
    have I1 : Inv X pins σ (upd H s.heap.objs.size (.tup [x, y])) { s with heap := h'', toks := tk } :=
      I.turnedNew (t' := tk) (ch := [z, TI, TO, i1, i2]) (fun c o hb q => (sb.2 c (fun q' => hb (by simp [q']))).trans (hk c o (fun q' => hb (by simp [q'])) (fun q' => hb (by simp [q'])) (fun q' => hb (by simp [q'])) (fun q' => hb (by simp [q'])) q)) hf (Nat.le_refl _) new
    refine ⟨.ref s.heap.objs.size, _, I1, rfl, ⟨_, x, y, rfl, I.hok.fresh (Nat.le_refl _), rfl, fun l hl => by rw [inv_sqk_inj I hl hqx]; exact hx, fun l hl => by rw [inv_sqk_inj I hl hqy]; exact hy⟩, ⟨z'', ?_, ⟨u', u2', ?_⟩, ?_, ?_⟩, fun c hcm => ?_⟩
    · exact (sb.2 _ D.TIz).trans (hk _ _ D.TIz D.TITO D.TIi1 D.TIi2 hTI)
    · exact (sb.2 _ D.TOz).trans TO'
    · exact h1'.at fun o q => (sb.2 _ D.i1z).trans q
    · exact h2'.at fun o q => (sb.2 _ D.i2z).trans q
    · have hlt : c < s.heap.objs.size := by
        have e' : c = z ∨ c = TI ∨ c = TO ∨ c = i1 ∨ c = i2 := by simpa using hcm
        rcases e' with q | q | q | q | q
        · rw [q]; exact hzl
        · rw [q]; exact Heap.lt_size hTI
        · rw [q]; exact Heap.lt_size hTO
        · rw [q]; obtain ⟨_, e1, _⟩ := h1.obj; exact Heap.lt_size e1
        · rw [q]; obtain ⟨_, e2, _⟩ := h2.obj; exact Heap.lt_size e2
      rw [upd_ne (Nat.ne_of_lt hlt)]
      exact (hf c hcm).1
  done := by
    intro X hP hw hK hc i pins s σ H E I hf st hg
    subst hP hw hK
    obtain ⟨hz, hTI, ⟨x0, y0, hTO⟩, h1, h2⟩ := st
    obtain ⟨xs, ys, hqx, hqy, l1, l2, hend⟩ := hg
    obtain ⟨its, rv, p, _, _⟩ := inv_sqk I hqx
    obtain ⟨its2, rv2, p2, _, _⟩ := inv_sqk I hqy
    have e1 : its.toArray.size = xs.length := by rw [List.size_toArray]; exact rv.length.symm
    have e2 : its2.toArray.size = ys.length := by rw [List.size_toArray]; exact rv2.length.symm
    exact wpAny_pyNext_zipD2_end (zsep D) (draws_k (A := X.A.in1) (I.ok.hd hc) k i1 a D.l1i1 its.toArray) (draws_k (A := X.A.in1) (I.ok.hd hc) k2 i2 b D.l2i2 its2.toArray) hz hTI hTO ⟨h1, p⟩ ⟨h2, p2⟩ (by omega) (by omega) (by omega) fun h' tk hk => ⟨rfl, I.turnedL (t' := tk) (ch := [z, TI, TO, i1, i2]) (fun c o hb q =>
      hk c o (fun q' => hb (by simp [q'])) (fun q' => hb (by simp [q'])) (fun q' => hb (by simp [q'])) (fun q' => hb (by simp [q'])) q) hf⟩
  self := fun A i s Q E st h => wpAny_pyIter_zip st.1 h
def iZipK (k k2 : Bool) (K : PySem.W.Frag) (ta : TA) : TI := fun σ H R => ta σ H fun vs H1 => ∃ a b xs ys, vs = [.ref a, .ref b] ∧ SqK k K H1 a xs ∧ SqK k2 K H1 b ys ∧ R (ItzK k k2 K a b) H1
theorem pi_zipK {X : Cx} {e e2 : Expr} {ta : TA} {p pos tpos : Pos} {elts : List Expr} {kk : Nat} (k k2 : Bool) (hg : Gl X "zip") (hm : X.mg "zip" = none) (ha : PA X [e, e2] ta)
    (hs : starEach [e, e2] X.env = (false, eval e X.env) :: starEach [e2] X.env := by rfl) (hpl : (backTo pos (starEach [e2] X.env)).any (·.1) = false := by rfl) :
    PI X (.Tuple elts kk tpos) (.Call (.Name "zip" p) [e, e2] [] pos) (iZipK k k2 X.K ta) := by
  refine ⟨fun pins s σ H R I h => ?_⟩
  refine Call_ (ld_blt I hg hm PyProof.Rows.boot_zip (PyProof.Rows.callWith_type1 (thn (ha.run pos pins s σ H _ I h) fun us s1 ⟨vs, H1, I1, r1, q1⟩ => ?_) hs hpl))
  obtain ⟨a, b, xs, ys, ex, hqx, hqy, q⟩ := q1
  subst ex
  cases r1 with
  | cons r rr =>
    cases rr with
    | cons r' rr =>
      cases rr
      cases r
      cases r'
      obtain ⟨its, rv, p1, _, la⟩ := inv_sqk I1 hqx
      obtain ⟨its2, rv2, p2, _, lb⟩ := inv_sqk I1 hqy
      refine zip_begins2 (begins_k k a its.toArray) (begins_k k2 b its2.toArray) p1 p2 fun h' hz hTI hTO h1 h2 hsz hk => wpAny_pyIter_zip hz ?_
      have I2 : Inv X pins σ H1 { s1 with heap := h' } := I1.kept (t' := s1.toks) hk
      refine ⟨s1.heap.objs.size + 4, [s1.heap.objs.size + 4, s1.heap.objs.size + 2, s1.heap.objs.size + 3, s1.heap.objs.size, s1.heap.objs.size + 1], _, _, H1, rfl, I2, turn_zipK k k2 (PySem.W.ktu_apart s1.heap.objs.size a b la lb), ⟨hz, hTI, ⟨_, _, hTO⟩, itK_at h1, itK_at h2⟩, fun c hcm => ?_, q⟩
      have e' : c = s1.heap.objs.size + 4 ∨ c = s1.heap.objs.size + 2 ∨ c = s1.heap.objs.size + 3 ∨ c = s1.heap.objs.size ∨ c = s1.heap.objs.size + 1 := by simpa using hcm
      have hle : s1.heap.objs.size ≤ c := by
        rcases e' with z | z | z | z | z
        · rw [z]; exact Nat.le_add_right _ _
        · rw [z]; exact Nat.le_add_right _ _
        · rw [z]; exact Nat.le_add_right _ _
        · rw [z]; exact Nat.le_refl _
        · rw [z]; exact Nat.le_add_right _ _
      exact I1.fpOk hle (I1.hok.fresh hle)
end Mo
namespace Mo
open PySem PySem.Spec PyProof.Rows L2
/-! ### slices with a step -/
def evG {α : Type} (f : Nat) : Nat → List α → List α
  | _, [] => []
  | 0, x :: r => x :: evG f (f - 1) r
  | n + 1, _ :: r => evG f n r
theorem evG_map {α β : Type} (g : α → β) (f : Nat) : ∀ (n : Nat) (l : List α), evG f n (l.map g) = (evG f n l).map g
  | _, [] => by cases ‹Nat› <;> rfl
  | 0, x :: r => by show g x :: evG f (f - 1) (r.map g) = _; rw [evG_map g f (f - 1) r]; rfl
  | n + 1, x :: r => by show evG f n (r.map g) = _; rw [evG_map g f n r]; rfl
theorem evG_vals (f : Nat) : ∀ (n : Nat) {xs : List V} {us : List Value}, Vals xs us → Vals (evG f n xs) (evG f n us)
  | n, _, _, .nil => by cases n <;> exact .nil
  | 0, _, _, .cons r t => .cons r (evG_vals f (f - 1) t)
  | n + 1, _, _, .cons r t => evG_vals f n t
theorem evG_length {α : Type} (f : Nat) : ∀ (n : Nat) (l : List α), (evG f n l).length ≤ l.length
  | n, [] => by cases n <;> exact Nat.le_refl _
  | 0, x :: r => Nat.succ_le_succ (evG_length f (f - 1) r)
  | n + 1, x :: r => Nat.le_succ_of_le (evG_length f n r)
theorem fm_congr {α β : Type} {f g : α → Option β} : ∀ l : List α, (∀ x ∈ l, f x = g x) → l.filterMap f = l.filterMap g
  | [], _ => rfl
  | x :: r, h => by
    have ih := fm_congr r fun y hy => h y (List.mem_cons_of_mem _ hy)
    rw [List.filterMap_cons, List.filterMap_cons, h x (List.mem_cons_self ..), ih]
/-- every f-th from a on, m of them -/
theorem evG_pick {α : Type} (f : Nat) (hf : 0 < f) : ∀ (l : List α) (a m : Nat), l.length ≤ a + m * f → ((List.range m).filterMap fun k => l[a + k * f]?) = evG f a l
  | [], a, m, _ => by
    have e : evG f a ([] : List α) = [] := by cases a <;> rfl
    rw [e]
    simp
  | x :: r, 0, 0, h => by simp at h
  | x :: r, 0, m + 1, h => by
    have ih := evG_pick f hf r (f - 1) m (by
      have h' : r.length + 1 ≤ 0 + (m + 1) * f := h
      rw [Nat.succ_mul] at h'
      omega)
    rw [List.range_succ_eq_map, List.filterMap_cons]
    simp only [Nat.zero_mul, Nat.add_zero, List.getElem?_cons_zero]
    show x :: _ = x :: evG f (f - 1) r
    rw [← ih, List.filterMap_map]
    congr 1
    apply fm_congr
    intro k _
    show (x :: r)[0 + (k + 1) * f]? = r[f - 1 + k * f]?
    have e : 0 + (k + 1) * f = (f - 1 + k * f) + 1 := by rw [Nat.succ_mul]; omega
    rw [e, List.getElem?_cons_succ]
  | x :: r, a + 1, m, h => by
    have ih := evG_pick f hf r a m (by
      have h' : r.length + 1 ≤ a + 1 + m * f := h
      omega)
    show _ = evG f a r
    rw [← ih]
    apply fm_congr
    intro k _
    have e : a + 1 + k * f = (a + k * f) + 1 := by omega
    rw [e, List.getElem?_cons_succ]
theorem evG_big {α : Type} (f : Nat) : ∀ (l : List α) (a : Nat), l.length ≤ a → evG f a l = []
  | [], a, _ => by cases a <;> rfl
  | x :: r, 0, h => by simp at h
  | x :: r, a + 1, h => evG_big f r a (by simpa using h)
theorem slice_every (its : List Value) (a f : Nat) (hf : 0 < f) : slicePick its.toArray (some (a : Int)) none (some (f : Int)) = (evG f a its).toArray := by
  unfold slicePick
  congr 1
  have eb : sliceBounds (some (a : Int)) none (some (f : Int)) its.toArray.size = (((min a its.length : Nat) : Int), ((its.length : Nat) : Int), (f : Int)) := by
    unfold sliceBounds
    have h1 : ¬ ((a : Int) < 0) := by omega
    have h2 : ((f : Int) > 0) := by omega
    have h3 : ¬ ((f : Int) < 0) := by omega
    simp [h1, h2, h3]
    try omega
  rw [eb]
  show (sliceRange ((min a its.length : Nat) : Int) ((its.length : Nat) : Int) (f : Int)).filterMap (its.toArray[·]?) = evG f a its
  unfold sliceRange
  have hc : (f : Int) > 0 := by omega
  simp only [hc, if_true]
  by_cases hlt : a < its.length
  · have em : min a its.length = a := by omega
    rw [em]
    have hlt' : (a : Int) < (its.length : Int) := by omega
    simp only [hlt', if_true]
    have en : (((its.length : Int) - (a : Int) + (f : Int) - 1) / (f : Int)).toNat = (its.length - a + f - 1) / f := by
      have e1 : ((its.length : Int) - (a : Int) + (f : Int) - 1) = ((its.length - a + f - 1 : Nat) : Int) := by omega
      rw [e1, ← Int.natCast_ediv, Int.toNat_natCast]
    rw [en, List.filterMap_map]
    rw [← evG_pick f hf its a ((its.length - a + f - 1) / f) (by
      have h1 := Nat.div_add_mod (its.length - a + f - 1) f
      have h2 := Nat.mod_lt (its.length - a + f - 1) hf
      rw [Nat.mul_comm] at h1
      omega)]
    apply fm_congr
    intro k _
    show its.toArray[((a : Int) + (f : Int) * (k : Int)).toNat]? = its[a + k * f]?
    have e2 : ((a : Int) + (f : Int) * (k : Int)).toNat = a + k * f := by
      have e3 : (a : Int) + (f : Int) * (k : Int) = ((a + k * f : Nat) : Int) := by rw [Int.mul_comm]; simp
      rw [e3, Int.toNat_natCast]
    rw [e2, List.getElem?_toArray]
  · have em : min a its.length = its.length := by omega
    rw [em]
    simp
    exact evG_big f its a (by omega)
section
variable {X : Cx}
def tSlS (K : PySem.W.Frag) (te tl ts : TE) : TE := fun σ H Q => te σ H fun x H1 => tl σ H1 fun y H2 => ts σ H2 fun z H3 => ∃ (a : Addr) (xs : List V) (r f : Nat), x = .ref a ∧ y = vn r ∧ z = vn f ∧ 0 < f ∧ SqL K H3 a xs ∧ ∀ p, H3 p = none → Q (.ref p) (upd H3 p (.lst (evG f r xs)))
theorem pe_sliceS {e lo st : Expr} {te tl ts : TE} {p3 pos : Pos} (he : PE X e te) (hl : PE X lo tl) (hs : PE X st ts) : PE X (.Subscript e (.Slice (some lo) none (some st) p3) pos) (tSlS X.K te tl ts) := by
  refine ⟨fun pins s σ H Q I h => ?_⟩
  refine Subscript_ (thn (he.run pins s σ H _ I h) fun v s1 ⟨x, H1, I1, r1, q1⟩ => ?_)
  refine wpAny_Slice ?_
  rw [evalPart_some]
  refine thn (hl.run pins s1 σ H1 _ I1 q1) fun vl s2 ⟨y, H2, I2, ry, q2⟩ => ?_
  rw [evalPart_none]
  refine wpAny_pure ?_
  rw [evalPart_some]
  refine thn (hs.run pins s2 σ H2 _ I2 q2) fun vs s3 ⟨z, H3, I3, rz, q3⟩ => ?_
  obtain ⟨a, xs, r, f, ex, ey, ez, hf, hx, q⟩ := q3
  subst ex ey ez
  cases r1
  obtain ⟨t1, rfl⟩ := ry
  obtain ⟨t2, rfl⟩ := rz
  have I5 : Inv X pins σ H3 { s3 with heap := s3.heap.push { cls := .type "slice", data := .fields #[.int r t1, .none, .int f t2] } } := I3.kept (t' := s3.toks) fun b ob q => Heap.get?_push_of_some _ q
  obtain ⟨its, rr, ht, hz⟩ := I5.list hx
  have hlen := rr.length
  show wpAny (model X.prog X.w) X.A (subscriptTail e (.Slice (some lo) none (some st) p3) (.ref a) (.ref s3.heap.objs.size)) (EP X pins σ Q) X.xe { s3 with heap := s3.heap.push { cls := .type "slice", data := .fields #[.int r t1, .none, .int f t2] } }
  refine tail_any (ops := [.ref a, .ref s3.heap.objs.size]) ht.isList.typeIs (PySem.slot_list_getitem.lookup) ?_ (by with_unfolding_all rfl)
  have hf0 : (some (f : Int)) ≠ some 0 := fun q => by injection q with q; omega
  refine wpAny_getItem_list_slice ht.isList (Heap.IsSliceOf.new _ _ _ _) (.int r t1) .none (.int f t2) hf0 ?_ (by rw [List.size_toArray]; omega)
  rw [slice_every its r f hf]
  refine ⟨.ref _, _, I5.laid (t' := s3.toks) (o := .lst (evG f r xs)) (fun b ob q => Heap.get?_push_of_some _ q) (Nat.le_refl _) ?_, rfl, q _ (I5.hok.fresh (Nat.le_refl _))⟩
  exact ⟨Nat.le_trans (evG_length f r xs) hz, _, 0, evG_vals f r rr, Heap.get?_push_size _ rfl⟩
end

/-! ### (x,) * n for any n from 0 on -/
theorem tuple_mul1 (l : Addr) (items : Array Value) (n : Nat) (dd : Option Addr) (sl : Array (Option Value)) (u : Tok) :
    Meets (Builtin.«tuple.__mul__» ⟨[.ref l, .int 1 u], []⟩) (fun _ R s => s.heap.get? l = some { cls := .type "tuple", dict := dd, data := .seq items n, slots := sl } ∧ R (.ok (.ret (Value.ref l))) s) :=
  .of_wp fun prog w A R s h => by
    obtain ⟨hp, g, d, tk, os⟩ := s
    obtain ⟨hl, h⟩ := h
    have f1 := AutoSeq1.idx_int
    have c0 : (decide ((1 : Int) < -(2 ^ 63)) || decide ((1 : Int) ≥ 2 ^ 63)) = false := by decide
    have c1 : (items.isEmpty || (1 : Int) == 1) = true := by simp
    wp_walk using wpAny_loadPart' hl
    repeat (first
      | (refine wpAny_ite_false (decide_eq_false (by rw [c0]; exact Bool.false_ne_true)) ?_; wp_walk using wpAny_loadPart' hl)
      | (refine wpAny_ite_true (decide_eq_true (by rw [c1])) ?_; wp_walk using wpAny_loadPart' hl))
    exact ⟨_, rfl, h⟩
theorem tuple_mul0 (l : Addr) (items : Array Value) (n : Nat) (dd : Option Addr) (sl : Array (Option Value)) (u : Tok) (hne : items.isEmpty = false) :
    Meets (Builtin.«tuple.__mul__» ⟨[.ref l, .int 0 u], []⟩) (fun _ R s => s.heap.get? l = some { cls := .type "tuple", dict := dd, data := .seq items n, slots := sl } ∧
      R (.ok (.ret (Value.ref s.heap.objs.size))) { s with heap := s.heap.push { cls := Value.type "tuple", data := Data.seq #[] }, toks := s.toks }) :=
  .of_wp fun prog w A R s h => by
    obtain ⟨hp, g, d, tk, os⟩ := s
    obtain ⟨hl, h⟩ := h
    have f1 := AutoSeq1.idx_int
    have c0 : (decide ((0 : Int) < -(2 ^ 63)) || decide ((0 : Int) ≥ 2 ^ 63)) = false := by decide
    have c1 : (items.isEmpty || (0 : Int) == 1) = false := by rw [hne]; rfl
    have c2 : (decide ((0 : Int) ≤ 0) || items.isEmpty) = true := by rw [hne]; rfl
    wp_walk using wpAny_loadPart' hl
    repeat (first
      | (refine wpAny_ite_false (decide_eq_false (by rw [c0]; exact Bool.false_ne_true)) ?_; wp_walk using wpAny_loadPart' hl)
      | (refine wpAny_ite_false (decide_eq_false (by rw [c1]; exact Bool.false_ne_true)) ?_; wp_walk using wpAny_loadPart' hl)
      | (refine wpAny_ite_true (decide_eq_true (by rw [c2])) ?_; wp_walk using wpAny_loadPart' hl))
    exact ⟨_, rfl, h⟩
section
variable {X : Cx}
def rRepN (K : PySem.W.Frag) : R2 := fun x y H Q => ∃ (l : Addr) (k : Nat) (v : V), x = .ref l ∧ y = vn k ∧ SqT K H l [v] ∧ k ≤ 1000 ∧ (k = 1 → Q (.ref l) H) ∧ (k ≠ 1 → ∀ p, H p = none → Q (.ref p) (upd H p (.tup (List.replicate k v))))
theorem rep_flat {α : Type} (v : α) : ∀ k : Nat, (List.replicate k [v]).flatten = List.replicate k v
  | 0 => rfl
  | k + 1 => by rw [List.replicate_succ, List.flatten_cons, rep_flat v k]; rfl
theorem op_repN : OpR X (binaryOp .Mult) (rRepN X.K) := by
  intro pins s σ H x y v u Q I rx ry h
  obtain ⟨l, k, v0, rfl, rfl, hT, h2, q1, q2⟩ := h
  by_cases hk : 2 ≤ k
  · refine op_repT pins s σ H _ _ v u Q I rx ry ⟨l, (k : Int), [v0], rfl, rfl, hT, by simp, by omega, by omega, by simp, fun p hp => ?_⟩
    rw [Int.toNat_natCast, rep_flat]
    exact q2 (by omega) p hp
  · cases rx
    obtain ⟨t, rfl⟩ := ry
    obtain ⟨its, r, ⟨⟨cls, dd, data, sl⟩, ho, hc, n, hd⟩, hs⟩ := I.tuple hT
    simp only at hc hd
    subst hc hd
    have hi : its.toArray.isEmpty = false := by
      cases its with
      | nil => cases r
      | cons a b => rfl
    by_cases h1 : k = 1
    · subst h1
      exact wpAny_binaryOp_repeat_ref (T := "tuple") (U := "int") (by decide) ⟨_, ho, rfl⟩ (fun s' => typeIs_int s' 1 t) noFill_tuple_mul F.fills_int_mul F.slot_int_rmul repeat_tuple F.slot_int_index.lookup
        (call_meets F.slot_int_rmul (typeIs_int s 1 t) F.entry_int_rmul (F.args_int_rmul_2 _ _) (int_rmul_tuple 1 t l its.toArray n dd sl)
          ⟨ho, rfl, ⟨_, ho, rfl⟩, call_meets F.slot_tuple_mul ⟨_, ho, rfl⟩ F.entry_tuple_mul (F.args_tuple_mul_2 _ _) (tuple_mul1 l its.toArray n dd sl t) ⟨ho, ⟨.ref l, H, I, rfl, q1 rfl⟩⟩⟩)
    · have h0 : k = 0 := by omega
      subst h0
      refine wpAny_binaryOp_repeat_ref (T := "tuple") (U := "int") (by decide) ⟨_, ho, rfl⟩ (fun s' => typeIs_int s' 0 t) noFill_tuple_mul F.fills_int_mul F.slot_int_rmul repeat_tuple F.slot_int_index.lookup
        (call_meets F.slot_int_rmul (typeIs_int s 0 t) F.entry_int_rmul (F.args_int_rmul_2 _ _) (int_rmul_tuple 0 t l its.toArray n dd sl)
          ⟨ho, rfl, ⟨_, ho, rfl⟩, call_meets F.slot_tuple_mul ⟨_, ho, rfl⟩ F.entry_tuple_mul (F.args_tuple_mul_2 _ _) (tuple_mul0 l its.toArray n dd sl t hi) ⟨ho, ?_⟩⟩)
      refine ⟨.ref s.heap.objs.size, _, I.laid (t' := s.toks) (o := .tup []) (fun b ob q => Heap.get?_push_of_some _ q) (Nat.le_refl _) ?_, rfl, q2 (by decide) _ (I.hok.fresh (Nat.le_refl _))⟩
      exact ⟨Nat.zero_le _, [], .nil, IsTup.new _ _⟩

/-! ### sum of a tuple -/
def rSumT (K : PySem.W.Frag) : List V → Hp → VK → Prop := fun vs H Q => ∃ (a : Addr) (ns : List Int), vs = [V.ref a] ∧ SqT K H a (ns.map V.int) ∧ Q (.int ns.sum) H
theorem cr_sumT (hc : X.calm = true) : CallR X (.builtin "sum") (rSumT X.K) := by
  intro pins s σ H vs us Q I r h
  obtain ⟨a, ns, rfl, hs, q⟩ := h
  obtain ⟨its, rv, hl, _⟩ := I.tuple hs
  rw [Vals.ref1 r]
  obtain ⟨xs, e⟩ := rv.ints.allInts.items
  have hn : numsOf (intItems xs).toList = ns := by rw [← e]; exact rv.ints.numsOf
  rw [nums_intItems] at hn
  rw [e] at hl
  have hx : s.heap.IsTuple a (intItems xs) := hl
  have hal : a ≠ s.heap.objs.size := Nat.ne_of_lt hl.lt
  have ht2 : (s.heap.push { cls := .type "tuple_iterator", data := .fields #[.ref a, .int 0 0] }).IsTuple a (intItems xs) := hx.at fun o e => Heap.get?_push_of_some _ e
  refine call_sum_walkG (wpAny_pyIter_tuple hx ?_)
  refine ⟨_, _, _, _, _, _, numAt xs, rfl, Walks.tuple (A := X.A.in1) (I.ok.hd hc) s.heap.objs.size a hal (intItems xs), ⟨⟨_, Heap.get?_push_size _ rfl, rfl, rfl⟩, ht2⟩, fun b hb => ?_, (fun _ _ => intItems_at), fun h' tk t' hk => ?_⟩
  · have e' : b = s.heap.objs.size ∨ b = a := by simpa using hb
    show b < (s.heap.push _).objs.size
    rw [Heap.size_push]
    rcases e' with z | z
    · rw [z]; exact Nat.lt_succ_self _
    · rw [z]; exact Nat.lt_succ_of_lt hl.lt
  · refine ⟨.int _, H, I.kept (t' := tk) fun b o e => hk b o (fun z => ?_) (Heap.get?_push_of_some _ e), ⟨t', rfl⟩, ?_⟩
    · have z' : b = s.heap.objs.size := by simpa using z
      rw [z'] at e
      exact absurd (Heap.lt_size e) (Nat.lt_irrefl _)
    · have e2 : preSum (numAt xs) (intItems xs).size = ns.sum := by
        rw [preSum_eq, List.take_of_length_le (by simp [intItems]), hn]
      rw [e2]
      exact q

/-! ### sorted(a list of tuples of ints) -/
def encT (b : Int × List Int) : PyData := .tuple (.int b.1 :: b.2.map .int)
/-- a tuple of ints, not empty -/
def TupI (K : PySem.W.Frag) (H : Hp) (v : V) (b : Int × List Int) : Prop := ∃ p, v = .ref p ∧ SqT K H p ((b.1 :: b.2).map V.int)
def rSortT (K : PySem.W.Frag) : List V → Hp → VK → Prop := fun us H Q => ∃ (a : Addr) (vs : List V) (bs : List (Int × List Int)), us = [V.ref a] ∧ SqL K H a vs ∧ Paired (TupI K H) vs bs ∧
  ∀ D out bs', H D = none → bs'.Perm bs → Paired (TupI K H) out bs' → Q (.ref D) (upd H D (.lst out))
theorem reads_ints {h : Heap} : ∀ {ns : List Int} {us : List Value}, Vals (ns.map V.int) us → ∃ as, ReadsAll h us (ns.map .int) as
  | [], _, r => by cases r; exact ⟨[], .nil⟩
  | n :: ns, _, r => by
    cases r with
    | cons r1 r2 =>
      obtain ⟨t, rfl⟩ := r1
      obtain ⟨as, q⟩ := reads_ints (ns := ns) r2
      exact ⟨_, .cons (.int n t) q⟩
theorem tupI_reads {pins : List (Addr × Obj)} {σ : L2.St} {H : Hp} {s : Shared} {v : V} {u : Value} {b : Int × List Int} (I : Inv X pins σ H s) (h : TupI X.K H v b) (r : RelV v u) : ∃ as, Reads s.heap u (encT b) as := by
  obtain ⟨p, rfl, hT⟩ := h
  cases r
  obtain ⟨its, rv, ⟨o, ho, hc, n, hd⟩, _⟩ := I.tuple hT
  obtain ⟨as, q⟩ := reads_ints (h := s.heap) (ns := b.1 :: b.2) rv
  exact ⟨as, .tuple ho hc hd (by simpa using q)⟩
theorem each_of {R : V → Int × List Int → Prop} : ∀ {vs : List V} {us : List Value} {bs : List (Int × List Int)}, Vals vs us → Paired R vs bs → PySem.W.EachIs (fun u b => ∃ v, RelV v u ∧ R v b) us bs
  | _, _, _, .nil, .nil => .nil
  | _, _, _, .cons r t, .cons p q => .cons ⟨_, r, p⟩ (each_of t q)
theorem of_each {R : V → Int × List Int → Prop} : ∀ {us : List Value} {bs : List (Int × List Int)}, PySem.W.EachIs (fun u b => ∃ v, RelV v u ∧ R v b) us bs → ∃ vs : List V, Vals vs us ∧ Paired R vs bs
  | _, _, .nil => ⟨[], .nil, .nil⟩
  | _, _, .cons ⟨v, r, p⟩ t => by
    obtain ⟨vs, h1, h2⟩ := of_each t
    exact ⟨v :: vs, .cons r h1, .cons p h2⟩
theorem cr_sortT (hu : X.A.units + 64 < cLine) : CallR X (.builtin "sorted") (rSortT X.K) := by
  intro pins s σ H vs us Q I r h
  obtain ⟨a, vs, bs, rfl, hs, hp, q⟩ := h
  obtain ⟨its, rv, hl, hz⟩ := I.list hs
  rw [Vals.ref1 r]
  have e := each_of rv hp
  have hlen : its.length = bs.length := e.length
  have hsz : vs.length = its.length := rv.length
  have er : PySem.W.EachIs (fun v b => ∃ as, Reads s.heap v (encT b) as) its bs := e.mono fun u b ⟨v, r1, t⟩ => tupI_reads I t r1
  refine PySem.W.sorted_data (R := fun u b => ∃ v, RelV v u ∧ TupI X.K H v b) (enc := encT) hl.isList e er (.of fun b b' => ?_) (.tuples fun b => ⟨_, _, rfl⟩) (by omega) (fun b _ => ?_) fun out ho eo => ?_
  · have z := PySem.W.alike_ints (b.1 :: b.2) (b'.1 :: b'.2)
    show PySem.W.alike (.tuple ((b.1 :: b.2).map .int)) (.tuple ((b'.1 :: b'.2).map .int)) = true
    simpa [PySem.W.alike] using z
  · have z := PySem.W.depth_ints (b.1 :: b.2)
    have z2 : (encT b).depth ≤ 2 := by
      show (PyData.tuple ((b.1 :: b.2).map .int)).depth ≤ 2
      simp only [PyData.depth]
      rw [z]
      decide
    omega
  · obtain ⟨ws, r2, hp2⟩ := of_each eo
    obtain ⟨c, hc⟩ := sortedAll_at s.heap its out.toArray
    have hle : s.heap.objs.size ≤ s.heap.objs.size + 1 := Nat.le_succ _
    refine ⟨.ref (s.heap.objs.size + 1), upd H (s.heap.objs.size + 1) (.lst ws), I.laid (t' := s.toks) (o := .lst ws) (fun b ob q => sortedAll_old q) hle ?_, rfl, q _ ws _ (I.hok.fresh hle) (List.mergeSort_perm _ _) hp2⟩
    exact ⟨by rw [r2.length, ho]; omega, out, _, r2, hc⟩
/-! ### == and != of a tuple of ints, of a list, with an empty one -/
theorem shaped_ints (ns : List Int) : SeqAt.shaped (.tuple (ns.map .int)) = true ∧ SeqAt.shaped (.list (ns.map .int)) = true := by
  have z := PySem.W.depth_ints ns
  have c : PyData.canLayAll0 (ns.map .int) = true := by
    induction ns with
    | nil => rfl
    | cons n r ih => rw [List.map_cons, PyData.canLayAll0, ih (PySem.W.depth_ints r)]; rfl
  constructor
  · unfold SeqAt.shaped
    rw [Bool.and_eq_true]
    refine ⟨by rw [PyData.canLay0]; exact c, decide_eq_true ?_⟩
    simp only [PyData.depth]
    rw [z]; decide
  · unfold SeqAt.shaped
    rw [Bool.and_eq_true]
    refine ⟨by rw [PyData.canLay0]; exact c, decide_eq_true ?_⟩
    simp only [PyData.depth]
    rw [z]; decide
theorem dp_ints {K : PySem.W.Frag} {H : Hp} : ∀ ns : List Int, DpAll K H (ns.map V.int) (ns.map .int)
  | [] => .nil
  | n :: r => .cons (.int n) (dp_ints r)
theorem eqv_nilT (ds : List PyData) : PyData.eqv (.tuple ds) (.tuple []) = ds.isEmpty := by
  cases ds <;> simp [PyData.eqv, PyData.eqvAll]
theorem eqv_nilL (ds : List PyData) : PyData.eqv (.list ds) (.list []) = ds.isEmpty := by
  cases ds <;> simp [PyData.eqv, PyData.eqvAll]
/-- t == (), a tuple of ints -/
def rEqNil (neg : Bool) (K : PySem.W.Frag) : R2 := fun x y H Q => ∃ (a b : Addr) (ns : List Int), x = .ref a ∧ y = .ref b ∧ SqT K H a (ns.map V.int) ∧ SqT K H b [] ∧ Q (.bl (if neg then !ns.isEmpty else ns.isEmpty)) H
theorem op_eqNil (hu : X.A.units + 64 < cLine) : OpR X (compareOp .Eq) (rEqNil false X.K) := by
  intro pins s σ H x y v u Q I rx ry ⟨a, b, ns, e1, e2, ha, hb, q⟩
  subst e1 e2
  refine op_eqD hu pins s σ H _ _ v u Q I rx ry ⟨.tuple (ns.map .int), .tuple [], .tup ha (dp_ints ns), .tup hb .nil, (shaped_ints ns).1, (shaped_ints []).1, ?_⟩
  rw [eqv_nilT, List.isEmpty_map]
  exact q
theorem op_neNil (hu : X.A.units + 64 < cLine) : OpR X (compareOp .NotEq) (rEqNil true X.K) := by
  intro pins s σ H x y v u Q I rx ry ⟨a, b, ns, e1, e2, ha, hb, q⟩
  subst e1 e2
  refine op_neD hu pins s σ H _ _ v u Q I rx ry ⟨.tuple (ns.map .int), .tuple [], .tup ha (dp_ints ns), .tup hb .nil, (shaped_ints ns).1, (shaped_ints []).1, ?_⟩
  rw [eqv_nilT, List.isEmpty_map]
  exact q
/-- l != [], a list of ints -/
def rNeNilL (K : PySem.W.Frag) : R2 := fun x y H Q => ∃ (a b : Addr) (ns : List Int), x = .ref a ∧ y = .ref b ∧ SqL K H a (ns.map V.int) ∧ SqL K H b [] ∧ Q (.bl (!ns.isEmpty)) H
theorem op_neNilL (hu : X.A.units + 64 < cLine) : OpR X (compareOp .NotEq) (rNeNilL X.K) := by
  intro pins s σ H x y v u Q I rx ry ⟨a, b, ns, e1, e2, ha, hb, q⟩
  subst e1 e2
  refine op_neD hu pins s σ H _ _ v u Q I rx ry ⟨.list (ns.map .int), .list [], .lst ha (dp_ints ns), .lst hb .nil, (shaped_ints ns).2, (shaped_ints []).2, ?_⟩
  rw [eqv_nilL, List.isEmpty_map]
  exact q
/-- l == [], a list of tuples of ints -/
def rEqNilT (K : PySem.W.Frag) : R2 := fun x y H Q => ∃ (a b : Addr) (vs : List V) (bs : List (Int × List Int)), x = .ref a ∧ y = .ref b ∧ SqL K H a vs ∧ Paired (TupI K H) vs bs ∧ SqL K H b [] ∧ Q (.bl bs.isEmpty) H
theorem dp_tups {K : PySem.W.Frag} {H : Hp} : ∀ {vs : List V} {bs : List (Int × List Int)}, Paired (TupI K H) vs bs → DpAll K H vs (bs.map encT)
  | _, _, .nil => .nil
  | _, _, .cons ⟨p, e, hT⟩ t => by
    subst e
    exact .cons (.tup hT (dp_ints (_ :: _))) (dp_tups t)
theorem op_eqNilT (hu : X.A.units + 64 < cLine) : OpR X (compareOp .Eq) (rEqNilT X.K) := by
  intro pins s σ H x y v u Q I rx ry ⟨a, b, vs, bs, e1, e2, ha, hp, hb, q⟩
  subst e1 e2
  have sh : SeqAt.shaped (.list (bs.map encT)) = true := by
    have hd : PyData.depthAll (bs.map encT) ≤ 2 ∧ PyData.canLayAll0 (bs.map encT) = true := by
      clear hp q
      induction bs with
      | nil => exact ⟨by simp [PyData.depthAll], rfl⟩
      | cons b r ih =>
        obtain ⟨h1, h2⟩ := ih
        have s1 := (shaped_ints (b.1 :: b.2)).1
        unfold SeqAt.shaped at s1
        rw [Bool.and_eq_true] at s1
        have z := PySem.W.depth_ints (b.1 :: b.2)
        have z2 : (encT b).depth ≤ 1 := by
          show (PyData.tuple ((b.1 :: b.2).map .int)).depth ≤ 1
          simp only [PyData.depth]
          rw [z]; decide
        rw [List.map_cons]
        refine ⟨?_, ?_⟩
        · rw [PyData.depthAll]; omega
        · rw [PyData.canLayAll0, h2, Bool.and_true]; exact s1.1
    unfold SeqAt.shaped
    rw [Bool.and_eq_true]
    refine ⟨by rw [PyData.canLay0]; exact hd.2, decide_eq_true ?_⟩
    simp only [PyData.depth]
    omega
  refine op_eqD hu pins s σ H _ _ v u Q I rx ry ⟨.list (bs.map encT), .list [], .lst ha (dp_tups hp), .lst hb .nil, sh, (shaped_ints []).2, ?_⟩
  rw [eqv_nilL, List.isEmpty_map]
  exact q
end
end Mo
namespace Mo
open PySem PySem.Spec PyProof.Rows L2
/-! ### heaps, data -/
theorem Same.upd {H0 H : Hp} {p : Addr} {o : HO} (h : Same H0 H) (hp : H0 p = Option.none) : Same H0 (upd H p o) := fun b u e => by
  rw [upd_ne (ne_of_none e hp)]
  exact h b u e
theorem Same.new {H : Hp} {p : Addr} {o : HO} (hp : H p = Option.none) : Same H (L2.upd H p o) := Same.upd (Same.refl H) hp
theorem Same.tup {K : PySem.W.Frag} {H H' : Hp} {a : Addr} {xs : List V} (e : Same H H') (h : SqT K H a xs) : SqT K H' a xs := by
  rcases h with (h | ⟨o, h⟩) | h
  · exact .inl (.inl (e _ _ h))
  · exact .inl (.inr ⟨o, e _ _ h⟩)
  · exact .inr h
theorem Same.sqk {k : Bool} {K : PySem.W.Frag} {H H' : Hp} {a : Addr} {xs : List V} (e : Same H H') (h : SqK k K H a xs) : SqK k K H' a xs := by
  cases k
  · exact Same.seq e h
  · exact Same.tup e h
/-- all but D stays -/
def SameBut (D : Addr) (H H' : Hp) : Prop := ∀ b o, b ≠ D → H b = some o → H' b = some o
theorem SameBut.tup {D : Addr} {K : PySem.W.Frag} {H H' : Hp} {a : Addr} {xs : List V} {acc : List V} (e : SameBut D H H') (hD : H D = some (.lst acc)) (h : SqT K H a xs) : SqT K H' a xs := by
  have ne : ∀ {o : HO}, H a = some o → (∀ l, o ≠ .lst l) → a ≠ D := fun {o} h1 h2 q => by
    rw [q, hD] at h1
    exact h2 acc (Option.some.inj h1).symm
  rcases h with (h | ⟨o, h⟩) | h
  · exact .inl (.inl (e _ _ (ne h (fun l q => by cases q)) h))
  · exact .inl (.inr ⟨o, e _ _ (ne h (fun l q => by cases q)) h⟩)
  · exact .inr h
abbrev vns (ns : List Nat) : List V := ns.map vn
theorem vns_eq (ns : List Nat) : vns ns = (ns.map fun n : Nat => (n : Int)).map V.int := by
  rw [List.map_map]
  rfl
theorem sumL_cast : ∀ ns : List Nat, (ns.map fun n : Nat => (n : Int)).sum = ((sumL ns : Nat) : Int)
  | [] => rfl
  | n :: r => by
    rw [List.map_cons, List.sum_cons, sumL_cast r]
    show (n : Int) + ((sumL r : Nat) : Int) = ((n + sumL r : Nat) : Int)
    omega
/-- a list of numbers at v; a tuple -/
def LN (K : PySem.W.Frag) (H : Hp) (v : V) (ns : List Nat) : Prop := ∃ p, v = .ref p ∧ SqL K H p (vns ns)
def TN (K : PySem.W.Frag) (H : Hp) (v : V) (ns : List Nat) : Prop := ∃ p, v = .ref p ∧ SqT K H p (vns ns)
def SN (k : Bool) (K : PySem.W.Frag) (H : Hp) (v : V) (ns : List Nat) : Prop := ∃ p, v = .ref p ∧ SqK k K H p (vns ns)
/-- a list of things -/
def LO {β : Type} (K : PySem.W.Frag) (H : Hp) (R : V → β → Prop) (v : V) (ys : List β) : Prop := ∃ p vs, v = .ref p ∧ SqL K H p vs ∧ Paired R vs ys
theorem LN.mono {K : PySem.W.Frag} {H H' : Hp} {v : V} {ns : List Nat} (h : LN K H v ns) (e : Same H H') : LN K H' v ns := let ⟨p, a, b⟩ := h; ⟨p, a, e.seq b⟩
theorem TN.mono {K : PySem.W.Frag} {H H' : Hp} {v : V} {ns : List Nat} (h : TN K H v ns) (e : Same H H') : TN K H' v ns := let ⟨p, a, b⟩ := h; ⟨p, a, Same.tup e b⟩
theorem SN.mono {k : Bool} {K : PySem.W.Frag} {H H' : Hp} {v : V} {ns : List Nat} (h : SN k K H v ns) (e : Same H H') : SN k K H' v ns := let ⟨p, a, b⟩ := h; ⟨p, a, Same.sqk e b⟩
theorem TN.but {D : Addr} {K : PySem.W.Frag} {H H' : Hp} {v : V} {ns : List Nat} {acc : List V} (h : TN K H v ns) (hD : H D = some (.lst acc)) (e : SameBut D H H') : TN K H' v ns := let ⟨p, a, b⟩ := h; ⟨p, a, e.tup hD b⟩
theorem paired_mono {α β : Type} {F G : α → β → Prop} : ∀ {l₁ : List α} {l₂ : List β}, Paired F l₁ l₂ → (∀ a b, F a b → G a b) → Paired G l₁ l₂
  | _, _, .nil, _ => .nil
  | _, _, .cons r t, f => .cons (f _ _ r) (paired_mono t f)
theorem paired_len {α β : Type} {F : α → β → Prop} : ∀ {l₁ : List α} {l₂ : List β}, Paired F l₁ l₂ → l₁.length = l₂.length
  | _, _, .nil => rfl
  | _, _, .cons _ t => congrArg (· + 1) (paired_len t)
theorem paired_at {α β : Type} {F : α → β → Prop} : ∀ {l₁ : List α} {l₂ : List β}, Paired F l₁ l₂ → ∀ {i : Nat} {b : β}, l₂[i]? = some b → ∃ a, l₁[i]? = some a ∧ F a b
  | _, _, .nil, i, b, h => by simp at h
  | _, _, .cons r t, 0, b, h => ⟨_, rfl, by simp at h; subst h; exact r⟩
  | _, _, .cons r t, i + 1, b, h => by
    obtain ⟨a, h1, h2⟩ := paired_at t (i := i) (b := b) (by simpa using h)
    exact ⟨a, by simpa using h1, h2⟩
theorem paired_app {α β : Type} {F : α → β → Prop} : ∀ {l₁ l₁' : List α} {l₂ l₂' : List β}, Paired F l₁ l₂ → Paired F l₁' l₂' → Paired F (l₁ ++ l₁') (l₂ ++ l₂')
  | _, _, _, _, .nil, s => s
  | _, _, _, _, .cons r t, s => .cons r (paired_app t s)
theorem paired_map {β γ : Type} {F : V → γ → Prop} (f : β → V) (g : β → γ) (h : ∀ b, F (f b) (g b)) : ∀ l : List β, Paired F (l.map f) (l.map g)
  | [] => .nil
  | b :: r => .cons (h b) (paired_map f g h r)
theorem paired_vn : ∀ {vs : List V} {ns : List Nat}, Paired (fun v n => v = vn n) vs ns → vs = vns ns
  | _, _, .nil => rfl
  | _, _, .cons e t => by rw [e, paired_vn t]; rfl
theorem vns_paired : ∀ (ns : List Nat), Paired (fun v n => v = vn n) (vns ns) ns
  | [] => .nil
  | n :: r => .cons rfl (vns_paired r)
theorem LO.mono {β : Type} {K : PySem.W.Frag} {H H' : Hp} {R R' : V → β → Prop} {v : V} {ys : List β} (h : LO K H R v ys) (e : Same H H') (hR : ∀ v y, R v y → R' v y) : LO K H' R' v ys :=
  let ⟨p, vs, a, b, c⟩ := h; ⟨p, vs, a, e.seq b, paired_mono c hR⟩
theorem atI_vn {vs : List V} {i : Nat} {v : V} (h : vs[i]? = some v) : atI vs ((i : Nat) : Int) = some v := atI_nat h
theorem vns_at {ns : List Nat} {i n : Nat} (h : ns[i]? = some n) : (vns ns)[i]? = some (vn n) := by
  rw [List.getElem?_map, h]; rfl

/-! ### a def's facts, a def that may be called -/
def Df (K : PySem.W.Frag) (mg : Str → Option Value) (x : Str) (st : Stmt) (ps : List Str) : Prop := ∃ (f : Addr) (fd : FuncData), L2.Fun K x x st f fd ∧ mg x = some (.ref f) ∧ Binds K fd ps []
section
variable {P : Program} {w : World} {K : PySem.W.Frag} {mg : Str → Option Value} {base : Heap}
theorem cal_of {x : Str} {st : Stmt} {N ps : List Str} {k : Nat} {sp : Sp} (d : Df K mg x st ps) (S : FnScope N ps (L2.defScope st)) (len : ∀ vs H Q E, sp vs H Q E → vs.length = ps.length)
    (hbody : ∀ (f : Addr) (cdv : Value) (A : Around) (outer : List Env) (s : Shared) (H : Hp) (vs : List V) (Q : VK) (E : XK), Room k (A.deeper (envOfC x (L2.defScope st) s.heap.objs.size f cdv)) → sp vs H Q E →
      ∃ t, PSs (cxOf CX0 P w K mg base N x (L2.defScope st) f cdv A outer s H E).nox (L2.defBody st) t ∧ t { nx := fun _ H' => Q .non H', rt := Q } (start N vs) H) : C8.Cal P w K mg base (k + 1) x sp [] := by
  obtain ⟨f, fd, F, hm, b⟩ := d
  exact ⟨f, fd, ps, [], F.ok S len (hbody f), hm, F.kp, b, .nil⟩
end
/-- what the module's names hold, beside the defs -/
structure Txt (K : PySem.W.Frag) (mg : Str → Option Value) (aF aP aW : Addr) : Prop where
  len_ : mg "len" = none
  abs_ : mg "abs" = none
  min_ : mg "min" = none
  max_ : mg "max" = none
  sum_ : mg "sum" = none
  all_ : mg "all" = none
  int_ : mg "int" = none
  bool_ : mg "bool" = none
  tuple_ : mg "tuple" = none
  list_ : mg "list" = none
  isinstance_ : mg "isinstance" = none
  sorted_ : mg "sorted" = none
  range_ : mg "range" = none
  enumerate_ : mg "enumerate" = none
  zip_ : mg "zip" = none
  next_ : mg "next" = none
  FIELDS : ∃ u, mg "FIELDS" = some u ∧ RelV (.ref aF) u
  fields : ∀ H, SqT K H aF (vns [2, 3, 4, 5, 7, 8, 9])
  PRIMES_BELOW : ∃ u, mg "PRIMES_BELOW" = some u ∧ RelV (.ref aP) u
  primes : KIntD K aP fun i => if 0 ≤ i ∧ i.toNat ∈ Qs then some (vn (pOf i.toNat)) else none
  POWERS_BELOW : ∃ u, mg "POWERS_BELOW" = some u ∧ RelV (.ref aW) u
  powers : KIntD K aW fun i => if 0 ≤ i ∧ i.toNat ∈ Qs then some (vn (fOf i.toNat)) else none
  SIXTY_DIGITS : ∃ u, mg "SIXTY_DIGITS" = some u ∧ RelV (.int (10 ^ 60)) u
  MAX_PARTS : ∃ u, mg "MAX_PARTS" = some u ∧ RelV (.int 300) u

/-! ### loops as folds -/
abbrev FW (J : It) (g : TG) (tb : TS) (D : Ends) (σ : L2.St) (H : Hp) : Prop := ∃ W : Nat → Nat → L2.St → Hp → Prop, (∃ m, W 0 m σ H) ∧ ∀ i m σ H, W i m σ H →
  (J.stop i H ∧ D.nx σ H) ∨ (J.go i H ∧ ∃ N : L2.St → Hp → Prop, (∀ σ' H', N σ' H' → ∃ m', m' < m ∧ W (i + 1) m' σ' H') ∧ ∀ x H', J.yld i H x H' → g x σ H' fun σ2 H2 => tb { D with nx := N, ct := N, bk := D.nx } σ2 H2)
theorem take_fold {α β : Type} (f : α → β → α) (init : α) {ys : List β} {i : Nat} {y : β} (h : ys[i]? = some y) : (ys.take (i + 1)).foldl f init = f ((ys.take i).foldl f init) y := by
  rw [List.take_succ, h, List.foldl_append]
  rfl
/-- over any walk: n turns, S by the turn -/
theorem for_any {J : It} {g : TG} {tb : TS} {D : Ends} {σ : L2.St} {H : Hp} (n : Nat) (Pv : Nat → L2.St → Hp → Prop) (h0 : Pv 0 σ H) (hgo : ∀ i σ H, i < n → Pv i σ H → J.go i H) (hst : ∀ σ H, Pv n σ H → J.stop n H)
    (hs : ∀ i x σ H H', i < n → Pv i σ H → J.yld i H x H' → g x σ H' fun σ2 H2 => tb { D with nx := Pv (i + 1), ct := Pv (i + 1), bk := D.nx } σ2 H2) (hd : ∀ σ H, Pv n σ H → D.nx σ H) : FW J g tb D σ H := by
  refine ⟨fun i m σ H => m = n - i ∧ i ≤ n ∧ Pv i σ H, ⟨n, by simp, Nat.zero_le _, h0⟩, ?_⟩
  rintro i m σ H ⟨rfl, hi, p⟩
  by_cases hlt : i < n
  · refine .inr ⟨hgo i σ H hlt p, Pv (i + 1), fun σ' H' p' => ⟨n - (i + 1), by omega, rfl, hlt, p'⟩, fun x H' y => ?_⟩
    exact hs i x σ H H' hlt p y
  · have e : i = n := by omega
    subst e
    exact .inl ⟨hst σ H p, hd σ H p⟩
theorem forL {α β : Type} {K : PySem.W.Frag} {a : Addr} {vs : List V} {g : TG} {tb : TS} {D : Ends} {σ : L2.St} {H : Hp} (ys : List β) (f : α → β → α) (init : α) (S : α → L2.St → Hp → Prop) (hl : vs.length = ys.length)
    (h0 : S init σ H) (hk : ∀ acc σ H, S acc σ H → SqL K H a vs)
    (hs : ∀ i v y acc σ H, vs[i]? = some v → ys[i]? = some y → acc = (ys.take i).foldl f init → S acc σ H → g v σ H fun σ2 H2 => tb { D with nx := S (f acc y), ct := S (f acc y), bk := D.nx } σ2 H2)
    (hd : ∀ σ H, S (ys.foldl f init) σ H → D.nx σ H) : FW (Itl K a) g tb D σ H := by
  refine for_list (K := K) (a := a) (xs := vs) (fun i σ H => S ((ys.take i).foldl f init) σ H) h0 (fun i σ H _ q => hk _ σ H q) (fun i v σ H hv q => ?_) fun σ H q => hd σ H ?_
  · have hi : i < ys.length := by rw [← hl]; exact (List.getElem?_eq_some_iff.mp hv).1
    have hy : ys[i]? = some ys[i] := List.getElem?_eq_getElem hi
    have z := hs i v ys[i] _ σ H hv hy rfl q
    rw [← take_fold f init hy] at z
    exact z
  · have q2 : S ((ys.take vs.length).foldl f init) σ H := q
    rw [hl, List.take_length] at q2
    exact q2
theorem forR {α : Type} {lo : Int} {n : Nat} {g : TG} {tb : TS} {D : Ends} {σ : L2.St} {H : Hp} (f : α → Nat → α) (init : α) (S : α → L2.St → Hp → Prop) (h0 : S init σ H)
    (hs : ∀ i acc σ H, i < n → acc = (List.range i).foldl f init → S acc σ H → g (.int (lo + (i : Nat))) σ H fun σ2 H2 => tb { D with nx := S (f acc i), ct := S (f acc i), bk := D.nx } σ2 H2)
    (hd : ∀ σ H, S ((List.range n).foldl f init) σ H → D.nx σ H) : FW (Itr lo n) g tb D σ H := by
  refine for_range (lo := lo) (n := n) (fun i σ H => S ((List.range i).foldl f init) σ H) h0 (fun i σ H hi q => ?_) fun σ H q => hd σ H q
  have z := hs i _ σ H hi rfl q
  have e : (List.range (i + 1)).foldl f init = f ((List.range i).foldl f init) i := by rw [List.range_succ, List.foldl_append]; rfl
  rw [← e] at z
  exact z
/-- over enumerate: each turn has a new pair at T -/
theorem forE {α β : Type} {k : Bool} {K : PySem.W.Frag} {a : Addr} {vs : List V} {g : TG} {tb : TS} {D : Ends} {σ : L2.St} {H : Hp} (ys : List β) (f : α → β × Nat → α) (init : α) (S : α → L2.St → Hp → Prop) (hl : vs.length = ys.length)
    (h0 : S init σ H) (hk : ∀ acc σ H, S acc σ H → SqK k K H a vs)
    (hs : ∀ i v y acc σ H T, vs[i]? = some v → ys[i]? = some y → acc = (ys.zipIdx.take i).foldl f init → S acc σ H → H T = none →
      g (.ref T) σ (upd H T (.tup [vn i, v])) fun σ2 H2 => tb { D with nx := S (f acc (y, i)), ct := S (f acc (y, i)), bk := D.nx } σ2 H2)
    (hd : ∀ σ H, S (ys.zipIdx.foldl f init) σ H → D.nx σ H) : FW (IteK k K a) g tb D σ H := by
  have hat : ∀ {i : Nat}, i < ys.length → ∃ y, ys[i]? = some y ∧ ys.zipIdx[i]? = some (y, i) := fun {i} hi => ⟨ys[i], List.getElem?_eq_getElem hi, by rw [List.getElem?_zipIdx, List.getElem?_eq_getElem hi]; simp⟩
  refine for_any ys.length (fun i σ H => S ((ys.zipIdx.take i).foldl f init) σ H) h0 (fun i σ H hi q => ?_) (fun σ H q => ?_) (fun i x σ H H' hi q y => ?_) fun σ H q => hd σ H ?_
  · exact ⟨vs, vs[i]'(by rw [hl]; exact hi), hk _ _ _ q, List.getElem?_eq_getElem (by rw [hl]; exact hi)⟩
  · exact ⟨vs, hk _ _ _ q, hl⟩
  · obtain ⟨T, v, rfl, hT, rfl, hv⟩ := y
    obtain ⟨yy, h1, h2⟩ := hat hi
    have z := hs i v yy _ σ H T (hv vs (hk _ _ _ q)) h1 rfl q hT
    rw [← take_fold f init h2] at z
    exact z
  · have q2 : S ((ys.zipIdx.take ys.length).foldl f init) σ H := q
    have e : ys.length = ys.zipIdx.length := by simp
    rw [e, List.take_length] at q2
    exact q2

/-! ### comprehensions -/
abbrev LW (J : It) (g : TG) (tt : TT) (te : TE) (vs : List Nat) (σ : L2.St) (D : Addr) (H0 : Hp) (Qd : Hp → Prop) : Prop := ∃ W : Nat → Nat → Hp → Prop, (∃ m, W 0 m H0) ∧ ∀ i m H, W i m H →
  (J.stop i H ∧ Qd H) ∨ (J.go i H ∧ ∃ Nx : Hp → Prop, (∀ H', Nx H' → ∃ m', m' < m ∧ W (i + 1) m' H') ∧ ∀ x H', J.yld i H x H' → g x (wipe σ vs) H' fun σ2 H2 => wipe σ2 vs = wipe σ vs ∧ tt σ2 H2 fun b H3 =>
    if b = true then te σ2 H3 fun y H4 => ∃ acc, H4 D = some (.lst acc) ∧ acc.length < sizeLine ∧ Nx (upd H4 D (.lst (acc ++ [y]))) else Nx H3)
/-- over any walk: the new list holds the images of the kept items -/
theorem lc_any {β γ : Type} {J : It} {g : TG} {tt : TT} {te : TE} {vs : List Nat} {σ : L2.St} {H1 : Hp} {D : Addr} {Qd : Hp → Prop} (ys : List β) (keep : β → Bool) (out : β → γ) (R : Hp → V → γ → Prop) (hD : H1 D = none) (hz : ys.length ≤ sizeLine)
    (hR : ∀ H H' v c acc, R H v c → H D = some (.lst acc) → SameBut D H H' → R H' v c)
    (hgo : ∀ i H, Same H1 H → i < ys.length → J.go i H) (hst : ∀ H, Same H1 H → J.stop ys.length H)
    (turn : ∀ i y H x H' (K1 : V → Hp → Prop) (K2 : Hp → Prop), ys[i]? = some y → Same H1 H → (∃ acc, H D = some (.lst acc)) → J.yld i H x H' →
      (∀ r H4, Same H H4 → R H4 r (out y) → keep y = true → K1 r H4) → (∀ H3, Same H H3 → keep y = false → K2 H3) →
      g x (wipe σ vs) H' fun σ2 H2 => wipe σ2 vs = wipe σ vs ∧ tt σ2 H2 fun b H3 => if b = true then te σ2 H3 K1 else K2 H3)
    (hd : ∀ H ws, Same H1 H → H D = some (.lst ws) → Paired (R H) ws ((ys.filter keep).map out) → Qd H) : LW J g tt te vs σ D (upd H1 D (.lst [])) Qd := by
  refine ⟨fun i m H => m = ys.length - i ∧ i ≤ ys.length ∧ Same H1 H ∧ ∃ ws, H D = some (.lst ws) ∧ Paired (R H) ws (((ys.take i).filter keep).map out), ⟨ys.length, by simp, Nat.zero_le _, Same.new hD, [], upd_same, .nil⟩, ?_⟩
  rintro i m H ⟨rfl, hi, sm, ws, hw, pw⟩
  by_cases hlt : i < ys.length
  · refine .inr ⟨hgo i H sm hlt, fun H' => i + 1 ≤ ys.length ∧ Same H1 H' ∧ ∃ ws, H' D = some (.lst ws) ∧ Paired (R H') ws (((ys.take (i + 1)).filter keep).map out), fun H' ⟨a, b, c⟩ => ⟨ys.length - (i + 1), by omega, rfl, a, b, c⟩, fun x H' y => ?_⟩
    have hy : ys[i]? = some ys[i] := List.getElem?_eq_getElem hlt
    have et : ys.take (i + 1) = ys.take i ++ [ys[i]] := by rw [List.take_succ, hy]; rfl
    refine turn i ys[i] H x H' _ _ hy sm ⟨ws, hw⟩ y (fun r H4 s4 r4 hk => ?_) (fun H3 s3 hk => ?_)
    · have h4 : H4 D = some (.lst ws) := s4 _ _ hw
      have hb : SameBut D H4 (upd H4 D (.lst (ws ++ [r]))) := fun b o hb e => by rw [upd_ne hb]; exact e
      have hlen : ws.length ≤ i := by
        rw [paired_len pw, List.length_map]
        refine Nat.le_trans (List.length_filter_le _ _) ?_
        rw [List.length_take]
        omega
      refine ⟨ws, h4, by omega, hlt, fun b o e => ?_, ws ++ [r], upd_same, ?_⟩
      · rw [upd_ne (ne_of_none e hD)]
        exact s4 _ _ (sm _ _ e)
      · rw [et, List.filter_append, List.map_append]
        have e1 : [ys[i]].filter keep = [ys[i]] := by simp [hk]
        rw [e1]
        refine paired_app (paired_mono pw fun v c q => ?_) (.cons (hR _ _ _ _ _ r4 h4 hb) .nil)
        exact hR _ _ _ _ _ q hw fun b o hb e => by rw [upd_ne hb]; exact s4 _ _ e
    · have h3 : H3 D = some (.lst ws) := s3 _ _ hw
      refine ⟨hlt, fun b o e => s3 _ _ (sm _ _ e), ws, h3, ?_⟩
      rw [et, List.filter_append, List.map_append]
      have e1 : [ys[i]].filter keep = [] := by simp [hk]
      rw [e1]
      simp only [List.map_nil, List.append_nil]
      exact paired_mono pw fun v c q => hR _ _ _ _ _ q hw fun b o hb e => s3 _ _ e
  · have e : i = ys.length := by omega
    subst e
    rw [List.take_length] at pw
    exact .inl ⟨hst H sm, hd H ws sm hw pw⟩
/-- over a range -/
theorem lcR {γ : Type} {lo : Int} {n : Nat} {g : TG} {tt : TT} {te : TE} {vs : List Nat} {σ : L2.St} {H1 : Hp} {D : Addr} {Qd : Hp → Prop} (keep : Nat → Bool) (out : Nat → γ) (R : Hp → V → γ → Prop) (hD : H1 D = none) (hz : n ≤ sizeLine)
    (hR : ∀ H H' v c acc, R H v c → H D = some (.lst acc) → SameBut D H H' → R H' v c)
    (turn : ∀ i H (K1 : V → Hp → Prop) (K2 : Hp → Prop), i < n → Same H1 H → (∃ acc, H D = some (.lst acc)) →
      (∀ r H4, Same H H4 → R H4 r (out i) → keep i = true → K1 r H4) → (∀ H3, Same H H3 → keep i = false → K2 H3) →
      g (.int (lo + (i : Nat))) (wipe σ vs) H fun σ2 H2 => wipe σ2 vs = wipe σ vs ∧ tt σ2 H2 fun b H3 => if b = true then te σ2 H3 K1 else K2 H3)
    (hd : ∀ H ws, Same H1 H → H D = some (.lst ws) → Paired (R H) ws (((List.range n).filter keep).map out) → Qd H) : LW (Itr lo n) g tt te vs σ D (upd H1 D (.lst [])) Qd := by
  refine lc_any (List.range n) keep out R hD (by rw [List.length_range]; exact hz) hR (fun i H _ hi => by rw [List.length_range] at hi; exact hi) (fun H _ => by rw [List.length_range]; exact Nat.le_refl _) (fun i y H x H' K1 K2 hy sm hw hyld h1 h2 => ?_) hd
  obtain ⟨e, ex⟩ := hyld
  subst e ex
  have hi : i < n := by have q := (List.getElem?_eq_some_iff.mp hy).1; rw [List.length_range] at q; exact q
  have ey : y = i := by rw [List.getElem?_range hi] at hy; exact (Option.some.inj hy).symm
  subst ey
  exact turn y H' K1 K2 hi sm hw h1 h2
/-- over a list or a tuple that stays -/
theorem lcL {β γ : Type} {K : PySem.W.Frag} {a : Addr} {zs : List V} {g : TG} {tt : TT} {te : TE} {vs : List Nat} {σ : L2.St} {H1 : Hp} {D : Addr} {Qd : Hp → Prop} (ys : List β) (keep : β → Bool) (out : β → γ) (R : Hp → V → γ → Prop) (hD : H1 D = none) (hz : ys.length ≤ sizeLine)
    (hs : SqL K H1 a zs) (hl : zs.length = ys.length)
    (hR : ∀ H H' v c acc, R H v c → H D = some (.lst acc) → SameBut D H H' → R H' v c)
    (turn : ∀ (i : Nat) z y H (K1 : V → Hp → Prop) (K2 : Hp → Prop), zs[i]? = some z → ys[i]? = some y → Same H1 H → (∃ acc, H D = some (.lst acc)) →
      (∀ r H4, Same H H4 → R H4 r (out y) → keep y = true → K1 r H4) → (∀ H3, Same H H3 → keep y = false → K2 H3) →
      g z (wipe σ vs) H fun σ2 H2 => wipe σ2 vs = wipe σ vs ∧ tt σ2 H2 fun b H3 => if b = true then te σ2 H3 K1 else K2 H3)
    (hd : ∀ H ws, Same H1 H → H D = some (.lst ws) → Paired (R H) ws ((ys.filter keep).map out) → Qd H) : LW (Itl K a) g tt te vs σ D (upd H1 D (.lst [])) Qd := by
  refine lc_any ys keep out R hD hz hR (fun i H sm hi => ⟨zs, zs[i]'(by rw [hl]; exact hi), Same.seq sm hs, List.getElem?_eq_getElem (by rw [hl]; exact hi)⟩) (fun H sm => ⟨zs, Same.seq sm hs, Nat.le_of_eq hl⟩) (fun i y H x H' K1 K2 hy sm hw hyld h1 h2 => ?_) hd
  obtain ⟨e, ex⟩ := hyld
  subst e
  exact turn i x y H' K1 K2 (ex zs (Same.seq sm hs)) hy sm hw h1 h2
theorem lcT {β γ : Type} {K : PySem.W.Frag} {a : Addr} {zs : List V} {g : TG} {tt : TT} {te : TE} {vs : List Nat} {σ : L2.St} {H1 : Hp} {D : Addr} {Qd : Hp → Prop} (ys : List β) (keep : β → Bool) (out : β → γ) (R : Hp → V → γ → Prop) (hD : H1 D = none) (hz : ys.length ≤ sizeLine)
    (hs : SqT K H1 a zs) (hl : zs.length = ys.length)
    (hR : ∀ H H' v c acc, R H v c → H D = some (.lst acc) → SameBut D H H' → R H' v c)
    (turn : ∀ (i : Nat) z y H (K1 : V → Hp → Prop) (K2 : Hp → Prop), zs[i]? = some z → ys[i]? = some y → Same H1 H → (∃ acc, H D = some (.lst acc)) →
      (∀ r H4, Same H H4 → R H4 r (out y) → keep y = true → K1 r H4) → (∀ H3, Same H H3 → keep y = false → K2 H3) →
      g z (wipe σ vs) H fun σ2 H2 => wipe σ2 vs = wipe σ vs ∧ tt σ2 H2 fun b H3 => if b = true then te σ2 H3 K1 else K2 H3)
    (hd : ∀ H ws, Same H1 H → H D = some (.lst ws) → Paired (R H) ws ((ys.filter keep).map out) → Qd H) : LW (Itt K a) g tt te vs σ D (upd H1 D (.lst [])) Qd := by
  refine lc_any ys keep out R hD hz hR (fun i H sm hi => ⟨zs, zs[i]'(by rw [hl]; exact hi), Same.tup sm hs, List.getElem?_eq_getElem (by rw [hl]; exact hi)⟩) (fun H sm => ⟨zs, Same.tup sm hs, Nat.le_of_eq hl⟩) (fun i y H x H' K1 K2 hy sm hw hyld h1 h2 => ?_) hd
  obtain ⟨e, ex⟩ := hyld
  subst e
  exact turn i x y H' K1 K2 (ex zs (Same.tup sm hs)) hy sm hw h1 h2
/-- over zip of two of one length: each turn has a new pair at T -/
theorem lcZ {β β' γ : Type} {k k2 : Bool} {K : PySem.W.Frag} {a b : Addr} {zs zs' : List V} {g : TG} {tt : TT} {te : TE} {vs : List Nat} {σ : L2.St} {H1 : Hp} {D : Addr} {Qd : Hp → Prop} (ys : List β) (ys' : List β') (keep : β × β' → Bool) (out : β × β' → γ) (R : Hp → V → γ → Prop) (hD : H1 D = none) (hz : ys.length ≤ sizeLine)
    (hs : SqK k K H1 a zs) (hs' : SqK k2 K H1 b zs') (hl : zs.length = ys.length) (hl' : zs'.length = ys'.length) (hll : ys.length = ys'.length)
    (hR : ∀ H H' v c acc, R H v c → H D = some (.lst acc) → SameBut D H H' → R H' v c)
    (turn : ∀ (i : Nat) z z' y y' H T (K1 : V → Hp → Prop) (K2 : Hp → Prop), zs[i]? = some z → zs'[i]? = some z' → ys[i]? = some y → ys'[i]? = some y' → Same H1 H → (∃ acc, H D = some (.lst acc)) → H T = none →
      (∀ r H4, Same H H4 → R H4 r (out (y, y')) → keep (y, y') = true → K1 r H4) → (∀ H3, Same H H3 → keep (y, y') = false → K2 H3) →
      g (.ref T) (wipe σ vs) (upd H T (.tup [z, z'])) fun σ2 H2 => wipe σ2 vs = wipe σ vs ∧ tt σ2 H2 fun b H3 => if b = true then te σ2 H3 K1 else K2 H3)
    (hd : ∀ H ws, Same H1 H → H D = some (.lst ws) → Paired (R H) ws (((ys.zip ys').filter keep).map out) → Qd H) : LW (ItzK k k2 K a b) g tt te vs σ D (upd H1 D (.lst [])) Qd := by
  have len : (ys.zip ys').length = ys.length := by rw [List.length_zip]; omega
  refine lc_any (ys.zip ys') keep out R hD (by omega) hR (fun i H sm hi => ?_) (fun H sm => ?_) (fun i y H x H' K1 K2 hy sm hw hyld h1 h2 => ?_) hd
  · have h1 : i < zs.length := by omega
    have h2 : i < zs'.length := by omega
    exact ⟨zs, zs', zs[i], zs'[i], Same.sqk sm hs, Same.sqk sm hs', List.getElem?_eq_getElem h1, List.getElem?_eq_getElem h2⟩
  · exact ⟨zs, zs', Same.sqk sm hs, Same.sqk sm hs', by omega, by omega, .inl (by omega)⟩
  · obtain ⟨T, z, z', rfl, hT, rfl, hz1, hz2⟩ := hyld
    obtain ⟨y1, y2⟩ := y
    obtain ⟨e1, e2⟩ := List.getElem?_zip_eq_some.mp hy
    exact turn i z z' y1 y2 H T K1 K2 (hz1 zs (Same.sqk sm hs)) (hz2 zs' (Same.sqk sm hs')) e1 e2 sm hw hT h1 h2
end Mo
/-! Inside a comprehension the frame's K is told from outside. -/
namespace Mo
open PySem PySem.Spec PyProof.Rows L2
section
variable {X : Cx} {K : PySem.W.Frag}
theorem ix_list' (h : X.K = K) : IxR X (rIxL K) := h ▸ ix_list
theorem op_catA' (h : X.K = K) : OpR X (binaryOp .Add) (rCatA K) := h ▸ op_catA
theorem op_repN' (h : X.K = K) : OpR X (binaryOp .Mult) (rRepN K) := h ▸ op_repN
def rLenS (K : PySem.W.Frag) : List V → Hp → VK → Prop := fun xs H Q => ∃ p ys, xs = [.ref p] ∧ (SqL K H p ys ∨ SqT K H p ys) ∧ Q (.int ys.length) H
theorem call_len' (h : X.K = K) : CallR X (.builtin "len") (rLenS K) := h ▸ call_len_seq
theorem call_isi' (h : X.K = K) : CallR X (.builtin "isinstance") (rIsi K) := h ▸ call_isi
theorem pg_tup' {pos : Pos} {es : List Expr} {k : Nat} {t : TGs} {n : Nat} (e : X.K = K) (hc : X.calm = true) (h : PGs X es t)
    (hn : (assignEach es X.env).length = n := by rfl) (hst : (assignEach es X.env).findIdx? (·.1) = none := by rfl) : PG X (.Tuple es k pos) (gTup K n t) := e ▸ pg_tup hc h hn hst
theorem pe_bm' {T : String} {name : Str} {id : String} {r : V → List V → Hp → VK → Prop} {o e : Expr} {es : List Expr} {to : TE} {t : TA} {apos cpos : Pos} (eK : X.K = K) (pa : PlainAttrs T) (slot : Slot T name id) (hty : typeOf (.builtin id) = pure (.type "method_descriptor")) (hm : MtR X id r) (ho : PE X o to) (ha : PA X (e :: es) t)
    (hbase : attributeBase o name X.env (eval o X.env) = eval o X.env := by rfl)
    (hfew : ((backTo cpos (starEach (e :: es) X.env)).all (fun x => !x.1) && (backToKw cpos (keywordEach [] X.env)).all (fun x => x.1.isSome)
      && decide ((e :: es).length + ([] : List Keyword).length + (if ([] : List Keyword).isEmpty then 0 else 1) < 30)) = true := by rfl)
    (hline : (apos.endLine == cpos.line) = true := by rfl) (hs : starEach (e :: es) X.env = (false, eval e X.env) :: starEach es X.env := by rfl) (hplain : (backTo cpos (starEach es X.env)).any (·.1) = false := by rfl) :
    PE X (.Call (.Attribute o name apos) (e :: es) [] cpos) (tBM K T r to t) := eK ▸ pe_bm pa slot hty hm ho ha hbase hfew hline hs hplain
theorem mt_index' (h : X.K = K) : MtR X "list.index" (rIndex K) := h ▸ mt_index
end
theorem iteT {a b : Prop} (h : a) : if true = true then a else b := by rw [if_pos rfl]; exact h
theorem iteF {a b : Prop} (h : b) : if false = true then a else b := by rw [if_neg Bool.false_ne_true]; exact h
theorem yesT {A B : Hp → Prop} {σ : L2.St} {H : Hp} (h : A H) : tYes σ H (fun b H3 => if b = true then A H3 else B H3) := (if_pos rfl : (if true = true then A H else B H) = A H).mpr h
theorem filt_all {α : Type} (l : List α) : l.filter (fun _ => true) = l := List.filter_eq_self.mpr fun _ _ => rfl
theorem forR0 {α : Type} {n : Nat} {g : TG} {tb : TS} {D : Ends} {σ : L2.St} {H : Hp} (f : α → Nat → α) (init : α) (S : α → L2.St → Hp → Prop) (h0 : S init σ H)
    (hs : ∀ i acc σ H, i < n → acc = (List.range i).foldl f init → S acc σ H → g (vn i) σ H fun σ2 H2 => tb { D with nx := S (f acc i), ct := S (f acc i), bk := D.nx } σ2 H2)
    (hd : ∀ σ H, S ((List.range n).foldl f init) σ H → D.nx σ H) : FW (Itr 0 n) g tb D σ H := by
  refine forR f init S h0 (fun i acc σ H hi e q => ?_) hd
  rw [Int.zero_add]
  exact hs i acc σ H hi e q
/-- over range(n), no test -/
theorem lcR0 {γ : Type} {n : Nat} {g : TG} {te : TE} {vs : List Nat} {σ : L2.St} {H1 : Hp} {D : Addr} {Qd : Hp → Prop} (out : Nat → γ) (R : Hp → V → γ → Prop) (hD : H1 D = none) (hz : n ≤ sizeLine)
    (hR : ∀ H H' v c acc, R H v c → H D = some (.lst acc) → SameBut D H H' → R H' v c)
    (turn : ∀ i H (K1 : V → Hp → Prop), i < n → Same H1 H → (∃ acc, H D = some (.lst acc)) → (∀ r H4, Same H H4 → R H4 r (out i) → K1 r H4) →
      g (vn i) (wipe σ vs) H fun σ2 H2 => wipe σ2 vs = wipe σ vs ∧ te σ2 H2 K1)
    (hd : ∀ H ws, Same H1 H → H D = some (.lst ws) → Paired (R H) ws ((List.range n).map out) → Qd H) (hg : ∀ x σ H (F G : L2.St → Hp → Prop), (∀ σ H, F σ H → G σ H) → g x σ H F → g x σ H G) : LW (Itr 0 n) g tYes te vs σ D (upd H1 D (.lst [])) Qd := by
  refine lcR (fun _ => true) out R hD hz hR (fun i H K1 K2 hi sm hw h1 h2 => ?_) fun H ws sm e p => hd H ws sm e (by rw [filt_all] at p; exact p)
  rw [Int.zero_add]
  refine hg _ _ _ _ _ (fun σ2 H2 z => ⟨z.1, (if_pos rfl : (if true = true then te σ2 H2 K1 else K2 H2) = te σ2 H2 K1).mpr z.2⟩) (turn i H K1 hi sm hw fun r H4 a b => h1 r H4 a b rfl)
theorem gm_name {i : Nat} : ∀ x σ H (F G : L2.St → Hp → Prop), (∀ σ H, F σ H → G σ H) → gName i x σ H F → gName i x σ H G := fun _ _ _ _ _ h q => h _ _ q
end Mo
/-! next((x for x, y in enumerate(list) if y < d * (q - 1)), None) -/
namespace Mo
open PySem PySem.Spec PyProof.Rows L2
open GxR (TabB TabG Tabbed inv_tab sh_eta keeps_tok keeps_refl)
/-- the generator expression's own scope -/
structure GenS2 (env : Env) (scope : Scope) (xa xb nd nq : Str) : Prop where
  kind : scope.kind = .function
  co : scope.isCoroutine = false
  cell : ∀ y ∈ scope.names, y.2 ≠ .cell
  dot : scope.names.lookup (".0" : Str) = some NameKind.local
  la : scope.names.lookup xa = some .local
  lb : scope.names.lookup xb = some .local
  ne : xa ≠ xb
  fd : scope.names.lookup nd = some .free
  fq : scope.names.lookup nq = some .free
  kd : env.kindOf nd = some .cell
  kq : env.kindOf nq = some .cell
  free : ∀ y ∈ scope.names, y.2 = .free → ∃ c, env.cells.lookup y.1 = some c
  cld : ∀ c, env.cells.lookup nd = some c → (cloFrom env.cells scope.names []).lookup nd = some c
  clq : ∀ c, env.cells.lookup nq = some c → (cloFrom env.cells scope.names []).lookup nq = some c
theorem ne1 {a b : Nat} (h : a < b) : b + 1 ≠ a := by omega
theorem ne0 {a b : Nat} (h : a < b) : b ≠ a := by omega
theorem lt3 {b m n : Nat} (hm : m = b + 2) (hn : m ≤ n) : b + 1 < n ∧ b < n ∧ ∀ a, a < b → a < n ∧ n ≠ a := ⟨by omega, by omega, fun a ha => ⟨by omega, by omega⟩⟩
def below (ns : List Nat) (lim i : Nat) : Bool := match ns[i]? with
  | some n => decide (n < lim)
  | none => false
theorem first_is (ns : List Nat) (lim : Nat) : ∀ (m i : Nat), ns.length - i = m → i ≤ ns.length → (passing (below ns lim) ns.length i).head? = barGo lim i (ns.drop i)
  | 0, i, h, hi => by
    have e : i = ns.length := by omega
    rw [e, passing_end, List.drop_of_length_le (Nat.le_refl _)]
    rfl
  | m + 1, i, h, hi => by
    have hlt : i < ns.length := by omega
    have ih := first_is ns lim m (i + 1) (by omega) hlt
    have ed : ns.drop i = ns[i] :: ns.drop (i + 1) := List.drop_eq_getElem_cons hlt
    have eb : below ns lim i = decide (ns[i] < lim) := by
      unfold below
      rw [List.getElem?_eq_getElem hlt]
    have en : Nat.blt ns[i] lim = decide (ns[i] < lim) := by
      rw [Bool.eq_iff_iff, decide_eq_true_iff]
      exact ⟨fun h => Nat.le_of_ble_eq_true h, fun h => Nat.ble_eq_true_of_le h⟩
    rw [ed]
    show _ = (bif Nat.blt ns[i] lim then some i else barGo lim (i + 1) (ns.drop (i + 1)))
    rw [en]
    cases hb : decide (ns[i] < lim) with
    | true =>
      rw [passing_true hlt (eb.trans hb)]
      rfl
    | false =>
      rw [passing_false hlt (eb.trans hb), ih]
      rfl
def barV : Option Nat → V
  | none => .non
  | some b => vn b
section
variable {X : Cx} {pins : List (Addr × Obj)} {σ : L2.St} {H : Hp} {s : Shared}
/-- the value of next(.., None); behind it the def's table may have grown -/
def tNextE (K : PySem.W.Frag) (P : Addr) (id iq : Nat) (te : TA) : TE := fun σ H Q => te σ H fun vs H1 => ∃ (a : Addr) (ns : List Nat) (d q : Nat), vs = [.ref a] ∧ SqL K H1 a (vns ns) ∧ σ[id]? = some (some (vn d)) ∧ σ[iq]? = some (some (vn q)) ∧ 1 ≤ q ∧ q < 1000 ∧ TabG H1 P ∧
  ∀ H2, Tabbed P H1 H2 → Q (barV (barGo (d * (q - 1)) 0 ns)) H2
theorem cell_at {m : Str → Option Value} {x : Str} {u : Value} (hk : X.env.kindOf x = some .cell) (h : Look X.env s.heap m x u) : ∃ c, X.env.cells.lookup x = some c ∧ s.heap.IsCell c (some u) := by
  rcases h with ⟨e, _⟩ | ⟨_, c, h1, h2⟩
  · rw [hk] at e; cases e
  · exact ⟨c, h1, h2⟩
/-- the generator over the numbers, ready to be walked -/
def Ready2 (X : Cx) (pins : List (Addr × Obj)) (σ : L2.St) (H1 : Hp) (P : Addr) (ns : List Nat) (lim : Nat) (g : Addr) (s5 : Shared) : Prop :=
  ∃ (fp wr : List Addr) (G : Array GenState → Array GenState → Prop) (St : Nat → Shared → Prop),
    WalksS X.prog X.w X.A.in1 g fp wr G (passing (below ns lim) ns.length 0).length (fun j y => ∃ i, (passing (below ns lim) ns.length 0)[j]? = some i ∧ ∃ t, y = .int (i : Nat) t) St ∧ St 0 s5 ∧ s5.TypeIs (.ref g) "generator" ∧
    ∀ s', Moved wr G s5 s' → ∃ H2, Tabbed P H1 H2 ∧ Inv X pins σ H2 s'
theorem gen_en {c P : Addr} {ie : Expr} {xa xb nd nq : Str} {kt : Nat} {pa pb pt pen pie pcb pmul pd psub pq pone pcmp pelt gpos : Pos} {kone : Nat} {scope : Scope} {te : TA} {k id iq : Nat} {Q' : Value → Shared → Prop} {R : List Nat → Nat → Hp → Prop}
    (hr : Room k X.A) (hge : Gl X "enumerate") (hme : X.mg "enumerate" = none) (TB : TabB X.base X.mg c P) (hcode : X.env.code = .ref c) (S : GenS2 X.env scope xa xb nd nq)
    (hid : X.N[id]? = some nd) (hiq : X.N[iq]? = some nq) (hvd : Vis X.env.scope nd) (hvq : Vis X.env.scope nq) (hi : PA X [ie] te)
    (hs1 : starEach [ie] X.env = [(false, eval ie X.env)]) (hs : ∀ v, genFold (.Call (.Name "enumerate" pen) [ie] [] pie) X.env v = pure v)
    (da : (xa == ("__debug__" : Str)) = false) (db : (xb == ("__debug__" : Str)) = false) (dd : (nd == ("__debug__" : Str)) = false) (dq : (nq == ("__debug__" : Str)) = false)
    (cd0 : (nd == ("__classdict__" : Str)) = false) (cq0 : (nq == ("__classdict__" : Str)) = false) (I : Inv X pins σ H s)
    (h : te σ H fun vs H1 => ∃ (a : Addr) (ns : List Nat) (d q : Nat), vs = [.ref a] ∧ SqL X.K H1 a (vns ns) ∧ σ[id]? = some (some (vn d)) ∧ σ[iq]? = some (some (vn q)) ∧ 1 ≤ q ∧ q < 1000 ∧ TabG H1 P ∧ R ns (d * (q - 1)) H1)
    (hQ : ∀ ns lim H1 g s5, R ns lim H1 → Ready2 X pins σ H1 P ns lim g s5 → Q' (.ref g) s5) :
    wpAny (model X.prog X.w) X.A (eval (.GeneratorExp (.Name xa pelt) [⟨.Tuple [.Name xa pa, .Name xb pb] kt pt, .Call (.Name "enumerate" pen) [ie] [] pie, [.Compare (.Name xb pcb) [.Lt] [.BinOp (.Name nd pd) .Mult (.BinOp (.Name nq pq) .Sub (.Constant (.int 1) kone pone) psub) pmul] pcmp], 0⟩] scope gpos) X.env) Q' X.xe s := by
  refine wpAny_GeneratorExp_walksQT hr.hd S.co (closure_ok S.free) S.cell S.dot S.la S.lb S.ne S.kind (by have := hr.dp; omega) ?_ hs
  -- the source: enumerate of the list
  refine Call_ (ld_blt I hge hme boot_enumerate (PyProof.Rows.callWith_type1 (thn (hi.run pie pins s σ H _ I h) fun us s1 ⟨vs, H1, I1, r1, q1⟩ => ?_) hs1 rfl))
  obtain ⟨a, ns, d, q, ex, hq, hsd, hsq, hq1, hq2, ⟨ps, hP, ht⟩, kk⟩ := q1
  subst ex
  cases r1 with
  | cons r rr =>
    cases rr
    cases r
    obtain ⟨its, rv, hl, hz⟩ := I1.list hq
    have hIL := hl.isList
    have hlt : a < s1.heap.objs.size := hl.lt
    have hlen : its.length = ns.length := by rw [← rv.length, List.length_map]
    have hn : its.toArray.size = ns.length := by rw [List.size_toArray, hlen]
    obtain ⟨m0, hns0, hloc⟩ := I1.loc
    obtain ⟨ud, rd, lkd⟩ := hloc id nd (vn d) hid hsd hvd
    obtain ⟨uq, rq, lkq⟩ := hloc iq nq (vn q) hiq hsq hvq
    obtain ⟨td, rfl⟩ := rd
    obtain ⟨tq, rfl⟩ := rq
    obtain ⟨ccd, ecd, hcd⟩ := cell_at S.kd lkd
    obtain ⟨ccq, ecq, hcq⟩ := cell_at S.kq lkq
    refine enum_begins1 (begins_list a its.toArray) hIL fun h2 hen hit hsz2 hk2 => wpAny_pyIter_enum hen ?_
    have hPs : s1.heap.get? P = some { cls := .none, data := .fields ps } := I1.hok P _ hP
    have hPlt : P < s1.heap.objs.size := Heap.lt_size hPs
    have hP2 : h2.get? P = some { cls := .none, data := .fields ps } := hk2 _ _ hPs
    have cd : PySem.W.CodeHd h2 c P := TB.code.keeps fun b u e => hk2 _ _ (I1.bk b u e)
    have lim2 : h2.NoLimit := I1.nolimit.keeps hk2
    have hitI : h2.IsListIter s1.heap.objs.size a 0 := ⟨_, hit, rfl, rfl⟩
    have hL2 : h2.IsList a its.toArray := hIL.at fun o x => hk2 _ _ x
    have notP : ∀ {b : Addr} {o : Obj} {v : Option Value}, s1.heap.get? b = some o → o.data = .cell v → b ≠ P := fun {b o v} e1 e2 z => by
      rw [z, hPs] at e1
      cases e1
      cases e2
    have W : ∀ A' : Around, A'.handled = none → WalksU X.prog X.w A' (s1.heap.objs.size + 1) [s1.heap.objs.size + 1, s1.heap.objs.size, a] [s1.heap.objs.size + 1, s1.heap.objs.size] ns.length
        (fun i vals => ∃ t x, its.toArray[i]? = some x ∧ vals = #[.int i t, x]) (fun i h => (∃ old, IsEnum h (s1.heap.objs.size + 1) s1.heap.objs.size i old) ∧ h.IsListIter s1.heap.objs.size a i ∧ h.IsList a its.toArray)
        (fun i T h => (∃ x, IsEnumOut h (s1.heap.objs.size + 1) s1.heap.objs.size ((i : Int) + 1) x T) ∧ h.IsListIter s1.heap.objs.size a (i + 1) ∧ h.IsList a its.toArray ∧ T ≠ s1.heap.objs.size + 1 ∧ T ≠ s1.heap.objs.size) := fun A' hA => by
      have z := (WalksT.enumerate (prog := X.prog) (w := X.w) hA (s1.heap.objs.size + 1) s1.heap.objs.size a (Nat.succ_ne_self _) (Nat.ne_of_lt (Nat.lt_succ_of_lt hlt)) (Nat.ne_of_lt hlt) its.toArray).toU
      rw [hn] at z
      exact z
    have pair : ∀ (i : Nat) (va vb : Value), (∃ t x, its.toArray[i]? = some x ∧ (#[va, vb] : Array Value) = #[.int i t, x]) → ∃ n t t', ns[i]? = some n ∧ va = .int (i : Nat) t ∧ vb = .int (n : Nat) t' := by
      rintro i va vb ⟨t, x, hx, e'⟩
      obtain ⟨e1, e2⟩ : va = .int i t ∧ vb = x := by simpa using congrArg Array.toList e'
      subst e1 e2
      have hx2 : its[i]? = some vb := by simpa using hx
      have hi2 : i < ns.length := by rw [← hlen]; exact (List.getElem?_eq_some_iff.mp hx2).1
      obtain ⟨u, hu, ru⟩ := rv.get (vns_at (List.getElem?_eq_getElem hi2))
      rw [hx2] at hu
      obtain rfl := Option.some.inj hu
      obtain ⟨t', e⟩ := (show ∃ t, vb = Value.int (ns[i] : Nat) t from ru)
      exact ⟨ns[i], t, t', List.getElem?_eq_getElem hi2, rfl, e⟩
    refine ⟨lim2, ?_⟩
    have cont : ∀ (code : Value) (h3 : Heap) (tk : Nat) (ps' : Array Value), Heap.ExtBut P h2 h3 → h2.objs.size ≤ h3.objs.size → h3.get? P = some { cls := .none, data := .fields ps' } → (∃ more, ps' = ps ++ more) → TriplesOk ps'.toList →
        wpAny (model X.prog X.w) X.A (builtinsFor X.env.globals X.env.builtins) (fun bi s₄ =>
          ∃ Ia fp wr n₀ Pt St₀ Mid pz F, Value.ref (s1.heap.objs.size + 1) = .ref Ia ∧ (∀ A' : Around, A'.handled = none → WalksU X.prog X.w A' Ia fp wr n₀ Pt St₀ Mid) ∧ (∀ i vals, Pt i vals → ∃ va vb, vals = #[va, vb]) ∧ St₀ 0 s₄.heap ∧ (∀ b ∈ fp, b < s₄.heap.objs.size) ∧ s₄.heap.NoLimit ∧ cStatics ∉ wr ∧
            (∀ href : Heap, (∀ b o, s₄.heap.get? b = some o → href.get? b = some o) →
              QuietGenT X.prog X.w (genEnv scope (cloFrom X.env.cells scope.names []) s₄.heap.objs.size code bi X.env) xa xb [.Compare (.Name xb pcb) [.Lt] [.BinOp (.Name nd pd) .Mult (.BinOp (.Name nq pq) .Sub (.Constant (.int 1) kone pone) psub) pmul] pcmp] (.Name xa pelt) (List.range s₄.heap.objs.size) wr Pt pz F href) ∧
            (∀ a h₅ tk gs, gs.bare = true → s₄.heap.objs.size < a → h₅.objs.size = a + 1 → (∀ b o, s₄.heap.get? b = some o → h₅.get? b = some o) →
              WalksS X.prog X.w X.A.in4 a (a :: s₄.heap.objs.size :: List.range s₄.heap.objs.size) (s₄.heap.objs.size :: wr) (GenOnlyQ s₄.gens.size) (passing pz n₀ 0).length
                (fun j y => ∃ i, (passing pz n₀ 0)[j]? = some i ∧ F i y) (GenAt X.prog X.w X.A.in4 a s₄.gens.size s₄.heap.objs.size (List.range s₄.heap.objs.size) wr pz n₀ F) →
              GenAt X.prog X.w X.A.in4 a s₄.gens.size s₄.heap.objs.size (List.range s₄.heap.objs.size) wr pz n₀ F 0 { s₄ with gens := s₄.gens.push gs, toks := tk, heap := h₅ } →
              Q' (.ref a) { s₄ with gens := s₄.gens.push gs, toks := tk, heap := h₅ })) X.xe { s1 with heap := h3, toks := tk } := by
      intro code h3 tk ps' hx hsz hP3 hmore ht3
      obtain ⟨bm, ob, e1, e2, e3, e4, e5, e6, e7, e8⟩ := TB.bm
      have hcP : cStatics ≠ P := fun e => by
        obtain ⟨_, hns, _⟩ := I1.nolimit
        obtain ⟨o', es, ep, ho, hd, _⟩ := hns
        rw [e, hPs] at ho
        cases ho
        cases hd
      have hcl : cStatics < s1.heap.objs.size := let ⟨_, hns, _⟩ := I1.nolimit; hns.lt
      have keep3 : ∀ b u, b ≠ P → s1.heap.get? b = some u → h3.get? b = some u := fun b u hb e => hx b u hb (hk2 _ _ e)
      refine wpAny_builtinsFor (m := X.mg) (by rw [I1.ok.glob]; exact ((I1.mod.glob.keeps I1.bk).keeps hk2).extBut hx TB.gP) e1 e2 (keep3 _ _ e4 (I1.bk _ _ e5)) e6 e7 e8 ?_
      have hne := ne1 hPlt
      have hni := ne0 hPlt
      obtain ⟨b1, b2, b3⟩ := lt3 hsz2 hsz
      have hna : a ≠ P := fun z => by
        obtain ⟨o, ho, hc, n, hd⟩ := hIL
        rw [z, hPs] at ho
        cases ho
        cases hc
      refine ⟨s1.heap.objs.size + 1, [s1.heap.objs.size + 1, s1.heap.objs.size, a], [s1.heap.objs.size + 1, s1.heap.objs.size], ns.length, _, _, _, below ns (d * (q - 1)), (fun i y => ∃ t, y = .int (i : Nat) t), rfl, W, ?_, ?_, ?_, lim2.extBut hx hcP, ?_, ?_, ?_⟩
      · rintro i vals ⟨t, x, _, e'⟩
        exact ⟨_, _, e'⟩
      · refine ⟨⟨.none, hx _ _ hne hen⟩, ?_, ?_⟩
        · exact hitI.at fun o e => hx _ _ hni e
        · exact hL2.at fun o e => hx _ _ hna e
      · intro b hb
        have e' : b = s1.heap.objs.size + 1 ∨ b = s1.heap.objs.size ∨ b = a := by simpa using hb
        show b < h3.objs.size
        rcases e' with z | z | z
        · rw [z]; exact b1
        · rw [z]; exact b2
        · rw [z]; exact (b3 _ hlt).1
      · intro z
        have e' : cStatics = s1.heap.objs.size + 1 ∨ cStatics = s1.heap.objs.size := by simpa using z
        rcases e' with z | z
        · exact ne1 hcl z.symm
        · exact ne0 hcl z.symm
      · intro href hhref
        have cellOk : ∀ (cc : Addr) (u : Value) (s₂ : Shared), s1.heap.IsCell cc (some u) → (∀ b ∈ List.range h3.objs.size, b ∉ [s1.heap.objs.size + 1, s1.heap.objs.size] → ∀ o, href.get? b = some o → s₂.heap.get? b = some o) → s₂.heap.IsCell cc (some u) := by
          rintro cc u s₂ ⟨o, ho, hd⟩ hk
          have hl1 : cc < s1.heap.objs.size := Heap.lt_size ho
          have h3o := keep3 _ _ (notP ho hd) ho
          refine ⟨o, hk cc (List.mem_range.mpr (Heap.lt_size h3o)) (fun z => ?_) o (hhref _ _ h3o), hd⟩
          have e' : cc = s1.heap.objs.size + 1 ∨ cc = s1.heap.objs.size := by simpa using z
          rcases e' with z | z
          · exact ne1 hl1 z.symm
          · exact ne0 hl1 z.symm
        refine ⟨fun A' E' i va vb s₂ m₂ hA hPv hnn hma hmb hk => ?_, fun A' E' i va vb s₂ m₂ hA hPv hp hnn hma hmb hk => ?_⟩
        · obtain ⟨n, t, t', hni2, rfl, rfl⟩ := pair i va vb hPv
          refine wpAny_tests_one (wpAny_isTrue_Compare1 (wpAny_Name (wpAny_loadName_local S.kind S.lb hnn hmb ?_) db) (nomark _))
          refine wpAny_BinOp (wpAny_Name (wpAny_loadName_free S.kind S.fd (S.cld _ ecd) (cellOk _ _ _ hcd hk) ?_ cd0) dd)
          refine wpAny_BinOp (wpAny_Name (wpAny_loadName_free S.kind S.fq (S.clq _ ecq) (cellOk _ _ _ hcq hk) ?_ cq0) dq)
          refine wpAny_Constant_int (sub_int (mul_int (lt_int (wpAny_truthy_bool ⟨?_, keeps_tok _ _⟩)) ?_))
          · unfold below
            rw [hni2]
            exact decide_eq_decide.mpr (by
              have e1 : ((d : Int) * ((q : Int) - 1)) = ((d * (q - 1) : Nat) : Int) := by
                rw [Int.natCast_mul]
                congr 1
                omega
              rw [e1]
              omega)
          · exact (show CMul (d : Int) ((q : Int) - 1) from .inr (by
              have e2 : (2 : Int) ^ 64 = 18446744073709551616 := by decide
              rw [e2]
              omega)).ok
        · obtain ⟨n, t, t', hni2, rfl, rfl⟩ := pair i va vb hPv
          exact wpAny_Name (wpAny_loadName_local S.kind S.la hnn hma ⟨⟨t, rfl⟩, keeps_refl _⟩) da
      · intro g h5 tk5 gs hgb hag hsz5 hk5 W5 hat
        refine hQ ns _ H1 g _ kk ⟨_, _, _, _, W5.in4_1, hat, hat.1.typeIs, fun s' hm => ?_⟩
        obtain ⟨more, em⟩ := hmore
        have nwr : ∀ b u, s1.heap.get? b = some u → b ∉ h3.objs.size :: [s1.heap.objs.size + 1, s1.heap.objs.size] := fun b u e hb => by
          have hl9 := Heap.lt_size e
          have e' : b = h3.objs.size ∨ b = s1.heap.objs.size + 1 ∨ b = s1.heap.objs.size := by simpa using hb
          rcases e' with z | z | z
          · exact (b3 _ hl9).2 z.symm
          · exact ne1 hl9 z.symm
          · exact ne0 hl9 z.symm
        have J := inv_tab (more := more) (h' := s'.heap) (g' := s'.gens) (d' := s'.drawn) (t' := s'.toks) I1 hP (fun b u hb e => hm.heap b u (nwr b u e) (hk5 b u (keep3 b u hb e)))
          (by rw [← em]; exact hm.heap P _ (nwr P _ hPs) (hk5 P _ hP3)) (AllBare.movedS (I1.bare.push hgb) hm)
        rw [sh_eta s1 s' hm.os] at J
        exact ⟨upd H1 P (.tbl (ps ++ more)), ⟨⟨ps ++ more, upd_same, by rw [← em]; exact ht3⟩, fun b hb => upd_ne hb⟩, J⟩
    cases hf : codeAmong gpos ps.toList with
    | none =>
      refine wpAny_genexprCodeX hcode (cd.code hP2 ht) (cd.tab hP2) hf fun c' h' tk hx hge hlt hco' _ htab' _ => ?_
      obtain ⟨o1, vs, f1, tf, fl, tg, inF, tx, tt, op, _, _, _, _, _, _, _, _, _, htr, _⟩ := hco'
      exact cont _ h' tk _ hx (Nat.le_trans hge (Nat.le_of_lt hlt)) htab'.2 ⟨_, rfl⟩ htr
    | some cv =>
      refine wpAny_genexprCode_hit hcode (cd.code hP2 ht) hf ?_
      exact cont cv h2 s1.toks ps (Heap.ExtBut.refl _ _) (Nat.le_refl _) hP2 ⟨#[], by simp⟩ ht
theorem pe_nextE {c P : Addr} {ie : Expr} {xa xb nd nq : Str} {kt : Nat} {pa pb pt pen pie pcb pmul pd psub pq pone pcmp pelt p pos gpos pnone : Pos} {kone knone : Nat} {scope : Scope} {te : TA} {k id iq : Nat}
    (hr : Room k X.A) (hg : Gl X "next") (hm : X.mg "next" = none) (hge : Gl X "enumerate") (hme : X.mg "enumerate" = none) (TB : TabB X.base X.mg c P) (hcode : X.env.code = .ref c) (S : GenS2 X.env scope xa xb nd nq)
    (hid : X.N[id]? = some nd) (hiq : X.N[iq]? = some nq) (hvd : Vis X.env.scope nd) (hvq : Vis X.env.scope nq) (hi : PA X [ie] te)
    (hs1 : starEach [ie] X.env = [(false, eval ie X.env)] := by rfl)
    (hs : ∀ v, genFold (.Call (.Name "enumerate" pen) [ie] [] pie) X.env v = pure v := by intro _; rfl)
    (da : (xa == ("__debug__" : Str)) = false := by decide) (db : (xb == ("__debug__" : Str)) = false := by decide) (dd : (nd == ("__debug__" : Str)) = false := by decide) (dq : (nq == ("__debug__" : Str)) = false := by decide)
    (cd0 : (nd == ("__classdict__" : Str)) = false := by decide) (cq0 : (nq == ("__classdict__" : Str)) = false := by decide)
    (he : starEach [.GeneratorExp (.Name xa pelt) [⟨.Tuple [.Name xa pa, .Name xb pb] kt pt, .Call (.Name "enumerate" pen) [ie] [] pie, [.Compare (.Name xb pcb) [.Lt] [.BinOp (.Name nd pd) .Mult (.BinOp (.Name nq pq) .Sub (.Constant (.int 1) kone pone) psub) pmul] pcmp], 0⟩] scope gpos, .Constant .none knone pnone] X.env
      = (false, eval (.GeneratorExp (.Name xa pelt) [⟨.Tuple [.Name xa pa, .Name xb pb] kt pt, .Call (.Name "enumerate" pen) [ie] [] pie, [.Compare (.Name xb pcb) [.Lt] [.BinOp (.Name nd pd) .Mult (.BinOp (.Name nq pq) .Sub (.Constant (.int 1) kone pone) psub) pmul] pcmp], 0⟩] scope gpos) X.env) :: starEach [.Constant .none knone pnone] X.env := by rfl)
    (he2 : backTo pos (starEach [.Constant .none knone pnone] X.env) = [(false, eval (.Constant .none knone pnone) X.env)] := by rfl) :
    PE X (.Call (.Name "next" p) [.GeneratorExp (.Name xa pelt) [⟨.Tuple [.Name xa pa, .Name xb pb] kt pt, .Call (.Name "enumerate" pen) [ie] [] pie, [.Compare (.Name xb pcb) [.Lt] [.BinOp (.Name nd pd) .Mult (.BinOp (.Name nq pq) .Sub (.Constant (.int 1) kone pone) psub) pmul] pcmp], 0⟩] scope gpos, .Constant .none knone pnone] [] pos)
      (tNextE X.K P id iq te) := by
  refine ⟨fun pins s σ H Q I h => ?_⟩
  refine wpAny_Call_Name_kw (ld_blt I hg hm boot_next ?_)
  refine PyProof.Rows.callWith_builtin1 ?_ he (by rw [he2]; rfl)
  rw [he]
  show wpAny _ _ (spliced ((false, eval _ X.env) :: backTo pos (starEach [.Constant .none knone pnone] X.env))) _ _ s
  rw [he2]
  refine Calls.spliced_cons (gen_en (R := fun ns lim H1 => ∀ H2, Tabbed P H1 H2 → Q (barV (barGo lim 0 ns)) H2) hr hge hme TB hcode S hid hiq hvd hvq hi hs1 hs da db dd dq cd0 cq0 I h fun ns lim H1 g s5 hR hG => ?_)
  obtain ⟨fp, wr, G, St, W, hst, hty, hI⟩ := hG
  refine Calls.spliced_cons (Constant_none (Calls.spliced_nil ?_))
  refine Calls.call_function_entry (by decide +kernel) (by decide +kernel) PySem.W.kdk_entry_next (PySem.W.kdk_args_next2 _ _) ?_
  unfold Builtin.«next»
  refine wpAny_bind (m := someArgs "next" 1 2 _) (wpAny_of_eq (a := [Value.ref g, .none]) (by first | rfl | kernel_rfl!) ?_)
  dsimp only
  refine wpAny_bind (wpAny_specialOf (name := Str.ofString "__next__") hty slot_gen_next.lookup ?_)
  refine wpAny_ite_split (fun hab => absurd hab (by decide)) (fun _ => ?_)
  have hfirst := first_is ns lim ns.length 0 (Nat.sub_zero _) (Nat.zero_le _)
  rw [List.drop_zero] at hfirst
  cases hps : passing (below ns lim) ns.length 0 with
  | nil =>
    rw [hps] at W hfirst
    refine wpAny_bind (W.done s5 _ _ hst fun s' hm => ?_)
    obtain ⟨H2, hT, J⟩ := hI s' hm
    refine wpAny_pure ⟨_, rfl, .non, H2, J, rfl, ?_⟩
    have z := hR H2 hT
    rw [← hfirst] at z
    exact z
  | cons b r =>
    rw [hps] at W hfirst
    refine wpAny_bind (W.item 0 s5 _ _ (Nat.succ_pos _) hst fun v s' hv _ hm => ?_)
    obtain ⟨i, hi0, t, rfl⟩ := hv
    obtain rfl : b = i := by simpa using hi0
    obtain ⟨H2, hT, J⟩ := hI s' hm
    refine wpAny_pure ⟨_, rfl, vn b, H2, J, ⟨t, rfl⟩, ?_⟩
    have z := hR H2 hT
    rw [← hfirst] at z
    exact z
end
end Mo
namespace Mo
open PySem PySem.Spec PyProof.Rows L2
def top (i : Nat) : Stmt := PySem.Challenge.pw_monicsums_k17_whole_zero_sums_partings_a.main.body.getD i (.Pass ⟨0, 0, 0, 0⟩)
abbrev s_is_whole_number : Stmt := top 9
abbrev N_is_whole_number : List Str := ["value"]
theorem sc_is_whole_number : FnScope N_is_whole_number ["value"] (defScope s_is_whole_number) := ⟨rfl, rfl, rfl, by decide +kernel, rfl, by decide +kernel, by decide +kernel⟩
abbrev s_is_integer : Stmt := top 10
abbrev N_is_integer : List Str := ["value"]
theorem sc_is_integer : FnScope N_is_integer ["value"] (defScope s_is_integer) := ⟨rfl, rfl, rfl, by decide +kernel, rfl, by decide +kernel, by decide +kernel⟩
abbrev s_is_within : Stmt := top 11
abbrev N_is_within : List Str := ["value", "least", "most"]
theorem sc_is_within : FnScope N_is_within ["value", "least", "most"] (defScope s_is_within) := ⟨rfl, rfl, rfl, by decide +kernel, rfl, by decide +kernel, by decide +kernel⟩
abbrev s_is_from_zero : Stmt := top 12
abbrev N_is_from_zero : List Str := ["value"]
theorem sc_is_from_zero : FnScope N_is_from_zero ["value"] (defScope s_is_from_zero) := ⟨rfl, rfl, rfl, by decide +kernel, rfl, by decide +kernel, by decide +kernel⟩
abbrev s_is_field_in : Stmt := top 13
abbrev N_is_field_in : List Str := ["value"]
theorem sc_is_field_in : FnScope N_is_field_in ["value"] (defScope s_is_field_in) := ⟨rfl, rfl, rfl, by decide +kernel, rfl, by decide +kernel, by decide +kernel⟩
abbrev s_require_field : Stmt := top 14
abbrev N_require_field : List Str := ["q"]
theorem sc_require_field : FnScope N_require_field ["q"] (defScope s_require_field) := ⟨rfl, rfl, rfl, by decide +kernel, rfl, by decide +kernel, by decide +kernel⟩
abbrev s_digits_in : Stmt := top 16
abbrev N_digits_in : List Str := ["b", "k", "found"]
theorem sc_digits_in : FnScope N_digits_in ["b", "k"] (defScope s_digits_in) := ⟨rfl, rfl, rfl, by decide +kernel, rfl, by decide +kernel, by decide +kernel⟩
abbrev s_of_digits_in : Stmt := top 17
abbrev N_of_digits_in : List Str := ["b", "row", "found", "digit"]
theorem sc_of_digits_in : FnScope N_of_digits_in ["b", "row"] (defScope s_of_digits_in) := ⟨rfl, rfl, rfl, by decide +kernel, rfl, by decide +kernel, by decide +kernel⟩
abbrev s_digit_sum_in : Stmt := top 18
abbrev N_digit_sum_in : List Str := ["b", "k", "found"]
theorem sc_digit_sum_in : FnScope N_digit_sum_in ["b", "k"] (defScope s_digit_sum_in) := ⟨rfl, rfl, rfl, by decide +kernel, rfl, by decide +kernel, by decide +kernel⟩
abbrev s_shift_sums_in : Stmt := top 19
abbrev N_shift_sums_in : List Str := ["q", "k", "found", "shift"]
theorem sc_shift_sums_in : FnScope N_shift_sums_in ["q", "k"] (defScope s_shift_sums_in) := ⟨rfl, rfl, rfl, by decide +kernel, rfl, by decide +kernel, by decide +kernel⟩
abbrev s_most_parts_in : Stmt := top 20
abbrev N_most_parts_in : List Str := ["q", "k"]
theorem sc_most_parts_in : FnScope N_most_parts_in ["q", "k"] (defScope s_most_parts_in) := ⟨rfl, rfl, rfl, by decide +kernel, rfl, by decide +kernel, by decide +kernel⟩
abbrev s_weights_of : Stmt := top 23
abbrev N_weights_of : List Str := ["q", "p"]
theorem sc_weights_of : FnScope N_weights_of ["q"] (defScope s_weights_of) := ⟨rfl, rfl, rfl, by decide +kernel, rfl, by decide +kernel, by decide +kernel⟩
abbrev s_vectors_of : Stmt := top 24
abbrev N_vectors_of : List Str := ["q", "some", "place", "found", "row", "rest", "units"]
theorem sc_vectors_of : FnScope N_vectors_of ["q"] (defScope s_vectors_of) := ⟨rfl, rfl, rfl, by decide +kernel, rfl, by decide +kernel, by decide +kernel⟩
abbrev s_units_of : Stmt := top 25
abbrev N_units_of : List Str := ["f", "row", "rest"]
theorem sc_units_of : FnScope N_units_of ["f", "row"] (defScope s_units_of) := ⟨rfl, rfl, rfl, by decide +kernel, rfl, by decide +kernel, by decide +kernel⟩
abbrev s_rest_of_units : Stmt := top 26
abbrev N_rest_of_units : List Str := ["q", "units", "weight", "number"]
theorem sc_rest_of_units : FnScope N_rest_of_units ["q", "units"] (defScope s_rest_of_units) := ⟨rfl, rfl, rfl, by decide +kernel, rfl, by decide +kernel, by decide +kernel⟩
abbrev s_has_room : Stmt := top 27
abbrev N_has_room : List Str := ["q", "units", "n", "weights", "shift", "turned", "weight", "number"]
theorem sc_has_room : FnScope N_has_room ["q", "units", "n"] (defScope s_has_room) := ⟨rfl, rfl, rfl, by decide +kernel, rfl, by decide +kernel, by decide +kernel⟩
abbrev s_is_left_possible : Stmt := top 28
abbrev N_is_left_possible : List Str := ["q", "vectors", "fixed", "free", "n", "most", "row", "one", "other", "less"]
theorem sc_is_left_possible : FnScope N_is_left_possible ["q", "vectors", "fixed", "free", "n"] (defScope s_is_left_possible) := ⟨rfl, rfl, rfl, by decide +kernel, rfl, by decide +kernel, by decide +kernel⟩
abbrev s_with_unit : Stmt := top 29
abbrev N_with_unit : List Str := ["units", "place", "digit", "found"]
theorem sc_with_unit : FnScope N_with_unit ["units", "place", "digit"] (defScope s_with_unit) := ⟨rfl, rfl, rfl, by decide +kernel, rfl, by decide +kernel, by decide +kernel⟩
abbrev s_least_rest : Stmt := top 30
abbrev N_least_rest : List Str := ["q", "vectors", "whole", "n", "p", "f", "row", "told", "fixed", "place", "free", "digit"]
theorem sc_least_rest : FnScope N_least_rest ["q", "vectors", "whole", "n"] (defScope s_least_rest) := ⟨rfl, rfl, rfl, by decide +kernel, rfl, by decide +kernel, by decide +kernel⟩
abbrev s_greatest_in : Stmt := top 31
abbrev N_greatest_in : List Str := ["q", "d", "k", "vectors", "found", "left", "n", "rest"]
theorem sc_greatest_in : FnScope N_greatest_in ["q", "d", "k"] (defScope s_greatest_in) := ⟨rfl, rfl, rfl, by decide +kernel, rfl, by decide +kernel, by decide +kernel⟩
abbrev s_digit_bar_in : Stmt := top 32
abbrev N_digit_bar_in : List Str := ["q", "d", "k"]
theorem sc_digit_bar_in : FnScope N_digit_bar_in ["q", "d", "k"] (defScope s_digit_bar_in) := ⟨rfl, rfl, rfl, by decide +kernel, rfl, by decide +kernel, by decide +kernel⟩
abbrev s_require_partings : Stmt := top 33
abbrev N_require_partings : List Str := ["q", "d", "k"]
theorem sc_require_partings : FnScope N_require_partings ["q", "d", "k"] (defScope s_require_partings) := ⟨rfl, rfl, rfl, by decide +kernel, rfl, by decide +kernel, by decide +kernel⟩
abbrev s_parting : Stmt := top 34
abbrev N_parting : List Str := ["q", "d", "k"]
theorem sc_parting : FnScope N_parting ["q", "d", "k"] (defScope s_parting) := ⟨rfl, rfl, rfl, by decide +kernel, rfl, by decide +kernel, by decide +kernel⟩
abbrev s_digit_bar : Stmt := top 35
abbrev N_digit_bar : List Str := ["q", "d", "k"]
theorem sc_digit_bar : FnScope N_digit_bar ["q", "d", "k"] (defScope s_digit_bar) := ⟨rfl, rfl, rfl, by decide +kernel, rfl, by decide +kernel, by decide +kernel⟩
abbrev s_is_zero_sum : Stmt := top 36
abbrev N_is_zero_sum : List Str := ["q", "d", "k"]
theorem sc_is_zero_sum : FnScope N_is_zero_sum ["q", "d", "k"] (defScope s_is_zero_sum) := ⟨rfl, rfl, rfl, by decide +kernel, rfl, by decide +kernel, by decide +kernel⟩
abbrev s_l_dice : Stmt := top 38
abbrev N_l_dice : List Str := ["_law_script", "_law_at", "_law_cell", "_law_great", "_law_left", "_law_mixed"]
theorem sc_l_dice : FnScope N_l_dice ["_law_script", "_law_at"] (defScope s_l_dice) := ⟨rfl, rfl, rfl, by decide +kernel, rfl, by decide +kernel, by decide +kernel⟩
abbrev s_l_roll : Stmt := top 39
abbrev N_l_roll : List Str := ["_law_dice_here", "_law_total", "_law_size_here", "_law_drawn", "_law_one", "_law_two"]
theorem sc_l_roll : FnScope N_l_roll ["_law_dice_here", "_law_total"] (defScope s_l_roll) := ⟨rfl, rfl, rfl, by decide +kernel, rfl, by decide +kernel, by decide +kernel⟩
abbrev s_l_one_of : Stmt := top 40
abbrev N_l_one_of : List Str := ["_law_dice_here", "_law_items"]
theorem sc_l_one_of : FnScope N_l_one_of ["_law_dice_here", "_law_items"] (defScope s_l_one_of) := ⟨rfl, rfl, rfl, by decide +kernel, rfl, by decide +kernel, by decide +kernel⟩
abbrev s_l_raised : Stmt := top 41
abbrev N_l_raised : List Str := ["_law_base", "_law_count", "_law_found", "_law_turn"]
theorem sc_l_raised : FnScope N_l_raised ["_law_base", "_law_count"] (defScope s_l_raised) := ⟨rfl, rfl, rfl, by decide +kernel, rfl, by decide +kernel, by decide +kernel⟩
abbrev s_l_digits : Stmt := top 42
abbrev N_l_digits : List Str := ["_law_base", "_law_number", "_law_found", "_law_left"]
theorem sc_l_digits : FnScope N_l_digits ["_law_base", "_law_number"] (defScope s_l_digits) := ⟨rfl, rfl, rfl, by decide +kernel, rfl, by decide +kernel, by decide +kernel⟩
abbrev s_l_element_product : Stmt := top 43
abbrev N_l_element_product : List Str := ["_law_p", "_law_f", "_law_one", "_law_other", "_law_found", "_law_i", "_law_left", "_law_j", "_law_right_here", "_law_value", "_law_digit"]
theorem sc_l_element_product : FnScope N_l_element_product ["_law_p", "_law_f", "_law_one", "_law_other"] (defScope s_l_element_product) := ⟨rfl, rfl, rfl, by decide +kernel, rfl, by decide +kernel, by decide +kernel⟩
abbrev s_l_element_sum : Stmt := top 44
abbrev N_l_element_sum : List Str := ["_law_p", "_law_f", "_law_one", "_law_other", "_law_found", "_law_place", "_law_turn"]
theorem sc_l_element_sum : FnScope N_l_element_sum ["_law_p", "_law_f", "_law_one", "_law_other"] (defScope s_l_element_sum) := ⟨rfl, rfl, rfl, by decide +kernel, rfl, by decide +kernel, by decide +kernel⟩
abbrev s_l_field : Stmt := top 45
abbrev N_l_field : List Str := ["_law_q_here", "_law_p", "_law_f", "_law_plus_here", "_law_mul", "_law_one", "_law_other", "_law_row"]
theorem sc_l_field : FnScope N_l_field ["_law_q_here"] (defScope s_l_field) := ⟨rfl, rfl, rfl, by decide +kernel, rfl, by decide +kernel, by decide +kernel⟩
abbrev s_l_trim : Stmt := top 46
abbrev N_l_trim : List Str := ["_law_row", "_law_size_here"]
theorem sc_l_trim : FnScope N_l_trim ["_law_row"] (defScope s_l_trim) := ⟨rfl, rfl, rfl, by decide +kernel, rfl, by decide +kernel, by decide +kernel⟩
abbrev s_l_plus : Stmt := top 47
abbrev N_l_plus : List Str := ["_law_field_here", "_law_one", "_law_other", "_law_size_here", "_law_left", "_law_right_here", "_law_a", "_law_b"]
theorem sc_l_plus : FnScope N_l_plus ["_law_field_here", "_law_one", "_law_other"] (defScope s_l_plus) := ⟨rfl, rfl, rfl, by decide +kernel, rfl, by decide +kernel, by decide +kernel⟩
abbrev s_l_product : Stmt := top 48
abbrev N_l_product : List Str := ["_law_field_here", "_law_one", "_law_other", "_law_found", "_law_plus_here", "_law_mul", "_law_j", "_law_right_here", "_law_i", "_law_left"]
theorem sc_l_product : FnScope N_l_product ["_law_field_here", "_law_one", "_law_other"] (defScope s_l_product) := ⟨rfl, rfl, rfl, by decide +kernel, rfl, by decide +kernel, by decide +kernel⟩
abbrev s_l_stretched : Stmt := top 49
abbrev N_l_stretched : List Str := ["_law_q_here", "_law_one", "_law_i", "_law_step", "_law_found", "_law_at", "_law_a"]
theorem sc_l_stretched : FnScope N_l_stretched ["_law_q_here", "_law_one", "_law_i"] (defScope s_l_stretched) := ⟨rfl, rfl, rfl, by decide +kernel, rfl, by decide +kernel, by decide +kernel⟩
abbrev s_l_power : Stmt := top 50
abbrev N_l_power : List Str := ["_law_field_here", "_law_one", "_law_k", "_law_found", "_law_i", "_law_digit", "_law_big", "_law_turn"]
theorem sc_l_power : FnScope N_l_power ["_law_field_here", "_law_one", "_law_k"] (defScope s_l_power) := ⟨rfl, rfl, rfl, by decide +kernel, rfl, by decide +kernel, by decide +kernel⟩
abbrev s_l_lower : Stmt := top 51
abbrev N_l_lower : List Str := ["_law_q_here", "_law_d", "_law_found", "_law_number"]
theorem sc_l_lower : FnScope N_l_lower ["_law_q_here", "_law_d"] (defScope s_l_lower) := ⟨rfl, rfl, rfl, by decide +kernel, rfl, by decide +kernel, by decide +kernel⟩
abbrev s_l_monics : Stmt := top 52
abbrev N_l_monics : List Str := ["_law_q_here", "_law_d", "_law_a"]
theorem sc_l_monics : FnScope N_l_monics ["_law_q_here", "_law_d"] (defScope s_l_monics) := ⟨rfl, rfl, rfl, by decide +kernel, rfl, by decide +kernel, by decide +kernel⟩
abbrev s_l_q : Stmt := top 53
abbrev N_l_q : List Str := ["_law_dice_here"]
theorem sc_l_q : FnScope N_l_q ["_law_dice_here"] (defScope s_l_q) := ⟨rfl, rfl, rfl, by decide +kernel, rfl, by decide +kernel, by decide +kernel⟩
abbrev s_l_size : Stmt := top 54
abbrev N_l_size : List Str := ["_law_q_here", "_law_most_here", "_law_d"]
theorem sc_l_size : FnScope N_l_size ["_law_q_here", "_law_most_here"] (defScope s_l_size) := ⟨rfl, rfl, rfl, by decide +kernel, rfl, by decide +kernel, by decide +kernel⟩
abbrev s_l_digit_sum : Stmt := top 55
abbrev N_l_digit_sum : List Str := ["_law_base", "_law_number"]
theorem sc_l_digit_sum : FnScope N_l_digit_sum ["_law_base", "_law_number"] (defScope s_l_digit_sum) := ⟨rfl, rfl, rfl, by decide +kernel, rfl, by decide +kernel, by decide +kernel⟩
abbrev s_l_most : Stmt := top 56
abbrev N_l_most : List Str := ["_law_field_here", "_law_k", "_law_q_here", "_law_j"]
theorem sc_l_most : FnScope N_l_most ["_law_field_here", "_law_k"] (defScope s_l_most) := ⟨rfl, rfl, rfl, by decide +kernel, rfl, by decide +kernel, by decide +kernel⟩
abbrev s_l_within : Stmt := top 57
abbrev N_l_within : List Str := ["_law_p", "_law_k", "_law_found", "_law_place", "_law_digit", "_law_longer", "_law_more", "_law_one"]
theorem sc_l_within : FnScope N_l_within ["_law_p", "_law_k"] (defScope s_l_within) := ⟨rfl, rfl, rfl, by decide +kernel, rfl, by decide +kernel, by decide +kernel⟩
abbrev s_l_partings : Stmt := top 58
abbrev N_l_partings : List Str := ["_law_field_here", "_law_d", "_law_k", "_law_step", "_law_found", "_law_turn", "_law_longer", "_law_parts", "_law_left", "_law_some", "_law_one"]
theorem sc_l_partings : FnScope N_l_partings ["_law_field_here", "_law_d", "_law_k"] (defScope s_l_partings) := ⟨rfl, rfl, rfl, by decide +kernel, rfl, by decide +kernel, by decide +kernel⟩
abbrev s_l_small_k : Stmt := top 59
abbrev N_l_small_k : List Str := ["_law_dice_here", "_law_q_here", "_law_most_here", "_law_way", "_law_found", "_law_turn"]
theorem sc_l_small_k : FnScope N_l_small_k ["_law_dice_here", "_law_q_here", "_law_most_here"] (defScope s_l_small_k) := ⟨rfl, rfl, rfl, by decide +kernel, rfl, by decide +kernel, by decide +kernel⟩
abbrev s_l_sum : Stmt := top 60
abbrev N_l_sum : List Str := ["_law_field_here", "_law_d", "_law_k", "_law_found", "_law_one"]
theorem sc_l_sum : FnScope N_l_sum ["_law_field_here", "_law_d", "_law_k"] (defScope s_l_sum) := ⟨rfl, rfl, rfl, by decide +kernel, rfl, by decide +kernel, by decide +kernel⟩
abbrev s_l_is_parting : Stmt := top 61
abbrev N_l_is_parting : List Str := ["_law_field_here", "_law_d", "_law_k", "_law_value", "_law_one"]
theorem sc_l_is_parting : FnScope N_l_is_parting ["_law_field_here", "_law_d", "_law_k", "_law_value"] (defScope s_l_is_parting) := ⟨rfl, rfl, rfl, by decide +kernel, rfl, by decide +kernel, by decide +kernel⟩
abbrev s_l_bars : Stmt := top 62
abbrev N_l_bars : List Str := ["_law_field_here", "_law_d", "_law_k", "_law_q_here", "_law_j"]
theorem sc_l_bars : FnScope N_l_bars ["_law_field_here", "_law_d", "_law_k"] (defScope s_l_bars) := ⟨rfl, rfl, rfl, by decide +kernel, rfl, by decide +kernel, by decide +kernel⟩
abbrev s_l_paper_right : Stmt := top 63
abbrev N_l_paper_right : List Str := ["_law_field_here", "_law_d", "_law_k", "_law_is_due", "_law_q_here", "_law_told", "_law_bar"]
theorem sc_l_paper_right : FnScope N_l_paper_right ["_law_field_here", "_law_d", "_law_k", "_law_is_due"] (defScope s_l_paper_right) := ⟨rfl, rfl, rfl, by decide +kernel, rfl, by decide +kernel, by decide +kernel⟩
abbrev s_l_right : Stmt := top 64
abbrev N_l_right : List Str := ["_law_dice_here", "_law_q_here", "_law_field_here", "_law_d", "_law_k", "_law_is_due"]
theorem sc_l_right : FnScope N_l_right ["_law_dice_here"] (defScope s_l_right) := ⟨rfl, rfl, rfl, by decide +kernel, rfl, by decide +kernel, by decide +kernel⟩
abbrev s_law : Stmt := top 65
abbrev N_law : List Str := ["_law_script", "_law_at"]
theorem sc_law : FnScope N_law ["_law_script"] (defScope s_law) := ⟨rfl, rfl, rfl, by decide +kernel, rfl, by decide +kernel, by decide +kernel⟩
end Mo
namespace Mo
open PySem PySem.Spec PyProof.Rows L2
open C8 (pe_c pe_gc)
/-! ### digits: plain -/
theorem digF_more (b : Nat) : ∀ (f n : Nat), 2 ≤ b → n ≤ f → digF b f n = digF b n n
  | 0, n, _, h => by
    have e : n = 0 := by omega
    rw [e]
  | f + 1, n, hb, h => by
    cases n with
    | zero => rfl
    | succ m =>
      have hlt : (m + 1) / b ≤ m := by
        have h1 : (m + 1) / b < m + 1 := Nat.div_lt_self (by omega) (by omega)
        omega
      show (bif Nat.beq (m + 1) 0 then [] else (m + 1) % b :: digF b f ((m + 1) / b)) = (bif Nat.beq (m + 1) 0 then [] else (m + 1) % b :: digF b m ((m + 1) / b))
      rw [digF_more b f _ hb (by omega), digF_more b m _ hb hlt]
theorem digs_zero (b : Nat) : digs b 0 = [] := rfl
theorem digs_pos {b n : Nat} (hb : 2 ≤ b) (hn : 0 < n) : digs b n = n % b :: digs b (n / b) := by
  cases n with
  | zero => omega
  | succ m =>
    have hlt : (m + 1) / b ≤ m := by
      have h1 : (m + 1) / b < m + 1 := Nat.div_lt_self (by omega) (by omega)
      omega
    show (bif Nat.beq (m + 1) 0 then [] else (m + 1) % b :: digF b m ((m + 1) / b)) = _
    show (m + 1) % b :: digF b m ((m + 1) / b) = _
    rw [digF_more b m _ hb hlt]
    rfl
theorem digF_len (b : Nat) : ∀ (f n : Nat), (digF b f n).length ≤ f
  | 0, _ => Nat.le_refl _
  | f + 1, n => by
    show (bif Nat.beq n 0 then [] else n % b :: digF b f (n / b)).length ≤ f + 1
    cases Nat.beq n 0
    · exact Nat.succ_le_succ (digF_len b f (n / b))
    · exact Nat.zero_le _
theorem digs_len (b n : Nat) : (digs b n).length ≤ n := digF_len b n n
theorem digs_lt {b : Nat} (hb : 0 < b) : ∀ (f n : Nat), ∀ x ∈ digF b f n, x < b
  | 0, _, x, h => by cases h
  | f + 1, n, x, h => by
    have h' : x ∈ (bif Nat.beq n 0 then [] else n % b :: digF b f (n / b)) := h
    cases e : Nat.beq n 0 with
    | true => rw [e] at h'; cases h'
    | false =>
      rw [e] at h'
      rcases List.mem_cons.mp h' with q | q
      · rw [q]; exact Nat.mod_lt _ hb
      · exact digs_lt hb f _ x q
theorem vns_app (a b : List Nat) : vns (a ++ b) = vns a ++ vns b := List.map_append
theorem dsum_zero (b : Nat) : dsum b 0 = 0 := rfl
theorem dsum_pos {b n : Nat} (hb : 2 ≤ b) (hn : 0 < n) : dsum b n = n % b + dsum b (n / b) := by
  unfold dsum
  rw [digs_pos hb hn]
  rfl
theorem Qs_facts {q : Nat} (h : q ∈ Qs) : 2 ≤ q ∧ q ≤ 9 ∧ 2 ≤ pOf q ∧ pOf q ≤ 7 ∧ 1 ≤ fOf q ∧ fOf q ≤ 3 := by
  have e : ∀ q ∈ Qs, 2 ≤ q ∧ q ≤ 9 ∧ 2 ≤ pOf q ∧ pOf q ≤ 7 ∧ 1 ≤ fOf q ∧ fOf q ≤ 3 := by decide
  exact e q h
theorem kq {q : Nat} (h : q ∈ Qs) (f : Nat → Nat) : (fun i : Int => if 0 ≤ i ∧ i.toNat ∈ Qs then some (vn (f i.toNat)) else none) (q : Int) = some (vn (f q)) := if_pos ⟨Int.natCast_nonneg _, h⟩
theorem minL_mem : ∀ l : List Nat, l ≠ [] → minL l ∈ l ∧ ∀ y ∈ l, minL l ≤ y
  | [], h => absurd rfl h
  | [x], _ => ⟨List.mem_cons_self .., fun y hy => by rw [List.mem_singleton.mp hy]; exact Nat.le_refl _⟩
  | x :: y :: r, _ => by
    obtain ⟨h1, h2⟩ := minL_mem (y :: r) (by simp)
    show min x (minL (y :: r)) ∈ x :: y :: r ∧ ∀ z ∈ x :: y :: r, min x (minL (y :: r)) ≤ z
    refine ⟨?_, fun z hz => ?_⟩
    · by_cases hle : x ≤ minL (y :: r)
      · rw [Nat.min_eq_left hle]; exact List.mem_cons_self ..
      · rw [Nat.min_eq_right (by omega)]; exact List.mem_cons_of_mem _ h1
    · rcases List.mem_cons.mp hz with e | e
      · rw [e]; exact Nat.min_le_left _ _
      · exact Nat.le_trans (Nat.min_le_right _ _) (h2 z e)
theorem minL_is {l : List Nat} {m : Int} (h1 : m ∈ l.map fun n : Nat => (n : Int)) (h2 : ∀ y ∈ l.map fun n : Nat => (n : Int), m ≤ y) : m = ((minL l : Nat) : Int) := by
  obtain ⟨n, hn, rfl⟩ := List.mem_map.mp h1
  have hne : l ≠ [] := fun e => by rw [e] at hn; cases hn
  obtain ⟨a, b⟩ := minL_mem l hne
  have q1 := b n hn
  have q2 := h2 _ (List.mem_map.mpr ⟨_, a, rfl⟩)
  omega
theorem foldl_pow (b : Nat) : ∀ n : Nat, (List.range n).foldl (fun acc _ => acc * b) 1 = b ^ n
  | 0 => rfl
  | n + 1 => by rw [List.range_succ, List.foldl_append, foldl_pow b n]; rfl
theorem line24 : (sizeLine : Nat) = 16777216 := by rw [sizeLine_eq]
/-! ### the promises -/
def spDigs : Sp := fun vs H Q _ => ∃ b n : Nat, vs = [vn b, vn n] ∧ 2 ≤ b ∧ b < 1000000 ∧ n < 16777216 ∧ ∀ p, H p = none → Q (.ref p) (upd H p (.lst (vns (digs b n))))
def spDsum : Sp := fun vs H Q _ => ∃ b n : Nat, vs = [vn b, vn n] ∧ 2 ≤ b ∧ b < 1000000 ∧ n < 16777216 ∧ Q (vn (dsum b n)) H
def spLDsum : Sp := fun vs H Q _ => ∃ b n : Nat, vs = [vn b, vn n] ∧ 2 ≤ b ∧ b < 1000000 ∧ n < 16777216 ∧ ∀ H', Same H H' → Q (vn (dsum b n)) H'
def spRaised : Sp := fun vs H Q _ => ∃ b n : Nat, vs = [vn b, vn n] ∧ b < 1000000 ∧ n < 1000000 ∧ Q (vn (b ^ n)) H
section
variable {P : Program} {w : World} {K : PySem.W.Frag} {mg : Str → Option Value} {base : Heap} {aF aP aW : Addr}
theorem ok_digits_in (T : Txt K mg aF aP aW) (d : Df K mg "digits_in" s_digits_in ["b", "k"]) : C8.Cal P w K mg base 1 "digits_in" spDigs [] := by
  refine cal_of d sc_digits_in (fun vs H Q E h => ?_) (fun f cdv A outer s H vs Q E hr h => ?_)
  · obtain ⟨b, n, rfl, _⟩ := h
    rfl
  · obtain ⟨b, n, rfl, hb, hb2, hn, k⟩ := h
    refine ⟨_, (pss_cons (ps_set (i := 2) sc_digits_in.nd rfl (Or.inl rfl) (pe_lst pa_nil))
      (pss_cons (ps_while PassesOwn.never (pt_cmpR nGt (pv 1) pe_int (nomark _)) (pss_cons (ps_expr (pe_bm PySem.F.plainAttrs_list PySem.F.slot_list_append PySem.F.type_list_append mt_append (pv 2) (pa_cons (pe_op nMod (pv 1) (pv 0)) pa_nil)))
      (pss_one (ps_aug (i := 1) sc_digits_in.nd rfl (Or.inl rfl) (pv 0) ip_fdiv))))
      (pss_one (ps_ret (pv 2))))), ?_⟩
    refine ⟨Nat.zero_le _, fun p hp => ?_⟩
    refine ⟨fun m σ H' => ∃ left acc, m = left ∧ σ = [some (vn b), some (vn left), some (.ref p)] ∧ H' = upd H p (.lst (vns acc)) ∧ acc ++ digs b left = digs b n, ⟨n, n, [], rfl, rfl, rfl, rfl⟩, ?_⟩
    rintro m σ H' ⟨left, acc, rfl, rfl, rfl, e⟩
    refine ⟨_, rfl, m, 0, rfl, rfl, _, rfl, ?_⟩
    refine ite2 (fun h0 => ?_) (fun h0 => ?_)
    · have h0 : 0 < m := of_decide_eq_true h0
      have hlt : m / b < m := Nat.div_lt_self h0 (by omega)
      rw [digs_pos hb h0] at e
      refine ⟨fun σ' H2 => ∃ m', m' < m ∧ ∃ left acc, m' = left ∧ σ' = [some (vn b), some (vn left), some (.ref p)] ∧ H2 = upd H p (.lst (vns acc)) ∧ acc ++ digs b left = digs b n, fun _ _ h => h, ?_⟩
      have hlen : acc.length < sizeLine := by
        have l1 := congrArg List.length e
        rw [List.length_append, List.length_cons] at l1
        have l2 := digs_len b n
        rw [line24]
        omega
      refine ⟨_, rfl, .inl ⟨rfl, _, SqL.of upd_same⟩, _, rfl, _, rfl, m, b, rfl, rfl, by omega, p, _, _, rfl, rfl, upd_same, by rw [List.length_map]; exact hlen, ?_⟩
      refine ⟨_, rfl, _, rfl, m, b, rfl, rfl, ⟨by omega, by omega⟩, ?_⟩
      refine ⟨m / b, hlt, m / b, acc ++ [m % b], rfl, rfl, ?_, by rw [List.append_assoc]; exact e⟩
      rw [upd_upd, vns_app]
      rfl
    · have h0 : ¬ 0 < m := fun q => h0 (decide_eq_true q)
      have em : m = 0 := by omega
      subst em
      rw [digs_zero, List.append_nil] at e
      subst e
      exact ⟨_, rfl, k p hp⟩
theorem ok_l_digits (T : Txt K mg aF aP aW) (d : Df K mg "_law_digits" s_l_digits ["_law_base", "_law_number"]) : C8.Cal P w K mg base 1 "_law_digits" spDigs [] := by
  refine cal_of d sc_l_digits (fun vs H Q E h => ?_) (fun f cdv A outer s H vs Q E hr h => ?_)
  · obtain ⟨b, n, rfl, _⟩ := h
    rfl
  · obtain ⟨b, n, rfl, hb, hb2, hn, k⟩ := h
    refine ⟨_, (pss_cons (ps_par (i := 2) (j := 3) rfl sc_l_digits.nd rfl rfl (by decide) rfl rfl (pa_cons (pe_lst pa_nil) (pa_cons (pv 1) pa_nil)) (by rfl))
      (pss_cons (ps_while PassesOwn.never (pt_cmpR nGt (pv 3) pe_int (nomark _)) (pss_cons (ps_expr (pe_bm PySem.F.plainAttrs_list PySem.F.slot_list_append PySem.F.type_list_append mt_append (pv 2) (pa_cons (pe_op nMod (pv 3) (pv 0)) pa_nil)))
      (pss_one (ps_set (i := 3) sc_l_digits.nd rfl (Or.inl rfl) (pe_op nDiv (pv 3) (pv 0))))))
      (pss_one (ps_ret (pv 2))))), ?_⟩
    refine ⟨Nat.zero_le _, fun p hp => ⟨_, rfl, _, _, rfl, ?_⟩⟩
    refine ⟨fun m σ H' => ∃ left acc, m = left ∧ σ = [some (vn b), some (vn n), some (.ref p), some (vn left)] ∧ H' = upd H p (.lst (vns acc)) ∧ acc ++ digs b left = digs b n, ⟨n, n, [], rfl, rfl, rfl, rfl⟩, ?_⟩
    rintro m σ H' ⟨left, acc, rfl, rfl, rfl, e⟩
    refine ⟨_, rfl, m, 0, rfl, rfl, _, rfl, ?_⟩
    refine ite2 (fun h0 => ?_) (fun h0 => ?_)
    · have h0 : 0 < m := of_decide_eq_true h0
      have hlt : m / b < m := Nat.div_lt_self h0 (by omega)
      rw [digs_pos hb h0] at e
      refine ⟨fun σ' H2 => ∃ m', m' < m ∧ ∃ left acc, m' = left ∧ σ' = [some (vn b), some (vn n), some (.ref p), some (vn left)] ∧ H2 = upd H p (.lst (vns acc)) ∧ acc ++ digs b left = digs b n, fun _ _ h => h, ?_⟩
      have hlen : acc.length < sizeLine := by
        have l1 := congrArg List.length e
        rw [List.length_append, List.length_cons] at l1
        have l2 := digs_len b n
        rw [line24]
        omega
      refine ⟨_, rfl, .inl ⟨rfl, _, SqL.of upd_same⟩, _, rfl, _, rfl, m, b, rfl, rfl, by omega, p, _, _, rfl, rfl, upd_same, by rw [List.length_map]; exact hlen, ?_⟩
      refine ⟨_, rfl, _, rfl, m, b, rfl, rfl, ⟨by omega, by omega⟩, ?_⟩
      refine ⟨m / b, hlt, m / b, acc ++ [m % b], rfl, rfl, ?_, by rw [List.append_assoc]; exact e⟩
      rw [upd_upd, vns_app]
      rfl
    · have h0 : ¬ 0 < m := fun q => h0 (decide_eq_true q)
      have em : m = 0 := by omega
      subst em
      rw [digs_zero, List.append_nil] at e
      subst e
      exact ⟨_, rfl, k p hp⟩
theorem ok_digit_sum_in (T : Txt K mg aF aP aW) (d : Df K mg "digit_sum_in" s_digit_sum_in ["b", "k"]) : C8.Cal P w K mg base 1 "digit_sum_in" spDsum [] := by
  refine cal_of d sc_digit_sum_in (fun vs H Q E h => ?_) (fun f cdv A outer s H vs Q E hr h => ?_)
  · obtain ⟨b, n, rfl, _⟩ := h
    rfl
  · obtain ⟨b, n, rfl, hb, hb2, hn, k⟩ := h
    refine ⟨_, (pss_cons (ps_set (i := 2) sc_digit_sum_in.nd rfl (Or.inl rfl) pe_int)
      (pss_cons (ps_while PassesOwn.never (pt_cmpR nGt (pv 1) pe_int (nomark _)) (pss_cons (ps_aug (i := 2) sc_digit_sum_in.nd rfl (Or.inl rfl) (pe_op nMod (pv 1) (pv 0)) ip_addN)
      (pss_one (ps_aug (i := 1) sc_digit_sum_in.nd rfl (Or.inl rfl) (pv 0) ip_fdiv))))
      (pss_one (ps_ret (pv 2))))), ?_⟩
    refine ⟨fun m σ H' => ∃ left acc, m = left ∧ σ = [some (vn b), some (vn left), some (vn acc)] ∧ H' = H ∧ acc + dsum b left = dsum b n, ⟨n, n, 0, rfl, rfl, rfl, Nat.zero_add _⟩, ?_⟩
    rintro m σ H' ⟨left, acc, rfl, rfl, rfl, e⟩
    refine ⟨_, rfl, m, 0, rfl, rfl, _, rfl, ?_⟩
    refine ite2 (fun h0 => ?_) (fun h0 => ?_)
    · have h0 : 0 < m := of_decide_eq_true h0
      have hlt : m / b < m := Nat.div_lt_self h0 (by omega)
      rw [dsum_pos hb h0] at e
      refine ⟨fun σ' H2 => ∃ m', m' < m ∧ ∃ left acc, m' = left ∧ σ' = [some (vn b), some (vn left), some (vn acc)] ∧ H2 = H' ∧ acc + dsum b left = dsum b n, fun _ _ h => h, ?_⟩
      refine ⟨_, rfl, _, rfl, _, rfl, m, b, rfl, rfl, by omega, acc, m % b, rfl, rfl, trivial, ?_⟩
      refine ⟨_, rfl, _, rfl, m, b, rfl, rfl, ⟨by omega, by omega⟩, ?_⟩
      exact ⟨m / b, hlt, m / b, acc + m % b, rfl, rfl, rfl, by omega⟩
    · have h0 : ¬ 0 < m := fun q => h0 (decide_eq_true q)
      have em : m = 0 := by omega
      subst em
      rw [dsum_zero, Nat.add_zero] at e
      subst e
      exact ⟨_, rfl, k⟩
theorem ok_l_digit_sum (T : Txt K mg aF aP aW) (d : Df K mg "_law_digit_sum" s_l_digit_sum ["_law_base", "_law_number"]) (c_l_digits : C8.Cal P w K mg base 1 "_law_digits" spDigs []) : C8.Cal P w K mg base 2 "_law_digit_sum" spLDsum [] := by
  refine cal_of d sc_l_digit_sum (fun vs H Q E h => ?_) (fun f cdv A outer s H vs Q E hr h => ?_)
  · obtain ⟨b, n, rfl, _⟩ := h
    rfl
  · obtain ⟨b, n, rfl, hb, hb2, hn, k⟩ := h
    refine ⟨_, (pss_one (ps_ret (pe_callB (cr_sum rfl) (by rfl) T.sum_ (by decide +kernel) (pa_cons (pe_c c_l_digits hr (by decide) rfl (pa_cons (pv 0) (pa_cons (pv 1) pa_nil))) pa_nil)))), ?_⟩
    refine ⟨_, rfl, _, rfl, b, n, rfl, hb, hb2, hn, fun p hp => ?_⟩
    refine ⟨p, (digs b n).map fun n : Nat => (n : Int), rfl, SqL.of (by rw [← vns_eq]; exact upd_same), ?_⟩
    rw [sumL_cast]
    exact k _ (Same.new hp)
theorem ok_l_raised (T : Txt K mg aF aP aW) (d : Df K mg "_law_raised" s_l_raised ["_law_base", "_law_count"]) : C8.Cal P w K mg base 1 "_law_raised" spRaised [] := by
  refine cal_of d sc_l_raised (fun vs H Q E h => ?_) (fun f cdv A outer s H vs Q E hr h => ?_)
  · obtain ⟨b, n, rfl, _⟩ := h
    rfl
  · obtain ⟨b, n, rfl, hb, hn, k⟩ := h
    refine ⟨_, (pss_cons (ps_set (i := 2) sc_l_raised.nd rfl (Or.inl rfl) pe_int)
      (pss_cons (ps_for PassesOwn.never rfl (pi_range1 (by rfl) T.range_ (pa_cons (pv 1) pa_nil)) (pg_name (i := 3) sc_l_raised.nd rfl (Or.inl rfl)) (pss_one (ps_set (i := 2) sc_l_raised.nd rfl (Or.inl rfl) (pe_op nMul (pv 2) (pv 0)))))
      (pss_one (ps_ret (pv 2))))), ?_⟩
    refine ⟨_, rfl, (n : Int), rfl, by omega, by omega, ?_⟩
    refine forR (n := n) (fun acc _ => acc * b) 1 (fun acc σ H' => H' = H ∧ ∃ t, σ = [some (vn b), some (vn n), some (vn acc), t]) ⟨rfl, none, rfl⟩ ?_ ?_
    · rintro i acc σ H' hi _ ⟨rfl, t, rfl⟩
      refine ⟨_, rfl, _, rfl, acc, b, rfl, rfl, .inr (by omega), ?_⟩
      exact ⟨rfl, _, rfl⟩
    · rintro σ H' ⟨rfl, t, rfl⟩
      rw [foldl_pow]
      exact ⟨_, rfl, k⟩
/-- the shifted digit sums -/
def spShifts : Sp := fun vs H Q _ => ∃ q k : Nat, vs = [vn q, vn k] ∧ q ∈ Qs ∧ k < 30000 ∧ ∀ p, H p = none → Q (.ref p) (upd H p (.lst (vns (shifts q k))))
def spMost : Sp := fun vs H Q _ => ∃ q k : Nat, vs = [vn q, vn k] ∧ q ∈ Qs ∧ k < 30000 ∧ ∀ H', Same H H' → Q (vn (mostParts q k)) H'
theorem shiftsGo_len (q p : Nat) : ∀ f k, (shiftsGo q p f k).length = f
  | 0, _ => rfl
  | f + 1, k => congrArg (· + 1) (shiftsGo_len q p f (k * p))
theorem ok_shift_sums_in (T : Txt K mg aF aP aW) (d : Df K mg "shift_sums_in" s_shift_sums_in ["q", "k"]) (c_digit_sum_in : C8.Cal P w K mg base 1 "digit_sum_in" spDsum []) : C8.Cal P w K mg base 2 "shift_sums_in" spShifts [] := by
  refine cal_of d sc_shift_sums_in (fun vs H Q E h => ?_) (fun f cdv A outer s H vs Q E hr h => ?_)
  · obtain ⟨b, n, rfl, _⟩ := h
    rfl
  · obtain ⟨q, k0, rfl, hq, hk0, k⟩ := h
    obtain ⟨q1, q2, p1, p2, f1, f2⟩ := Qs_facts hq
    refine ⟨_, (pss_cons (ps_set (i := 2) sc_shift_sums_in.nd rfl (Or.inl rfl) (pe_lst pa_nil))
      (pss_cons (ps_for PassesOwn.never rfl (pi_range1 (by rfl) T.range_ (pa_cons (pe_ix ix_kint (pe_gc rfl T.POWERS_BELOW) (pv 0) (fun _ _ => rfl)) pa_nil)) (pg_name (i := 3) sc_shift_sums_in.nd rfl (Or.inl rfl)) (pss_cons (ps_expr (pe_bm PySem.F.plainAttrs_list PySem.F.slot_list_append PySem.F.type_list_append mt_append (pv 2) (pa_cons (pe_c c_digit_sum_in hr (by decide) rfl (pa_cons (pv 0) (pa_cons (pv 1) pa_nil))) pa_nil)))
      (pss_one (ps_aug (i := 1) sc_shift_sums_in.nd rfl (Or.inl rfl) (pe_ix ix_kint (pe_gc rfl T.PRIMES_BELOW) (pv 0) (fun _ _ => rfl)) ip_mul))))
      (pss_one (ps_ret (pv 2))))), ?_⟩
    refine ⟨Nat.zero_le _, fun p hp => ⟨_, rfl, aW, (q : Int), vn (fOf q), _, rfl, rfl, T.powers, kq hq fOf, ((fOf q : Nat) : Int), rfl, by omega, by omega, ?_⟩⟩
    refine for_range (lo := 0) (n := fOf q) (fun i σ H' => ∃ kk acc t, σ = [some (vn q), some (vn kk), some (.ref p), t] ∧ H' = upd H p (.lst (vns acc)) ∧ acc ++ shiftsGo q (pOf q) (fOf q - i) kk = shifts q k0 ∧ kk ≤ k0 * 7 ^ i ∧ acc.length = i ∧ i ≤ fOf q) ⟨k0, [], none, rfl, rfl, rfl, by simp, rfl, Nat.zero_le _⟩ ?_ ?_
    · rintro i σ H' hi ⟨kk, acc, t, rfl, rfl, e, hkk, hacc, _⟩
      have hk7 : kk ≤ k0 * 49 := by
        refine Nat.le_trans hkk (Nat.mul_le_mul_left _ ?_)
        exact Nat.le_trans (Nat.pow_le_pow_right (by decide) (show i ≤ 2 by omega)) (by decide)
      refine ⟨_, rfl, .inl ⟨rfl, _, SqL.of upd_same⟩, _, rfl, _, rfl, q, kk, rfl, q1, by omega, by omega, ?_⟩
      refine ⟨p, _, _, rfl, rfl, upd_same, by rw [List.length_map, line24]; omega, ?_⟩
      refine ⟨_, rfl, _, rfl, aP, (q : Int), vn (pOf q), _, rfl, rfl, T.primes, kq hq pOf, kk, pOf q, rfl, rfl, .inr (by omega), ?_⟩
      have ef : fOf q - i = (fOf q - (i + 1)) + 1 := by omega
      rw [ef] at e
      refine ⟨kk * pOf q, acc ++ [dsum q kk], _, rfl, ?_, ?_, ?_, ?_, hi⟩
      · rw [upd_upd, vns_app]
        rfl
      · rw [List.append_assoc]
        exact e
      · rw [Nat.pow_succ, ← Nat.mul_assoc]
        exact Nat.mul_le_mul hkk p2
      · rw [List.length_append, hacc]
        rfl
    · rintro σ H' ⟨kk, acc, t, rfl, rfl, e, _⟩
      rw [Nat.sub_self] at e
      have e2 : acc = shifts q k0 := by rw [← e]; exact (List.append_nil _).symm
      subst e2
      exact ⟨_, rfl, k p hp⟩
theorem ok_most_parts_in (T : Txt K mg aF aP aW) (d : Df K mg "most_parts_in" s_most_parts_in ["q", "k"]) (c_shift_sums_in : C8.Cal P w K mg base 2 "shift_sums_in" spShifts []) : C8.Cal P w K mg base 3 "most_parts_in" spMost [] := by
  refine cal_of d sc_most_parts_in (fun vs H Q E h => ?_) (fun f cdv A outer s H vs Q E hr h => ?_)
  · obtain ⟨b, n, rfl, _⟩ := h
    rfl
  · obtain ⟨q, k0, rfl, hq, hk0, k⟩ := h
    obtain ⟨q1, q2, p1, p2, f1, f2⟩ := Qs_facts hq
    refine ⟨_, (pss_one (ps_ret (pe_op nDiv (pe_callB (cr_min rfl) (by rfl) T.min_ (by decide +kernel) (pa_cons (pe_c c_shift_sums_in hr (by decide) rfl (pa_cons (pv 0) (pa_cons (pv 1) pa_nil))) pa_nil)) (pe_op nSub (pv 0) pe_int)))), ?_⟩
    refine ⟨_, rfl, _, rfl, q, k0, rfl, hq, hk0, fun p hp => ?_⟩
    refine ⟨p, (shifts q k0).map fun n : Nat => (n : Int), rfl, SqL.of (by rw [← vns_eq]; exact upd_same), ?_, fun m h1 h2 => ?_⟩
    · rw [List.length_map]
      show 0 < (shiftsGo q (pOf q) (fOf q) k0).length
      rw [shiftsGo_len]
      omega
    · have em := minL_is h1 h2
      subst em
      refine ⟨_, rfl, q, 1, rfl, rfl, by omega, minL (shifts q k0), q - 1, rfl, rfl, ⟨by omega, by omega⟩, ?_⟩
      exact k _ (Same.new hp)
/-- the integer of some digits -/
def spOfD (K : PySem.W.Frag) : Sp := fun vs H Q _ => ∃ (b : Nat) (a : Addr) (row : List Nat), vs = [vn b, .ref a] ∧ b < 1000000 ∧ SqL K H a (vns row) ∧ ∀ H', Same H H' → Q (vn (ofD b row)) H'
theorem ok_of_digits_in (T : Txt K mg aF aP aW) (d : Df K mg "of_digits_in" s_of_digits_in ["b", "row"]) : C8.Cal P w K mg base 1 "of_digits_in" (spOfD K) [] := by
  refine cal_of d sc_of_digits_in (fun vs H Q E h => ?_) (fun f cdv A outer s H vs Q E hr h => ?_)
  · obtain ⟨b, n, row, rfl, _⟩ := h
    rfl
  · obtain ⟨b, a, row, rfl, hb, ha, k⟩ := h
    refine ⟨_, (pss_cons (ps_set (i := 2) sc_of_digits_in.nd rfl (Or.inl rfl) pe_int)
      (pss_cons (ps_for PassesOwn.never rfl (pi_list (pe_revL (pe_callTy call_list_of (by rfl) T.list_ (by decide +kernel) (pa_cons (pv 1) pa_nil)))) (pg_name (i := 3) sc_of_digits_in.nd rfl (Or.inl rfl)) (pss_one (ps_set (i := 2) sc_of_digits_in.nd rfl (Or.inl rfl) (pe_op nAdd (pe_op nMul (pv 2) (pv 0)) (pv 3)))))
      (pss_one (ps_ret (pv 2))))), ?_⟩
    refine ⟨_, rfl, a, _, rfl, .inl ha, fun l hl => ⟨l, _, rfl, SqL.of upd_same, fun r hrn => ⟨r, rfl, ⟨_, SqL.of upd_same⟩, ?_⟩⟩⟩
    have s1 : Same H (upd (upd H l (.lst (vns row))) r (.lst (vns row).reverse)) := (Same.new hl).trans (Same.new hrn)
    refine forL (K := K) (a := r) (vs := (vns row).reverse) row.reverse (fun v d => v * b + d) 0 (fun acc σ H' => Same H H' ∧ SqL K H' r (vns row).reverse ∧ ∃ t, σ = [some (vn b), some (.ref a), some (vn acc), t]) (by simp) ⟨s1, SqL.of upd_same, none, rfl⟩ (fun acc σ H' h => h.2.1) ?_ ?_
    · rintro i v y acc σ H' hv hy _ ⟨sm, hs, t, rfl⟩
      have ev : v = vn y := by
        rw [← List.map_reverse, List.getElem?_map, hy] at hv
        exact (Option.some.inj hv).symm
      subst ev
      refine ⟨_, rfl, _, rfl, acc, b, rfl, rfl, .inr (by omega), _, rfl, acc * b, y, rfl, rfl, trivial, ?_⟩
      exact ⟨sm, hs, _, rfl⟩
    · rintro σ H' ⟨sm, hs, t, rfl⟩
      exact ⟨_, rfl, k _ sm⟩
/-- the greatest degree -/
def spSize : Sp := fun vs H Q _ => ∃ q most : Nat, vs = [vn q, vn most] ∧ 2 ≤ q ∧ q < 1000 ∧ most < 1000 ∧ Q (vn (sizeM q most)) H
theorem ok_l_size (T : Txt K mg aF aP aW) (d : Df K mg "_law_size" s_l_size ["_law_q_here", "_law_most_here"]) (c_l_raised : C8.Cal P w K mg base 1 "_law_raised" spRaised []) : C8.Cal P w K mg base 2 "_law_size" spSize [] := by
  refine cal_of d sc_l_size (fun vs H Q E h => ?_) (fun f cdv A outer s H vs Q E hr h => ?_)
  · obtain ⟨b, n, rfl, _⟩ := h
    rfl
  · obtain ⟨q, most, rfl, hq, hq2, hm, k⟩ := h
    refine ⟨_, (pss_cons (ps_set (i := 2) sc_l_size.nd rfl (Or.inl rfl) pe_int)
      (pss_cons (ps_while PassesOwn.never (pt_cmpR nLe (pe_c c_l_raised hr (by decide) rfl (pa_cons (pv 0) (pa_cons (pe_op nAdd (pv 2) pe_int) pa_nil))) (pv 1) (nomark _)) (pss_one (ps_set (i := 2) sc_l_size.nd rfl (Or.inl rfl) (pe_op nAdd (pv 2) pe_int))))
      (pss_one (ps_ret (pv 2))))), ?_⟩
    refine ⟨fun m σ H' => ∃ dd, σ = [some (vn q), some (vn most), some (vn dd)] ∧ H' = H ∧ sizeGo q most m dd = sizeM q most ∧ m + dd = most + 1, ⟨most + 1, 0, rfl, rfl, rfl, rfl⟩, ?_⟩
    rintro m σ H' ⟨dd, rfl, rfl, e, hs⟩
    refine ⟨_, rfl, _, rfl, dd, 1, rfl, rfl, trivial, q, dd + 1, rfl, by omega, by omega, _, rfl, q ^ (dd + 1), most, rfl, rfl, _, rfl, ?_⟩
    have hpow : dd + 1 < q ^ (dd + 1) := Nat.lt_of_lt_of_le Nat.lt_two_pow_self (Nat.pow_le_pow_left hq _)
    refine ite2 (fun h0 => ?_) (fun h0 => ?_)
    · have h0 : q ^ (dd + 1) ≤ most := of_decide_eq_true h0
      obtain ⟨m', rfl⟩ : ∃ m', m = m' + 1 := ⟨m - 1, by omega⟩
      have e2 : sizeGo q most (m' + 1) dd = sizeGo q most m' (dd + 1) := if_pos h0
      rw [e2] at e
      refine ⟨fun σ' H2 => ∃ m2, m2 < m' + 1 ∧ ∃ dd, σ' = [some (vn q), some (vn most), some (vn dd)] ∧ H2 = H' ∧ sizeGo q most m2 dd = sizeM q most ∧ m2 + dd = most + 1, fun _ _ h => h, ?_⟩
      refine ⟨_, rfl, _, _, rfl, rfl, trivial, ?_⟩
      exact ⟨m', Nat.lt_succ_self _, dd + 1, rfl, rfl, e, by omega⟩
    · have h0 : ¬ q ^ (dd + 1) ≤ most := fun q => h0 (decide_eq_true q)
      have e2 : sizeGo q most m dd = dd := by
        cases m with
        | zero => rfl
        | succ m => exact if_neg h0
      rw [e2] at e
      subst e
      exact ⟨_, rfl, k⟩
end
end Mo
namespace Mo
open PySem PySem.Spec PyProof.Rows L2
open C8 (pe_c pe_gc)
theorem eSum_place (p a b : Nat) : ∀ i : Nat, ((List.range i).foldl (fun (s : Nat × Nat) _ => (s.1 + (a / s.2 + b / s.2) % p * s.2, s.2 * p)) (0, 1)).2 = p ^ i
  | 0 => rfl
  | i + 1 => by
    rw [List.range_succ, List.foldl_append]
    show _ * p = _
    rw [eSum_place p a b i]
    rfl
theorem atI_vns {ns : List Nat} {i : Nat} (h : i < ns.length) : atI (vns ns) ((i : Nat) : Int) = some (vn (ns.getD i 0)) := by
  refine atI_vn (vns_at ?_)
  rw [List.getD_eq_getElem?_getD, List.getElem?_eq_getElem h]
  rfl
theorem ixN_vns {ns : List Nat} {i : Nat} (h : i < ns.length) : ixN (vns ns).length ((i : Nat) : Int) = some i := by
  unfold ixN
  rw [List.length_map, if_pos (by omega), if_pos (by omega), Int.toNat_natCast]
theorem vns_set (ns : List Nat) (i x : Nat) : (vns ns).set i (vn x) = vns (ns.set i x) := by
  rw [vns, vns, List.map_set]
theorem vns_rep (n x : Nat) : vns (List.replicate n x) = List.replicate n (vn x) := List.map_replicate ..
theorem rep_v {n : Nat} : (List.replicate n [vn 0]).flatten = vns (List.replicate n 0) := by rw [rep_flat, vns_rep]
theorem vns_len (ns : List Nat) : (vns ns).length = ns.length := List.length_map ..
theorem vns_take (ns : List Nat) (n : Nat) : (vns ns).take n = vns (ns.take n) := (List.map_take ..).symm
theorem vns_drop (ns : List Nat) (n : Nat) : (vns ns).drop n = vns (ns.drop n) := (List.map_drop ..).symm
theorem vns_rev (ns : List Nat) : (vns ns).reverse = vns ns.reverse := (List.map_reverse ..).symm
theorem cut_take (ns : List Nat) (n : Nat) : cutV (vns ns) none (some ((n : Nat) : Int)) = vns (ns.take n) := by
  unfold cutV
  rw [HT.sIx_none, HT.sIx_nat, List.drop_zero, Nat.sub_zero, vns_take, vns_len]
  by_cases h : n ≤ ns.length
  · rw [Nat.min_eq_left h]
  · rw [Nat.min_eq_right (by omega), List.take_of_length_le (by omega), List.take_of_length_le (by omega)]
theorem forC {α : Type} {lo c : Int} {n : Nat} {g : TG} {tb : TS} {D : Ends} {σ : L2.St} {H : Hp} (f : α → Nat → α) (init : α) (S : α → L2.St → Hp → Prop) (h0 : S init σ H)
    (hs : ∀ i acc σ H, i < n → acc = (List.range i).foldl f init → S acc σ H → g (.int (lo + (i : Nat) * c)) σ H fun σ2 H2 => tb { D with nx := S (f acc i), ct := S (f acc i), bk := D.nx } σ2 H2)
    (hd : ∀ σ H, S ((List.range n).foldl f init) σ H → D.nx σ H) : FW (Itc lo c n) g tb D σ H := by
  refine for_any n (fun i σ H => S ((List.range i).foldl f init) σ H) h0 (fun i σ H hi _ => hi) (fun σ H _ => Nat.le_refl _) (fun i x σ H H' hi q y => ?_) hd
  obtain ⟨e, ex⟩ := y
  subst e ex
  have z := hs i _ σ H' hi rfl q
  have e : (List.range (i + 1)).foldl f init = f ((List.range i).foldl f init) i := by rw [List.range_succ, List.foldl_append]; rfl
  rw [← e] at z
  exact z
theorem eStep_len (p f i : Nat) (l : List Nat) : (eStep p f i l).length = l.length := by
  unfold eStep
  split
  · simp only [List.length_set]
  · rfl
/-- a sum, a product in the law's field -/
def spESum : Sp := fun vs H Q _ => ∃ p f a b : Nat, vs = [vn p, vn f, vn a, vn b] ∧ 2 ≤ p ∧ p < 100 ∧ f ≤ 3 ∧ ∀ H', Same H H' → Q (vn (eSum p f a b)) H'
def spEProd : Sp := fun vs H Q _ => ∃ p f a b : Nat, vs = [vn p, vn f, vn a, vn b] ∧ 2 ≤ p ∧ p < 100 ∧ 1 ≤ f ∧ f ≤ 3 ∧ a < 1000 ∧ b < 1000 ∧ (digs p a).length ≤ f ∧ (digs p b).length ≤ f ∧ ∀ H', Same H H' → Q (vn (eProd p f a b)) H'
section
variable {P : Program} {w : World} {K : PySem.W.Frag} {mg : Str → Option Value} {base : Heap} {aF aP aW : Addr}
theorem ok_l_element_sum (T : Txt K mg aF aP aW) (d : Df K mg "_law_element_sum" s_l_element_sum ["_law_p", "_law_f", "_law_one", "_law_other"]) : C8.Cal P w K mg base 1 "_law_element_sum" spESum [] := by
  refine cal_of d sc_l_element_sum (fun vs H Q E h => ?_) (fun f cdv A outer s H vs Q E hr h => ?_)
  · obtain ⟨p, f, a, b, rfl, _⟩ := h
    rfl
  · obtain ⟨p, f, a, b, rfl, hp, hp2, hf, k⟩ := h
    refine ⟨_, (pss_cons (ps_asg (pe_tup (pa_cons pe_int (pa_cons pe_int pa_nil))) (pg_tup rfl (pgs_cons (pg_name (i := 4) sc_l_element_sum.nd rfl (Or.inl rfl)) (pgs_cons (pg_name (i := 5) sc_l_element_sum.nd rfl (Or.inl rfl)) pgs_nil))))
      (pss_cons (ps_for PassesOwn.never rfl (pi_range1 (by rfl) T.range_ (pa_cons (pv 1) pa_nil)) (pg_name (i := 6) sc_l_element_sum.nd rfl (Or.inl rfl)) (pss_cons (ps_set (i := 4) sc_l_element_sum.nd rfl (Or.inl rfl) (pe_op nAdd (pv 4) (pe_op nMul (pe_op nMod (pe_op nAdd (pe_op nDiv (pv 2) (pv 5)) (pe_op nDiv (pv 3) (pv 5))) (pv 0)) (pv 5))))
      (pss_one (ps_set (i := 5) sc_l_element_sum.nd rfl (Or.inl rfl) (pe_op nMul (pv 5) (pv 0))))))
      (pss_one (ps_ret (pv 4))))), ?_⟩
    refine ⟨by decide, fun z hz => ⟨z, _, rfl, SqT.of upd_same, rfl, _, _, rfl, _, _, rfl, rfl, _, rfl, (f : Int), rfl, by omega, by omega, ?_⟩⟩
    refine forR (n := f) (fun (s : Nat × Nat) _ => (s.1 + (a / s.2 + b / s.2) % p * s.2, s.2 * p)) (0, 1) (fun acc σ H' => Same H H' ∧ ∃ t, σ = [some (vn p), some (vn f), some (vn a), some (vn b), some (vn acc.1), some (vn acc.2), t]) ⟨Same.new hz, none, rfl⟩ ?_ ?_
    · rintro i ⟨fo, pl⟩ σ H' hi eacc ⟨sm, t, rfl⟩
      have hpl : pl = p ^ i := by rw [← eSum_place p a b i, ← eacc]
      have h1 : 0 < pl := by rw [hpl]; exact Nat.pow_pos (by omega)
      have h2 : pl ≤ 10000 := by
        rw [hpl]
        refine Nat.le_trans (Nat.pow_le_pow_right (by omega) (show i ≤ 2 by omega)) ?_
        exact Nat.le_trans (Nat.pow_le_pow_left (show p ≤ 100 by omega) 2) (by decide)
      have h3 : (a / pl + b / pl) % p < p := Nat.mod_lt _ (by omega)
      refine ⟨_, rfl, _, rfl, _, rfl, a, pl, rfl, rfl, ⟨h1, by omega⟩, _, rfl, _, rfl, b, pl, rfl, rfl, ⟨h1, by omega⟩, a / pl, b / pl, rfl, rfl, trivial, _, rfl, _, p, rfl, rfl, by omega, ?_⟩
      refine ⟨_, rfl, (a / pl + b / pl) % p, pl, rfl, rfl, .inl (by omega), fo, _, rfl, rfl, trivial, ?_⟩
      refine ⟨_, rfl, _, rfl, pl, p, rfl, rfl, .inl (by omega), ?_⟩
      exact ⟨sm, _, rfl⟩
    · rintro σ H' ⟨sm, t, rfl⟩
      exact ⟨_, rfl, k _ sm⟩
theorem ok_l_element_product (T : Txt K mg aF aP aW) (d : Df K mg "_law_element_product" s_l_element_product ["_law_p", "_law_f", "_law_one", "_law_other"]) (c_l_digits : C8.Cal P w K mg base 1 "_law_digits" spDigs []) : C8.Cal P w K mg base 2 "_law_element_product" spEProd [] := by
  refine cal_of d sc_l_element_product (fun vs H Q E h => ?_) (fun f cdv A outer s H vs Q E hr h => ?_)
  · obtain ⟨p, f, a, b, rfl, _⟩ := h
    rfl
  · obtain ⟨p, f, a, b, rfl, hp, hp2, hf1, hf, ha, hb, la, lb, k⟩ := h
    refine ⟨_, (pss_cons (ps_set (i := 4) sc_l_element_product.nd rfl (Or.inl rfl) (pe_op op_rep (pe_lst (pa_cons pe_int pa_nil)) (pe_op nMul pe_int (pv 1))))
      (pss_cons (ps_for PassesOwn.never rfl (pi_enumK false (by rfl) T.enumerate_ (pa_cons (pe_c c_l_digits hr (by decide) rfl (pa_cons (pv 0) (pa_cons (pv 2) pa_nil))) pa_nil)) (pg_tup rfl (pgs_cons (pg_name (i := 5) sc_l_element_product.nd rfl (Or.inl rfl)) (pgs_cons (pg_name (i := 6) sc_l_element_product.nd rfl (Or.inl rfl)) pgs_nil))) (pss_one (ps_for PassesOwn.never rfl (pi_enumK false (by rfl) T.enumerate_ (pa_cons (pe_c c_l_digits hr (by decide) rfl (pa_cons (pv 0) (pa_cons (pv 3) pa_nil))) pa_nil)) (pg_tup rfl (pgs_cons (pg_name (i := 7) sc_l_element_product.nd rfl (Or.inl rfl)) (pgs_cons (pg_name (i := 8) sc_l_element_product.nd rfl (Or.inl rfl)) pgs_nil))) (pss_one (ps_asg (pe_op nMod (pe_op nAdd (pe_ix ix_list (pv 4) (pe_op nAdd (pv 5) (pv 7)) (fun _ _ => rfl)) (pe_op nMul (pv 6) (pv 8))) (pv 0)) (pg_sub (pv 4) (pe_op nAdd (pv 5) (pv 7)) set_list))))))
      (pss_cons (ps_for PassesOwn.never rfl (pi_range3 (by rfl) T.range_ (pa_cons (pe_op nSub (pe_op nMul pe_int (pv 1)) pe_int) (pa_cons (pe_op nSub (pv 1) pe_int) (pa_cons (pe_un un_neg pe_int) pa_nil)))) (pg_name (i := 5) sc_l_element_product.nd rfl (Or.inl rfl)) (pss_one (ps_if (pt_cmpR nGt (pv 1) pe_int (nomark _)) (pss_cons (ps_asg (pe_op nMod (pe_op nAdd (pe_ix ix_list (pv 4) (pe_op nSub (pv 5) (pv 1)) (fun _ _ => rfl)) (pe_ix ix_list (pv 4) (pv 5) (fun _ _ => rfl))) (pv 0)) (pg_sub (pv 4) (pe_op nSub (pv 5) (pv 1)) set_list))
      (pss_cons (ps_asg (pe_op nMod (pe_op nAdd (pe_ix ix_list (pv 4) (pe_op nAdd (pe_op nSub (pv 5) (pv 1)) pe_int) (fun _ _ => rfl)) (pe_ix ix_list (pv 4) (pv 5) (fun _ _ => rfl))) (pv 0)) (pg_sub (pv 4) (pe_op nAdd (pe_op nSub (pv 5) (pv 1)) pe_int) set_list))
      (pss_one (ps_asg pe_int (pg_sub (pv 4) (pv 5) set_list))))) pss_nil)))
      (pss_cons (ps_set (i := 9) sc_l_element_product.nd rfl (Or.inl rfl) pe_int)
      (pss_cons (ps_for PassesOwn.never rfl (pi_list (pe_revL (pe_slice sl_list (pv 4) po_none (po_some (pv 1))))) (pg_name (i := 10) sc_l_element_product.nd rfl (Or.inl rfl)) (pss_one (ps_set (i := 9) sc_l_element_product.nd rfl (Or.inl rfl) (pe_op nAdd (pe_op nMul (pv 9) (pv 0)) (pv 10)))))
      (pss_one (ps_ret (pv 9)))))))), ?_⟩
    refine ⟨by decide, fun l0 hl0 => ?_⟩
    refine ⟨_, rfl, 2, f, rfl, rfl, .inl (by decide), l0, ((2 * f : Nat) : Int), [vn 0], rfl, rfl, upd_same, by omega, by omega, by rw [line24, Int.toNat_natCast]; show 1 * (2 * f) ≤ _; omega, fun pf hpf => ?_⟩
    rw [Int.toNat_natCast, rep_v]
    have ePf : H pf = none := (Same.new hl0).free hpf
    have sm0 : Same H (upd (upd H l0 (.lst [vn 0])) pf (.lst (vns (List.replicate (2 * f) 0)))) := (Same.new hl0).trans (Same.new hpf)
    refine ⟨_, rfl, _, rfl, p, a, rfl, hp, by omega, by omega, fun da hda => ?_⟩
    refine ⟨da, vns (digs p a), rfl, SqL.of upd_same, ?_⟩
    have dne : pf ≠ da := ne_of_none upd_same hda
    have sm1 := sm0.trans (Same.new (o := .lst (vns (digs p a))) hda)
    refine forE (k := false) (K := K) (a := da) (vs := vns (digs p a)) (digs p a) (fun found li => eInner p li.2 li.1 found (digs p b)) (List.replicate (2 * f) 0)
      (fun found σ H' => found.length = 2 * f ∧ Same H H' ∧ H' pf = some (.lst (vns found)) ∧ H' da = some (.lst (vns (digs p a))) ∧ ∃ t5 t6 t7 t8, σ = [some (vn p), some (vn f), some (vn a), some (vn b), some (.ref pf), t5, t6, t7, t8, none, none]) (vns_len _)
      ⟨List.length_replicate, sm1, by rw [upd_ne dne, upd_same], upd_same, none, none, none, none, rfl⟩ (fun acc σ H' h => SqL.of h.2.2.2.1) ?_ ?_
    · rintro i v y found σ H1 T1 hv hy _ ⟨hlen, sm, h1, h2, t5, t6, t7, t8, rfl⟩ hT1
      have ev : v = vn y := by rw [vns_at hy] at hv; exact (Option.some.inj hv).symm
      subst ev
      have hil : i < f := by have q := (List.getElem?_eq_some_iff.mp hy).1; omega
      have hyp : y < p := by obtain ⟨_, q⟩ := List.getElem?_eq_some_iff.mp hy; rw [← q]; exact digs_lt (by omega) _ _ _ (List.getElem_mem _)
      refine ⟨T1, _, rfl, SqT.of upd_same, rfl, ?_⟩
      refine ⟨_, _, rfl, _, _, rfl, rfl, ?_⟩
      refine ⟨_, rfl, _, rfl, p, b, rfl, hp, by omega, by omega, fun db hdb => ?_⟩
      refine ⟨db, vns (digs p b), rfl, SqL.of upd_same, ?_⟩
      have pT : pf ≠ T1 := ne_of_none h1 hT1
      have dT : da ≠ T1 := ne_of_none h2 hT1
      have pdb : pf ≠ db := ne_of_none ((Same.new hT1) _ _ h1) hdb
      have ddb : da ≠ db := ne_of_none ((Same.new hT1) _ _ h2) hdb
      refine forE (k := false) (K := K) (a := db) (vs := vns (digs p b)) (digs p b) (fun found rj => found.set (i + rj.2) ((found.getD (i + rj.2) 0 + y * rj.1) % p)) found
        (fun found σ H' => found.length = 2 * f ∧ Same H H' ∧ H' pf = some (.lst (vns found)) ∧ H' da = some (.lst (vns (digs p a))) ∧ H' db = some (.lst (vns (digs p b))) ∧ ∃ t7 t8, σ = [some (vn p), some (vn f), some (vn a), some (vn b), some (.ref pf), some (vn i), some (vn y), t7, t8, none, none]) (vns_len _)
        ⟨hlen, (sm.trans (Same.new hT1)).trans (Same.new hdb), by rw [upd_ne pdb, upd_ne pT, h1], by rw [upd_ne ddb, upd_ne dT, h2], upd_same, t7, t8, rfl⟩ (fun acc σ H' h => SqL.of h.2.2.2.2.1) ?_ ?_
      · rintro j v x found2 σ H2 T2 hv hx _ ⟨hlen2, sm2, g1, g2, g3, u7, u8, rfl⟩ hT2
        have ev : v = vn x := by rw [vns_at hx] at hv; exact (Option.some.inj hv).symm
        subst ev
        have hjl : j < f := by have q := (List.getElem?_eq_some_iff.mp hx).1; omega
        have pT2 : pf ≠ T2 := ne_of_none g1 hT2
        have dT2 : da ≠ T2 := ne_of_none g2 hT2
        have bT2 : db ≠ T2 := ne_of_none g3 hT2
        refine ⟨T2, _, rfl, SqT.of upd_same, rfl, ?_⟩
        refine ⟨_, _, rfl, _, _, rfl, rfl, ?_⟩
        have hix : i + j < found2.length := by omega
        have gp : upd H2 T2 (.tup [vn j, vn x]) pf = some (.lst (vns found2)) := by rw [upd_ne pT2, g1]
        refine ⟨_, rfl, _, rfl, _, rfl, i, j, rfl, rfl, trivial, pf, _, ((i + j : Nat) : Int), _, rfl, rfl, SqL.of gp, atI_vns hix, ?_⟩
        refine ⟨_, rfl, _, rfl, y, x, rfl, rfl, .inl (by omega), _, y * x, rfl, rfl, trivial, _, rfl, _, p, rfl, rfl, by omega, ?_⟩
        refine ⟨_, rfl, _, rfl, _, rfl, i, j, rfl, rfl, trivial, pf, _, ((i + j : Nat) : Int), i + j, rfl, rfl, gp, ixN_vns hix, ?_⟩
        rw [vns_set]
        refine ⟨by rw [List.length_set]; exact hlen2, ?_, upd_same, ?_, ?_, _, _, rfl⟩
        · exact Same.upd (sm2.trans (Same.new hT2)) ePf
        · rw [upd_ne (Ne.symm dne), upd_ne dT2, g2]
        · rw [upd_ne (Ne.symm pdb), upd_ne bT2, g3]
      · rintro σ H2 ⟨hlen2, sm2, g1, g2, g3, u7, u8, rfl⟩
        exact ⟨hlen2, sm2, g1, g2, _, _, _, _, rfl⟩
    · rintro σ H1 ⟨hlen, sm, h1, h2, t5, t6, t7, t8, rfl⟩
      have hc0 : ((2 * f - 1 : Nat) : Int) - ((f - 1 : Nat) : Int) = ((f : Nat) : Int) := by omega
      have rg : RgC ((2 * f - 1 : Nat) : Int) ((f - 1 : Nat) : Int) (-1) f := by
        have z := RgC.neg (i := ((2 * f - 1 : Nat) : Int)) (j := ((f - 1 : Nat) : Int)) (by omega) (by omega) (by omega) (by omega)
        rw [hc0, Int.toNat_natCast] at z
        exact z
      refine ⟨_, rfl, 2, f, rfl, rfl, .inl (by decide), 2 * f, 1, rfl, rfl, by omega, _, rfl, f, 1, rfl, rfl, by omega, 1, rfl, _, _, _, f, rfl, rg, ?_⟩
      have hlc : (eConv p (digs p a) (digs p b) (List.replicate (2 * f) 0)).length = 2 * f := hlen
      refine forC (n := f) (fun found k => eStep p f (2 * f - 1 - k) found) (eConv p (digs p a) (digs p b) (List.replicate (2 * f) 0)) (fun found σ H' => found.length = 2 * f ∧ Same H H' ∧ H' pf = some (.lst (vns found)) ∧ ∃ t5 t6 t7 t8, σ = [some (vn p), some (vn f), some (vn a), some (vn b), some (.ref pf), t5, t6, t7, t8, none, none])
        ⟨hlc, sm, h1, _, _, _, _, rfl⟩ ?_ ?_
      · rintro k0 found2 σ H2 hk _ ⟨hlen2, sm2, g1, u5, u6, u7, u8, rfl⟩
        have ei : (V.int (((2 * f - 1 : Nat) : Int) + ((k0 : Nat) : Int) * -1)) = vn (2 * f - 1 - k0) := by
          congr 1
          omega
        rw [ei]
        have hge : f ≤ 2 * f - 1 - k0 := by omega
        have hlt : 2 * f - 1 - k0 < found2.length := by omega
        generalize 2 * f - 1 - k0 = i at hge hlt ⊢
        refine ⟨_, rfl, f, 1, rfl, rfl, _, rfl, ?_⟩
        refine ite2 (fun h0 => ?_) (fun h0 => ?_)
        · have h0 : 1 < f := of_decide_eq_true h0
          have ee : eStep p f i found2 = (((found2.set (i - f) ((found2.getD (i - f) 0 + found2.getD i 0) % p)).set (i - f + 1) (((found2.set (i - f) ((found2.getD (i - f) 0 + found2.getD i 0) % p)).getD (i - f + 1) 0 + (found2.set (i - f) ((found2.getD (i - f) 0 + found2.getD i 0) % p)).getD i 0) % p)).set i 0) := if_pos h0
          have i1 : i - f < found2.length := by omega
          refine ⟨_, rfl, _, rfl, _, rfl, i, f, rfl, rfl, hge, pf, _, ((i - f : Nat) : Int), _, rfl, rfl, SqL.of g1, atI_vns i1, ?_⟩
          refine ⟨_, rfl, _, rfl, pf, _, ((i : Nat) : Int), _, rfl, rfl, SqL.of g1, atI_vns hlt, _, _, rfl, rfl, trivial, _, rfl, _, p, rfl, rfl, by omega, ?_⟩
          refine ⟨_, rfl, _, rfl, _, rfl, i, f, rfl, rfl, hge, pf, _, ((i - f : Nat) : Int), i - f, rfl, rfl, g1, ixN_vns i1, ?_⟩
          rw [vns_set]
          have el1 : (found2.set (i - f) ((found2.getD (i - f) 0 + found2.getD i 0) % p)).length = found2.length := List.length_set ..
          have sm3 : Same H (upd H2 pf (.lst (vns (found2.set (i - f) ((found2.getD (i - f) 0 + found2.getD i 0) % p))))) := Same.upd sm2 ePf
          have g3 : (upd H2 pf (.lst (vns (found2.set (i - f) ((found2.getD (i - f) 0 + found2.getD i 0) % p))))) pf = some (.lst (vns (found2.set (i - f) ((found2.getD (i - f) 0 + found2.getD i 0) % p)))) := upd_same
          generalize hF1 : found2.set (i - f) ((found2.getD (i - f) 0 + found2.getD i 0) % p) = F1 at el1 ee sm3 g3 ⊢
          generalize upd H2 pf (.lst (vns F1)) = H3 at sm3 g3 ⊢
          have i2 : i - f + 1 < F1.length := by omega
          have i3 : i < F1.length := by omega
          refine ⟨_, rfl, _, rfl, _, rfl, i, f, rfl, rfl, hge, i - f, 1, rfl, rfl, trivial, pf, _, ((i - f + 1 : Nat) : Int), _, rfl, rfl, SqL.of g3, atI_vns i2, ?_⟩
          refine ⟨_, rfl, _, rfl, pf, _, ((i : Nat) : Int), _, rfl, rfl, SqL.of g3, atI_vns i3, _, _, rfl, rfl, trivial, _, rfl, _, p, rfl, rfl, by omega, ?_⟩
          refine ⟨_, rfl, _, rfl, _, rfl, i, f, rfl, rfl, hge, i - f, 1, rfl, rfl, trivial, pf, _, ((i - f + 1 : Nat) : Int), i - f + 1, rfl, rfl, g3, ixN_vns i2, ?_⟩
          rw [vns_set]
          refine ⟨_, rfl, _, rfl, pf, _, ((i : Nat) : Int), i, rfl, rfl, upd_same, by rw [← ixN_vns (ns := F1) i3, vns_len, vns_len, List.length_set], ?_⟩
          rw [show V.int 0 = vn 0 from rfl, vns_set, upd_upd]
          refine ⟨by rw [eStep_len]; exact hlen2, Same.upd sm3 ePf, ?_, _, _, _, _, rfl⟩
          rw [ee, upd_same]
        · have h0 : ¬ 1 < f := fun q => h0 (decide_eq_true q)
          have ee : eStep p f i found2 = found2 := if_neg h0
          refine ⟨by rw [eStep_len]; exact hlen2, sm2, by rw [ee]; exact g1, _, _, _, _, rfl⟩
      · rintro σ H2 ⟨hlen2, sm2, g1, u5, u6, u7, u8, rfl⟩
        refine ⟨_, rfl, _, rfl, (f : Int), rfl, pf, _, rfl, SqL.of g1, fun s1 hs1 => ?_⟩
        rw [cut_take]
        refine ⟨s1, _, rfl, SqL.of upd_same, fun r hrn => ⟨r, rfl, ⟨_, SqL.of upd_same⟩, ?_⟩⟩
        rw [vns_rev]
        refine forL (K := K) (a := r) (vs := vns ((eRed p f (eConv p (digs p a) (digs p b) (List.replicate (2 * f) 0))).take f).reverse) ((eRed p f (eConv p (digs p a) (digs p b) (List.replicate (2 * f) 0))).take f).reverse (fun v d => v * p + d) 0 (fun acc σ H' => Same H H' ∧ SqL K H' r (vns ((eRed p f (eConv p (digs p a) (digs p b) (List.replicate (2 * f) 0))).take f).reverse) ∧ ∃ t5 t6 t7 t8 t10, σ = [some (vn p), some (vn f), some (vn a), some (vn b), some (.ref pf), t5, t6, t7, t8, some (vn acc), t10]) (vns_len _) ⟨(sm2.trans (Same.new hs1)).trans (Same.new hrn), SqL.of upd_same, _, _, _, _, _, rfl⟩ (fun acc σ H' h => h.2.1) ?_ ?_
        · rintro i v y acc σ H' hv hy _ ⟨sm, hs, v5, v6, v7, v8, v10, rfl⟩
          have ev : v = vn y := by rw [vns_at hy] at hv; exact (Option.some.inj hv).symm
          subst ev
          refine ⟨_, rfl, _, rfl, acc, p, rfl, rfl, .inr (by omega), _, rfl, acc * p, y, rfl, rfl, trivial, ?_⟩
          exact ⟨sm, hs, _, _, _, _, _, rfl⟩
        · rintro σ H' ⟨sm, hs, v5, v6, v7, v8, v10, rfl⟩
          exact ⟨_, rfl, k _ sm⟩
end
end Mo
namespace Mo
open PySem PySem.Spec PyProof.Rows L2
open C8 (pe_c pe_gc)
/-! ### the field's data: all of it in the new part -/
def newPart (H H' : Hp) : Hp := fun a => match H a with | none => H' a | some _ => none
theorem newPart_at {H H' : Hp} {a : Addr} {o : HO} (h : H a = none) (h' : H' a = some o) : newPart H H' a = some o := by
  unfold newPart
  rw [h]
  exact h'
theorem newPart_sub {H H' : Hp} : Same (newPart H H') H' := fun a o h => by
  unfold newPart at h
  cases e : H a with
  | none => rw [e] at h; exact h
  | some z => rw [e] at h; cases h
/-- what is in the new part outlives a write to what was there -/
theorem newPart_put {H H' : Hp} {D : Addr} {o z : HO} (h : H D = some z) : Same (newPart H H') (upd H' D o) := fun a o2 h2 => by
  have hne : a ≠ D := fun e => by
    unfold newPart at h2
    rw [e, h] at h2
    cases h2
  rw [upd_ne hne]
  exact newPart_sub _ _ h2
def TabR (H : Hp) (a : Addr) (T : List (List Nat)) : Prop := ∃ rows, H a = some (.lst rows) ∧ Paired (fun v ns => ∃ p, v = V.ref p ∧ H p = some (.lst (vns ns))) rows T
def FieldR (H : Hp) (v : V) (q : Nat) : Prop := ∃ (a pp pm : Addr) (kvs : List (Key × V)), v = .ref a ∧ q ∈ Qs ∧ H a = some (.dK kvs) ∧ valV kvs (.inr "q") = some (vn q) ∧ valV kvs (.inr "p") = some (vn (pOf q)) ∧ valV kvs (.inr "f") = some (vn (fOf q)) ∧
  valV kvs (.inr "plus") = some (.ref pp) ∧ valV kvs (.inr "mul") = some (.ref pm) ∧ TabR H pp (plusT q) ∧ TabR H pm (mulT q)
theorem TabR.mono {H H' : Hp} {a : Addr} {T : List (List Nat)} (h : TabR H a T) (e : Same H H') : TabR H' a T := let ⟨rows, a, b⟩ := h; ⟨rows, e _ _ a, paired_mono b fun v ns ⟨p, x, y⟩ => ⟨p, x, e _ _ y⟩⟩
theorem FieldR.mono {H H' : Hp} {v : V} {q : Nat} (h : FieldR H v q) (e : Same H H') : FieldR H' v q :=
  let ⟨a, pp, pm, kvs, h1, h2, h3, h4, h5, h6, h7, h8, h9, h10⟩ := h; ⟨a, pp, pm, kvs, h1, h2, e _ _ h3, h4, h5, h6, h7, h8, h9.mono e, h10.mono e⟩
theorem FieldR.at {H : Hp} {v : V} {q : Nat} (h : FieldR H v q) : ∃ a, v = .ref a ∧ DGet H a (.str "q") (some (vn q)) ∧ DGet H a (.str "p") (some (vn (pOf q))) ∧ DGet H a (.str "f") (some (vn (fOf q))) ∧
    ∃ pp pm, DGet H a (.str "plus") (some (.ref pp)) ∧ DGet H a (.str "mul") (some (.ref pm)) ∧ TabR H pp (plusT q) ∧ TabR H pm (mulT q) := by
  obtain ⟨a, pp, pm, kvs, h1, h2, h3, h4, h5, h6, h7, h8, h9, h10⟩ := h
  exact ⟨a, h1, .inl ⟨kvs, .inr "q", .inl h3, rfl, h4.symm⟩, .inl ⟨kvs, .inr "p", .inl h3, rfl, h5.symm⟩, .inl ⟨kvs, .inr "f", .inl h3, rfl, h6.symm⟩, pp, pm, .inl ⟨kvs, .inr "plus", .inl h3, rfl, h7.symm⟩, .inl ⟨kvs, .inr "mul", .inl h3, rfl, h8.symm⟩, h9, h10⟩
theorem FieldR.isq {H : Hp} {v : V} {q : Nat} (h : FieldR H v q) : q ∈ Qs := let ⟨_, _, _, _, _, h2, _⟩ := h; h2
theorem tab_len (q : Nat) (g : Nat → Nat → Nat) : ((List.range q).map fun a => (List.range q).map fun b => g a b).length = q := by simp
theorem tab_at (q : Nat) (g : Nat → Nat → Nat) {a : Nat} (h : a < q) : ((List.range q).map fun a => (List.range q).map fun b => g a b)[a]? = some ((List.range q).map fun b => g a b) := by
  rw [List.getElem?_map, List.getElem?_range h]
  rfl
theorem tab_lk (q : Nat) (g : Nat → Nat → Nat) {a b : Nat} (ha : a < q) (hb : b < q) : lk ((List.range q).map fun a => (List.range q).map fun b => g a b) a b = g a b := by
  unfold lk
  have e : ((List.range q).map fun a => (List.range q).map fun b => g a b).getD a [] = (List.range q).map fun b => g a b := by
    rw [List.getD_eq_getElem?_getD, tab_at q g ha]
    rfl
  rw [e]
  rw [List.getD_eq_getElem?_getD, List.getElem?_map, List.getElem?_range hb]
  rfl
/-- a row of a table at hand -/
theorem TabR.row {H : Hp} {t : Addr} {q : Nat} {g : Nat → Nat → Nat} {a : Nat} (h : TabR H t ((List.range q).map fun a => (List.range q).map fun b => g a b)) (ha : a < q) :
    ∃ rows r, H t = some (.lst rows) ∧ atI rows ((a : Nat) : Int) = some (.ref r) ∧ H r = some (.lst (vns ((List.range q).map fun b => g a b))) := by
  obtain ⟨rows, h1, h2⟩ := h
  obtain ⟨v, e, p, ev, hp⟩ := paired_at h2 (tab_at q g ha)
  subst ev
  exact ⟨rows, p, h1, atI_vn e, hp⟩
theorem row_at (q : Nat) (g : Nat → Nat) {b : Nat} (hb : b < q) : atI (vns ((List.range q).map g)) ((b : Nat) : Int) = some (vn (g b)) := by
  refine atI_vn (vns_at ?_)
  rw [List.getElem?_map, List.getElem?_range hb]
  rfl
theorem f_pick {q : Nat} (hq : q ∈ Qs) {H : Hp} {t2 t3 t4 t5 t7 t8 t9 : Addr} (h2 : H t2 = some (.tup [vn 2, vn 1])) (h3 : H t3 = some (.tup [vn 3, vn 1])) (h4 : H t4 = some (.tup [vn 2, vn 2])) (h5 : H t5 = some (.tup [vn 5, vn 1]))
    (h7 : H t7 = some (.tup [vn 7, vn 1])) (h8 : H t8 = some (.tup [vn 2, vn 3])) (h9 : H t9 = some (.tup [vn 3, vn 2])) :
    ∃ t, some (V.ref t) = valV (mergeK [] [((.inl 2 : Key), V.ref t2), (.inl 3, .ref t3), (.inl 4, .ref t4), (.inl 5, .ref t5), (.inl 7, .ref t7), (.inl 8, .ref t8), (.inl 9, .ref t9)]) (.inl (q : Int)) ∧ H t = some (.tup [vn (pOf q), vn (fOf q)]) := by
  have e : q = 2 ∨ q = 3 ∨ q = 4 ∨ q = 5 ∨ q = 7 ∨ q = 8 ∨ q = 9 := by simpa [Qs] using hq
  rcases e with e | e | e | e | e | e | e <;> subst e
  · exact ⟨t2, rfl, h2⟩
  · exact ⟨t3, rfl, h3⟩
  · exact ⟨t4, rfl, h4⟩
  · exact ⟨t5, rfl, h5⟩
  · exact ⟨t7, rfl, h7⟩
  · exact ⟨t8, rfl, h8⟩
  · exact ⟨t9, rfl, h9⟩
theorem digs_short : ∀ q ∈ Qs, ∀ a, a < q → (digs (pOf q) a).length ≤ fOf q := by decide +kernel
def zeroAt (l : List Nat) : Nat := l.findIdx (· == 0)
theorem zero_is : ∀ q ∈ Qs, ∀ ns ∈ plusT q, ns[zeroAt ns]? = some 0 ∧ ∀ m, m < zeroAt ns → ns[m]? ≠ some 0 := by decide +kernel
theorem flat_vns : ∀ ns : List Nat, (vns ns).all flatV = true
  | [] => rfl
  | n :: r => by show (flatV (vn n) && (vns r).all flatV) = true; rw [flat_vns r]; rfl
def spField : Sp := fun vs H Q _ => ∃ q : Nat, vs = [vn q] ∧ q ∈ Qs ∧ ∀ H' v, Same H H' → FieldR (newPart H H') v q → Q v H'
section
variable {P : Program} {w : World} {K : PySem.W.Frag} {mg : Str → Option Value} {base : Heap} {aF aP aW : Addr}
theorem ok_l_field (T : Txt K mg aF aP aW) (d : Df K mg "_law_field" s_l_field ["_law_q_here"]) (c_l_element_sum : C8.Cal P w K mg base 1 "_law_element_sum" spESum []) (c_l_element_product : C8.Cal P w K mg base 2 "_law_element_product" spEProd []) : C8.Cal P w K mg base 3 "_law_field" spField [] := by
  refine cal_of d sc_l_field (fun vs H Q E h => ?_) (fun f cdv A outer s H vs Q E hr h => ?_)
  · obtain ⟨q, rfl, _⟩ := h
    rfl
  · obtain ⟨q, rfl, hq, k⟩ := h
    obtain ⟨q1, q2, p1, p2, f1, f2⟩ := Qs_facts hq
    refine ⟨_, (pss_cons (ps_asg (pe_dget (hu_of hr) (pe_disp (pps_cons pe_int (pe_tup (pa_cons pe_int (pa_cons pe_int pa_nil))) (pps_cons pe_int (pe_tup (pa_cons pe_int (pa_cons pe_int pa_nil))) (pps_cons pe_int (pe_tup (pa_cons pe_int (pa_cons pe_int pa_nil))) (pps_cons pe_int (pe_tup (pa_cons pe_int (pa_cons pe_int pa_nil))) (pps_cons pe_int (pe_tup (pa_cons pe_int (pa_cons pe_int pa_nil))) (pps_cons pe_int (pe_tup (pa_cons pe_int (pa_cons pe_int pa_nil))) (pps_cons pe_int (pe_tup (pa_cons pe_int (pa_cons pe_int pa_nil))) pps_nil))))))) (by rfl) (by rfl) (fun z => by cases z) (by decide)) (pv 0) (fun _ _ => rfl)) (pg_tup rfl (pgs_cons (pg_name (i := 1) sc_l_field.nd rfl (Or.inr rfl)) (pgs_cons (pg_name (i := 2) sc_l_field.nd rfl (Or.inr rfl)) pgs_nil))))
      (pss_cons (ps_setLc (i := 3) (own := [("_law_one", 5)]) rfl sc_l_field.nd rfl rfl (sw_true rfl rfl rfl (by decide +kernel)) (pi_range1 (by rfl) T.range_ (pa_cons (pv 0) pa_nil)) (blkOk_by (own := [("_law_one", 5)]) (N := N_l_field) (sc := defScope s_l_field) (by decide +kernel)) (fun _ _ _ _ _ => (pg_name (i := 5) sc_l_field.nd rfl (Or.inr rfl))) (fun _ _ _ _ _ => pts_nil) (fun _ _ _ _ _ => (pe_lc (own := [("_law_other", 6)]) rfl sc_l_field.nd (pi_range1 (by rfl) T.range_ (pa_cons (pv 0) pa_nil)) (by exact blkOk_by (own := [("_law_other", 6)]) (N := N_l_field) (by rfl)) (fun _ _ _ _ _ => (pg_name (i := 6) sc_l_field.nd rfl (Or.inl rfl))) (fun _ _ _ _ _ => pts_nil) (fun _ _ _ _ _ => (pe_c c_l_element_sum hr (by decide) rfl (pa_cons (pv 1) (pa_cons (pv 2) (pa_cons (pv 5) (pa_cons (pv 6) pa_nil)))))))))
      (pss_cons (ps_setLc (i := 4) (own := [("_law_one", 5)]) rfl sc_l_field.nd rfl rfl (sw_true rfl rfl rfl (by decide +kernel)) (pi_range1 (by rfl) T.range_ (pa_cons (pv 0) pa_nil)) (blkOk_by (own := [("_law_one", 5)]) (N := N_l_field) (sc := defScope s_l_field) (by decide +kernel)) (fun _ _ _ _ _ => (pg_name (i := 5) sc_l_field.nd rfl (Or.inr rfl))) (fun _ _ _ _ _ => pts_nil) (fun _ _ _ _ _ => (pe_lc (own := [("_law_other", 6)]) rfl sc_l_field.nd (pi_range1 (by rfl) T.range_ (pa_cons (pv 0) pa_nil)) (by exact blkOk_by (own := [("_law_other", 6)]) (N := N_l_field) (by rfl)) (fun _ _ _ _ _ => (pg_name (i := 6) sc_l_field.nd rfl (Or.inl rfl))) (fun _ _ _ _ _ => pts_nil) (fun _ _ _ _ _ => (pe_c c_l_element_product hr (by decide) rfl (pa_cons (pv 1) (pa_cons (pv 2) (pa_cons (pv 5) (pa_cons (pv 6) pa_nil)))))))))
      (pss_one (ps_ret (pe_disp (pps_cons pe_str (pv 0) (pps_cons pe_str (pv 1) (pps_cons pe_str (pv 2) (pps_cons pe_str (pv 3) (pps_cons pe_str (pv 4) (pps_cons pe_str (pe_lc (own := [("_law_row", 7)]) rfl sc_l_field.nd (pi_list (pv 3)) (blkOk_by (own := [("_law_row", 7)]) (N := N_l_field) (sc := defScope s_l_field) (by decide +kernel)) (fun _ _ _ _ _ => (pg_name (i := 7) sc_l_field.nd rfl (Or.inl rfl))) (fun _ _ _ _ _ => pts_nil) (fun _ _ _ _ _ => (pe_bm' (K := K) rfl PySem.F.plainAttrs_list PySem.F.slot_list_index PySem.F.type_list_index (mt_index' (K := K) rfl) (pv 7) (pa_cons pe_int pa_nil)))) pps_nil)))))) (by rfl) (by rfl) (fun z => by cases z) (by decide))))))), ?_⟩
    refine fun dd hdd => ?_
    refine ⟨by decide, fun t2 n2 => ⟨by decide, fun t3 n3 => ⟨by decide, fun t4 n4 => ⟨by decide, fun t5 n5 => ⟨by decide, fun t7 n7 => ⟨by decide, fun t8 n8 => ⟨by decide, fun t9 n9 => ?_⟩⟩⟩⟩⟩⟩⟩
    have sm0 : Same H (upd H dd (.dK [])) := Same.new hdd
    have s2 := Same.new (o := .tup [vn 2, vn 1]) n2
    have s3 := Same.new (o := .tup [vn 3, vn 1]) n3
    have s4 := Same.new (o := .tup [vn 2, vn 2]) n4
    have s5 := Same.new (o := .tup [vn 5, vn 1]) n5
    have s7 := Same.new (o := .tup [vn 7, vn 1]) n7
    have s8 := Same.new (o := .tup [vn 2, vn 3]) n8
    have s9 := Same.new (o := .tup [vn 3, vn 2]) n9
    have smA := (((((((sm0.trans s2).trans s3).trans s4).trans s5).trans s7).trans s8).trans s9)
    have e2 := (((((s3.trans s4).trans s5).trans s7).trans s8).trans s9) _ _ (upd_same (a := t2))
    have e3 := ((((s4.trans s5).trans s7).trans s8).trans s9) _ _ (upd_same (a := t3))
    have e4 := (((s5.trans s7).trans s8).trans s9) _ _ (upd_same (a := t4))
    have e5 := ((s7.trans s8).trans s9) _ _ (upd_same (a := t5))
    have e7 := (s8.trans s9) _ _ (upd_same (a := t7))
    have e8 := s9 _ _ (upd_same (a := t8))
    have ed := (((((((s2.trans s3).trans s4).trans s5).trans s7).trans s8).trans s9)) _ _ (upd_same (a := dd))
    have e9 : upd (upd (upd (upd (upd (upd (upd (upd H dd (HO.dK [])) t2 (HO.tup [vn 2, vn 1])) t3 (HO.tup [vn 3, vn 1])) t4 (HO.tup [vn 2, vn 2])) t5 (HO.tup [vn 5, vn 1])) t7 (HO.tup [vn 7, vn 1])) t8 (HO.tup [vn 2, vn 3])) t9 (HO.tup [vn 3, vn 2]) t9 = some (.tup [vn 3, vn 2]) := upd_same
    clear s2 s3 s4 s5 s7 s8 s9 n2 n3 n4 n5 n7 n8 n9 sm0
    refine ⟨ed, [((.inl 2 : Key), V.ref t2), (.inl 3, .ref t3), (.inl 4, .ref t4), (.inl 5, .ref t5), (.inl 7, .ref t7), (.inl 8, .ref t8), (.inl 9, .ref t9)], rfl, (by show 7 ≤ 15; omega), ?_⟩
    have nt : ∀ {t : Addr} {l : List V} {G : Hp}, G t = some (.tup l) → G dd = some (.dK []) → t ≠ dd := fun {t l G} h h' e => by rw [e, h'] at h; cases h
    have smB := Same.upd smA hdd (o := .dK (mergeK [] [((.inl 2 : Key), V.ref t2), (.inl 3, .ref t3), (.inl 4, .ref t4), (.inl 5, .ref t5), (.inl 7, .ref t7), (.inl 8, .ref t8), (.inl 9, .ref t9)]))
    obtain ⟨t, ht1, ht2⟩ := f_pick hq ((upd_ne (nt e2 ed)).trans e2) ((upd_ne (nt e3 ed)).trans e3) ((upd_ne (nt e4 ed)).trans e4) ((upd_ne (nt e5 ed)).trans e5) ((upd_ne (nt e7 ed)).trans e7) ((upd_ne (nt e8 ed)).trans e8) ((upd_ne (nt e9 ed)).trans e9)
    refine ⟨_, rfl, dd, .ref t, rfl, .inl ⟨_, .inl (q : Int), .inl upd_same, rfl, ht1⟩, t, _, rfl, SqT.of ht2, rfl, _, _, rfl, _, _, rfl, rfl, ?_⟩
    generalize upd _ dd _ = HA at smB ⊢
    clear ht1 ht2 nt e2 e3 e4 e5 e7 e8 e9 ed smA
    refine ⟨_, rfl, (q : Int), rfl, by omega, by omega, fun D1 hD1 => ?_⟩
    refine lcR0 (n := q) (fun a => (List.range q).map fun b => eSum (pOf q) (fOf q) a b) (fun H v ns => ∃ p, v = .ref p ∧ HA p = none ∧ p ≠ D1 ∧ H p = some (.lst (vns ns))) hD1 (by rw [line24]; omega)
      (fun H H' v c acc ⟨p, e1, e2, e3, e4⟩ _ sb => ⟨p, e1, e2, e3, sb _ _ e3 e4⟩) (fun a Hc K1 ha sm ⟨acc, hacc⟩ h1 => ⟨rfl, ?_⟩) (fun HB rows smC eD1 pw1 => ?_) gm_name
    · refine ⟨_, rfl, (q : Int), rfl, by omega, by omega, fun D2 hD2 => ?_⟩
      refine lcR0 (n := q) (fun b => eSum (pOf q) (fOf q) a b) (fun _ v n => v = vn n) hD2 (by rw [line24]; omega) (fun _ _ _ _ _ h _ _ => h) (fun b Hd K2 hb sm2 _ h2 => ⟨rfl, ?_⟩) (fun Hd ws sm2 e pw => ?_) gm_name
      · exact ⟨_, rfl, _, rfl, _, rfl, _, rfl, pOf q, fOf q, a, b, rfl, p1, by omega, f2, fun H' s' => h2 _ _ s' rfl⟩
      · rw [paired_vn pw] at e
        exact h1 _ _ sm2 ⟨D2, rfl, sm.free hD2, Ne.symm (ne_of_none hacc hD2), e⟩
    refine ⟨_, rfl, (q : Int), rfl, by omega, by omega, fun D2 hD2 => ?_⟩
    refine lcR0 (n := q) (fun a => (List.range q).map fun b => eProd (pOf q) (fOf q) a b) (fun H v ns => ∃ p, v = .ref p ∧ HB p = none ∧ p ≠ D2 ∧ H p = some (.lst (vns ns))) hD2 (by rw [line24]; omega)
      (fun H H' v c acc ⟨p, e1, e2, e3, e4⟩ _ sb => ⟨p, e1, e2, e3, sb _ _ e3 e4⟩) (fun a Hc K1 ha sm ⟨acc, hacc⟩ h1 => ⟨rfl, ?_⟩) (fun HC rows2 smD eD2 pw2 => ?_) gm_name
    · refine ⟨_, rfl, (q : Int), rfl, by omega, by omega, fun D3 hD3 => ?_⟩
      refine lcR0 (n := q) (fun b => eProd (pOf q) (fOf q) a b) (fun _ v n => v = vn n) hD3 (by rw [line24]; omega) (fun _ _ _ _ _ h _ _ => h) (fun b Hd K2 hb sm2 _ h2 => ⟨rfl, ?_⟩) (fun Hd ws sm2 e pw => ?_) gm_name
      · exact ⟨_, rfl, _, rfl, _, rfl, _, rfl, pOf q, fOf q, a, b, rfl, p1, by omega, f1, f2, by omega, by omega, digs_short q hq a ha, digs_short q hq b hb, fun H' s' => h2 _ _ s' rfl⟩
      · rw [paired_vn pw] at e
        exact h1 _ _ sm2 ⟨D3, rfl, sm.free hD3, Ne.symm (ne_of_none hacc hD3), e⟩
    refine fun d2 hd2 => ?_
    have sE : Same HC (upd HC d2 (.dK [])) := Same.new hd2
    refine ⟨_, rfl, _, rfl, _, rfl, _, rfl, _, rfl, _, rfl, D1, rfl, ⟨_, SqL.of (sE _ _ (smD _ _ eD1))⟩, fun D3 hD3 => ?_⟩
    refine lcL (K := K) (a := D1) (zs := rows) (plusT q) (fun _ => true) (fun _ => (0 : Nat)) (fun _ _ _ => True) hD3 (by rw [line24]; show ((List.range q).map _).length ≤ _; rw [List.length_map, List.length_range]; omega) (SqL.of (sE _ _ (smD _ _ eD1))) (paired_len pw1) (fun _ _ _ _ _ h _ _ => h) ?_ ?_
    · intro i z y Hx K1 K2 hz hy sm _ h1 h2
      obtain ⟨z', ez, p, ev, _, _, hp⟩ := paired_at pw1 hy
      rw [ez] at hz
      obtain rfl : z' = z := Option.some.inj hz
      subst ev
      have hm := zero_is q hq y (List.mem_of_getElem? hy)
      have hp2 := sm _ _ (sE _ _ (smD _ _ hp))
      refine ⟨rfl, yesT ?_⟩
      refine ⟨_, rfl, .inl ⟨rfl, _, SqL.of hp2⟩, p, vns y, vn 0, zeroAt y, vn 0, rfl, rfl, SqL.of hp2, rfl, flat_vns y, vns_at hm.1, rfl, fun m z' hlt hz' => ?_, h1 _ _ (Same.refl _) trivial rfl⟩
      rw [List.getElem?_map] at hz'
      cases e : y[m]? with
      | none => rw [e] at hz'; cases hz'
      | some n =>
        rw [e] at hz'
        obtain rfl := Option.some.inj hz'
        have hn : n ≠ 0 := fun q0 => hm.2 m hlt (by rw [e, q0])
        show ((n : Int) == 0) = false
        rw [beq_eq_false_iff_ne]
        omega
    · intro HE ws smE _ _
      refine ⟨smE _ _ upd_same, [((.inr "q" : Key), vn q), (.inr "p", vn (pOf q)), (.inr "f", vn (fOf q)), (.inr "plus", .ref D1), (.inr "mul", .ref D2), (.inr "minus", .ref D3)], rfl, (by show 6 ≤ 15; omega), ?_⟩
      have hHC : Same H HC := (smB.trans smC).trans smD
      have hd2' : H d2 = none := hHC.free hd2
      have sF : Same HC (upd HE d2 (.dK (mergeK [] [((.inr "q" : Key), vn q), (.inr "p", vn (pOf q)), (.inr "f", vn (fOf q)), (.inr "plus", .ref D1), (.inr "mul", .ref D2), (.inr "minus", .ref D3)]))) := Same.upd (sE.trans smE) hd2
      refine k _ _ (hHC.trans sF) ⟨d2, D1, D2, _, rfl, hq, newPart_at hd2' upd_same, rfl, rfl, rfl, rfl, rfl, ?_, ?_⟩
      · exact ⟨rows, newPart_at (smB.free hD1) (sF _ _ (smD _ _ eD1)), paired_mono pw1 fun v ns ⟨p, e1, e2, e3, e4⟩ => ⟨p, e1, newPart_at (smB.free e2) (sF _ _ (smD _ _ e4))⟩⟩
      · exact ⟨rows2, newPart_at ((smB.trans smC).free hD2) (sF _ _ eD2), paired_mono pw2 fun v ns ⟨p, e1, e2, e3, e4⟩ => ⟨p, e1, newPart_at ((smB.trans smC).free e2) (sF _ _ e4)⟩⟩
end
end Mo
namespace Mo
open PySem PySem.Spec PyProof.Rows L2
open C8 (pe_c pe_gc)
/-! ### plain -/
def Low (q : Nat) (l : List Nat) : Prop := ∀ x ∈ l, x < q
theorem low_at {q : Nat} {l : List Nat} (h : Low q l) {i : Nat} (hi : i < l.length) : l.getD i 0 < q := by
  rw [List.getD_eq_getElem?_getD, List.getElem?_eq_getElem hi]
  exact h _ (List.getElem_mem _)
theorem low_set {q : Nat} {l : List Nat} (h : Low q l) (i : Nat) {x : Nat} (hx : x < q) : Low q (l.set i x) := fun y hy => by
  rcases List.mem_or_eq_of_mem_set hy with e | e
  · exact h y e
  · rw [e]; exact hx
theorem low_rep {q n : Nat} (hq : 0 < q) : Low q (List.replicate n 0) := fun x hx => by rw [(List.mem_replicate.mp hx).2]; exact hq
theorem low_app {q : Nat} {a b : List Nat} (ha : Low q a) (hb : Low q b) : Low q (a ++ b) := fun x hx => by
  rcases List.mem_append.mp hx with e | e
  · exact ha x e
  · exact hb x e
theorem tabs_low : ∀ q ∈ Qs, ∀ a, a < q → ∀ b, b < q → eSum (pOf q) (fOf q) a b < q ∧ eProd (pOf q) (fOf q) a b < q := by decide +kernel
theorem lk_plus {q a b : Nat} (ha : a < q) (hb : b < q) : lk (plusT q) a b = eSum (pOf q) (fOf q) a b := tab_lk q (fun a b => eSum (pOf q) (fOf q) a b) ha hb
theorem lk_mul {q a b : Nat} (ha : a < q) (hb : b < q) : lk (mulT q) a b = eProd (pOf q) (fOf q) a b := tab_lk q (fun a b => eProd (pOf q) (fOf q) a b) ha hb
theorem trimLen_le (row : List Nat) : ∀ n, trimLen row n ≤ n
  | 0 => Nat.le_refl _
  | n + 1 => by
    unfold trimLen
    split
    · exact Nat.le_succ_of_le (trimLen_le row n)
    · exact Nat.le_refl _
theorem low_take {q : Nat} {a : List Nat} (ha : Low q a) (n : Nat) : Low q (a.take n) := fun x hx => ha x (List.mem_of_mem_take hx)
theorem low_trim {q : Nat} {a : List Nat} (ha : Low q a) : Low q (trim a) := low_take ha _
theorem low_pPlus {q : Nat} (hq : q ∈ Qs) {a b : List Nat} (ha : Low q a) (hb : Low q b) : Low q (pPlus q a b) := by
  obtain ⟨q1, _⟩ := Qs_facts hq
  refine low_trim fun x hx => ?_
  have hA : Low q (padTo (max a.length b.length) a) := low_app ha (low_rep (by omega))
  have hB : Low q (padTo (max a.length b.length) b) := low_app hb (low_rep (by omega))
  generalize padTo (max a.length b.length) a = A at hx hA
  generalize padTo (max a.length b.length) b = B at hx hB
  induction A generalizing B with
  | nil => simp at hx
  | cons u A ih =>
    cases B with
    | nil => simp at hx
    | cons v B =>
      rw [List.zipWith_cons_cons] at hx
      have hu := hA u (List.mem_cons_self ..)
      have hv := hB v (List.mem_cons_self ..)
      rcases List.mem_cons.mp hx with e | e
      · rw [e, lk_plus hu hv]; exact (tabs_low q hq u hu v hv).1
      · exact ih (fun y hy => hA y (List.mem_cons_of_mem _ hy)) B e (fun y hy => hB y (List.mem_cons_of_mem _ hy))
theorem pPlus_len (q : Nat) (a b : List Nat) : (pPlus q a b).length ≤ max a.length b.length := by
  unfold pPlus trim
  rw [List.length_take]
  refine Nat.le_trans (Nat.min_le_right _ _) ?_
  rw [List.length_zipWith]
  unfold padTo
  simp only [List.length_append, List.length_replicate]
  omega
theorem max_v (n m : Nat) : (V.int (if ((m : Nat) : Int) > ((n : Nat) : Int) then ((m : Nat) : Int) else ((n : Nat) : Int))) = vn (max n m) := by
  congr 1
  by_cases h : n < m
  · rw [if_pos (by omega), Nat.max_eq_right (by omega)]
  · rw [if_neg (by omega), Nat.max_eq_left (by omega)]
theorem zip_map {α β γ : Type} (f : α → β → γ) : ∀ (a : List α) (b : List β), (a.zip b).map (fun p => f p.1 p.2) = List.zipWith f a b
  | [], b => by simp
  | _ :: _, [] => by simp
  | x :: a, y :: b => by rw [List.zip_cons_cons, List.map_cons, List.zipWith_cons_cons, zip_map f a b]
/-- the trimmed tuple of a list -/
def spTrim (K : PySem.W.Frag) : Sp := fun vs H Q _ => ∃ (a : Addr) (row : List Nat), vs = [.ref a] ∧ SqL K H a (vns row) ∧ ∀ H' p, Same H H' → H p = none → H' p = some (.tup (vns (trim row))) → Q (.ref p) H'
def spPlus (K : PySem.W.Frag) : Sp := fun vs H Q _ => ∃ (fv : V) (q : Nat) (a b : Addr) (as bs : List Nat), vs = [fv, .ref a, .ref b] ∧ FieldR H fv q ∧ SqT K H a (vns as) ∧ SqT K H b (vns bs) ∧ Low q as ∧ Low q bs ∧ as.length ≤ 1000000 ∧ bs.length ≤ 1000000 ∧
  ∀ H' p, Same H H' → H' p = some (.tup (vns (pPlus q as bs))) → Q (.ref p) H'
section
variable {P : Program} {w : World} {K : PySem.W.Frag} {mg : Str → Option Value} {base : Heap} {aF aP aW : Addr}
theorem ok_l_trim (T : Txt K mg aF aP aW) (d : Df K mg "_law_trim" s_l_trim ["_law_row"]) : C8.Cal P w K mg base 1 "_law_trim" (spTrim K) [] := by
  refine cal_of d sc_l_trim (fun vs H Q E h => ?_) (fun f cdv A outer s H vs Q E hr h => ?_)
  · obtain ⟨q, _, rfl, _⟩ := h
    rfl
  · obtain ⟨a, row, rfl, ha, k⟩ := h
    refine ⟨_, (pss_cons (ps_set (i := 1) sc_l_trim.nd rfl (Or.inl rfl) (pe_callB call_len_seq (by rfl) T.len_ PySem.boot_len (pa_cons (pv 0) pa_nil)))
      (pss_cons (ps_while PassesOwn.never (PW.pt (pw_and (pt_cmpR nGt (pv 1) pe_int (nomark _)) (pw_and1 (pt_cmpR nEq (pe_ix ix_list (pv 0) (pe_op nSub (pv 1) pe_int) (fun _ _ => rfl)) pe_int (nomark _))))) (pss_one (ps_set (i := 1) sc_l_trim.nd rfl (Or.inl rfl) (pe_op nSub (pv 1) pe_int))))
      (pss_one (ps_ret (pe_callTy call_tuple_of (by rfl) T.tuple_ (by decide +kernel) (pa_cons (pe_slice sl_list (pv 0) po_none (po_some (pv 1))) pa_nil)))))), ?_⟩
    refine ⟨_, rfl, a, _, rfl, .inl ha, ?_⟩
    refine ⟨fun m σ H' => σ = [some (.ref a), some (vn m)] ∧ H' = H ∧ trimLen row m = trimLen row row.length ∧ m ≤ row.length, ⟨row.length, by rw [vns_len]; rfl, rfl, rfl, Nat.le_refl _⟩, ?_⟩
    rintro m σ H' ⟨rfl, rfl, e, hm⟩
    have fin : trimLen row m = m → tRet (tCB (fun xs H Q => ∃ p ys, xs = [.ref p] ∧ ((SqL K H p ys ∧ ∀ l, H l = none → Q (.ref l) (upd H l (.tup ys))) ∨ (SqT K H p ys ∧ Q (.ref p) H))) (tCons (tSl (rSlL K) (tVar 0) tNoPart (tPart (tVar 1))) tNil)) { nx := fun _ H' => Q .non H', rt := Q } [some (.ref a), some (vn m)] H' := by
      intro et
      refine ⟨_, rfl, _, rfl, (m : Int), rfl, a, _, rfl, ha, fun p hp => ⟨p, _, rfl, .inl ⟨SqL.of upd_same, fun l hl => ?_⟩⟩⟩
      rw [cut_take]
      rw [cut_take] at hl
      have et2 : row.take m = trim row := by unfold trim; rw [← e, et]
      rw [et2]
      rw [et2] at hl
      exact k _ _ ((Same.new hp).trans (Same.new hl)) ((Same.new hp).free hl) upd_same
    refine ⟨_, rfl, m, 0, rfl, rfl, _, rfl, ?_⟩
    refine ite2 (fun h0 => ?_) (fun h0 => ?_)
    · have h0 : 0 < m := of_decide_eq_true h0
      obtain ⟨m', rfl⟩ : ∃ m', m = m' + 1 := ⟨m - 1, by omega⟩
      have hi : m' < row.length := by omega
      refine ⟨_, rfl, _, rfl, m' + 1, 1, rfl, rfl, by omega, a, _, ((m' : Nat) : Int), _, rfl, rfl, ha, atI_vns hi, row.getD m' 0, 0, rfl, rfl, _, rfl, ?_⟩
      refine ite2 (fun h1 => ?_) (fun h1 => ?_)
      · have h1 : row.getD m' 0 = 0 := of_decide_eq_true h1
        have e2 : trimLen row (m' + 1) = trimLen row m' := if_pos h1
        refine ⟨fun σ' H2 => ∃ m2, m2 < m' + 1 ∧ σ' = [some (.ref a), some (vn m2)] ∧ H2 = H' ∧ trimLen row m2 = trimLen row row.length ∧ m2 ≤ row.length, fun _ _ h => h, ?_⟩
        exact ⟨_, rfl, m' + 1, 1, rfl, rfl, by omega, m', Nat.lt_succ_self _, rfl, rfl, by rw [← e, e2], by omega⟩
      · have h1 : ¬ row.getD m' 0 = 0 := fun q => h1 (decide_eq_true q)
        exact fin (if_neg h1)
    · have h0 : ¬ 0 < m := fun q => h0 (decide_eq_true q)
      have em : m = 0 := by omega
      subst em
      exact fin rfl
theorem ok_l_plus (T : Txt K mg aF aP aW) (d : Df K mg "_law_plus" s_l_plus ["_law_field_here", "_law_one", "_law_other"]) (c_l_trim : C8.Cal P w K mg base 1 "_law_trim" (spTrim K) []) : C8.Cal P w K mg base 2 "_law_plus" (spPlus K) [] := by
  refine cal_of d sc_l_plus (fun vs H Q E h => ?_) (fun f cdv A outer s H vs Q E hr h => ?_)
  · obtain ⟨fv, q, a, b, as, bs, rfl, _⟩ := h
    rfl
  · obtain ⟨fv, q, a, b, as, bs, rfl, hF, ha, hb, la, lb, na, nb, k⟩ := h
    have hq := hF.isq
    obtain ⟨q1, q2, p1, p2, f1, f2⟩ := Qs_facts hq
    refine ⟨_, (pss_cons (ps_set (i := 3) sc_l_plus.nd rfl (Or.inl rfl) (pe_callB (call_max2 rfl) (by rfl) T.max_ (by decide +kernel) (pa_cons (pe_callB call_len_seq (by rfl) T.len_ PySem.boot_len (pa_cons (pv 1) pa_nil)) (pa_cons (pe_callB call_len_seq (by rfl) T.len_ PySem.boot_len (pa_cons (pv 2) pa_nil)) pa_nil))))
      (pss_cons (ps_set (i := 4) sc_l_plus.nd rfl (Or.inl rfl) (pe_op op_cat (pe_callTy call_list_of (by rfl) T.list_ (by decide +kernel) (pa_cons (pv 1) pa_nil)) (pe_op op_rep (pe_lst (pa_cons pe_int pa_nil)) (pe_op nSub (pv 3) (pe_callB call_len_seq (by rfl) T.len_ PySem.boot_len (pa_cons (pv 1) pa_nil))))))
      (pss_cons (ps_set (i := 5) sc_l_plus.nd rfl (Or.inl rfl) (pe_op op_cat (pe_callTy call_list_of (by rfl) T.list_ (by decide +kernel) (pa_cons (pv 2) pa_nil)) (pe_op op_rep (pe_lst (pa_cons pe_int pa_nil)) (pe_op nSub (pv 3) (pe_callB call_len_seq (by rfl) T.len_ PySem.boot_len (pa_cons (pv 2) pa_nil))))))
      (pss_one (ps_ret (pe_c c_l_trim hr (by decide) rfl (pa_cons (pe_lc (own := [("_law_a", 6), ("_law_b", 7)]) rfl sc_l_plus.nd (pi_zipK false false (by rfl) T.zip_ (pa_cons (pv 4) (pa_cons (pv 5) pa_nil))) (blkOk_by (own := [("_law_a", 6), ("_law_b", 7)]) (N := N_l_plus) (sc := defScope s_l_plus) (by decide +kernel)) (fun _ _ _ _ _ => (pg_tup' (K := K) rfl (n := 2) rfl (pgs_cons (pg_name (i := 6) sc_l_plus.nd rfl (Or.inl rfl)) (pgs_cons (pg_name (i := 7) sc_l_plus.nd rfl (Or.inl rfl)) pgs_nil)))) (fun _ _ _ _ _ => pts_nil) (fun _ _ _ _ _ => (pe_ix (ix_list' (K := K) rfl) (pe_ix (ix_list' (K := K) rfl) (pe_dget (hu_of hr) (pv 0) pe_str (fun _ _ => rfl)) (pv 6) (fun _ _ => rfl)) (pv 7) (fun _ _ => rfl)))) pa_nil))))))), ?_⟩
    refine ⟨_, rfl, a, _, rfl, .inr ha, _, rfl, b, _, rfl, .inr hb, _, _, rfl, ?_⟩
    rw [vns_len, vns_len, max_v]
    refine ⟨_, rfl, a, _, rfl, .inr ha, fun l1 n1 => ⟨by decide, fun l2 n2 => ?_⟩⟩
    have s1 := Same.new (o := .lst (vns as)) n1
    have s2 := Same.new (o := .lst [vn 0]) n2
    refine ⟨_, rfl, _, rfl, a, _, rfl, .inr (Same.tup (s1.trans s2) ha), max as.length bs.length, as.length, rfl, by rw [vns_len], by omega, ?_⟩
    refine ⟨l2, ((max as.length bs.length - as.length : Nat) : Int), [vn 0], rfl, rfl, upd_same, by omega, by omega, by rw [line24, Int.toNat_natCast]; show 1 * _ ≤ _; omega, fun l3 n3 => ?_⟩
    rw [Int.toNat_natCast, rep_v] at *
    have s3 := Same.new (o := .lst (vns (List.replicate (max as.length bs.length - as.length) 0))) n3
    refine ⟨l1, l3, _, _, rfl, rfl, (s2.trans s3) _ _ upd_same, upd_same, by rw [line24, vns_len, vns_len, List.length_replicate]; omega, fun l4 n4 => ?_⟩
    rw [← vns_app]
    have s4 := Same.new (o := .lst (vns (padTo (max as.length bs.length) as))) n4
    have sA := ((s1.trans s2).trans s3).trans s4
    have eA : upd (upd (upd (upd H l1 (.lst (vns as))) l2 (.lst [vn 0])) l3 (.lst (vns (List.replicate (max as.length bs.length - as.length) 0)))) l4 (.lst (vns (padTo (max as.length bs.length) as))) l4 = some (.lst (vns (padTo (max as.length bs.length) as))) := upd_same
    show tSeq _ _ _ _ _
    change tSeq _ _ _ _ (upd (upd (upd (upd H l1 (.lst (vns as))) l2 (.lst [vn 0])) l3 (.lst (vns (List.replicate (max as.length bs.length - as.length) 0)))) l4 (.lst (vns (padTo (max as.length bs.length) as))))
    generalize upd (upd (upd (upd H l1 (.lst (vns as))) l2 (.lst [vn 0])) l3 (.lst (vns (List.replicate (max as.length bs.length - as.length) 0)))) l4 (.lst (vns (padTo (max as.length bs.length) as))) = HA at sA eA ⊢
    clear s1 s2 s3 s4 n1 n2 n3 n4
    refine ⟨_, rfl, b, _, rfl, .inr (Same.tup sA hb), fun l1 n1 => ⟨by decide, fun l2 n2 => ?_⟩⟩
    have s1 := Same.new (o := .lst (vns bs)) n1
    have s2 := Same.new (o := .lst [vn 0]) n2
    refine ⟨_, rfl, _, rfl, b, _, rfl, .inr (Same.tup ((sA.trans s1).trans s2) hb), max as.length bs.length, bs.length, rfl, by rw [vns_len], by omega, ?_⟩
    refine ⟨l2, ((max as.length bs.length - bs.length : Nat) : Int), [vn 0], rfl, rfl, upd_same, by omega, by omega, by rw [line24, Int.toNat_natCast]; show 1 * _ ≤ _; omega, fun l3 n3 => ?_⟩
    rw [Int.toNat_natCast, rep_v] at *
    have s3 := Same.new (o := .lst (vns (List.replicate (max as.length bs.length - bs.length) 0))) n3
    refine ⟨l1, l3, _, _, rfl, rfl, (s2.trans s3) _ _ upd_same, upd_same, by rw [line24, vns_len, vns_len, List.length_replicate]; omega, fun l5 n5 => ?_⟩
    rw [← vns_app]
    have s5 := Same.new (o := .lst (vns (padTo (max as.length bs.length) bs))) n5
    have sB := ((s1.trans s2).trans s3).trans s5
    have eB : upd (upd (upd (upd HA l1 (.lst (vns bs))) l2 (.lst [vn 0])) l3 (.lst (vns (List.replicate (max as.length bs.length - bs.length) 0)))) l5 (.lst (vns (padTo (max as.length bs.length) bs))) l5 = some (.lst (vns (padTo (max as.length bs.length) bs))) := upd_same
    dsimp only [gName]
    change tRet _ _ _ (upd (upd (upd (upd HA l1 (.lst (vns bs))) l2 (.lst [vn 0])) l3 (.lst (vns (List.replicate (max as.length bs.length - bs.length) 0)))) l5 (.lst (vns (padTo (max as.length bs.length) bs))))
    generalize upd (upd (upd (upd HA l1 (.lst (vns bs))) l2 (.lst [vn 0])) l3 (.lst (vns (List.replicate (max as.length bs.length - bs.length) 0)))) l5 (.lst (vns (padTo (max as.length bs.length) bs))) = HB at sB eB ⊢
    clear s1 s2 s3 s5 n1 n2 n3 n5
    have lA : (padTo (max as.length bs.length) as).length = max as.length bs.length := by unfold padTo; rw [List.length_append, List.length_replicate]; omega
    have lB : (padTo (max as.length bs.length) bs).length = max as.length bs.length := by unfold padTo; rw [List.length_append, List.length_replicate]; omega
    have wA : Low q (padTo (max as.length bs.length) as) := low_app la (low_rep (by omega))
    have wB : Low q (padTo (max as.length bs.length) bs) := low_app lb (low_rep (by omega))
    refine ⟨_, rfl, _, rfl, l4, l5, vns (padTo (max as.length bs.length) as), vns (padTo (max as.length bs.length) bs), rfl, SqL.of (sB _ _ eA), SqL.of eB, fun D nD => ?_⟩
    refine lcZ (k := false) (k2 := false) (K := K) (a := l4) (b := l5) (zs := vns (padTo (max as.length bs.length) as)) (zs' := vns (padTo (max as.length bs.length) bs)) (padTo (max as.length bs.length) as) (padTo (max as.length bs.length) bs) (fun _ => true) (fun p => lk (plusT q) p.1 p.2) (fun _ v n => v = vn n) nD (by rw [line24, lA]; omega) (SqL.of (sB _ _ eA)) (SqL.of eB) (vns_len _) (vns_len _) (lA.trans lB.symm)
      (fun _ _ _ _ _ h _ _ => h) ?_ ?_
    · intro i z z' y y' Hx T1 K1 K2 hz hz' hy hy' sm _ hT h1 h2
      rw [vns_at hy] at hz
      rw [vns_at hy'] at hz'
      obtain rfl := Option.some.inj hz
      obtain rfl := Option.some.inj hz'
      have ly : y < q := wA y (List.mem_of_getElem? hy)
      have ly' : y' < q := wB y' (List.mem_of_getElem? hy')
      have sT := Same.new (o := .tup [vn y, vn y']) hT
      obtain ⟨fa, ef, g1, g2, g3, pp, pm, g4, g5, g6, g7⟩ := (hF.mono (((sA.trans sB).trans sm).trans sT)).at
      obtain ⟨rows, r, h3, h4, h5⟩ := g6.row ly
      refine ⟨T1, _, rfl, SqT.of upd_same, rfl, _, _, rfl, _, _, rfl, rfl, rfl, yesT ?_⟩
      refine ⟨_, rfl, fa, .ref pp, ef, g4, _, rfl, pp, rows, y, .ref r, rfl, rfl, SqL.of h3, h4, _, rfl, r, _, y', _, rfl, rfl, SqL.of h5, row_at q _ ly', h1 _ _ sT ?_ rfl⟩
      show vn _ = vn (lk (plusT q) y y')
      rw [lk_plus ly ly']
    · intro HC ws sm eD pw
      rw [filt_all, zip_map (lk (plusT q))] at pw
      rw [paired_vn pw] at eD
      refine ⟨D, _, rfl, SqL.of eD, fun H' p s' _ e' => ?_⟩
      exact k _ _ (((sA.trans sB).trans sm).trans s') e'
end
end Mo
namespace Mo
open PySem PySem.Spec PyProof.Rows L2
open C8 (pe_c pe_gc)
theorem dget_mono {H H' : Hp} {a : Addr} {y : V} {r : Option V} (h : DGet H a y r) (e : Same H H') : DGet H' a y r := by
  rcases h with ⟨kvs, k, h1, h2, h3⟩ | ⟨kvs, k, b, h1, h2, h3, h4⟩
  · exact .inl ⟨kvs, k, h1.elim (fun x => .inl (e _ _ x)) (fun ⟨o, x⟩ => .inr ⟨o, e _ _ x⟩), h2, h3⟩
  · exact .inr ⟨kvs, k, b, h1.elim (fun x => .inl (e _ _ x)) (fun ⟨o, x⟩ => .inr ⟨o, e _ _ x⟩), h2, e _ _ h3, h4⟩
theorem pInner_len (q j r : Nat) : ∀ (zs : List (Nat × Nat)) (found : List Nat), (zs.foldl (fun found li => found.set (li.2 + j) (lk (plusT q) (found.getD (li.2 + j) 0) (lk (mulT q) li.1 r))) found).length = found.length
  | [], _ => rfl
  | z :: zs, found => by rw [List.foldl_cons, pInner_len q j r zs, List.length_set]
theorem isEmpty_cast (l : List Nat) : (l.map fun n : Nat => (n : Int)).isEmpty = l.isEmpty := by cases l <;> rfl
theorem not_nil {l : List Nat} (h : ¬ (l.map fun n : Nat => (n : Int)).isEmpty = true) : l ≠ [] := fun e => h (by rw [e]; rfl)
theorem is_nil {l : List Nat} (h : (l.map fun n : Nat => (n : Int)).isEmpty = true) : l = [] := by cases l with | nil => rfl | cons a b => cases h
theorem sq_cast {K : PySem.W.Frag} {H : Hp} {a : Addr} {ns : List Nat} (h : SqT K H a (vns ns)) : SqT K H a ((ns.map fun n : Nat => (n : Int)).map V.int) := by rw [← vns_eq]; exact h
def spProd (K : PySem.W.Frag) : Sp := fun vs H Q _ => ∃ (fv : V) (q : Nat) (a b : Addr) (as bs : List Nat), vs = [fv, .ref a, .ref b] ∧ FieldR H fv q ∧ SqT K H a (vns as) ∧ SqT K H b (vns bs) ∧ Low q as ∧ Low q bs ∧ as.length ≤ 1000000 ∧ bs.length ≤ 1000000 ∧
  ∀ H' p, Same H H' → H' p = some (.tup (vns (pProd q as bs))) → Low q (pProd q as bs) → Q (.ref p) H'
def spStretch (K : PySem.W.Frag) : Sp := fun vs H Q _ => ∃ (q i : Nat) (a : Addr) (as : List Nat), vs = [vn q, .ref a, vn i] ∧ 1 ≤ q ∧ q < 1000 ∧ i < 1000 ∧ SqT K H a (vns as) ∧ as ≠ [] ∧ q ^ i * as.length ≤ 1000000 ∧
  ∀ H' p, Same H H' → H' p = some (.tup (vns (stretch (q ^ i) as))) → (stretch (q ^ i) as).length = q ^ i * (as.length - 1) + 1 → Q (.ref p) H'
section
variable {P : Program} {w : World} {K : PySem.W.Frag} {mg : Str → Option Value} {base : Heap} {aF aP aW : Addr}
theorem ok_l_product (T : Txt K mg aF aP aW) (d : Df K mg "_law_product" s_l_product ["_law_field_here", "_law_one", "_law_other"]) : C8.Cal P w K mg base 1 "_law_product" (spProd K) [] := by
  refine cal_of d sc_l_product (fun vs H Q E h => ?_) (fun f cdv A outer s H vs Q E hr h => ?_)
  · obtain ⟨fv, q, a, b, as, bs, rfl, _⟩ := h
    rfl
  · obtain ⟨fv, q, a, b, as, bs, rfl, hF, ha, hb, la, lb, na, nb, k⟩ := h
    have hq := hF.isq
    obtain ⟨q1, q2, p1, p2, f1, f2⟩ := Qs_facts hq
    refine ⟨_, (pss_cons (ps_if (PW.pt (pw_or (pt_cmpR (op_eqNil hr.units) (pv 1) (pe_tup pa_nil) (nomark _)) (pw_or1 (pt_cmpR (op_eqNil hr.units) (pv 2) (pe_tup pa_nil) (nomark _))))) (pss_one (ps_ret (pe_tup pa_nil))) pss_nil)
      (pss_cons (ps_par3 (i := 3) (j := 4) (l := 5) rfl sc_l_product.nd rfl rfl rfl (by decide) (by decide) (by decide) rfl rfl rfl (pa_cons (pe_op op_rep (pe_lst (pa_cons pe_int pa_nil)) (pe_op nSub (pe_op nAdd (pe_callB call_len_seq (by rfl) T.len_ PySem.boot_len (pa_cons (pv 1) pa_nil)) (pe_callB call_len_seq (by rfl) T.len_ PySem.boot_len (pa_cons (pv 2) pa_nil))) pe_int)) (pa_cons (pe_dget (hu_of hr) (pv 0) pe_str (fun _ _ => rfl)) (pa_cons (pe_dget (hu_of hr) (pv 0) pe_str (fun _ _ => rfl)) pa_nil))) (by rfl))
      (pss_cons (ps_for PassesOwn.never rfl (pi_enumK true (by rfl) T.enumerate_ (pa_cons (pv 2) pa_nil)) (pg_tup rfl (pgs_cons (pg_name (i := 6) sc_l_product.nd rfl (Or.inl rfl)) (pgs_cons (pg_name (i := 7) sc_l_product.nd rfl (Or.inl rfl)) pgs_nil))) (pss_one (ps_if (pt_cmpR nNe (pv 7) pe_int (nomark _)) (pss_one (ps_for PassesOwn.never rfl (pi_enumK true (by rfl) T.enumerate_ (pa_cons (pv 1) pa_nil)) (pg_tup rfl (pgs_cons (pg_name (i := 8) sc_l_product.nd rfl (Or.inl rfl)) (pgs_cons (pg_name (i := 9) sc_l_product.nd rfl (Or.inl rfl)) pgs_nil))) (pss_one (ps_asg (pe_ix ix_list (pe_ix ix_list (pv 4) (pe_ix ix_list (pv 3) (pe_op nAdd (pv 8) (pv 6)) (fun _ _ => rfl)) (fun _ _ => rfl)) (pe_ix ix_list (pe_ix ix_list (pv 5) (pv 9) (fun _ _ => rfl)) (pv 7) (fun _ _ => rfl)) (fun _ _ => rfl)) (pg_sub (pv 3) (pe_op nAdd (pv 8) (pv 6)) set_list))))) pss_nil)))
      (pss_one (ps_ret (pe_callTy call_tuple_of (by rfl) T.tuple_ (by decide +kernel) (pa_cons (pv 3) pa_nil))))))), ?_⟩
    refine ⟨_, rfl, by decide, fun z1 n1 => ⟨a, z1, as.map fun n : Nat => (n : Int), rfl, rfl, sq_cast (Same.tup (Same.new n1) ha), SqT.of upd_same, _, rfl, ?_⟩⟩
    refine ite2 (fun h0 => ?_) (fun h0 => ?_)
    · have e0 := is_nil h0
      subst e0
      refine iteT ⟨by decide, fun z2 n2 => k _ _ ((Same.new n1).trans (Same.new n2)) ?_ ?_⟩
      · rw [show pProd q [] bs = [] from if_pos (.inl rfl)]; exact upd_same
      · rw [show pProd q [] bs = [] from if_pos (.inl rfl)]; intro x hx; cases hx
    · have hne := not_nil h0
      refine ⟨_, rfl, by decide, fun z2 n2 => ⟨b, z2, bs.map fun n : Nat => (n : Int), rfl, rfl, sq_cast (Same.tup ((Same.new n1).trans (Same.new n2)) hb), SqT.of upd_same, _, rfl, ?_⟩⟩
      have sA := (Same.new (o := .tup []) n1).trans (Same.new (o := .tup []) n2)
      refine ite2 (fun h1 => ?_) (fun h1 => ?_)
      · have e1 := is_nil h1
        subst e1
        refine ⟨by decide, fun z2 n2 => k _ _ (sA.trans (Same.new n2)) ?_ ?_⟩
        · rw [show pProd q as [] = [] from if_pos (.inr rfl)]; exact upd_same
        · rw [show pProd q as [] = [] from if_pos (.inr rfl)]; intro x hx; cases hx
      · have hne1 := not_nil h1
        have la0 : 0 < as.length := List.length_pos_iff.mpr hne
        have lb0 : 0 < bs.length := List.length_pos_iff.mpr hne1
        have epr : pProd q as bs = bs.zipIdx.foldl (fun found rj => if rj.1 ≠ 0 then pInner q rj.2 rj.1 found as else found) (List.replicate (as.length + bs.length - 1) 0) := if_neg (fun h => h.elim hne hne1)
        refine ⟨by decide, fun l0 n0 => ⟨_, rfl, a, _, rfl, .inr (Same.tup (sA.trans (Same.new n0)) ha), _, rfl, b, _, rfl, .inr (Same.tup (sA.trans (Same.new n0)) hb), ?_⟩⟩
        rw [vns_len, vns_len]
        refine ⟨_, _, rfl, rfl, trivial, as.length + bs.length, 1, rfl, rfl, by omega, l0, ((as.length + bs.length - 1 : Nat) : Int), [vn 0], rfl, rfl, upd_same, by omega, by omega, by rw [line24, Int.toNat_natCast]; show 1 * _ ≤ _; omega, fun pf npf => ?_⟩
        rw [Int.toNat_natCast, rep_v]
        have npf' : H pf = none := (sA.trans (Same.new n0)).free npf
        have sB := (sA.trans (Same.new (o := .lst [vn 0]) n0)).trans (Same.new (o := .lst (vns (List.replicate (as.length + bs.length - 1) 0))) npf)
        obtain ⟨fa, ef, _, _, _, pp, pm, g4, g5, g6, g7⟩ := hF.at
        refine ⟨_, rfl, fa, .ref pp, ef, dget_mono g4 sB, _, rfl, fa, .ref pm, ef, dget_mono g5 sB, _, _, _, rfl, ?_⟩
        refine ⟨_, rfl, b, vns bs, rfl, Same.tup sB hb, ?_⟩
        refine forE (k := true) (K := K) (a := b) (vs := vns bs) bs (fun found rj => if rj.1 ≠ 0 then pInner q rj.2 rj.1 found as else found) (List.replicate (as.length + bs.length - 1) 0)
          (fun found σ H' => found.length = as.length + bs.length - 1 ∧ Low q found ∧ Same H H' ∧ H' pf = some (.lst (vns found)) ∧ ∃ t6 t7 t8 t9, σ = [some fv, some (.ref a), some (.ref b), some (.ref pf), some (.ref pp), some (.ref pm), t6, t7, t8, t9]) (vns_len _)
          ⟨List.length_replicate, low_rep (by omega), sB, upd_same, none, none, none, none, rfl⟩ (fun acc σ H' h => Same.tup h.2.2.1 hb) ?_ ?_
        · rintro j v r found σ H1 T1 hv hy _ ⟨hlen, hlow, sm, h1, t6, t7, t8, t9, rfl⟩ hT1
          have ev : v = vn r := by rw [vns_at hy] at hv; exact (Option.some.inj hv).symm
          subst ev
          have hjl : j < bs.length := (List.getElem?_eq_some_iff.mp hy).1
          have lr : r < q := lb r (List.mem_of_getElem? hy)
          refine ⟨T1, _, rfl, SqT.of upd_same, rfl, ?_⟩
          refine ⟨_, _, rfl, _, _, rfl, rfl, ?_⟩
          have smT := sm.trans (Same.new (o := .tup [vn j, vn r]) hT1)
          have h1T := (Same.new (o := .tup [vn j, vn r]) hT1) _ _ h1
          refine ⟨_, rfl, r, 0, rfl, rfl, _, rfl, ?_⟩
          refine ite2 (fun c0 => ?_) (fun c0 => ?_)
          · have c0 : r ≠ 0 := fun e => by rw [e] at c0; exact absurd c0 (by decide)
            rw [if_pos c0]
            refine ⟨_, rfl, a, vns as, rfl, Same.tup smT ha, ?_⟩
            refine forE (k := true) (K := K) (a := a) (vs := vns as) as (fun found li => found.set (li.2 + j) (lk (plusT q) (found.getD (li.2 + j) 0) (lk (mulT q) li.1 r))) found
              (fun found σ H' => found.length = as.length + bs.length - 1 ∧ Low q found ∧ Same H H' ∧ H' pf = some (.lst (vns found)) ∧ ∃ t8 t9, σ = [some fv, some (.ref a), some (.ref b), some (.ref pf), some (.ref pp), some (.ref pm), some (vn j), some (vn r), t8, t9]) (vns_len _)
              ⟨hlen, hlow, smT, h1T, _, _, rfl⟩ (fun acc σ H' h => Same.tup h.2.2.1 ha) ?_ ?_
            · rintro i v l found2 σ H2 T2 hv hx _ ⟨hlen2, hlow2, sm2, h2, u8, u9, rfl⟩ hT2
              have ev : v = vn l := by rw [vns_at hx] at hv; exact (Option.some.inj hv).symm
              subst ev
              have hil : i < as.length := (List.getElem?_eq_some_iff.mp hx).1
              have ll : l < q := la l (List.mem_of_getElem? hx)
              have hix : i + j < found2.length := by omega
              refine ⟨T2, _, rfl, SqT.of upd_same, rfl, ?_⟩
              refine ⟨_, _, rfl, _, _, rfl, rfl, ?_⟩
              have smU := sm2.trans (Same.new (o := .tup [vn i, vn l]) hT2)
              have h2T := (Same.new (o := .tup [vn i, vn l]) hT2) _ _ h2
              have lf := low_at hlow2 hix
              have lm := (tabs_low q hq l ll r lr).2
              obtain ⟨rows1, r1, x1, x2, x3⟩ := (g6.mono smU).row lf
              obtain ⟨rows2, r2, y1, y2, y3⟩ := (g7.mono smU).row ll
              have el : eSum (pOf q) (fOf q) (found2.getD (i + j) 0) (eProd (pOf q) (fOf q) l r) = lk (plusT q) (found2.getD (i + j) 0) (lk (mulT q) l r) := by rw [lk_mul ll lr, lk_plus lf lm]
              refine ⟨_, rfl, _, rfl, _, rfl, _, rfl, i, j, rfl, rfl, trivial, pf, _, ((i + j : Nat) : Int), _, rfl, rfl, SqL.of h2T, atI_vns hix, pp, rows1, _, .ref r1, rfl, rfl, SqL.of x1, x2, ?_⟩
              refine ⟨_, rfl, _, rfl, pm, rows2, _, .ref r2, rfl, rfl, SqL.of y1, y2, _, rfl, r2, _, ((r : Nat) : Int), _, rfl, rfl, SqL.of y3, row_at q _ lr, r1, _, _, _, rfl, rfl, SqL.of x3, row_at q _ lm, ?_⟩
              refine ⟨_, rfl, _, rfl, _, rfl, i, j, rfl, rfl, trivial, pf, _, ((i + j : Nat) : Int), i + j, rfl, rfl, h2T, ixN_vns hix, ?_⟩
              rw [vns_set, el]
              refine ⟨by rw [List.length_set]; exact hlen2, low_set hlow2 _ (by rw [← el]; exact (tabs_low q hq _ lf _ lm).1), Same.upd smU npf', upd_same, _, _, rfl⟩
            · rintro σ H2 ⟨hlen2, hlow2, sm2, h2, u8, u9, rfl⟩
              exact ⟨hlen2, hlow2, sm2, h2, _, _, _, _, rfl⟩
          · have c0 : r = 0 := Classical.not_not.mp fun e => c0 (by show (!decide (r = 0)) = true; rw [decide_eq_false e]; rfl)
            rw [if_neg (fun e => e c0)]
            exact ⟨hlen, hlow, smT, h1T, _, _, _, _, rfl⟩
        · rintro σ H1 ⟨hlen, hlow, sm, h1, t6, t7, t8, t9, rfl⟩
          refine ⟨_, rfl, pf, _, rfl, .inl ⟨SqL.of h1, fun l hl => ?_⟩⟩
          rw [← epr]
          rw [← epr] at hlow
          exact k _ _ (sm.trans (Same.new hl)) upd_same hlow
theorem ok_l_stretched (T : Txt K mg aF aP aW) (d : Df K mg "_law_stretched" s_l_stretched ["_law_q_here", "_law_one", "_law_i"]) (c_l_raised : C8.Cal P w K mg base 1 "_law_raised" spRaised []) : C8.Cal P w K mg base 2 "_law_stretched" (spStretch K) [] := by
  refine cal_of d sc_l_stretched (fun vs H Q E h => ?_) (fun f cdv A outer s H vs Q E hr h => ?_)
  · obtain ⟨q, i, a, as, rfl, _⟩ := h
    rfl
  · obtain ⟨q, i, a, as, rfl, q0, q1, i1, ha, hne, hb, k⟩ := h
    refine ⟨_, (pss_cons (ps_set (i := 3) sc_l_stretched.nd rfl (Or.inl rfl) (pe_c c_l_raised hr (by decide) rfl (pa_cons (pv 0) (pa_cons (pv 2) pa_nil))))
      (pss_cons (ps_set (i := 4) sc_l_stretched.nd rfl (Or.inl rfl) (pe_ifExp (pt_cmpR (op_neNil hr.units) (pv 1) (pe_tup pa_nil) (nomark _)) (pe_op op_rep (pe_lst (pa_cons pe_int pa_nil)) (pe_op nAdd (pe_op nMul (pv 3) (pe_op nSub (pe_callB call_len_seq (by rfl) T.len_ PySem.boot_len (pa_cons (pv 1) pa_nil)) pe_int)) pe_int)) (pe_lst pa_nil)))
      (pss_cons (ps_for PassesOwn.never rfl (pi_enumK true (by rfl) T.enumerate_ (pa_cons (pv 1) pa_nil)) (pg_tup rfl (pgs_cons (pg_name (i := 5) sc_l_stretched.nd rfl (Or.inl rfl)) (pgs_cons (pg_name (i := 6) sc_l_stretched.nd rfl (Or.inl rfl)) pgs_nil))) (pss_one (ps_asg (pv 6) (pg_sub (pv 4) (pe_op nMul (pv 3) (pv 5)) set_list))))
      (pss_one (ps_ret (pe_callTy call_tuple_of (by rfl) T.tuple_ (by decide +kernel) (pa_cons (pv 4) pa_nil))))))), ?_⟩
    have hl0 : 0 < as.length := List.length_pos_iff.mpr hne
    have hs0 : 0 < q ^ i := Nat.pow_pos q0
    refine ⟨_, rfl, _, rfl, q, i, rfl, by omega, by omega, ?_⟩
    have est : stretch (q ^ i) as = as.zipIdx.foldl (fun found xa => found.set (q ^ i * xa.2) xa.1) (List.replicate (q ^ i * (as.length - 1) + 1) 0) := by
      unfold stretch
      rw [if_pos hne]
    have hsm : q ^ i ≤ 1000000 := Nat.le_trans (Nat.le_mul_of_pos_right _ hl0) hb
    generalize q ^ i = step at hb hs0 est hsm k ⊢
    have hle : step * (as.length - 1) + 1 ≤ 1000000 := by
      have e1 : step * as.length = step * (as.length - 1) + step := by
        have e2 : as.length = (as.length - 1) + 1 := by omega
        rw [e2, Nat.mul_succ]
        rfl
      omega
    have bnd : ∀ j, j < as.length → step * j < step * (as.length - 1) + 1 := fun j hj => by
      have := Nat.mul_le_mul_left step (show j ≤ as.length - 1 by omega)
      omega
    generalize hL : step * (as.length - 1) + 1 = L at hle bnd est k
    refine ⟨_, rfl, by decide, fun z1 n1 => ⟨a, z1, as.map fun n : Nat => (n : Int), rfl, rfl, sq_cast (Same.tup (Same.new n1) ha), SqT.of upd_same, _, rfl, ?_⟩⟩
    refine ite2 (fun h0 => ?_) (fun h0 => absurd (by show (!_) = true; rw [isEmpty_cast]; cases as with | nil => exact absurd rfl hne | cons x y => rfl) h0)
    refine ⟨by decide, fun l0 n0 => ⟨_, rfl, _, rfl, a, _, rfl, .inr (Same.tup ((Same.new n1).trans (Same.new n0)) ha), ?_⟩⟩
    rw [vns_len]
    refine ⟨_, 1, rfl, rfl, by omega, step, as.length - 1, rfl, rfl, .inl (by omega), step * (as.length - 1), 1, rfl, rfl, trivial, ?_⟩
    have sA := (Same.new (o := .tup []) n1).trans (Same.new (o := .lst [vn 0]) n0)
    refine ⟨l0, ((L : Nat) : Int), [vn 0], rfl, by rw [← hL], upd_same, by omega, by omega, by rw [line24, Int.toNat_natCast]; show 1 * _ ≤ _; omega, fun pf npf => ?_⟩
    rw [Int.toNat_natCast, rep_v]
    have npf' : H pf = none := sA.free npf
    have sB := sA.trans (Same.new (o := .lst (vns (List.replicate L 0))) npf)
    refine ⟨_, rfl, a, vns as, rfl, Same.tup sB ha, ?_⟩
    refine forE (k := true) (K := K) (a := a) (vs := vns as) as (fun found xa => found.set (step * xa.2) xa.1) (List.replicate L 0)
      (fun found σ H' => found.length = L ∧ Same H H' ∧ H' pf = some (.lst (vns found)) ∧ ∃ t5 t6, σ = [some (vn q), some (.ref a), some (vn i), some (vn step), some (.ref pf), t5, t6]) (vns_len _)
      ⟨List.length_replicate, sB, upd_same, none, none, rfl⟩ (fun acc σ H' h => Same.tup h.2.1 ha) ?_ ?_
    · rintro j v y found σ H1 T1 hv hy _ ⟨hlen, sm, h1, t5, t6, rfl⟩ hT1
      have ev : v = vn y := by rw [vns_at hy] at hv; exact (Option.some.inj hv).symm
      subst ev
      have hjl : j < as.length := (List.getElem?_eq_some_iff.mp hy).1
      have hix : step * j < found.length := by rw [hlen]; exact bnd j hjl
      refine ⟨T1, _, rfl, SqT.of upd_same, rfl, ?_⟩
      refine ⟨_, _, rfl, _, _, rfl, rfl, ?_⟩
      have h1T := (Same.new (o := .tup [vn j, vn y]) hT1) _ _ h1
      refine ⟨_, rfl, _, rfl, _, rfl, _, rfl, step, j, rfl, rfl, .inl (by omega), pf, _, ((step * j : Nat) : Int), step * j, rfl, rfl, h1T, ixN_vns hix, ?_⟩
      rw [vns_set]
      exact ⟨by rw [List.length_set]; exact hlen, Same.upd (sm.trans (Same.new hT1)) npf', upd_same, _, _, rfl⟩
    · rintro σ H1 ⟨hlen, sm, h1, t5, t6, rfl⟩
      refine ⟨_, rfl, pf, _, rfl, .inl ⟨SqL.of h1, fun l hl => ?_⟩⟩
      rw [← est]
      rw [← est] at hlen
      exact k _ _ (sm.trans (Same.new hl)) upd_same hlen
end
end Mo
namespace Mo
open PySem PySem.Spec PyProof.Rows L2
open C8 (pe_c pe_gc)
/-! ### plain -/
theorem fold_len {α : Type} (f : List Nat → α → List Nat) (h : ∀ l z, (f l z).length = l.length) : ∀ (zs : List α) (l : List Nat), (zs.foldl f l).length = l.length
  | [], _ => rfl
  | z :: zs, l => by rw [List.foldl_cons, fold_len f h zs, h]
theorem fold_low {q : Nat} {α : Type} (f : List Nat → α → List Nat) (zs : List α) (h : ∀ l z, z ∈ zs → Low q l → Low q (f l z)) : ∀ l, Low q l → Low q (zs.foldl f l) := by
  induction zs with
  | nil => exact fun l hl => hl
  | cons z zs ih => exact fun l hl => ih (fun l z hz => h l z (List.mem_cons_of_mem _ hz)) _ (h l z (List.mem_cons_self ..) hl)
theorem zipIdx_low {q : Nat} {l : List Nat} (h : Low q l) : ∀ z ∈ l.zipIdx, z.1 < q := fun z hz => by
  obtain ⟨a, i⟩ := z
  have e := List.mem_zipIdx_iff_getElem?.mp hz
  exact h a (List.mem_of_getElem? e)
theorem stretch_len {step : Nat} {a : List Nat} (h : a ≠ []) : (stretch step a).length = step * (a.length - 1) + 1 := by
  unfold stretch
  rw [fold_len _ (fun l z => List.length_set ..), if_pos h, List.length_replicate]
theorem low_stretch {q step : Nat} {a : List Nat} (hq : 0 < q) (h : Low q a) : Low q (stretch step a) := by
  unfold stretch
  refine fold_low _ _ (fun l z hz hl => low_set hl _ (zipIdx_low h z hz)) _ ?_
  split
  · exact low_rep hq
  · intro x hx; cases hx
theorem pProd_len (q : Nat) (a b : List Nat) : (pProd q a b).length ≤ a.length + b.length := by
  unfold pProd
  split
  · exact Nat.zero_le _
  · have e : ∀ l (z : Nat × Nat), (if z.1 ≠ 0 then pInner q z.2 z.1 l a else l).length = l.length := fun l z => by
      split
      · exact pInner_len q z.2 z.1 _ _
      · rfl
    rw [fold_len _ e, List.length_replicate]
    omega
theorem pRep_len (q : Nat) (big : List Nat) : ∀ n found, (pRep q big n found).length ≤ found.length + n * big.length
  | 0, found => by show found.length ≤ _; omega
  | n + 1, found => by
    have h1 := pRep_len q big n (pProd q found big)
    have h2 := pProd_len q found big
    show (pRep q big n (pProd q found big)).length ≤ _
    rw [Nat.succ_mul]
    omega
theorem pRep_fold (q : Nat) (big : List Nat) : ∀ n found, (List.range n).foldl (fun f _ => pProd q f big) found = pRep q big n found
  | 0, _ => rfl
  | n + 1, found => by
    have e : ∀ m found, pRep q big m (pProd q found big) = pProd q (pRep q big m found) big := fun m => by
      induction m with
      | zero => exact fun _ => rfl
      | succ m ih => exact fun found => ih _
    rw [List.range_succ, List.foldl_append, pRep_fold q big n found]
    show pProd q (pRep q big n found) big = pRep q big n (pProd q found big)
    rw [e]
theorem digs_pow {q : Nat} (hq : 2 ≤ q) : ∀ (i k : Nat), i < (digs q k).length → q ^ i ≤ k
  | i, 0, h => by simp [digs_zero] at h
  | 0, k + 1, h => by show 1 ≤ k + 1; omega
  | i + 1, k + 1, h => by
    rw [digs_pos hq (Nat.succ_pos k)] at h
    have h1 := digs_pow hq i ((k + 1) / q) (by simpa using h)
    rw [Nat.pow_succ]
    exact Nat.le_trans (Nat.mul_le_mul_right q h1) (Nat.div_mul_le_self _ _)
def powF (q : Nat) (a : List Nat) (found : List Nat) (di : Nat × Nat) : List Nat := pRep q (stretch (q ^ di.2) a) di.1 found
theorem pow_len {q : Nat} {a : List Nat} : ∀ (zs : List (Nat × Nat)), (∀ z ∈ zs, (stretch (q ^ z.2) a).length ≤ 400 ∧ z.1 ≤ 9) → ∀ found, (zs.foldl (powF q a) found).length ≤ found.length + 3600 * zs.length
  | [], _, found => by show found.length ≤ _; omega
  | z :: zs, h, found => by
    have h1 := pow_len zs (fun y hy => h y (List.mem_cons_of_mem _ hy)) (powF q a found z)
    have h2 := pRep_len q (stretch (q ^ z.2) a) z.1 found
    obtain ⟨h3, h4⟩ := h z (List.mem_cons_self ..)
    have h5 : z.1 * (stretch (q ^ z.2) a).length ≤ 9 * 400 := Nat.mul_le_mul h4 h3
    rw [List.foldl_cons, List.length_cons]
    have h6 : (powF q a found z).length ≤ found.length + 3600 := Nat.le_trans h2 (by omega)
    omega
theorem digs_z {q k : Nat} {a : List Nat} (hq : 2 ≤ q) (hq9 : q ≤ 9) (hk : k ≤ 80) (ha : a ≠ []) (hl : a.length ≤ 5) : ∀ z ∈ (digs q k).zipIdx, (stretch (q ^ z.2) a).length ≤ 400 ∧ z.1 ≤ 9 := fun z hz => by
  obtain ⟨x, i⟩ := z
  have e := List.mem_zipIdx_iff_getElem?.mp hz
  have h1 : i < (digs q k).length := (List.getElem?_eq_some_iff.mp e).1
  have h2 := digs_pow hq i k h1
  have h3 : x < q := digs_lt (by omega) _ _ _ (List.mem_of_getElem? e)
  refine ⟨?_, by show x ≤ 9; omega⟩
  rw [stretch_len ha]
  have h4 : q ^ i * (a.length - 1) ≤ 80 * 4 := Nat.mul_le_mul (by omega) (by omega)
  show q ^ i * (a.length - 1) + 1 ≤ 400
  omega
theorem pPow_len {q k : Nat} {a : List Nat} (hq : 2 ≤ q) (hq9 : q ≤ 9) (hk : k ≤ 80) (ha : a ≠ []) (hl : a.length ≤ 5) : (pPow q a k).length ≤ 300000 := by
  have h1 := pow_len (digs q k).zipIdx (digs_z hq hq9 hk ha hl) [1]
  have h2 := digs_len q k
  have e : (digs q k).zipIdx.length = (digs q k).length := by simp
  rw [e] at h1
  show ((digs q k).zipIdx.foldl (powF q a) [1]).length ≤ 300000
  have e1 : [1].length = 1 := rfl
  omega
def spPow (K : PySem.W.Frag) : Sp := fun vs H Q _ => ∃ (fv : V) (q k : Nat) (a : Addr) (as : List Nat), vs = [fv, .ref a, vn k] ∧ FieldR H fv q ∧ SqT K H a (vns as) ∧ Low q as ∧ as ≠ [] ∧ as.length ≤ 5 ∧ k ≤ 80 ∧
  ∀ H' p, Same H H' → SqT K H' p (vns (pPow q as k)) → Low q (pPow q as k) → Q (.ref p) H'
/-- a list of tuples of numbers -/
def LTN (K : PySem.W.Frag) (H : Hp) (p : Addr) (yss : List (List Nat)) : Prop := ∃ ws, H p = some (.lst ws) ∧ Paired (TN K H) ws yss
theorem LTN.mono {K : PySem.W.Frag} {H H' : Hp} {p : Addr} {yss : List (List Nat)} (h : LTN K H p yss) (e : Same H H') : LTN K H' p yss := let ⟨ws, a, b⟩ := h; ⟨ws, e _ _ a, paired_mono b fun v ns t => t.mono e⟩
theorem LTN.add {K : PySem.W.Frag} {H : Hp} {p : Addr} {yss : List (List Nat)} {ws : List V} (h : H p = some (.lst ws)) (hp : Paired (TN K H) ws yss) {t : Addr} {ns : List Nat} (ht : SqT K H t (vns ns)) : LTN K (upd H p (.lst (ws ++ [.ref t]))) p (yss ++ [ns]) := by
  have sb : SameBut p H (upd H p (.lst (ws ++ [.ref t]))) := fun b o hb e => by rw [upd_ne hb]; exact e
  exact ⟨_, upd_same, paired_app (paired_mono hp fun v ns q => q.but h sb) (.cons ⟨t, rfl, sb.tup h ht⟩ .nil)⟩
theorem fold_app {β : Type} (g : Nat → β) (n : Nat) : (List.range n).foldl (fun acc i => acc ++ [g i]) [] = (List.range n).map g := by
  induction n with
  | zero => rfl
  | succ n ih => rw [List.range_succ, List.foldl_append, ih, List.map_append]; rfl
theorem digs_fit {q : Nat} (hq : 2 ≤ q) {d n : Nat} (h : n < q ^ d) : (digs q n).length ≤ d := by
  by_cases c : d < (digs q n).length
  · have := digs_pow hq d n c
    omega
  · omega
theorem catA_all {K : PySem.W.Frag} {H : Hp} {x y : V} {Q : VK} {a b : Addr} {xs ys : List V} (ex : x = .ref a) (ey : y = .ref b) (ha : SqT K H a xs) (hb : SqT K H b ys) (hl : xs.length + ys.length ≤ sizeLine) (k : ∀ H' p, Same H H' → SqT K H' p (xs ++ ys) → Q (.ref p) H') : rCatA K x y H Q := by
  refine ⟨a, b, xs, ys, ex, ey, ha, hb, hl, fun e => k _ _ (Same.refl _) ?_, fun _ e => k _ _ (Same.refl _) ?_, fun _ _ p hp => k _ _ (Same.new hp) (SqT.of upd_same)⟩
  · rw [e]; exact hb
  · rw [e, List.append_nil]; exact ha
theorem repN_all {K : PySem.W.Frag} {H : Hp} {x y : V} {Q : VK} {l : Addr} {k : Nat} {v : V} (ex : x = .ref l) (ey : y = vn k) (hl : SqT K H l [v]) (hk : k ≤ 1000) (q : ∀ H' p, Same H H' → SqT K H' p (List.replicate k v) → Q (.ref p) H') : rRepN K x y H Q := by
  refine ⟨l, k, v, ex, ey, hl, hk, fun e => q _ _ (Same.refl _) ?_, fun e p hp => q _ _ (Same.new hp) (SqT.of upd_same)⟩
  subst e
  exact hl
def spLower (K : PySem.W.Frag) : Sp := fun vs H Q _ => ∃ q d : Nat, vs = [vn q, vn d] ∧ 2 ≤ q ∧ q ≤ 9 ∧ d ≤ 100 ∧ q ^ d ≤ 1000 ∧ ∀ H' p, Same H H' → LTN K H' p (lower q d) → Q (.ref p) H'
def spMonics (K : PySem.W.Frag) : Sp := fun vs H Q _ => ∃ q d : Nat, vs = [vn q, vn d] ∧ 2 ≤ q ∧ q ≤ 9 ∧ d ≤ 100 ∧ q ^ d ≤ 1000 ∧ ∀ H' p, Same H H' → LTN K H' p (monics q d) → Q (.ref p) H'
section
variable {P : Program} {w : World} {K : PySem.W.Frag} {mg : Str → Option Value} {base : Heap} {aF aP aW : Addr}
theorem ok_l_power (T : Txt K mg aF aP aW) (d : Df K mg "_law_power" s_l_power ["_law_field_here", "_law_one", "_law_k"]) (c_l_digits : C8.Cal P w K mg base 1 "_law_digits" spDigs []) (c_l_stretched : C8.Cal P w K mg base 2 "_law_stretched" (spStretch K) []) (c_l_product : C8.Cal P w K mg base 1 "_law_product" (spProd K) []) : C8.Cal P w K mg base 3 "_law_power" (spPow K) [] := by
  refine cal_of d sc_l_power (fun vs H Q E h => ?_) (fun f cdv A outer s H vs Q E hr h => ?_)
  · obtain ⟨fv, q, k, a, as, rfl, _⟩ := h
    rfl
  · obtain ⟨fv, q, k0, a, as, rfl, hF, ha, la, hne, hl5, hk80, k⟩ := h
    have hq := hF.isq
    obtain ⟨q1, q2, p1, p2, f1, f2⟩ := Qs_facts hq
    have hz := digs_z (a := as) q1 q2 hk80 hne hl5
    refine ⟨_, (pss_cons (ps_set (i := 3) sc_l_power.nd rfl (Or.inl rfl) (pe_tup (pa_cons pe_int pa_nil)))
      (pss_cons (ps_for PassesOwn.never rfl (pi_enumK false (by rfl) T.enumerate_ (pa_cons (pe_c c_l_digits hr (by decide) rfl (pa_cons (pe_dget (hu_of hr) (pv 0) pe_str (fun _ _ => rfl)) (pa_cons (pv 2) pa_nil))) pa_nil)) (pg_tup rfl (pgs_cons (pg_name (i := 4) sc_l_power.nd rfl (Or.inl rfl)) (pgs_cons (pg_name (i := 5) sc_l_power.nd rfl (Or.inl rfl)) pgs_nil))) (pss_cons (ps_set (i := 6) sc_l_power.nd rfl (Or.inl rfl) (pe_c c_l_stretched hr (by decide) rfl (pa_cons (pe_dget (hu_of hr) (pv 0) pe_str (fun _ _ => rfl)) (pa_cons (pv 1) (pa_cons (pv 4) pa_nil)))))
      (pss_one (ps_for PassesOwn.never rfl (pi_range1 (by rfl) T.range_ (pa_cons (pv 5) pa_nil)) (pg_name (i := 7) sc_l_power.nd rfl (Or.inl rfl)) (pss_one (ps_set (i := 3) sc_l_power.nd rfl (Or.inl rfl) (pe_c c_l_product hr (by decide) rfl (pa_cons (pv 0) (pa_cons (pv 3) (pa_cons (pv 6) pa_nil))))))))))
      (pss_one (ps_ret (pv 3))))), ?_⟩
    obtain ⟨fa, ef, g1, _⟩ := hF.at
    refine ⟨by decide, fun f0 n0 => ?_⟩
    have sA := Same.new (o := .tup [vn 1]) n0
    refine ⟨_, rfl, fa, vn q, ef, dget_mono g1 sA, _, rfl, q, k0, rfl, q1, by omega, by omega, fun dl ndl => ?_⟩
    refine ⟨dl, vns (digs q k0), rfl, SqL.of upd_same, ?_⟩
    have sB := sA.trans (Same.new (o := .lst (vns (digs q k0))) ndl)
    refine forE (k := false) (K := K) (a := dl) (vs := vns (digs q k0)) (digs q k0) (powF q as) [1]
      (fun found σ H' => Low q found ∧ Same H H' ∧ H' dl = some (.lst (vns (digs q k0))) ∧ ∃ fp t4 t5 t6 t7, SqT K H' fp (vns found) ∧ σ = [some fv, some (.ref a), some (vn k0), some (.ref fp), t4, t5, t6, t7]) (vns_len _)
      ⟨fun x hx => by rw [List.mem_singleton.mp hx]; omega, sB, upd_same, f0, none, none, none, none, SqT.of ((Same.new ndl) _ _ upd_same), rfl⟩ (fun acc σ H' h => SqL.of h.2.2.1) ?_ ?_
    · rintro i v y found σ H1 T1 hv hy eacc ⟨hlow, sm, hdl, fp, t4, t5, t6, t7, hfp, rfl⟩ hT1
      have ev : v = vn y := by rw [vns_at hy] at hv; exact (Option.some.inj hv).symm
      subst ev
      have hmem : (y, i) ∈ (digs q k0).zipIdx := List.mem_zipIdx_iff_getElem?.mpr hy
      have hzi := hz _ hmem
      have hil : i < (digs q k0).length := (List.getElem?_eq_some_iff.mp hy).1
      have hdl80 := digs_len q k0
      have hqi := digs_pow q1 i k0 hil
      have flen : found.length ≤ 290000 := by
        rw [eacc]
        have z1 := pow_len (a := as) ((digs q k0).zipIdx.take i) (fun z hz' => hz z (List.mem_of_mem_take hz')) [1]
        have z2 : ((digs q k0).zipIdx.take i).length ≤ i := by rw [List.length_take]; omega
        have e1 : [1].length = 1 := rfl
        omega
      have s1 := sm.trans (Same.new (o := .tup [vn i, vn y]) hT1)
      refine ⟨T1, _, rfl, SqT.of upd_same, rfl, ?_⟩
      refine ⟨_, _, rfl, _, _, rfl, rfl, ?_⟩
      have hb : q ^ i * as.length ≤ 1000000 := Nat.le_trans (Nat.mul_le_mul (Nat.le_trans hqi hk80) hl5) (by decide)
      refine ⟨_, rfl, fa, vn q, ef, dget_mono g1 s1, _, rfl, _, rfl, q, i, a, as, rfl, by omega, by omega, by omega, Same.tup s1 ha, hne, hb, fun H2 bp sm2 hbp blen => ?_⟩
      have lbig : Low q (stretch (q ^ i) as) := low_stretch (by omega) la
      have s2 := s1.trans sm2
      refine ⟨_, rfl, (y : Int), rfl, by omega, by omega, ?_⟩
      refine forR0 (n := y) (fun f _ => pProd q f (stretch (q ^ i) as)) found
        (fun found σ H' => Low q found ∧ Same H2 H' ∧ ∃ fp t7, SqT K H' fp (vns found) ∧ σ = [some fv, some (.ref a), some (vn k0), some (.ref fp), some (vn i), some (vn y), some (.ref bp), t7])
        ⟨hlow, Same.refl _, fp, t7, Same.tup ((Same.new hT1).trans sm2) hfp, rfl⟩ ?_ ?_
      · rintro j acc σ H3 hj ea ⟨hlow3, sm3, fp3, t73, hfp3, rfl⟩
        have alen : acc.length ≤ 300000 := by
          rw [ea, pRep_fold]
          have z1 := pRep_len q (stretch (q ^ i) as) j found
          have z2 : j * (stretch (q ^ i) as).length ≤ 9 * 400 := Nat.mul_le_mul (by have := hzi.2; omega) hzi.1
          omega
        refine ⟨_, rfl, _, rfl, _, rfl, fv, q, fp3, bp, acc, stretch (q ^ i) as, rfl, hF.mono (s2.trans sm3), hfp3, SqT.of (sm3 _ _ hbp), hlow3, lbig, by omega, Nat.le_trans hzi.1 (by decide), fun H4 p4 sm4 hp4 lp4 => ?_⟩
        exact ⟨lp4, sm3.trans sm4, p4, _, SqT.of hp4, rfl⟩
      · rintro σ H3 ⟨hlow3, sm3, fp3, t73, hfp3, rfl⟩
        rw [pRep_fold] at hlow3 hfp3
        exact ⟨hlow3, s2.trans sm3, sm3 _ _ (sm2 _ _ ((Same.new hT1) _ _ hdl)), fp3, _, _, _, _, hfp3, rfl⟩
    · rintro σ H1 ⟨hlow, sm, hdl, fp, t4, t5, t6, t7, hfp, rfl⟩
      exact ⟨_, rfl, k _ _ sm hfp hlow⟩
theorem ok_l_lower (T : Txt K mg aF aP aW) (d : Df K mg "_law_lower" s_l_lower ["_law_q_here", "_law_d"]) (c_l_digits : C8.Cal P w K mg base 1 "_law_digits" spDigs []) (c_l_raised : C8.Cal P w K mg base 1 "_law_raised" spRaised []) : C8.Cal P w K mg base 2 "_law_lower" (spLower K) [] := by
  refine cal_of d sc_l_lower (fun vs H Q E h => ?_) (fun f cdv A outer s H vs Q E hr h => ?_)
  · obtain ⟨q, i, rfl, _⟩ := h
    rfl
  · obtain ⟨q, dd, rfl, q1, q2, hd, hqd, k⟩ := h
    refine ⟨_, (pss_cons (ps_set (i := 2) sc_l_lower.nd rfl (Or.inl rfl) (pe_lst pa_nil))
      (pss_cons (ps_for PassesOwn.never rfl (pi_range1 (by rfl) T.range_ (pa_cons (pe_c c_l_raised hr (by decide) rfl (pa_cons (pv 0) (pa_cons (pv 1) pa_nil))) pa_nil)) (pg_name (i := 3) sc_l_lower.nd rfl (Or.inl rfl)) (pss_one (ps_expr (pe_bm PySem.F.plainAttrs_list PySem.F.slot_list_append PySem.F.type_list_append mt_append (pv 2) (pa_cons (pe_callTy call_tuple_of (by rfl) T.tuple_ (by decide +kernel) (pa_cons (pe_c c_l_digits hr (by decide) rfl (pa_cons (pv 0) (pa_cons (pv 3) pa_nil))) pa_nil)) pa_nil)))))
      (pss_one (ps_ret (pv 2))))), ?_⟩
    refine ⟨Nat.zero_le _, fun pf npf => ?_⟩
    refine ⟨_, rfl, _, rfl, q, dd, rfl, by omega, by omega, ((q ^ dd : Nat) : Int), rfl, by omega, by omega, ?_⟩
    refine forR0 (n := q ^ dd) (fun acc i => acc ++ [digs q i]) [] (fun acc σ H' => Same H H' ∧ LTN K H' pf acc ∧ ∃ t, σ = [some (vn q), some (vn dd), some (.ref pf), t]) ⟨Same.new npf, ⟨[], upd_same, .nil⟩, none, rfl⟩ ?_ ?_
    · rintro i acc σ H' hi ea ⟨sm, ⟨ws, hw, pw⟩, t, rfl⟩
      have hlen : ws.length < sizeLine := by
        rw [paired_len pw, ea, fold_app, List.length_map, List.length_range, line24]
        omega
      refine ⟨_, rfl, .inl ⟨rfl, _, SqL.of hw⟩, _, rfl, _, rfl, q, i, rfl, q1, by omega, by omega, fun p hp => ⟨p, _, rfl, .inl ⟨SqL.of upd_same, fun l hl => ?_⟩⟩⟩
      have s1 := (Same.new (o := .lst (vns (digs q i))) hp).trans (Same.new (o := .tup (vns (digs q i))) hl)
      refine ⟨pf, ws, .ref l, rfl, rfl, s1 _ _ hw, hlen, ?_⟩
      exact ⟨Same.upd (sm.trans s1) npf, LTN.add (s1 _ _ hw) (paired_mono pw fun v ns q => q.mono s1) (SqT.of upd_same), _, rfl⟩
    · rintro σ H' ⟨sm, hl, t, rfl⟩
      rw [fold_app] at hl
      exact ⟨_, rfl, k _ _ sm hl⟩
theorem ok_l_monics (T : Txt K mg aF aP aW) (d : Df K mg "_law_monics" s_l_monics ["_law_q_here", "_law_d"]) (c_l_lower : C8.Cal P w K mg base 2 "_law_lower" (spLower K) []) : C8.Cal P w K mg base 3 "_law_monics" (spMonics K) [] := by
  refine cal_of d sc_l_monics (fun vs H Q E h => ?_) (fun f cdv A outer s H vs Q E hr h => ?_)
  · obtain ⟨q, i, rfl, _⟩ := h
    rfl
  · obtain ⟨q, dd, rfl, q1, q2, hd, hqd, k⟩ := h
    refine ⟨_, (pss_one (ps_ret (pe_lc (own := [("_law_a", 2)]) rfl sc_l_monics.nd (pi_list (pe_c c_l_lower hr (by decide) rfl (pa_cons (pv 0) (pa_cons (pv 1) pa_nil)))) (blkOk_by (own := [("_law_a", 2)]) (N := N_l_monics) (sc := defScope s_l_monics) (by decide +kernel)) (fun _ _ _ _ _ => (pg_name (i := 2) sc_l_monics.nd rfl (Or.inl rfl))) (fun _ _ _ _ _ => pts_nil) (fun _ _ _ _ _ => (pe_op (op_catA' (K := K) rfl) (pe_op (op_catA' (K := K) rfl) (pv 2) (pe_op (op_repN' (K := K) rfl) (pe_tup (pa_cons pe_int pa_nil)) (pe_op nSub (pv 1) (pe_callB (call_len' (K := K) rfl) (by rfl) T.len_ PySem.boot_len (pa_cons (pv 2) pa_nil))))) (pe_tup (pa_cons pe_int pa_nil))))))), ?_⟩
    refine ⟨_, rfl, _, rfl, q, dd, rfl, q1, q2, hd, hqd, fun H1 lp s1 hl => ?_⟩
    obtain ⟨ws, hw, pw⟩ := hl
    refine ⟨lp, rfl, ⟨_, SqL.of hw⟩, fun D nD => ?_⟩
    have hlow : (lower q dd).length ≤ 1000 := by unfold lower; rw [List.length_map, List.length_range]; exact hqd
    refine lcL (K := K) (a := lp) (zs := ws) (lower q dd) (fun _ => true) (monic dd) (fun H v ns => TN K H v ns) nD (by rw [line24]; omega) (SqL.of hw) (paired_len pw) (fun H H' v c acc h e sb => h.but e sb) ?_ ?_
    · intro i z y Hx K1 K2 hz hy sm _ h1 h2
      obtain ⟨z', ez, t, ev, ht⟩ := paired_at pw hy
      rw [ez] at hz
      obtain rfl : z' = z := Option.some.inj hz
      subst ev
      have hyl : y.length ≤ dd := by
        have hm := List.mem_of_getElem? hy
        obtain ⟨n, hn, rfl⟩ := List.mem_map.mp hm
        exact digs_fit q1 (List.mem_range.mp hn)
      refine ⟨rfl, yesT ?_⟩
      refine ⟨_, rfl, by decide, fun t0 n0 => ⟨_, rfl, _, rfl, t, _, rfl, .inr (Same.tup (sm.trans (Same.new n0)) ht), ?_⟩⟩
      rw [vns_len]
      refine ⟨dd, y.length, rfl, rfl, hyl, repN_all (k := dd - y.length) rfl rfl (SqT.of upd_same) (by omega) fun H2 t2 s2 ht2 => ?_⟩
      have s3 := (Same.new (o := .tup [vn 0]) n0).trans s2
      refine catA_all rfl rfl (Same.tup (sm.trans s3) ht) ht2 (by rw [line24, vns_len, List.length_replicate]; omega) fun H4 t4 s4 ht4 => ?_
      refine ⟨by decide, fun t5 n5 => ?_⟩
      have s5 := s4.trans (Same.new (o := .tup [vn 1]) n5)
      refine catA_all rfl rfl (Same.tup (Same.new n5) ht4) (SqT.of upd_same) (by rw [line24, List.length_append, vns_len, List.length_replicate]; show _ + 1 ≤ _; omega) fun H6 t6 s6 ht6 => ?_
      refine h1 _ _ (s3.trans (s5.trans s6)) ⟨t6, rfl, ?_⟩ rfl
      have e : vns (monic dd y) = vns y ++ List.replicate (dd - y.length) (V.int 0) ++ [V.int 1] := by
        unfold monic
        rw [vns_app, vns_app, vns_rep]
        rfl
      rw [e]
      exact ht6
    · intro HC ws2 sm eD pw2
      rw [filt_all] at pw2
      exact k _ _ (s1.trans sm) ⟨ws2, eD, pw2⟩
theorem monic_facts {q d : Nat} (hq : 2 ≤ q) {y : List Nat} (hy : y ∈ monics q d) : Low q y ∧ y ≠ [] ∧ y.length = d + 1 := by
  obtain ⟨a, ha, rfl⟩ := List.mem_map.mp hy
  obtain ⟨n, hn, rfl⟩ := List.mem_map.mp ha
  have hl := digs_fit hq (List.mem_range.mp hn)
  refine ⟨low_app (low_app (fun x hx => digs_lt (by omega) _ _ x hx) (low_rep (by omega))) (fun x hx => by rw [List.mem_singleton.mp hx]; omega), by unfold monic; simp, ?_⟩
  unfold monic
  simp only [List.length_append, List.length_replicate, List.length_cons, List.length_nil]
  omega
def spSum (K : PySem.W.Frag) : Sp := fun vs H Q _ => ∃ (fv : V) (q d k : Nat), vs = [fv, vn d, vn k] ∧ FieldR H fv q ∧ d ≤ 4 ∧ q ^ d ≤ 1000 ∧ k ≤ 80 ∧ ∀ H' p, Same H H' → SqT K H' p (vns (pSum q d k)) → Q (.ref p) H'
theorem ok_l_sum (T : Txt K mg aF aP aW) (d : Df K mg "_law_sum" s_l_sum ["_law_field_here", "_law_d", "_law_k"]) (c_l_monics : C8.Cal P w K mg base 3 "_law_monics" (spMonics K) []) (c_l_plus : C8.Cal P w K mg base 2 "_law_plus" (spPlus K) []) (c_l_power : C8.Cal P w K mg base 3 "_law_power" (spPow K) []) : C8.Cal P w K mg base 4 "_law_sum" (spSum K) [] := by
  refine cal_of d sc_l_sum (fun vs H Q E h => ?_) (fun f cdv A outer s H vs Q E hr h => ?_)
  · obtain ⟨q, i, _, _, rfl, _⟩ := h
    rfl
  · obtain ⟨fv, q, dd, k0, rfl, hF, hd, hqd, hk, k⟩ := h
    have hq := hF.isq
    obtain ⟨q1, q2, p1, p2, f1, f2⟩ := Qs_facts hq
    refine ⟨_, (pss_cons (ps_set (i := 3) sc_l_sum.nd rfl (Or.inl rfl) (pe_tup pa_nil))
      (pss_cons (ps_for PassesOwn.never rfl (pi_list (pe_c c_l_monics hr (by decide) rfl (pa_cons (pe_dget (hu_of hr) (pv 0) pe_str (fun _ _ => rfl)) (pa_cons (pv 1) pa_nil)))) (pg_name (i := 4) sc_l_sum.nd rfl (Or.inl rfl)) (pss_one (ps_set (i := 3) sc_l_sum.nd rfl (Or.inl rfl) (pe_c c_l_plus hr (by decide) rfl (pa_cons (pv 0) (pa_cons (pv 3) (pa_cons (pe_c c_l_power hr (by decide) rfl (pa_cons (pv 0) (pa_cons (pv 4) (pa_cons (pv 2) pa_nil)))) pa_nil)))))))
      (pss_one (ps_ret (pv 3))))), ?_⟩
    obtain ⟨fa, ef, g1, _⟩ := hF.at
    refine ⟨by decide, fun f0 n0 => ?_⟩
    have sA := Same.new (o := .tup []) n0
    refine ⟨_, rfl, fa, vn q, ef, dget_mono g1 sA, _, rfl, q, dd, rfl, q1, q2, by omega, hqd, fun H1 lp s1 ⟨ws, hw, pw⟩ => ?_⟩
    refine ⟨lp, rfl, ⟨_, SqL.of hw⟩, ?_⟩
    have sB := sA.trans s1
    refine forL (K := K) (a := lp) (vs := ws) (monics q dd) (fun found a => pPlus q found (pPow q a k0)) [] (fun found σ H' => Low q found ∧ found.length ≤ 300000 ∧ Same H1 H' ∧ ∃ fp t4, SqT K H' fp (vns found) ∧ σ = [some fv, some (vn dd), some (vn k0), some (.ref fp), t4]) (paired_len pw)
      ⟨(fun x hx => by cases hx), Nat.zero_le _, Same.refl _, f0, none, SqT.of (s1 _ _ upd_same), rfl⟩ (fun acc σ H' h => SqL.of (h.2.2.1 _ _ hw)) ?_ ?_
    · rintro i v y found σ H' hv hy _ ⟨hlow, hlen, sm, fp, t4, hfp, rfl⟩
      obtain ⟨z', ez, t, ev, ht⟩ := paired_at pw hy
      rw [ez] at hv
      obtain rfl : z' = v := Option.some.inj hv
      subst ev
      obtain ⟨m1, m2, m3⟩ := monic_facts q1 (List.mem_of_getElem? hy)
      refine ⟨_, rfl, _, rfl, _, rfl, _, rfl, _, rfl, fv, q, k0, t, y, rfl, hF.mono (sB.trans sm), Same.tup sm ht, m1, m2, by omega, hk, fun H2 pp s2 hpp lpp => ?_⟩
      have pl := pPow_len (a := y) q1 q2 hk m2 (by omega)
      refine ⟨fv, q, fp, pp, found, pPow q y k0, rfl, hF.mono ((sB.trans sm).trans s2), Same.tup s2 hfp, hpp, hlow, lpp, by omega, by omega, fun H3 p3 s3 hp3 => ?_⟩
      refine ⟨low_pPlus hq hlow lpp, ?_, (sm.trans s2).trans s3, p3, _, SqT.of hp3, rfl⟩
      have := pPlus_len q found (pPow q y k0)
      omega
    · rintro σ H' ⟨hlow, hlen, sm, fp, t4, hfp, rfl⟩
      exact ⟨_, rfl, k _ _ (sB.trans sm) hfp⟩
end
end Mo
namespace Mo
open PySem PySem.Spec PyProof.Rows L2
open C8 (pe_c pe_gc)
theorem not_of_dec {a : Prop} [Decidable a] (h : ¬ (!decide a) = true) : a := Classical.not_not.mp fun e => h (by rw [decide_eq_false e]; rfl)
theorem of_not_dec {a : Prop} [Decidable a] (h : (!decide a) = true) : ¬ a := fun e => by rw [decide_eq_true e] at h; cases h
theorem filt_none {α : Type} (l : List α) : l.filter (fun _ => false) = [] := by induction l with | nil => rfl | cons a b ih => simpa using ih
theorem paired_nil {α β : Type} {F : α → β → Prop} {l : List α} (h : Paired F l []) : l = [] := by cases h; rfl
theorem pw3 {p j : Nat} (hp : p ≤ 7) (hj : j ≤ 3) : p ^ j ≤ 343 := Nat.le_trans (Nat.pow_le_pow_left hp j) (Nat.le_trans (Nat.pow_le_pow_right (by decide) hj) (by decide))
theorem shift_small {p j k : Nat} (hp : p ≤ 7) (hj : j ≤ 3) (hk : k ≤ 3000) : p ^ j * k < 16777216 := Nat.lt_of_le_of_lt (Nat.mul_le_mul (pw3 hp hj) hk) (by decide)
def spLMost : Sp := fun vs H Q _ => ∃ (fv : V) (q k : Nat), vs = [fv, vn k] ∧ FieldR H fv q ∧ k ≤ 3000 ∧ ∀ H', Same H H' → Q (vn (mostM q k)) H'
def spBars : Sp := fun vs H Q _ => ∃ (fv : V) (q d k : Nat), vs = [fv, vn d, vn k] ∧ FieldR H fv q ∧ k ≤ 3000 ∧ ∀ H' p, Same H H' → H' p = some (.lst (vns (barsM q d k))) → Q (.ref p) H'
def spIsPart : Sp := fun vs H Q _ => ∃ (fv : V) (q d k : Nat) (a : Addr) (v : List Nat), vs = [fv, vn d, vn k, .ref a] ∧ FieldR H fv q ∧ H a = some (.tup (vns v)) ∧ v.length ≤ 1000 ∧ (∀ x ∈ v, x < 16777216) ∧ k < 16777216 ∧ ∀ H', Same H H' → Q (.bl (isPartM q d k v)) H'
section
variable {P : Program} {w : World} {K : PySem.W.Frag} {mg : Str → Option Value} {base : Heap} {aF aP aW : Addr}
theorem ok_l_most (T : Txt K mg aF aP aW) (d : Df K mg "_law_most" s_l_most ["_law_field_here", "_law_k"]) (c_l_digit_sum : C8.Cal P w K mg base 2 "_law_digit_sum" spLDsum []) (c_l_raised : C8.Cal P w K mg base 1 "_law_raised" spRaised []) : C8.Cal P w K mg base 3 "_law_most" spLMost [] := by
  refine cal_of d sc_l_most (fun vs H Q E h => ?_) (fun f cdv A outer s H vs Q E hr h => ?_)
  · obtain ⟨q, i, _, rfl, _⟩ := h
    rfl
  · obtain ⟨fv, q, k0, rfl, hF, hk, k⟩ := h
    have hq := hF.isq
    obtain ⟨q1, q2, p1, p2, f1, f2⟩ := Qs_facts hq
    refine ⟨_, (pss_cons (ps_set (i := 2) sc_l_most.nd rfl (Or.inr rfl) (pe_dget (hu_of hr) (pv 0) pe_str (fun _ _ => rfl)))
      (pss_one (ps_ret (pe_callB (cr_min rfl) (by rfl) T.min_ (by decide +kernel) (pa_cons (pe_lc (own := [("_law_j", 3)]) rfl sc_l_most.nd (pi_range1 (by rfl) T.range_ (pa_cons (pe_dget (hu_of hr) (pv 0) pe_str (fun _ _ => rfl)) pa_nil)) (blkOk_by (own := [("_law_j", 3)]) (N := N_l_most) (sc := defScope s_l_most) (by decide +kernel)) (fun _ _ _ _ _ => (pg_name (i := 3) sc_l_most.nd rfl (Or.inl rfl))) (fun _ _ _ _ _ => pts_nil) (fun _ _ _ _ _ => (pe_op nDiv (pe_c c_l_digit_sum hr (by decide) rfl (pa_cons (pv 2) (pa_cons (pe_op nMul (pe_c c_l_raised hr (by decide) rfl (pa_cons (pe_dget (hu_of hr) (pv 0) pe_str (fun _ _ => rfl)) (pa_cons (pv 3) pa_nil))) (pv 1)) pa_nil))) (pe_op nSub (pv 2) pe_int)))) pa_nil))))), ?_⟩
    obtain ⟨fa, ef, g1, g2, g3, _⟩ := hF.at
    refine ⟨_, rfl, fa, vn q, ef, g1, ?_⟩
    refine ⟨_, rfl, fa, _, ef, g3, ((fOf q : Nat) : Int), rfl, by omega, by omega, fun D nD => ?_⟩
    refine lcR0 (n := fOf q) (fun j => dsum q (pOf q ^ j * k0) / (q - 1)) (fun _ v n => v = vn n) nD (by rw [line24]; omega) (fun _ _ _ _ _ h _ _ => h) (fun j H1 K1 hj sm _ h1 => ⟨rfl, ?_⟩) (fun H1 ws sm e pw => ?_) gm_name
    · have hs := shift_small (j := j) p2 (by omega) hk
      refine ⟨_, rfl, _, rfl, fa, _, ef, dget_mono g2 sm, _, rfl, pOf q, j, rfl, by omega, by omega, _, rfl, pOf q ^ j, k0, rfl, rfl, .inr (by omega), q, pOf q ^ j * k0, rfl, q1, by omega, hs, fun H2 s2 => ?_⟩
      exact ⟨_, rfl, q, 1, rfl, rfl, by omega, _, q - 1, rfl, rfl, ⟨by omega, by omega⟩, h1 _ _ s2 rfl⟩
    · rw [paired_vn pw] at e
      refine ⟨D, _, rfl, SqL.of (by rw [← vns_eq]; exact e), ?_, fun m h1 h2 => ?_⟩
      · rw [List.length_map, List.length_map, List.length_range]; omega
      · have em := minL_is h1 h2
        subst em
        exact k _ sm
theorem ok_l_bars (T : Txt K mg aF aP aW) (d : Df K mg "_law_bars" s_l_bars ["_law_field_here", "_law_d", "_law_k"]) (c_l_digit_sum : C8.Cal P w K mg base 2 "_law_digit_sum" spLDsum []) (c_l_raised : C8.Cal P w K mg base 1 "_law_raised" spRaised []) : C8.Cal P w K mg base 3 "_law_bars" spBars [] := by
  refine cal_of d sc_l_bars (fun vs H Q E h => ?_) (fun f cdv A outer s H vs Q E hr h => ?_)
  · obtain ⟨q, i, _, _, rfl, _⟩ := h
    rfl
  · obtain ⟨fv, q, dd, k0, rfl, hF, hk, k⟩ := h
    have hq := hF.isq
    obtain ⟨q1, q2, p1, p2, f1, f2⟩ := Qs_facts hq
    refine ⟨_, (pss_cons (ps_set (i := 3) sc_l_bars.nd rfl (Or.inr rfl) (pe_dget (hu_of hr) (pv 0) pe_str (fun _ _ => rfl)))
      (pss_one (ps_ret (pe_lc (own := [("_law_j", 4)]) rfl sc_l_bars.nd (pi_range1 (by rfl) T.range_ (pa_cons (pe_dget (hu_of hr) (pv 0) pe_str (fun _ _ => rfl)) pa_nil)) (blkOk_by (own := [("_law_j", 4)]) (N := N_l_bars) (sc := defScope s_l_bars) (by decide +kernel)) (fun _ _ _ _ _ => (pg_name (i := 4) sc_l_bars.nd rfl (Or.inl rfl))) (fun _ _ _ _ _ => (pts_one (pt_cmpR nLt (pe_op nDiv (pe_c c_l_digit_sum hr (by decide) rfl (pa_cons (pv 3) (pa_cons (pe_op nMul (pe_c c_l_raised hr (by decide) rfl (pa_cons (pe_dget (hu_of hr) (pv 0) pe_str (fun _ _ => rfl)) (pa_cons (pv 4) pa_nil))) (pv 2)) pa_nil))) (pe_op nSub (pv 3) pe_int)) (pv 1) (nomark _)))) (fun _ _ _ _ _ => (pv 4)))))), ?_⟩
    obtain ⟨fa, ef, g1, g2, g3, _⟩ := hF.at
    refine ⟨_, rfl, fa, vn q, ef, g1, ?_⟩
    refine ⟨_, rfl, fa, _, ef, g3, ((fOf q : Nat) : Int), rfl, by omega, by omega, fun D nD => ?_⟩
    refine lcR (lo := 0) (n := fOf q) (fun j => decide (dsum q (pOf q ^ j * k0) / (q - 1) < dd)) (fun j => j) (fun _ v n => v = vn n) nD (by rw [line24]; omega) (fun _ _ _ _ _ h _ _ => h) (fun j H1 K1 K2 hj sm _ h1 h2 => ?_) (fun H1 ws sm e pw => ?_)
    · rw [Int.zero_add]
      refine ⟨rfl, ?_⟩
      have hs := shift_small (j := j) p2 (by omega) hk
      refine ⟨_, rfl, _, rfl, fa, _, ef, dget_mono g2 sm, _, rfl, pOf q, j, rfl, by omega, by omega, _, rfl, pOf q ^ j, k0, rfl, rfl, .inr (by omega), q, pOf q ^ j * k0, rfl, q1, by omega, hs, fun H2 s2 => ?_⟩
      refine ⟨_, rfl, q, 1, rfl, rfl, by omega, _, q - 1, rfl, rfl, ⟨by omega, by omega⟩, _, rfl, dsum q (pOf q ^ j * k0) / (q - 1), dd, rfl, rfl, _, rfl, ?_⟩
      refine ite2 (fun c => ?_) (fun c => ?_)
      · exact ⟨_, rfl, h1 _ _ s2 rfl c⟩
      · exact h2 _ s2 (by simpa using c)
    · rw [paired_vn pw, List.map_id'] at e
      exact k _ _ sm e
theorem ok_l_is_parting (T : Txt K mg aF aP aW) (d : Df K mg "_law_is_parting" s_l_is_parting ["_law_field_here", "_law_d", "_law_k", "_law_value"]) (c_l_digit_sum : C8.Cal P w K mg base 2 "_law_digit_sum" spLDsum []) : C8.Cal P w K mg base 3 "_law_is_parting" spIsPart [] := by
  refine cal_of d sc_l_is_parting (fun vs H Q E h => ?_) (fun f cdv A outer s H vs Q E hr h => ?_)
  · obtain ⟨q, i, _, _, _, _, rfl, _⟩ := h
    rfl
  · obtain ⟨fv, q, dd, k0, a, v, rfl, hF, ha, hvl, hvs, hk, k⟩ := h
    have hq := hF.isq
    obtain ⟨q1, q2, p1, p2, f1, f2⟩ := Qs_facts hq
    refine ⟨_, (pss_cons (ps_if (PW.pt (pw_or (pt_not (pt_val (pe_callB call_isi (by rfl) T.isinstance_ (by decide +kernel) (pa_cons (pv 3) (pa_cons (pe_bltn rfl T.tuple_ (by decide +kernel) (show RelV (.ty "tuple") (.type "tuple") from rfl)) pa_nil))))) (pw_or1 (pt_cmpR nNe (pe_callB call_len_seq (by rfl) T.len_ PySem.boot_len (pa_cons (pv 3) pa_nil)) (pe_op nAdd (pv 1) pe_int) (nomark _))))) (pss_one (ps_ret pe_bl)) pss_nil)
      (pss_cons (ps_if (PW.pt (pw_or (pt_cmpR (op_neNilL hr.units) (pe_lc (own := [("_law_one", 4)]) rfl sc_l_is_parting.nd (pi_tup (pv 3)) (blkOk_by (own := [("_law_one", 4)]) (N := N_l_is_parting) (sc := defScope s_l_is_parting) (by decide +kernel)) (fun _ _ _ _ _ => (pg_name (i := 4) sc_l_is_parting.nd rfl (Or.inl rfl))) (fun _ _ _ _ _ => (pts_one (PW.pt (pw_or (pt_val (pe_callB (call_isi' (K := K) rfl) (by rfl) T.isinstance_ (by decide +kernel) (pa_cons (pv 4) (pa_cons (pe_bltn rfl T.bool_ (by decide +kernel) (show RelV (.ty "bool") (.type "bool") from rfl)) pa_nil)))) (pw_or (pt_not (pt_val (pe_callB (call_isi' (K := K) rfl) (by rfl) T.isinstance_ (by decide +kernel) (pa_cons (pv 4) (pa_cons (pe_bltn rfl T.int_ (by decide +kernel) (show RelV (.ty "int") (.type "int") from rfl)) pa_nil))))) (pw_or1 (pt_cmpR nLt (pv 4) pe_int (nomark _)))))))) (fun _ _ _ _ _ => pe_int)) (pe_lst pa_nil) (nomark _)) (pw_or1 (pt_cmpR nNe (pe_callB (cr_sumT rfl) (by rfl) T.sum_ (by decide +kernel) (pa_cons (pv 3) pa_nil)) (pv 2) (nomark _))))) (pss_one (ps_ret pe_bl)) pss_nil)
      (pss_cons (ps_if (pt_cmpR (op_neNilL hr.units) (pe_lc (own := [("_law_one", 4)]) rfl sc_l_is_parting.nd (pi_tup (pe_slice sl_tupA (pv 3) po_none (po_some (pv 1)))) (blkOk_by (own := [("_law_one", 4)]) (N := N_l_is_parting) (sc := defScope s_l_is_parting) (by decide +kernel)) (fun _ _ _ _ _ => (pg_name (i := 4) sc_l_is_parting.nd rfl (Or.inl rfl))) (fun _ _ _ _ _ => (pts_one (PW.pt (pw_or (pt_cmpR nEq (pv 4) pe_int (nomark _)) (pw_or1 (pt_cmpR nNe (pe_op nMod (pv 4) (pe_op nSub (pe_dget (hu_of hr) (pv 0) pe_str (fun _ _ => rfl)) pe_int)) pe_int (nomark _))))))) (fun _ _ _ _ _ => pe_int)) (pe_lst pa_nil) (nomark _)) (pss_one (ps_ret pe_bl)) pss_nil)
      (pss_one (ps_ret (pe_cmpR nEq (pe_callB (cr_sum rfl) (by rfl) T.sum_ (by decide +kernel) (pa_cons (pe_lc (own := [("_law_one", 4)]) rfl sc_l_is_parting.nd (pi_tup (pv 3)) (blkOk_by (own := [("_law_one", 4)]) (N := N_l_is_parting) (sc := defScope s_l_is_parting) (by decide +kernel)) (fun _ _ _ _ _ => (pg_name (i := 4) sc_l_is_parting.nd rfl (Or.inl rfl))) (fun _ _ _ _ _ => pts_nil) (fun _ _ _ _ _ => (pe_c c_l_digit_sum hr (by decide) rfl (pa_cons (pe_dget (hu_of hr) (pv 0) pe_str (fun _ _ => rfl)) (pa_cons (pv 4) pa_nil))))) pa_nil)) (pe_c c_l_digit_sum hr (by decide) rfl (pa_cons (pe_dget (hu_of hr) (pv 0) pe_str (fun _ _ => rfl)) (pa_cons (pv 2) pa_nil))) (nomark _))))))), ?_⟩
    obtain ⟨fa, ef, g1, g2, g3, _⟩ := hF.at
    have noF : isPartM q dd k0 v = false → ∀ H', Same H H' → Q (.bl false) H' := fun e H' s => by have z := k H' s; rw [e] at z; exact z
    refine ⟨_, rfl, .ref a, .ty "tuple", .type "tuple", .type "tuple", true, rfl, .ty _, .base (.tup ha), rfl, true, rfl, iteF ?_⟩
    refine ⟨_, rfl, a, _, rfl, .inr (SqT.of ha), _, rfl, dd, 1, rfl, rfl, trivial, ?_⟩
    rw [vns_len]
    refine ⟨v.length, dd + 1, rfl, rfl, _, rfl, ?_⟩
    refine ite2 (fun c => ?_) (fun c => ?_)
    · have c : ¬ v.length = dd + 1 := of_not_dec c
      exact noF (by unfold isPartM; rw [decide_eq_false c]; rfl) _ (Same.refl _)
    have c : v.length = dd + 1 := not_of_dec c
    refine ⟨_, rfl, a, rfl, ⟨_, SqT.of ha⟩, fun D nD => ?_⟩
    refine lcT (K := K) (a := a) (zs := vns v) v (fun _ => false) (fun _ => (1 : Nat)) (fun _ v n => v = vn n) nD (by rw [line24]; omega) (SqT.of ha) (vns_len _) (fun _ _ _ _ _ h _ _ => h) ?_ ?_
    · intro i z y Hx K1 K2 hz hy sm _ h1 h2
      rw [vns_at hy] at hz
      obtain rfl := Option.some.inj hz
      refine ⟨rfl, ?_⟩
      refine ⟨_, rfl, vn y, .ty "bool", .type "int", .type "bool", false, rfl, .ty _, .base (.int _), rfl, false, rfl, iteF ?_⟩
      refine ⟨_, rfl, vn y, .ty "int", .type "int", .type "int", true, rfl, .ty _, .base (.int _), rfl, true, rfl, iteF ?_⟩
      refine ⟨_, rfl, y, 0, rfl, rfl, _, rfl, ?_⟩
      exact ite2 (fun c => absurd (of_decide_eq_true c) (by omega)) (fun c => h2 _ (Same.refl _) rfl)
    intro H1 ws s1 eD pw
    rw [filt_none] at pw
    rw [paired_nil pw] at eD
    refine ⟨Nat.zero_le _, fun z0 n0 => ⟨D, z0, [], rfl, rfl, SqL.of ((Same.new n0) _ _ eD), SqL.of upd_same, _, rfl, iteF ?_⟩⟩
    have s2 := s1.trans (Same.new (o := .lst []) n0)
    refine ⟨_, rfl, a, v.map fun n : Nat => (n : Int), rfl, sq_cast (SqT.of (s2 _ _ ha)), ?_⟩
    rw [sumL_cast]
    refine ⟨_, rfl, sumL v, k0, rfl, rfl, _, rfl, ?_⟩
    refine ite2 (fun c2 => ?_) (fun c2 => ?_)
    · have c2 : ¬ sumL v = k0 := of_not_dec c2
      exact noF (by unfold isPartM; rw [decide_eq_false c2]; simp) _ s2
    have c2 : sumL v = k0 := not_of_dec c2
    refine ⟨_, rfl, _, rfl, (dd : Int), rfl, a, vns v, rfl, SqT.of (s2 _ _ ha), fun hw => ?_, fun _ p hp => ?_⟩
    · exfalso
      have := hw.2
      rw [HT.sIx_nat, vns_len] at this
      omega
    rw [cut_take]
    have s3 := s2.trans (Same.new (o := .tup (vns (v.take dd))) hp)
    refine ⟨p, rfl, ⟨_, SqT.of upd_same⟩, fun D2 nD2 => ?_⟩
    refine lcT (K := K) (a := p) (zs := vns (v.take dd)) (v.take dd) (fun one => decide (one = 0) || !decide (one % (q - 1) = 0)) (fun _ => (1 : Nat)) (fun _ v n => v = vn n) nD2 (by rw [line24, List.length_take]; omega) (SqT.of upd_same) (vns_len _) (fun _ _ _ _ _ h _ _ => h) ?_ ?_
    · intro i z y Hx K1 K2 hz hy sm _ h1 h2
      rw [vns_at hy] at hz
      obtain rfl := Option.some.inj hz
      refine ⟨rfl, ?_⟩
      refine ⟨_, rfl, y, 0, rfl, rfl, _, rfl, ?_⟩
      refine ite2 (fun c => ?_) (fun c => ?_)
      · have c : y = 0 := of_decide_eq_true c
        exact iteT (h1 _ _ (Same.refl _) rfl (by rw [decide_eq_true c]; rfl))
      · have c : ¬ y = 0 := fun e => c (decide_eq_true e)
        refine ⟨_, rfl, _, rfl, fa, _, ef, dget_mono g1 (s3.trans sm), q, 1, rfl, rfl, by omega, y, q - 1, rfl, rfl, by omega, y % (q - 1), 0, rfl, rfl, _, rfl, ?_⟩
        refine ite2 (fun c2 => ?_) (fun c2 => ?_)
        · exact h1 _ _ (Same.refl _) rfl (by rw [decide_eq_false c, Bool.false_or]; exact c2)
        · exact h2 _ (Same.refl _) (by rw [decide_eq_false c, Bool.false_or]; simpa using c2)
    intro H2 ws2 s4 eD2 pw2
    rw [paired_vn pw2] at eD2
    refine ⟨Nat.zero_le _, fun z1 n1 => ⟨D2, z1, (((v.take dd).filter fun one => decide (one = 0) || !decide (one % (q - 1) = 0)).map fun _ => 1).map fun n : Nat => (n : Int), rfl, rfl, SqL.of (by rw [← vns_eq]; exact (Same.new n1) _ _ eD2), SqL.of upd_same, _, rfl, ?_⟩⟩
    have s5 := (s3.trans s4).trans (Same.new (o := .lst []) n1)
    have eall : (v.take dd).all (fun one => !decide (one = 0) && decide (one % (q - 1) = 0)) = (((((v.take dd).filter fun one => decide (one = 0) || !decide (one % (q - 1) = 0)).map fun _ => 1).map fun n : Nat => (n : Int)).isEmpty) := by
      rw [isEmpty_cast, List.isEmpty_map]
      induction v.take dd with
      | nil => rfl
      | cons x r ih =>
        rw [List.all_cons, List.filter_cons, ih]
        cases decide (x = 0) <;> cases decide (x % (q - 1) = 0) <;> simp
    refine ite2 (fun c3 => ?_) (fun c3 => ?_)
    · refine noF ?_ _ s5
      unfold isPartM
      rw [eall]
      have c4 := c3
      rw [Bool.not_eq_true'] at c4
      rw [c4]
      simp
    have c3 : (((((v.take dd).filter fun one => decide (one = 0) || !decide (one % (q - 1) = 0)).map fun _ => 1).map fun n : Nat => (n : Int)).isEmpty) = true := by simpa using c3
    refine ⟨_, rfl, a, rfl, ⟨_, SqT.of (s5 _ _ ha)⟩, fun D3 nD3 => ?_⟩
    refine lcT (K := K) (a := a) (zs := vns v) v (fun _ => true) (fun one => dsum (pOf q) one) (fun _ v n => v = vn n) nD3 (by rw [line24]; omega) (SqT.of (s5 _ _ ha)) (vns_len _) (fun _ _ _ _ _ h _ _ => h) ?_ ?_
    · intro i z y Hx K1 K2 hz hy sm _ h1 h2
      rw [vns_at hy] at hz
      obtain rfl := Option.some.inj hz
      refine ⟨rfl, yesT ?_⟩
      exact ⟨_, rfl, fa, _, ef, dget_mono g2 (s5.trans sm), _, rfl, pOf q, y, rfl, p1, by omega, hvs y (List.mem_of_getElem? hy), fun H3 s3 => h1 _ _ s3 rfl rfl⟩
    intro H3 ws3 s6 eD3 pw3
    rw [filt_all] at pw3
    rw [paired_vn pw3] at eD3
    refine ⟨D3, (v.map fun one => dsum (pOf q) one).map fun n : Nat => (n : Int), rfl, SqL.of (by rw [← vns_eq]; exact eD3), ?_⟩
    rw [sumL_cast]
    have s7 := s5.trans s6
    refine ⟨_, rfl, fa, _, ef, dget_mono g2 s7, _, rfl, pOf q, k0, rfl, p1, by omega, hk, fun H4 s8 => ?_⟩
    refine ⟨_, _, rfl, rfl, ?_⟩
    have z := k _ (s7.trans s8)
    unfold isPartM at z
    rw [eall, c3, decide_eq_true c, decide_eq_true c2] at z
    exact z
end
end Mo
namespace Mo
open PySem PySem.Spec PyProof.Rows L2
open C8 (pe_c pe_gc)
/-! ### plain -/
theorem len1 {a : V} : [a].length ≤ sizeLine := by rw [line24]; show 1 ≤ _; omega
theorem len2 {a b : V} : [a, b].length ≤ sizeLine := by rw [line24]; show 2 ≤ _; omega
theorem len3 {a b c : V} : [a, b, c].length ≤ sizeLine := by rw [line24]; show 3 ≤ _; omega
def wStep (p : Nat) (acc : List Nat × Nat) (d : Nat) : List Nat × Nat := ((List.range (d + 1)).flatMap fun more => acc.1.map fun one => one + more * acc.2, acc.2 * p)
theorem within_fold (p : Nat) : ∀ (ds : List Nat) (acc : List Nat × Nat), (ds.foldl (wStep p) acc).1 = withinGo p ds acc.1 acc.2
  | [], _ => rfl
  | d :: r, acc => within_fold p r _
theorem flat_len {α β : Type} (g : α → List β) (n : Nat) (h : ∀ x, (g x).length = n) : ∀ l : List α, (l.flatMap g).length = l.length * n
  | [] => by simp
  | x :: r => by rw [List.flatMap_cons, List.length_append, h, flat_len g n h r, List.length_cons, Nat.succ_mul]; omega
theorem wStep_len (p : Nat) (acc : List Nat × Nat) (d : Nat) : (wStep p acc d).1.length = (d + 1) * acc.1.length := by
  show ((List.range (d + 1)).flatMap fun more => acc.1.map fun one => one + more * acc.2).length = _
  rw [flat_len _ acc.1.length (fun x => List.length_map ..), List.length_range]
theorem w_grow (p : Nat) : ∀ (ds : List Nat) (acc : List Nat × Nat), acc.1.length ≤ (ds.foldl (wStep p) acc).1.length
  | [], _ => Nat.le_refl _
  | d :: r, acc => by
    refine Nat.le_trans ?_ (w_grow p r (wStep p acc d))
    rw [wStep_len, Nat.succ_mul]
    omega
theorem w_pre (p : Nat) (ds : List Nat) (acc : List Nat × Nat) (i : Nat) : ((ds.take i).foldl (wStep p) acc).1.length ≤ (ds.foldl (wStep p) acc).1.length := by
  have e : ds.foldl (wStep p) acc = (ds.drop i).foldl (wStep p) ((ds.take i).foldl (wStep p) acc) := by rw [← List.foldl_append, List.take_append_drop]
  rw [e]
  exact w_grow p _ _
theorem fold_flat {β : Type} (g : Nat → List β) (n : Nat) : (List.range n).foldl (fun acc i => acc ++ g i) [] = (List.range n).flatMap g := by
  induction n with
  | zero => rfl
  | succ n ih => rw [List.range_succ, List.foldl_append, ih, List.flatMap_append]; simp
def spWithin : Sp := fun vs H Q _ => ∃ p k : Nat, vs = [vn p, vn k] ∧ 2 ≤ p ∧ p ≤ 9 ∧ k < 16777216 ∧ (within p k).length ≤ 1000000 ∧ ∀ H' a, Same H H' → H a = none → H' a = some (.lst (vns (within p k))) → Q (.ref a) H'
section
variable {P : Program} {w : World} {K : PySem.W.Frag} {mg : Str → Option Value} {base : Heap} {aF aP aW : Addr}
theorem ok_l_within (T : Txt K mg aF aP aW) (d : Df K mg "_law_within" s_l_within ["_law_p", "_law_k"]) (c_l_digits : C8.Cal P w K mg base 1 "_law_digits" spDigs []) : C8.Cal P w K mg base 2 "_law_within" spWithin [] := by
  refine cal_of d sc_l_within (fun vs H Q E h => ?_) (fun f cdv A outer s H vs Q E hr h => ?_)
  · obtain ⟨q, i, rfl, _⟩ := h
    rfl
  · obtain ⟨p, k0, rfl, p1, p2, hk, hw, k⟩ := h
    refine ⟨_, (pss_cons (ps_asg (pe_tup (pa_cons (pe_lst (pa_cons pe_int pa_nil)) (pa_cons pe_int pa_nil))) (pg_tup (n := 2) rfl (pgs_cons (pg_name (i := 2) sc_l_within.nd rfl (Or.inl rfl)) (pgs_cons (pg_name (i := 3) sc_l_within.nd rfl (Or.inr rfl)) pgs_nil))))
      (pss_cons (ps_for PassesOwn.never rfl (pi_list (pe_c c_l_digits hr (by decide) rfl (pa_cons (pv 0) (pa_cons (pv 1) pa_nil)))) (pg_name (i := 4) sc_l_within.nd rfl (Or.inl rfl)) (pss_cons (ps_set (i := 5) sc_l_within.nd rfl (Or.inl rfl) (pe_lst pa_nil))
      (pss_cons (ps_for PassesOwn.never rfl (pi_range1 (by rfl) T.range_ (pa_cons (pe_op nAdd (pv 4) pe_int) pa_nil)) (pg_name (i := 6) sc_l_within.nd rfl (Or.inr rfl)) (pss_one (ps_expr (pe_bm PySem.F.plainAttrs_list PySem.F.slot_list_extend PySem.F.type_list_extend mt_extend (pv 5) (pa_cons (pe_lc (own := [("_law_one", 7)]) rfl sc_l_within.nd (pi_list (pv 2)) (blkOk_by (own := [("_law_one", 7)]) (N := N_l_within) (sc := defScope s_l_within) (by decide +kernel)) (fun _ _ _ _ _ => (pg_name (i := 7) sc_l_within.nd rfl (Or.inl rfl))) (fun _ _ _ _ _ => pts_nil) (fun _ _ _ _ _ => (pe_op nAdd (pv 7) (pe_op nMul (pv 6) (pv 3))))) pa_nil)))))
      (pss_one (ps_asg (pe_tup (pa_cons (pe_callTy call_list_of (by rfl) T.list_ (by decide +kernel) (pa_cons (pv 5) pa_nil)) (pa_cons (pe_op nMul (pv 3) (pv 0)) pa_nil))) (pg_tup (n := 2) rfl (pgs_cons (pg_name (i := 2) sc_l_within.nd rfl (Or.inl rfl)) (pgs_cons (pg_name (i := 3) sc_l_within.nd rfl (Or.inr rfl)) pgs_nil))))))))
      (pss_one (ps_ret (pv 2))))), ?_⟩
    refine ⟨by decide, fun l0 n0 => ⟨len2, fun t0 m0 => ⟨t0, _, rfl, SqT.of upd_same, rfl, _, _, rfl, _, _, rfl, rfl, ?_⟩⟩⟩
    have s0 := (Same.new (o := .lst [vn 0]) n0).trans (Same.new (o := .tup [.ref l0, vn 1]) m0)
    have e0 := (Same.new (o := .tup [.ref l0, vn 1]) m0) _ _ (upd_same (a := l0) (H := H) (o := .lst [vn 0]))
    refine ⟨_, rfl, _, rfl, p, k0, rfl, p1, by omega, hk, fun dl ndl => ⟨dl, rfl, ⟨_, SqL.of upd_same⟩, ?_⟩⟩
    have s1 := Same.new (o := .lst (vns (digs p k0))) ndl
    have etot : ((digs p k0).foldl (wStep p) ([0], 1)).1 = within p k0 := within_fold p (digs p k0) ([0], 1)
    refine forL (K := K) (a := dl) (vs := vns (digs p k0)) (digs p k0) (wStep p) ([0], 1)
      (fun acc σ H' => Same H H' ∧ H' dl = some (.lst (vns (digs p k0))) ∧ ∃ fp t4 t5 t6 t7, H fp = none ∧ H' fp = some (.lst (vns acc.1)) ∧ σ = [some (vn p), some (vn k0), some (.ref fp), some (vn acc.2), t4, t5, t6, t7]) (vns_len _)
      ⟨s0.trans s1, upd_same, l0, none, none, none, none, n0, s1 _ _ e0, rfl⟩ (fun acc σ H' h => SqL.of h.2.1) ?_ ?_
    · rintro i v y ⟨found, place⟩ σ H1 hv hy eacc ⟨sm, hdl, fp, t4, t5, t6, t7, hfn, hfp, rfl⟩
      have ev : v = vn y := by rw [vns_at hy] at hv; exact (Option.some.inj hv).symm
      subst ev
      have hyp : y < p := by obtain ⟨_, q⟩ := List.getElem?_eq_some_iff.mp hy; rw [← q]; exact digs_lt (by omega) _ _ _ (List.getElem_mem _)
      have bnd : (y + 1) * found.length ≤ 1000000 := by
        have z1 := w_pre p (digs p k0) ([0], 1) (i + 1)
        rw [take_fold (wStep p) ([0], 1) hy, ← eacc, wStep_len, etot] at z1
        exact Nat.le_trans z1 hw
      dsimp only at hfp bnd
      refine ⟨Nat.zero_le _, fun lg nlg => ?_⟩
      have s2 := Same.new (o := .lst []) nlg
      refine ⟨_, rfl, y, 1, rfl, rfl, trivial, ((y + 1 : Nat) : Int), rfl, by omega, by omega, ?_⟩
      refine forR0 (n := y + 1) (fun a2 more => a2 ++ found.map fun one => one + more * place) []
        (fun a2 σ H' => Same H1 H' ∧ H' lg = some (.lst (vns a2)) ∧ ∃ t6 t7, σ = [some (vn p), some (vn k0), some (.ref fp), some (vn place), some (vn y), some (.ref lg), t6, t7]) ⟨s2, upd_same, _, _, rfl⟩ ?_ ?_
      · rintro j a2 σ H2 hj ea2 ⟨sm2, hlg, u6, u7, rfl⟩
        have a2len : a2.length = j * found.length := by rw [ea2, fold_flat, flat_len _ found.length (fun x => List.length_map ..), List.length_range]
        have fl : found.length ≤ 1000000 := Nat.le_trans (by rw [Nat.succ_mul]; omega) bnd
        refine ⟨_, rfl, .inl ⟨rfl, _, SqL.of hlg⟩, _, rfl, fp, rfl, ⟨_, SqL.of (sm2 _ _ hfp)⟩, fun D nD => ?_⟩
        refine lcL (K := K) (a := fp) (zs := vns found) found (fun _ => true) (fun one => one + j * place) (fun _ v n => v = vn n) nD (by rw [line24]; omega) (SqL.of (sm2 _ _ hfp)) (vns_len _) (fun _ _ _ _ _ h _ _ => h) ?_ ?_
        · intro i2 z x Hx K1 K2 hz hx sm3 _ h1 h2
          rw [vns_at hx] at hz
          obtain rfl := Option.some.inj hz
          refine ⟨rfl, yesT ?_⟩
          exact ⟨_, rfl, _, rfl, _, rfl, j, place, rfl, rfl, .inl (by omega), x, j * place, rfl, rfl, trivial, h1 _ _ (Same.refl _) rfl rfl⟩
        · intro H3 ws sm3 eD pw
          rw [filt_all] at pw
          rw [paired_vn pw] at eD
          have hb : a2.length + found.length ≤ 1000000 := by
            rw [a2len]
            have z := Nat.mul_le_mul_right found.length (show j + 1 ≤ y + 1 by omega)
            rw [Nat.succ_mul] at z
            omega
          refine ⟨lg, D, vns a2, _, rfl, rfl, sm3 _ _ hlg, eD, by rw [vns_len, vns_len, List.length_map, line24]; omega, ?_⟩
          rw [← vns_app]
          exact ⟨Same.upd (sm2.trans sm3) nlg, upd_same, _, _, rfl⟩
      · rintro σ H2 ⟨sm2, hlg, u6, u7, rfl⟩
        rw [fold_flat] at hlg
        refine ⟨_, rfl, lg, _, rfl, .inl (SqL.of hlg), fun fp2 nf2 => ⟨_, rfl, _, rfl, place, p, rfl, rfl, .inr (by omega), len2, fun t1 nt1 => ⟨t1, _, rfl, SqT.of upd_same, rfl, _, _, rfl, _, _, rfl, rfl, ?_⟩⟩⟩
        have s3 := (Same.new (o := .lst (vns ((List.range (y + 1)).flatMap fun more => found.map fun one => one + more * place))) nf2).trans (Same.new (o := .tup [.ref fp2, vn (place * p)]) nt1)
        exact ⟨(sm.trans sm2).trans s3, s3 _ _ (sm2 _ _ hdl), fp2, _, _, _, _, (sm.trans sm2).free nf2, (Same.new nt1) _ _ upd_same, rfl⟩
    · rintro σ H1 ⟨sm, hdl, fp, t4, t5, t6, t7, hfn, hfp, rfl⟩
      rw [etot] at hfp
      exact ⟨_, rfl, k _ _ sm hfn hfp⟩
end
end Mo
namespace Mo
open PySem PySem.Spec PyProof.Rows L2
open C8 (pe_c pe_gc)
/-! ### plain -/
theorem within_small : ∀ q ∈ Qs, ∀ k, k < 81 → (within (pOf q) k).length ≤ k + 1 ∧ ∀ one ∈ within (pOf q) k, one ≤ k := by decide +kernel
theorem partGo_fold (q : Nat) : ∀ (d : Nat) (found : List (List Nat × Nat)), (List.range d).foldl (fun f _ => partStep q f) found = partGo q d found
  | 0, _ => rfl
  | d + 1, found => by
    have e : ∀ m found, partGo q m (partStep q found) = partStep q (partGo q m found) := fun m => by
      induction m with
      | zero => exact fun _ => rfl
      | succ m ih => exact fun found => ih _
    rw [List.range_succ, List.foldl_append, partGo_fold q d found]
    show partStep q (partGo q d found) = partGo q d (partStep q found)
    rw [e]
def partF (q : Nat) (pl : List Nat × Nat) : List (List Nat × Nat) := ((within (pOf q) pl.2).filter fun one => decide (0 < one) && decide (one % (q - 1) = 0)).map fun one => (pl.1 ++ [one], pl.2 - one)
theorem partF_len {q k : Nat} (hq : q ∈ Qs) (hk : k ≤ 80) {pl : List Nat × Nat} (h : pl.2 ≤ k) : (partF q pl).length ≤ k + 1 := by
  unfold partF
  rw [List.length_map]
  have h1 := (within_small q hq pl.2 (by omega)).1
  have h2 := List.length_filter_le (fun one => decide (0 < one) && decide (one % (q - 1) = 0)) (within (pOf q) pl.2)
  omega
theorem flat_le {α β : Type} (g : α → List β) (n : Nat) : ∀ l : List α, (∀ x ∈ l, (g x).length ≤ n) → (l.flatMap g).length ≤ l.length * n
  | [], _ => by simp
  | x :: r, h => by
    have h1 := flat_le g n r fun y hy => h y (List.mem_cons_of_mem _ hy)
    have h2 := h x (List.mem_cons_self ..)
    rw [List.flatMap_cons, List.length_append, List.length_cons, Nat.succ_mul]
    omega
theorem part_low {q k n : Nat} {found : List (List Nat × Nat)} (h : ∀ pl ∈ found, pl.2 ≤ k ∧ pl.1.length = n) : ∀ pl ∈ partStep q found, pl.2 ≤ k ∧ pl.1.length = n + 1 := fun pl hp => by
  obtain ⟨x, hx, hy⟩ := List.mem_flatMap.mp hp
  obtain ⟨one, _, e⟩ := List.mem_map.mp hy
  rw [← e]
  obtain ⟨h1, h2⟩ := h x hx
  refine ⟨?_, ?_⟩
  · show x.2 - one ≤ k
    omega
  · show (x.1 ++ [one]).length = n + 1
    rw [List.length_append, h2]
    rfl
theorem part_fold {q k : Nat} (hq : q ∈ Qs) (hk : k ≤ 80) : ∀ i : Nat, (∀ pl ∈ (List.range i).foldl (fun f _ => partStep q f) [(([] : List Nat), k)], pl.2 ≤ k ∧ pl.1.length = i) ∧ ((List.range i).foldl (fun f _ => partStep q f) [(([] : List Nat), k)]).length ≤ (k + 1) ^ i
  | 0 => ⟨fun pl hp => by rw [List.mem_singleton.mp hp]; exact ⟨Nat.le_refl _, rfl⟩, Nat.le_refl _⟩
  | i + 1 => by
    obtain ⟨h1, h2⟩ := part_fold hq hk i
    rw [List.range_succ, List.foldl_append]
    refine ⟨part_low h1, ?_⟩
    have h3 := flat_le (partF q) (k + 1) _ fun pl hp => partF_len hq hk (h1 pl hp).1
    rw [Nat.pow_succ]
    exact Nat.le_trans h3 (Nat.mul_le_mul_right _ h2)
theorem fold_flatL {α β : Type} (g : α → List β) : ∀ (l : List α) (acc : List β), l.foldl (fun acc x => acc ++ g x) acc = acc ++ l.flatMap g
  | [], acc => by simp
  | x :: r, acc => by rw [List.foldl_cons, fold_flatL g r, List.flatMap_cons, List.append_assoc]
def PairR (K : PySem.W.Frag) (H : Hp) (v : V) (pl : List Nat × Nat) : Prop := ∃ t pt, v = .ref t ∧ SqT K H t [.ref pt, vn pl.2] ∧ SqT K H pt (vns pl.1)
theorem PairR.mono {K : PySem.W.Frag} {H H' : Hp} {v : V} {pl : List Nat × Nat} (h : PairR K H v pl) (e : Same H H') : PairR K H' v pl := let ⟨t, pt, a, b, c⟩ := h; ⟨t, pt, a, Same.tup e b, Same.tup e c⟩
theorem PairR.but {D : Addr} {K : PySem.W.Frag} {H H' : Hp} {v : V} {pl : List Nat × Nat} {acc : List V} (h : PairR K H v pl) (hD : H D = some (.lst acc)) (e : SameBut D H H') : PairR K H' v pl := let ⟨t, pt, a, b, c⟩ := h; ⟨t, pt, a, e.tup hD b, e.tup hD c⟩
def toB : List Nat → Int × List Int
  | [] => (0, [])
  | a :: r => ((a : Int), r.map fun n : Nat => (n : Int))
theorem toB_vns : ∀ l : List Nat, l ≠ [] → (((toB l).1 :: (toB l).2).map V.int) = vns l
  | [], h => absurd rfl h
  | a :: r, _ => by rw [List.map_cons]; show vn a :: _ = vn a :: vns r; rw [vns_eq]; rfl
theorem tupI_but {D : Addr} {K : PySem.W.Frag} {H H' : Hp} {v : V} {b : Int × List Int} {acc : List V} (h : TupI K H v b) (hD : H D = some (.lst acc)) (e : SameBut D H H') : TupI K H' v b := let ⟨p, a, c⟩ := h; ⟨p, a, e.tup hD c⟩
theorem tupI_mono {K : PySem.W.Frag} {H H' : Hp} {v : V} {b : Int × List Int} (h : TupI K H v b) (e : Same H H') : TupI K H' v b := let ⟨p, a, c⟩ := h; ⟨p, a, Same.tup e c⟩
def spParts (K : PySem.W.Frag) : Sp := fun vs H Q _ => ∃ (fv : V) (q d k : Nat), vs = [fv, vn d, vn k] ∧ FieldR H fv q ∧ k ≤ 80 ∧ d ≤ 100 ∧ (k + 1) ^ d ≤ 1000000 ∧
  ∀ H' p ws bs, Same H H' → H' p = some (.lst ws) → Paired (TupI K H') ws bs → bs.isEmpty = (partingsM q d k).isEmpty → Q (.ref p) H'
section
variable {P : Program} {w : World} {K : PySem.W.Frag} {mg : Str → Option Value} {base : Heap} {aF aP aW : Addr}
theorem ok_l_partings (T : Txt K mg aF aP aW) (d : Df K mg "_law_partings" s_l_partings ["_law_field_here", "_law_d", "_law_k"]) (c_l_within : C8.Cal P w K mg base 2 "_law_within" spWithin []) : C8.Cal P w K mg base 3 "_law_partings" (spParts K) [] := by
  refine cal_of d sc_l_partings (fun vs H Q E h => ?_) (fun f cdv A outer s H vs Q E hr h => ?_)
  · obtain ⟨q, i, _, _, rfl, _⟩ := h
    rfl
  · obtain ⟨fv, q, dd, k0, rfl, hF, hk, hd, hb, k⟩ := h
    have hq := hF.isq
    obtain ⟨q1, q2, p1, p2, f1, f2⟩ := Qs_facts hq
    refine ⟨_, (pss_cons (ps_set (i := 3) sc_l_partings.nd rfl (Or.inr rfl) (pe_op nSub (pe_dget (hu_of hr) (pv 0) pe_str (fun _ _ => rfl)) pe_int))
      (pss_cons (ps_set (i := 4) sc_l_partings.nd rfl (Or.inl rfl) (pe_lst (pa_cons (pe_tup (pa_cons (pe_tup pa_nil) (pa_cons (pv 2) pa_nil))) pa_nil)))
      (pss_cons (ps_for PassesOwn.never rfl (pi_range1 (by rfl) T.range_ (pa_cons (pv 1) pa_nil)) (pg_name (i := 5) sc_l_partings.nd rfl (Or.inl rfl)) (pss_cons (ps_set (i := 6) sc_l_partings.nd rfl (Or.inl rfl) (pe_lst pa_nil))
      (pss_cons (ps_for PassesOwn.never rfl (pi_list (pv 4)) (pg_tup (n := 2) rfl (pgs_cons (pg_name (i := 7) sc_l_partings.nd rfl (Or.inr rfl)) (pgs_cons (pg_name (i := 8) sc_l_partings.nd rfl (Or.inr rfl)) pgs_nil))) (pss_cons (ps_setLc (i := 9) (own := [("_law_one", 10)]) rfl sc_l_partings.nd rfl rfl (sw_true rfl rfl rfl (by decide +kernel)) (pi_list (pe_c c_l_within hr (by decide) rfl (pa_cons (pe_dget (hu_of hr) (pv 0) pe_str (fun _ _ => rfl)) (pa_cons (pv 8) pa_nil)))) (blkOk_by (own := [("_law_one", 10)]) (N := N_l_partings) (sc := defScope s_l_partings) (by decide +kernel)) (fun _ _ _ _ _ => (pg_name (i := 10) sc_l_partings.nd rfl (Or.inl rfl))) (fun _ _ _ _ _ => (pts_one (PW.pt (pw_and (pt_cmpR nGt (pv 10) pe_int (nomark _)) (pw_and1 (pt_cmpR nEq (pe_op nMod (pv 10) (pv 3)) pe_int (nomark _))))))) (fun _ _ _ _ _ => (pv 10)))
      (pss_one (ps_expr (pe_bm PySem.F.plainAttrs_list PySem.F.slot_list_extend PySem.F.type_list_extend mt_extend (pv 6) (pa_cons (pe_lc (own := [("_law_one", 10)]) rfl sc_l_partings.nd (pi_list (pv 9)) (blkOk_by (own := [("_law_one", 10)]) (N := N_l_partings) (sc := defScope s_l_partings) (by decide +kernel)) (fun _ _ _ _ _ => (pg_name (i := 10) sc_l_partings.nd rfl (Or.inl rfl))) (fun _ _ _ _ _ => pts_nil) (fun _ _ _ _ _ => (pe_tup (pa_cons (pe_op (op_catA' (K := K) rfl) (pv 7) (pe_tup (pa_cons (pv 10) pa_nil))) (pa_cons (pe_op nSub (pv 8) (pv 10)) pa_nil))))) pa_nil))))))
      (pss_one (ps_set (i := 4) sc_l_partings.nd rfl (Or.inl rfl) (pe_callTy call_list_of (by rfl) T.list_ (by decide +kernel) (pa_cons (pv 6) pa_nil)))))))
      (pss_one (ps_ret (pe_callB (cr_sortT hr.units) (by rfl) T.sorted_ (by decide +kernel) (pa_cons (pe_lc (own := [("_law_parts", 7), ("_law_left", 8)]) rfl sc_l_partings.nd (pi_list (pv 4)) (blkOk_by (own := [("_law_parts", 7), ("_law_left", 8)]) (N := N_l_partings) (sc := defScope s_l_partings) (by decide +kernel)) (fun _ _ _ _ _ => (pg_tup' (K := K) rfl (n := 2) rfl (pgs_cons (pg_name (i := 7) sc_l_partings.nd rfl (Or.inl rfl)) (pgs_cons (pg_name (i := 8) sc_l_partings.nd rfl (Or.inl rfl)) pgs_nil)))) (fun _ _ _ _ _ => pts_nil) (fun _ _ _ _ _ => (pe_op (op_catA' (K := K) rfl) (pv 7) (pe_tup (pa_cons (pv 8) pa_nil))))) pa_nil))))))), ?_⟩
    obtain ⟨fa, ef, g1, g2, _⟩ := hF.at
    have s0 := (Same.refl H)
    refine ⟨_, rfl, fa, _, ef, g1, q, 1, rfl, rfl, by omega, ?_⟩
    refine ⟨by rw [line24]; exact Nat.zero_le _, fun z0 n0 => ⟨_, rfl, len2, fun t0 m0 => ⟨len1, fun l0 o0 => ?_⟩⟩⟩
    have s1 := ((Same.new (o := .tup []) n0).trans (Same.new (o := .tup [.ref z0, vn k0]) m0)).trans (Same.new (o := .lst [.ref t0]) o0)
    have pr0 : PairR K (upd (upd (upd H z0 (.tup [])) t0 (.tup [.ref z0, vn k0])) l0 (.lst [.ref t0])) (.ref t0) (([] : List Nat), k0) :=
      ⟨t0, z0, rfl, SqT.of ((Same.new o0) _ _ upd_same), SqT.of (((Same.new m0).trans (Same.new o0)) _ _ upd_same)⟩
    refine ⟨_, rfl, (dd : Int), rfl, by omega, by omega, ?_⟩
    refine forR0 (n := dd) (fun f _ => partStep q f) [(([] : List Nat), k0)]
      (fun found σ H' => Same H H' ∧ ∃ fp ws t5 t6 t7 t8 t9, H' fp = some (.lst ws) ∧ Paired (PairR K H') ws found ∧ σ = [some fv, some (vn dd), some (vn k0), some (vn (q - 1)), some (.ref fp), t5, t6, t7, t8, t9, none])
      ⟨s1, l0, _, none, none, none, none, none, upd_same, .cons pr0 .nil, rfl⟩ ?_ ?_
    · rintro i found σ H1 hi eacc ⟨sm, fp, ws, t5, t6, t7, t8, t9, hfp, pw, rfl⟩
      obtain ⟨flow, flen⟩ := part_fold hq hk i
      rw [← eacc] at flow flen
      have fb : found.length * (k0 + 1) ≤ 1000000 := by
        have z1 := Nat.mul_le_mul_right (k0 + 1) flen
        rw [← Nat.pow_succ] at z1
        have e1 : (k0 + 1) ^ i.succ = (k0 + 1) ^ (i + 1) := rfl
        have z2 := Nat.pow_le_pow_right (show 0 < k0 + 1 by omega) (show i + 1 ≤ dd by omega)
        omega
      have fl : found.length ≤ 1000000 := Nat.le_trans (Nat.le_mul_of_pos_right _ (by omega)) fb
      refine ⟨Nat.zero_le _, fun lg nlg => ?_⟩
      have s2 := Same.new (o := .lst []) nlg
      refine ⟨_, rfl, fp, rfl, ⟨_, SqL.of (s2 _ _ hfp)⟩, ?_⟩
      refine forL (K := K) (a := fp) (vs := ws) found (fun acc pl => acc ++ partF q pl) []
        (fun acc σ H' => Same H1 H' ∧ ∃ wl t7 t8 t9, H' lg = some (.lst wl) ∧ Paired (PairR K H') wl acc ∧ σ = [some fv, some (vn dd), some (vn k0), some (vn (q - 1)), some (.ref fp), some (vn i), some (.ref lg), t7, t8, t9, none]) (paired_len pw)
        ⟨s2, [], _, _, _, upd_same, .nil, rfl⟩ (fun acc σ H' h => SqL.of (h.1 _ _ hfp)) ?_ ?_
      · rintro j v pl acc σ H2 hv hy ea ⟨sm2, wl, u7, u8, u9, hlg, pwl, rfl⟩
        obtain ⟨z', ez, hpr⟩ := paired_at pw hy
        rw [ez] at hv
        obtain rfl : z' = v := Option.some.inj hv
        obtain ⟨t, pt, ev, ht, hpt⟩ := hpr.mono sm2
        subst ev
        obtain ⟨hpl, hpn⟩ := flow pl (List.mem_of_getElem? hy)
        obtain ⟨w1, w2⟩ := within_small q hq pl.2 (by omega)
        refine ⟨t, _, rfl, ht, rfl, ?_⟩
        refine ⟨_, _, rfl, _, _, rfl, rfl, ?_⟩
        refine ⟨_, rfl, fa, _, ef, dget_mono g2 (sm.trans sm2), _, rfl, pOf q, pl.2, rfl, p1, by omega, by omega, by omega, fun H3 wp s3 _ hwp => ?_⟩
        refine ⟨wp, rfl, ⟨_, SqL.of hwp⟩, fun D nD => ?_⟩
        refine lcL (K := K) (a := wp) (zs := vns (within (pOf q) pl.2)) (within (pOf q) pl.2) (fun one => decide (0 < one) && decide (one % (q - 1) = 0)) (fun one => one) (fun _ v n => v = vn n) nD (by rw [line24]; omega) (SqL.of hwp) (vns_len _) (fun _ _ _ _ _ h _ _ => h) ?_ ?_
        · intro i2 z x Hx K1 K2 hz hx sm3 _ h1 h2
          rw [vns_at hx] at hz
          obtain rfl := Option.some.inj hz
          refine ⟨rfl, ?_⟩
          refine ⟨_, rfl, x, 0, rfl, rfl, _, rfl, ?_⟩
          refine ite2 (fun c => ?_) (fun c => ?_)
          · refine ⟨_, rfl, _, rfl, x, q - 1, rfl, rfl, by omega, x % (q - 1), 0, rfl, rfl, _, rfl, ?_⟩
            refine ite2 (fun c2 => ?_) (fun c2 => ?_)
            · exact ⟨_, rfl, h1 _ _ (Same.refl _) rfl (by show (decide (0 < x) && decide (x % (q - 1) = 0)) = true; rw [show decide (0 < x) = true from c, show decide (x % (q - 1) = 0) = true from c2]; rfl)⟩
            · exact h2 _ (Same.refl _) (by
                have c3 : decide (x % (q - 1) = 0) = false := by simpa using c2
                show (decide (0 < x) && decide (x % (q - 1) = 0)) = false
                rw [c3, Bool.and_false])
          · exact iteF (h2 _ (Same.refl _) (by
              have c3 : decide (0 < x) = false := by simpa using c
              show (decide (0 < x) && decide (x % (q - 1) = 0)) = false
              rw [c3]; rfl))
        intro H4 wsm s4 eD pws
        rw [paired_vn pws, List.map_id'] at eD
        have ssum : Same H2 H4 := s3.trans s4
        generalize hS : ((within (pOf q) pl.2).filter fun one => decide (0 < one) && decide (one % (q - 1) = 0)) = some_ at eD
        have hsle : some_.length ≤ k0 + 1 := by
          rw [← hS]
          have := List.length_filter_le (fun one => decide (0 < one) && decide (one % (q - 1) = 0)) (within (pOf q) pl.2)
          omega
        have hsl : ∀ one ∈ some_, one ≤ pl.2 := fun one h => by rw [← hS] at h; exact w2 one (List.mem_filter.mp h).1
        refine ⟨_, rfl, .inl ⟨rfl, _, SqL.of (ssum _ _ hlg)⟩, _, rfl, D, rfl, ⟨_, SqL.of eD⟩, fun D2 nD2 => ?_⟩
        refine lcL (K := K) (a := D) (zs := vns some_) some_ (fun _ => true) (fun one => (pl.1 ++ [one], pl.2 - one)) (fun H v c => PairR K H v c) nD2 (by rw [line24]; omega) (SqL.of eD) (vns_len _) (fun H H' v c acc h e sb => h.but e sb) ?_ ?_
        · intro i2 z x Hx K1 K2 hz hx sm5 _ h1 h2
          rw [vns_at hx] at hz
          obtain rfl := Option.some.inj hz
          have hxl := hsl x (List.mem_of_getElem? hx)
          refine ⟨rfl, yesT ?_⟩
          refine ⟨_, rfl, _, rfl, len1, fun o1 no1 => ?_⟩
          have s6 := Same.new (o := .tup [vn x]) no1
          have hpt2 : SqT K (upd Hx o1 (.tup [vn x])) pt (vns pl.1) := Same.tup ((ssum.trans sm5).trans s6) hpt
          refine catA_all rfl rfl hpt2 (SqT.of upd_same) ?_ fun H6 t6 s7 ht6 => ?_
          · rw [line24, vns_len, hpn]; show i + 1 ≤ _; omega
          refine ⟨_, rfl, _, rfl, pl.2, x, rfl, rfl, hxl, len2, fun t9 nt9 => ?_⟩
          refine h1 _ _ ((s6.trans s7).trans (Same.new nt9)) ⟨t9, t6, rfl, SqT.of upd_same, ?_⟩ rfl
          have z := Same.tup (Same.new (o := .tup [.ref t6, vn (pl.2 - x)]) nt9) ht6
          show SqT K _ t6 (vns (pl.1 ++ [x]))
          rw [vns_app]
          exact z
        intro H5 wn s5 eD2 pwn
        rw [filt_all] at pwn
        have s6 := ssum.trans s5
        have alen : acc.length ≤ 1000000 := by
          rw [ea, fold_flatL, List.nil_append]
          refine Nat.le_trans (flat_le (partF q) (k0 + 1) _ fun pl hp => partF_len hq hk (flow pl (List.mem_of_mem_take hp)).1) (Nat.le_trans (Nat.mul_le_mul_right _ ?_) fb)
          rw [List.length_take]
          exact Nat.min_le_right _ _
        have hlg5 := s6 _ _ hlg
        have wlen : wn.length = some_.length := by rw [paired_len pwn, List.length_map]
        have wlen2 : wl.length = acc.length := paired_len pwl
        refine ⟨lg, D2, wl, wn, rfl, rfl, hlg5, eD2, by rw [line24]; omega, ?_⟩
        have sb : SameBut lg H5 (upd H5 lg (.lst (wl ++ wn))) := fun b o hb e => by rw [upd_ne hb]; exact e
        refine ⟨Same.upd (sm2.trans s6) nlg, wl ++ wn, _, _, _, upd_same, ?_, rfl⟩
        refine paired_app (paired_mono pwl fun v c h => (h.mono s6).but hlg5 sb) ?_
        have eF : partF q pl = some_.map fun one => (pl.1 ++ [one], pl.2 - one) := by rw [← hS]; rfl
        rw [eF]
        exact paired_mono pwn fun v c h => h.but hlg5 sb
      · rintro σ H2 ⟨sm2, wl, u7, u8, u9, hlg, pwl, rfl⟩
        rw [fold_flatL, List.nil_append] at pwl
        refine ⟨_, rfl, lg, _, rfl, .inl (SqL.of hlg), fun fp2 nf2 => ?_⟩
        have s3 := Same.new (o := .lst wl) nf2
        exact ⟨(sm.trans sm2).trans s3, fp2, wl, _, _, _, _, _, upd_same, paired_mono pwl fun v c h => h.mono s3, rfl⟩
    · rintro σ H1 ⟨sm, fp, ws, t5, t6, t7, t8, t9, hfp, pw, rfl⟩
      obtain ⟨flow, flen⟩ := part_fold hq hk dd
      rw [partGo_fold] at pw flow flen
      have flen2 : (partingsM q dd k0).length ≤ 1000000 := Nat.le_trans flen hb
      refine ⟨_, rfl, fp, rfl, ⟨_, SqL.of hfp⟩, fun D nD => ?_⟩
      refine lcL (K := K) (a := fp) (zs := ws) (partingsM q dd k0) (fun _ => true) (fun pl => toB (pl.1 ++ [pl.2])) (fun H v c => TupI K H v c) nD (by rw [line24]; omega) (SqL.of hfp) (paired_len pw) (fun H H' v c acc h e sb => tupI_but h e sb) ?_ ?_
      · intro i2 z pl Hx K1 K2 hz hx sm5 _ h1 h2
        obtain ⟨z', ez, hpr⟩ := paired_at pw hx
        rw [ez] at hz
        obtain rfl : z' = z := Option.some.inj hz
        obtain ⟨t, pt, ev, ht, hpt⟩ := hpr.mono sm5
        subst ev
        obtain ⟨hpl, hpn⟩ := flow pl (List.mem_of_getElem? hx)
        refine ⟨t, _, rfl, ht, rfl, _, _, rfl, _, _, rfl, rfl, rfl, yesT ?_⟩
        refine ⟨_, rfl, _, rfl, len1, fun o1 no1 => ?_⟩
        have s6 := Same.new (o := .tup [vn pl.2]) no1
        refine catA_all rfl rfl (Same.tup s6 hpt) (SqT.of upd_same) (by rw [line24, vns_len, hpn]; show dd + 1 ≤ _; omega) fun H6 t6 s7 ht6 => ?_
        refine h1 _ _ (s6.trans s7) ⟨t6, rfl, ?_⟩ rfl
        rw [toB_vns _ (by simp), vns_app]
        exact ht6
      · intro H5 wn s5 eD pwn
        rw [filt_all] at pwn
        refine ⟨D, wn, _, rfl, SqL.of eD, pwn, fun D2 out bs' nD2 hperm hpo => ?_⟩
        have s6 := Same.new (o := .lst out) nD2
        refine k _ _ out bs' ((sm.trans s5).trans s6) upd_same (paired_mono hpo fun v c h => tupI_mono h s6) ?_
        have e1 := hperm.length_eq
        rw [List.length_map] at e1
        cases bs' with
        | nil =>
          cases hX : partingsM q dd k0 with
          | nil => rfl
          | cons a b => rw [hX] at e1; cases e1
        | cons a b =>
          cases hX : partingsM q dd k0 with
          | nil => rw [hX] at e1; cases e1
          | cons a b => rfl
end
end Mo
namespace Mo
open PySem PySem.Spec PyProof.Rows L2
open C8 (pe_c pe_gc)
theorem cr_sum' {X : Cx} {K : PySem.W.Frag} (h : X.K = K) (hc : X.calm = true) : CallR X (.builtin "sum") (rSum K) := h ▸ cr_sum hc
theorem pe_sliceS' {X : Cx} {K : PySem.W.Frag} (h : X.K = K) {e lo st : Expr} {te tl ts : TE} {p3 pos : Pos} (he : PE X e te) (hl : PE X lo tl) (hs : PE X st ts) : PE X (.Subscript e (.Slice (some lo) none (some st) p3) pos) (tSlS K te tl ts) := h ▸ pe_sliceS he hl hs
theorem ev_every {α : Type} (f : Nat) : ∀ (n : Nat) (l : List Nat), evG f n l = everyGo f n l
  | _, [] => by cases ‹Nat› <;> rfl
  | 0, x :: r => by show x :: evG f (f - 1) r = x :: everyGo f (f - 1) r; rw [ev_every (α := α) f (f - 1) r]
  | n + 1, x :: r => by show evG f n r = everyGo f n r; rw [ev_every (α := α) f n r]
theorem dot_zip : ∀ ws ns : List Nat, sumL ((ws.zip ns).map fun p => p.2 * p.1) = dot ws ns
  | [], ns => by cases ns <;> rfl
  | w :: ws, [] => rfl
  | w :: ws, n :: ns => by rw [List.zip_cons_cons, List.map_cons]; show n * w + _ = n * w + _; rw [dot_zip ws ns]
theorem wts : ∀ q ∈ Qs, (weights q).length = fOf q ∧ ∀ w ∈ weights q, w < 100 := by decide +kernel
theorem slA_all {K : PySem.W.Frag} {x : V} {lo hi : Option Int} {H : Hp} {Q : VK} {a : Addr} {xs : List V} (ex : x = .ref a) (ha : SqT K H a xs) (k : ∀ H' p, Same H H' → SqT K H' p (cutV xs lo hi) → Q (.ref p) H') : rSlA K x lo hi H Q := by
  refine ⟨a, xs, ex, ha, fun hw => k _ _ (Same.refl _) ?_, fun _ p hp => k _ _ (Same.new hp) (SqT.of upd_same)⟩
  have e : cutV xs lo hi = xs := by
    unfold cutV
    rw [hw.1, hw.2, List.drop_zero, Nat.sub_zero, List.take_length]
  rw [e]
  exact ha
theorem cut_drop (ns : List Nat) (n : Nat) : cutV (vns ns) (some ((n : Nat) : Int)) none = vns (ns.drop n) := by
  unfold cutV
  rw [HT.sIx_none, HT.sIx_nat, vns_drop, vns_take, vns_len]
  by_cases h : n ≤ ns.length
  · rw [Nat.min_eq_left h, List.take_of_length_le (by rw [List.length_drop]; exact Nat.le_refl _)]
  · rw [Nat.min_eq_right (by omega), List.drop_of_length_le (show ns.length ≤ ns.length by omega), List.drop_of_length_le (show ns.length ≤ n by omega)]
    simp
def spWeights (K : PySem.W.Frag) : Sp := fun vs H Q _ => ∃ q : Nat, vs = [vn q] ∧ q ∈ Qs ∧ ∀ H' p, Same H H' → SqT K H' p (vns (weights q)) → Q (.ref p) H'
def spRestU (K : PySem.W.Frag) : Sp := fun vs H Q _ => ∃ (q : Nat) (a : Addr) (units : List Nat) (kk : Bool), vs = [vn q, .ref a] ∧ q ∈ Qs ∧ SqK kk K H a (vns units) ∧ units.length = fOf q ∧ ∀ H', Same H H' → Q (vn (restOf q units)) H'
def spUnits (K : PySem.W.Frag) : Sp := fun vs H Q _ => ∃ (f : Nat) (a : Addr) (row : List Nat), vs = [vn f, .ref a] ∧ 1 ≤ f ∧ f ≤ 3 ∧ SqL K H a (vns row) ∧ ∀ H' p, Same H H' → H' p = some (.lst (vns (unitsOf f row))) → Q (.ref p) H'
def spRoom (K : PySem.W.Frag) : Sp := fun vs H Q _ => ∃ (q n : Nat) (a : Addr) (units : List Nat), vs = [vn q, .ref a, vn n] ∧ q ∈ Qs ∧ SqL K H a (vns units) ∧ units.length = fOf q ∧ ∀ H', Same H H' → Q (.bl (hasRoom q units n)) H'
def spWith (K : PySem.W.Frag) : Sp := fun vs H Q _ => ∃ (a : Addr) (units : List Nat) (place digit : Nat), vs = [.ref a, vn place, vn digit] ∧ SqL K H a (vns units) ∧ units ≠ [] ∧ ∀ H' p, Same H H' → H p = none → H' p = some (.lst (vns (withUnit units place digit))) → Q (.ref p) H'
section
variable {P : Program} {w : World} {K : PySem.W.Frag} {mg : Str → Option Value} {base : Heap} {aF aP aW : Addr}
theorem ok_weights_of (T : Txt K mg aF aP aW) (d : Df K mg "weights_of" s_weights_of ["q"]) : C8.Cal P w K mg base 1 "weights_of" (spWeights K) [] := by
  refine cal_of d sc_weights_of (fun vs H Q E h => ?_) (fun f cdv A outer s H vs Q E hr h => ?_)
  · obtain ⟨q, rfl, _⟩ := h
    rfl
  · obtain ⟨q, rfl, hq, k⟩ := h
    obtain ⟨q1, q2, p1, p2, f1, f2⟩ := Qs_facts hq
    refine ⟨_, (pss_cons (ps_set (i := 1) sc_weights_of.nd rfl (Or.inl rfl) (pe_ix ix_kint (pe_gc rfl T.PRIMES_BELOW) (pv 0) (fun _ _ => rfl)))
      (pss_one (ps_ret (pe_slice sl_tupA (pe_tup (pa_cons pe_int (pa_cons (pv 1) (pa_cons (pe_op nMul (pv 1) (pv 1)) pa_nil)))) po_none (po_some (pe_ix ix_kint (pe_gc rfl T.POWERS_BELOW) (pv 0) (fun _ _ => rfl))))))), ?_⟩
    refine ⟨_, rfl, aP, (q : Int), vn (pOf q), _, rfl, rfl, T.primes, kq hq pOf, ?_⟩
    refine ⟨_, rfl, _, rfl, _, rfl, pOf q, pOf q, rfl, rfl, .inl (by omega), len3, fun t0 n0 => ?_⟩
    refine ⟨_, rfl, aW, (q : Int), vn (fOf q), _, rfl, rfl, T.powers, kq hq fOf, ((fOf q : Nat) : Int), rfl, ?_⟩
    refine slA_all rfl (SqT.of upd_same) fun H' p s1 hp => ?_
    have e : [V.int 1, vn (pOf q), vn (pOf q * pOf q)] = vns [1, pOf q, pOf q * pOf q] := rfl
    refine k _ _ ((Same.new n0).trans s1) ?_
    have hp2 : SqT K H' p (cutV (vns [1, pOf q, pOf q * pOf q]) none (some ((fOf q : Nat) : Int))) := hp
    rw [cut_take] at hp2
    exact hp2
theorem ok_rest_of_units (T : Txt K mg aF aP aW) (d : Df K mg "rest_of_units" s_rest_of_units ["q", "units"]) (c_weights_of : C8.Cal P w K mg base 1 "weights_of" (spWeights K) []) : C8.Cal P w K mg base 2 "rest_of_units" (spRestU K) [] := by
  refine cal_of d sc_rest_of_units (fun vs H Q E h => ?_) (fun f cdv A outer s H vs Q E hr h => ?_)
  · obtain ⟨q, _, _, _, rfl, _⟩ := h
    rfl
  · obtain ⟨q, a, units, kk, rfl, hq, ha, hl, k⟩ := h
    obtain ⟨q1, q2, p1, p2, f1, f2⟩ := Qs_facts hq
    obtain ⟨w1, w2⟩ := wts q hq
    refine ⟨_, (pss_one (ps_ret (pe_op nMod (pe_callB (cr_sum rfl) (by rfl) T.sum_ (by decide +kernel) (pa_cons (pe_lc (own := [("weight", 2), ("number", 3)]) rfl sc_rest_of_units.nd (pi_zipK true kk (by rfl) T.zip_ (pa_cons (pe_c c_weights_of hr (by decide) rfl (pa_cons (pv 0) pa_nil)) (pa_cons (pv 1) pa_nil))) (blkOk_by (own := [("weight", 2), ("number", 3)]) (N := N_rest_of_units) (sc := defScope s_rest_of_units) (by decide +kernel)) (fun _ _ _ _ _ => (pg_tup' (K := K) rfl (n := 2) rfl (pgs_cons (pg_name (i := 2) sc_rest_of_units.nd rfl (Or.inl rfl)) (pgs_cons (pg_name (i := 3) sc_rest_of_units.nd rfl (Or.inl rfl)) pgs_nil)))) (fun _ _ _ _ _ => pts_nil) (fun _ _ _ _ _ => (pe_op nMul (pv 3) (pv 2)))) pa_nil)) (pe_op nSub (pv 0) pe_int)))), ?_⟩
    refine ⟨_, rfl, q, rfl, hq, fun H1 wp s1 hwp => ⟨_, rfl, wp, a, vns (weights q), vns units, rfl, hwp, Same.sqk s1 ha, fun D nD => ?_⟩⟩
    refine lcZ (k := true) (k2 := kk) (K := K) (a := wp) (b := a) (zs := vns (weights q)) (zs' := vns units) (weights q) units (fun _ => true) (fun p => p.2 * p.1) (fun _ v n => v = vn n) nD (by rw [line24, w1]; omega) hwp (Same.sqk s1 ha) (vns_len _) (vns_len _) (w1.trans hl.symm)
      (fun _ _ _ _ _ h _ _ => h) ?_ ?_
    · intro i z z' y y' Hx T1 K1 K2 hz hz' hy hy' sm _ hT h1 h2
      rw [vns_at hy] at hz
      rw [vns_at hy'] at hz'
      obtain rfl := Option.some.inj hz
      obtain rfl := Option.some.inj hz'
      have wy := w2 y (List.mem_of_getElem? hy)
      refine ⟨T1, _, rfl, SqT.of upd_same, rfl, _, _, rfl, _, _, rfl, rfl, rfl, yesT ?_⟩
      exact ⟨_, rfl, _, rfl, y', y, rfl, rfl, .inr (by omega), h1 _ _ (Same.new hT) rfl rfl⟩
    · intro H2 ws s2 eD pw
      rw [filt_all] at pw
      rw [paired_vn pw] at eD
      refine ⟨D, ((((weights q).zip units).map fun p => p.2 * p.1).map fun n : Nat => (n : Int)), rfl, SqL.of (by rw [← vns_eq]; exact eD), ?_⟩
      rw [sumL_cast, dot_zip]
      refine ⟨_, rfl, q, 1, rfl, rfl, by omega, _, q - 1, rfl, rfl, by omega, ?_⟩
      exact k _ (s1.trans s2)
theorem ok_units_of (T : Txt K mg aF aP aW) (d : Df K mg "units_of" s_units_of ["f", "row"]) : C8.Cal P w K mg base 1 "units_of" (spUnits K) [] := by
  refine cal_of d sc_units_of (fun vs H Q E h => ?_) (fun f cdv A outer s H vs Q E hr h => ?_)
  · obtain ⟨q, _, _, rfl, _⟩ := h
    rfl
  · obtain ⟨f, a, row, rfl, f1, f2, ha, k⟩ := h
    refine ⟨_, (pss_one (ps_ret (pe_lc (own := [("rest", 2)]) rfl sc_units_of.nd (pi_range1 (by rfl) T.range_ (pa_cons (pv 0) pa_nil)) (blkOk_by (own := [("rest", 2)]) (N := N_units_of) (sc := defScope s_units_of) (by decide +kernel)) (fun _ _ _ _ _ => (pg_name (i := 2) sc_units_of.nd rfl (Or.inl rfl))) (fun _ _ _ _ _ => pts_nil) (fun _ _ _ _ _ => (pe_callB (cr_sum' (K := K) rfl rfl) (by rfl) T.sum_ (by decide +kernel) (pa_cons (pe_sliceS' (K := K) rfl (pv 1) (pv 2) (pv 0)) pa_nil)))))), ?_⟩
    refine ⟨_, rfl, (f : Int), rfl, by omega, by omega, fun D nD => ?_⟩
    refine lcR0 (n := f) (fun r => sumL (every f r row)) (fun _ v n => v = vn n) nD (by rw [line24]; omega) (fun _ _ _ _ _ h _ _ => h) (fun j H1 K1 hj sm _ h1 => ⟨rfl, ?_⟩) (fun H1 ws sm e pw => ?_) gm_name
    · refine ⟨_, rfl, _, rfl, _, rfl, a, vns row, j, f, rfl, rfl, rfl, by omega, sm.seq ha, fun p hp => ⟨p, (every f j row).map fun n : Nat => (n : Int), rfl, SqL.of ?_, ?_⟩⟩
      · rw [← vns_eq, upd_same, evG_map, ev_every (α := Nat)]
        rfl
      · rw [sumL_cast]
        exact h1 _ _ (Same.new hp) rfl
    · rw [paired_vn pw] at e
      exact k _ _ sm e
theorem ok_has_room (T : Txt K mg aF aP aW) (d : Df K mg "has_room" s_has_room ["q", "units", "n"]) (c_weights_of : C8.Cal P w K mg base 1 "weights_of" (spWeights K) []) : C8.Cal P w K mg base 2 "has_room" (spRoom K) [] := by
  refine cal_of d sc_has_room (fun vs H Q E h => ?_) (fun f cdv A outer s H vs Q E hr h => ?_)
  · obtain ⟨q, _, _, _, rfl, _⟩ := h
    rfl
  · obtain ⟨q, n, a, units, rfl, hq, ha, hl, k⟩ := h
    obtain ⟨q1, q2, p1, p2, f1, f2⟩ := Qs_facts hq
    obtain ⟨w1, w2⟩ := wts q hq
    refine ⟨_, (pss_cons (ps_set (i := 3) sc_has_room.nd rfl (Or.inl rfl) (pe_c c_weights_of hr (by decide) rfl (pa_cons (pv 0) pa_nil)))
      (pss_cons (ps_for PassesOwn.never rfl (pi_range1 (by rfl) T.range_ (pa_cons (pe_callB call_len_seq (by rfl) T.len_ PySem.boot_len (pa_cons (pv 3) pa_nil)) pa_nil)) (pg_name (i := 4) sc_has_room.nd rfl (Or.inl rfl)) (pss_cons (ps_set (i := 5) sc_has_room.nd rfl (Or.inl rfl) (pe_op op_catA (pe_slice sl_tupA (pv 3) (po_some (pv 4)) po_none) (pe_slice sl_tupA (pv 3) po_none (po_some (pv 4)))))
      (pss_one (ps_if (pt_cmpR nLt (pe_callB (cr_sum rfl) (by rfl) T.sum_ (by decide +kernel) (pa_cons (pe_lc (own := [("weight", 6), ("number", 7)]) rfl sc_has_room.nd (pi_zipK true false (by rfl) T.zip_ (pa_cons (pv 5) (pa_cons (pv 1) pa_nil))) (blkOk_by (own := [("weight", 6), ("number", 7)]) (N := N_has_room) (sc := defScope s_has_room) (by decide +kernel)) (fun _ _ _ _ _ => (pg_tup' (K := K) rfl (n := 2) rfl (pgs_cons (pg_name (i := 6) sc_has_room.nd rfl (Or.inl rfl)) (pgs_cons (pg_name (i := 7) sc_has_room.nd rfl (Or.inl rfl)) pgs_nil)))) (fun _ _ _ _ _ => pts_nil) (fun _ _ _ _ _ => (pe_op nMul (pv 7) (pv 6)))) pa_nil)) (pe_op nMul (pv 2) (pe_op nSub (pv 0) pe_int)) (nomark _)) (pss_one (ps_ret pe_bl)) pss_nil))))
      (pss_one (ps_ret pe_bl)))), ?_⟩
    refine ⟨_, rfl, q, rfl, hq, fun H1 wp s1 hwp => ?_⟩
    refine ⟨_, rfl, wp, _, rfl, .inr hwp, ?_⟩
    rw [vns_len, w1]
    refine ⟨((fOf q : Nat) : Int), rfl, by omega, by omega, ?_⟩
    refine forR0 (n := fOf q) (fun acc s => acc && !Nat.blt (dot (turnW q s) units) (n * (q - 1))) true (fun acc σ H' => acc = true ∧ Same H1 H' ∧ ∃ t4 t5, σ = [some (vn q), some (.ref a), some (vn n), some (.ref wp), t4, t5, none, none]) ⟨rfl, Same.refl _, none, none, rfl⟩ ?_ ?_
    · rintro i acc σ H2 hi _ ⟨rfl, sm, t4, t5, rfl⟩
      refine ⟨_, rfl, _, rfl, (i : Int), rfl, ?_⟩
      dsimp only [tNoPart]
      refine slA_all rfl (Same.tup sm hwp) fun H3 p3 s3 hp3 => ?_
      refine ⟨_, rfl, _, rfl, (i : Int), rfl, ?_⟩
      dsimp only [tNoPart]
      refine slA_all rfl (Same.tup (sm.trans s3) hwp) fun H4 p4 s4 hp4 => ?_
      rw [cut_drop] at hp3
      rw [cut_take] at hp4
      refine catA_all rfl rfl (Same.tup s4 hp3) hp4 (by rw [line24, vns_len, vns_len, List.length_drop, List.length_take]; omega) fun H5 p5 s5 hp5 => ?_
      rw [← vns_app] at hp5
      have hp6 : SqT K H5 p5 (vns (turnW q i)) := hp5
      have tl : (turnW q i).length = fOf q := by unfold turnW; rw [List.length_append, List.length_drop, List.length_take, w1]; omega
      have tw : ∀ w ∈ turnW q i, w < 100 := fun w hw => by
        unfold turnW at hw
        rcases List.mem_append.mp hw with e | e
        · exact w2 w (List.mem_of_mem_drop e)
        · exact w2 w (List.mem_of_mem_take e)
      have s6 := ((s1.trans sm).trans s3).trans (s4.trans s5)
      refine ⟨_, rfl, _, rfl, p5, a, vns (turnW q i), vns units, rfl, hp6, s6.seq ha, fun D nD => ?_⟩
      refine lcZ (k := true) (k2 := false) (K := K) (a := p5) (b := a) (zs := vns (turnW q i)) (zs' := vns units) (turnW q i) units (fun _ => true) (fun p => p.2 * p.1) (fun _ v n => v = vn n) nD (by rw [line24, tl]; omega) hp6 (s6.seq ha) (vns_len _) (vns_len _) (tl.trans hl.symm)
        (fun _ _ _ _ _ h _ _ => h) ?_ ?_
      · intro i z z' y y' Hx T1 K1 K2 hz hz' hy hy' sm _ hT h1 h2
        rw [vns_at hy] at hz
        rw [vns_at hy'] at hz'
        obtain rfl := Option.some.inj hz
        obtain rfl := Option.some.inj hz'
        have wy := tw y (List.mem_of_getElem? hy)
        refine ⟨T1, _, rfl, SqT.of upd_same, rfl, _, _, rfl, _, _, rfl, rfl, rfl, yesT ?_⟩
        exact ⟨_, rfl, _, rfl, y', y, rfl, rfl, .inr (by omega), h1 _ _ (Same.new hT) rfl rfl⟩
      · intro H7 ws s7 eD pw
        rw [filt_all] at pw
        rw [paired_vn pw] at eD
        refine ⟨D, ((((turnW q i).zip units).map fun p => p.2 * p.1).map fun n : Nat => (n : Int)), rfl, SqL.of (by rw [← vns_eq]; exact eD), ?_⟩
        rw [sumL_cast, dot_zip]
        refine ⟨_, rfl, _, rfl, q, 1, rfl, rfl, by omega, n, q - 1, rfl, rfl, .inr (by omega), _, _, rfl, rfl, _, rfl, ?_⟩
        refine ite2 (fun c => ?_) (fun c => ?_)
        · have c : dot (turnW q i) units < n * (q - 1) := of_decide_eq_true c
          have e : hasRoom q units n = false := by
            unfold hasRoom
            rw [Bool.eq_false_iff]
            intro h
            have z := List.all_eq_true.mp h i (List.mem_range.mpr hi)
            have z2 : Nat.blt (dot (turnW q i) units) (n * (q - 1)) = true := by unfold Nat.blt; exact Nat.ble_eq_true_of_le c
            rw [z2] at z
            cases z
          have z := k _ (s6.trans s7)
          rw [e] at z
          exact z
        · have c : ¬ dot (turnW q i) units < n * (q - 1) := fun q => c (decide_eq_true q)
          refine ⟨?_, ((sm.trans s3).trans (s4.trans s5)).trans s7, _, _, rfl⟩
          have z2 : Nat.blt (dot (turnW q i) units) (n * (q - 1)) = false := by
            rw [Bool.eq_false_iff]
            intro h
            exact c (Nat.le_of_ble_eq_true h)
          rw [z2]
          rfl
    · rintro σ H2 ⟨e, sm, t4, t5, rfl⟩
      have e2 : hasRoom q units n = true := by
        unfold hasRoom
        rw [← e]
        clear e
        generalize fOf q = m
        induction m with
        | zero => rfl
        | succ m ih => rw [List.range_succ, List.all_append, List.foldl_append, ih]; simp
      have z := k _ (s1.trans sm)
      rw [e2] at z
      exact z
theorem ok_with_unit (T : Txt K mg aF aP aW) (d : Df K mg "with_unit" s_with_unit ["units", "place", "digit"]) : C8.Cal P w K mg base 1 "with_unit" (spWith K) [] := by
  refine cal_of d sc_with_unit (fun vs H Q E h => ?_) (fun f cdv A outer s H vs Q E hr h => ?_)
  · obtain ⟨q, _, _, _, rfl, _⟩ := h
    rfl
  · obtain ⟨a, units, place, digit, rfl, ha, hne, k⟩ := h
    have hl0 : 0 < units.length := List.length_pos_iff.mpr hne
    refine ⟨_, (pss_cons (ps_set (i := 3) sc_with_unit.nd rfl (Or.inl rfl) (pe_callTy call_list_of (by rfl) T.list_ (by decide +kernel) (pa_cons (pv 0) pa_nil)))
      (pss_cons (ps_augS (pv 3) (pe_op nMod (pv 1) (pe_callB call_len_seq (by rfl) T.len_ PySem.boot_len (pa_cons (pv 0) pa_nil))) get_list (pv 2) ip_addN set_list)
      (pss_one (ps_ret (pv 3))))), ?_⟩
    refine ⟨_, rfl, a, _, rfl, .inl ha, fun pf npf => ?_⟩
    have s1 := Same.new (o := .lst (vns units)) npf
    refine ⟨_, rfl, _, rfl, _, rfl, a, _, rfl, .inl (s1.seq ha), ?_⟩
    rw [vns_len]
    have hix : place % units.length < units.length := Nat.mod_lt _ hl0
    refine ⟨place, units.length, rfl, rfl, hl0, pf, vns units, place % units.length, _, rfl, rfl, SqL.of upd_same, vns_at (List.getElem?_eq_getElem hix), ?_⟩
    refine ⟨_, rfl, _, digit, rfl, rfl, trivial, pf, _, ((place % units.length : Nat) : Int), place % units.length, rfl, rfl, upd_same, ixN_vns hix, ?_⟩
    rw [vns_set, upd_upd]
    refine ⟨_, rfl, k _ _ (Same.new npf) npf ?_⟩
    rw [upd_same]
    unfold withUnit
    rw [List.getD_eq_getElem?_getD, List.getElem?_eq_getElem hix]
    rfl
end
end Mo
namespace Mo
open PySem PySem.Spec PyProof.Rows L2
open C8 (pe_c pe_gc)
theorem pa_star' {X : Cx} {K : PySem.W.Frag} {e : Expr} {es : List Expr} {te : TE} {t : TA} {p : Pos} (h : X.K = K) (he : PE X e te) (hr : PA X es t) (hs : starEach (.Starred e p :: es) X.env = (true, eval e X.env) :: starEach es X.env := by rfl) : PA X (.Starred e p :: es) (StX.tStar K te t) := h ▸ StX.pa_star he hr hs
theorem add_zip : ∀ as bs : List Nat, ((as.zip bs).map fun p => p.1 + p.2) = addL as bs
  | [], bs => by cases bs <;> rfl
  | a :: as, [] => rfl
  | a :: as, b :: bs => by rw [List.zip_cons_cons, List.map_cons, add_zip as bs]; rfl
theorem sub_zip : ∀ as bs : List Nat, ((as.zip bs).map fun p => p.1 - p.2) = subL as bs
  | [], bs => by cases bs <;> rfl
  | a :: as, [] => rfl
  | a :: as, b :: bs => by rw [List.zip_cons_cons, List.map_cons, sub_zip as bs]; rfl
theorem le_zip : ∀ as bs : List Nat, ((as.zip bs).map fun p => decide (p.1 ≤ p.2)).all id = leL as bs
  | [], bs => by cases bs <;> rfl
  | a :: as, [] => rfl
  | a :: as, b :: bs => by
    rw [List.zip_cons_cons, List.map_cons, List.all_cons, le_zip as bs]
    show (decide (a ≤ b) && leL as bs) = (Nat.ble a b && leL as bs)
    have e : decide (a ≤ b) = Nat.ble a b := by
      rw [Bool.eq_iff_iff, decide_eq_true_iff, Nat.ble_eq]
    rw [e]
theorem leL_at : ∀ {as bs : List Nat} {i a b : Nat}, leL as bs = true → as[i]? = some a → bs[i]? = some b → a ≤ b
  | [], _, i, a, b, _, h, _ => by simp at h
  | _ :: _, [], i, a, b, _, _, h => by simp at h
  | x :: as, y :: bs, 0, a, b, h, ha, hb => by
    have h' : (Nat.ble x y && leL as bs) = true := h
    rw [Bool.and_eq_true] at h'
    simp at ha hb
    subst ha hb
    exact Nat.le_of_ble_eq_true h'.1
  | x :: as, y :: bs, i + 1, a, b, h, ha, hb => by
    have h' : (Nat.ble x y && leL as bs) = true := h
    rw [Bool.and_eq_true] at h'
    exact leL_at (i := i) h'.2 (by simpa using ha) (by simpa using hb)
theorem addL_at : ∀ {as bs : List Nat} {i m : Nat}, (addL as bs)[i]? = some m → ∃ b, bs[i]? = some b ∧ b ≤ m
  | [], _, i, m, h => by simp [addL] at h
  | _ :: _, [], i, m, h => by simp [addL] at h
  | x :: as, y :: bs, 0, m, h => ⟨y, rfl, by
    have h' : some (x + y) = some m := h
    have := Option.some.inj h'
    omega⟩
  | x :: as, y :: bs, i + 1, m, h => by
    obtain ⟨b, h1, h2⟩ := addL_at (as := as) (bs := bs) (i := i) (m := m) (by simpa [addL] using h)
    exact ⟨b, by simpa using h1, h2⟩
theorem addL_len : ∀ {as bs : List Nat}, as.length = bs.length → (addL as bs).length = as.length
  | [], bs, _ => by cases bs <;> rfl
  | a :: as, [], h => by simp at h
  | a :: as, b :: bs, h => by show (addL as bs).length + 1 = as.length + 1; rw [addL_len (by simpa using h)]
theorem subL_len : ∀ {as bs : List Nat}, as.length = bs.length → (subL as bs).length = as.length
  | [], bs, _ => by cases bs <;> rfl
  | a :: as, [], h => by simp at h
  | a :: as, b :: bs, h => by show (subL as bs).length + 1 = as.length + 1; rw [subL_len (by simpa using h)]
theorem fold_or {α : Type} (c : α → Bool) : ∀ (l : List α) (b : Bool), l.foldl (fun acc y => acc || c y) b = (b || l.any c)
  | [], b => by simp
  | y :: r, b => by rw [List.foldl_cons, fold_or c r, List.any_cons, Bool.or_assoc]
theorem vecs_ok : ∀ q ∈ Qs, (vecs q).length = q - 1 ∧ ∀ rows ∈ vecs q, rows.length ≤ 10000 ∧ ∀ row ∈ rows, row.length = fOf q := by decide +kernel
def RowsR (K : PySem.W.Frag) (H : Hp) (v : V) (rows : List (List Nat)) : Prop := ∃ r ws, v = .ref r ∧ H r = some (.lst ws) ∧ Paired (TN K H) ws rows
def VecR (K : PySem.W.Frag) (H : Hp) (v : V) (vec : List (List (List Nat))) : Prop := ∃ p vs, v = .ref p ∧ H p = some (.lst vs) ∧ Paired (RowsR K H) vs vec
theorem RowsR.mono {K : PySem.W.Frag} {H H' : Hp} {v : V} {rows : List (List Nat)} (h : RowsR K H v rows) (e : Same H H') : RowsR K H' v rows := let ⟨r, ws, a, b, c⟩ := h; ⟨r, ws, a, e _ _ b, paired_mono c fun v ns t => t.mono e⟩
theorem VecR.mono {K : PySem.W.Frag} {H H' : Hp} {v : V} {vec : List (List (List Nat))} (h : VecR K H v vec) (e : Same H H') : VecR K H' v vec := let ⟨r, ws, a, b, c⟩ := h; ⟨r, ws, a, e _ _ b, paired_mono c fun v ns t => t.mono e⟩
def spLeft (K : PySem.W.Frag) : Sp := fun vs H Q _ => ∃ (q n : Nat) (vv : V) (a b : Addr) (fixed free : List Nat), vs = [vn q, vv, .ref a, .ref b, vn n] ∧ q ∈ Qs ∧ VecR K H vv (vecs q) ∧ SqL K H a (vns fixed) ∧ SqL K H b (vns free) ∧ fixed.length = fOf q ∧ free.length = fOf q ∧
  ∀ H', Same H H' → Q (.bl (leftOk q (vecs q) fixed free n)) H'
section
variable {P : Program} {w : World} {K : PySem.W.Frag} {mg : Str → Option Value} {base : Heap} {aF aP aW : Addr}
theorem ok_is_left_possible (T : Txt K mg aF aP aW) (d : Df K mg "is_left_possible" s_is_left_possible ["q", "vectors", "fixed", "free", "n"]) (c_rest_of_units : C8.Cal P w K mg base 2 "rest_of_units" (spRestU K) []) (c_has_room : C8.Cal P w K mg base 2 "has_room" (spRoom K) []) : C8.Cal P w K mg base 3 "is_left_possible" (spLeft K) [] := by
  refine cal_of d sc_is_left_possible (fun vs H Q E h => ?_) (fun f cdv A outer s H vs Q E hr h => ?_)
  · obtain ⟨q, _, _, _, _, _, _, rfl, _⟩ := h
    rfl
  · obtain ⟨q, n, vv, a, b, fixed, free, rfl, hq, hV, ha, hb, la, lb, k⟩ := h
    obtain ⟨q1, q2, p1, p2, f1, f2⟩ := Qs_facts hq
    obtain ⟨v1, v2⟩ := vecs_ok q hq
    refine ⟨_, (pss_cons (ps_setLc (i := 5) (own := [("one", 7), ("other", 8)]) rfl sc_is_left_possible.nd rfl rfl (sw_true rfl rfl rfl (by decide +kernel)) (pi_zipK false false (by rfl) T.zip_ (pa_cons (pv 2) (pa_cons (pv 3) pa_nil))) (blkOk_by (own := [("one", 7), ("other", 8)]) (N := N_is_left_possible) (sc := defScope s_is_left_possible) (by decide +kernel)) (fun _ _ _ _ _ => (pg_tup' (K := K) rfl (n := 2) rfl (pgs_cons (pg_name (i := 7) sc_is_left_possible.nd rfl (Or.inl rfl)) (pgs_cons (pg_name (i := 8) sc_is_left_possible.nd rfl (Or.inl rfl)) pgs_nil)))) (fun _ _ _ _ _ => pts_nil) (fun _ _ _ _ _ => (pe_op nAdd (pv 7) (pv 8))))
      (pss_cons (ps_for PassesOwn.never rfl (pi_list (pe_ix ix_list (pv 1) (pe_c c_rest_of_units hr (by decide) rfl (pa_cons (pv 0) (pa_cons (pv 5) pa_nil))) (fun _ _ => rfl))) (pg_name (i := 6) sc_is_left_possible.nd rfl (Or.inl rfl)) (pss_one (ps_if (pt_val (pe_callB (cr_all rfl) (by rfl) T.all_ (by decide +kernel) (pa_cons (pe_lc (own := [("less", 9), ("other", 8)]) rfl sc_is_left_possible.nd (pi_zipK true false (by rfl) T.zip_ (pa_cons (pv 6) (pa_cons (pv 3) pa_nil))) (blkOk_by (own := [("less", 9), ("other", 8)]) (N := N_is_left_possible) (sc := defScope s_is_left_possible) (by decide +kernel)) (fun _ _ _ _ _ => (pg_tup' (K := K) rfl (n := 2) rfl (pgs_cons (pg_name (i := 9) sc_is_left_possible.nd rfl (Or.inl rfl)) (pgs_cons (pg_name (i := 8) sc_is_left_possible.nd rfl (Or.inl rfl)) pgs_nil)))) (fun _ _ _ _ _ => pts_nil) (fun _ _ _ _ _ => (pe_cmpR nLe (pv 9) (pv 8) (nomark _)))) pa_nil))) (pss_one (ps_if (pt_val (pe_c c_has_room hr (by decide) rfl (pa_cons (pv 0) (pa_cons (pe_lc (own := [("one", 7), ("less", 9)]) rfl sc_is_left_possible.nd (pi_zipK false true (by rfl) T.zip_ (pa_cons (pv 5) (pa_cons (pv 6) pa_nil))) (blkOk_by (own := [("one", 7), ("less", 9)]) (N := N_is_left_possible) (sc := defScope s_is_left_possible) (by decide +kernel)) (fun _ _ _ _ _ => (pg_tup' (K := K) rfl (n := 2) rfl (pgs_cons (pg_name (i := 7) sc_is_left_possible.nd rfl (Or.inl rfl)) (pgs_cons (pg_name (i := 9) sc_is_left_possible.nd rfl (Or.inl rfl)) pgs_nil)))) (fun _ _ _ _ _ => pts_nil) (fun _ _ _ _ _ => (pe_op nSub (pv 7) (pv 9)))) (pa_cons (pv 4) pa_nil))))) (pss_one (ps_ret pe_bl)) pss_nil)) pss_nil)))
      (pss_one (ps_ret pe_bl)))), ?_⟩
    refine ⟨_, rfl, _, rfl, a, b, vns fixed, vns free, rfl, ha, hb, fun D nD => ?_⟩
    refine lcZ (k := false) (k2 := false) (K := K) (a := a) (b := b) (zs := vns fixed) (zs' := vns free) fixed free (fun _ => true) (fun p => p.1 + p.2) (fun _ v n => v = vn n) nD (by rw [line24, la]; omega) ha hb (vns_len _) (vns_len _) (la.trans lb.symm)
      (fun _ _ _ _ _ h _ _ => h) ?_ ?_
    · intro i z z' y y' Hx T1 K1 K2 hz hz' hy hy' sm _ hT h1 h2
      rw [vns_at hy] at hz
      rw [vns_at hy'] at hz'
      obtain rfl := Option.some.inj hz
      obtain rfl := Option.some.inj hz'
      refine ⟨T1, _, rfl, SqT.of upd_same, rfl, _, _, rfl, _, _, rfl, rfl, rfl, yesT ?_⟩
      exact ⟨_, rfl, _, rfl, y, y', rfl, rfl, trivial, h1 _ _ (Same.new hT) rfl rfl⟩
    intro H1 ws s1 eD pw
    rw [filt_all, add_zip] at pw
    rw [paired_vn pw] at eD
    have lm : (addL fixed free).length = fOf q := (addL_len (la.trans lb.symm)).trans la
    have hr0 : restOf q (addL fixed free) < (vecs q).length := by
      rw [v1]
      exact Nat.mod_lt _ (by omega)
    refine ⟨_, rfl, _, rfl, _, rfl, q, D, addL fixed free, false, rfl, hq, SqL.of eD, lm, fun H2 s2 => ?_⟩
    obtain ⟨vp, vvs, ev, hvp, pv⟩ := hV.mono (s1.trans s2)
    obtain ⟨rv, erv, r, rws, er, hr1, prw⟩ := paired_at pv (List.getElem?_eq_getElem hr0)
    subst er
    have hrows : (vecs q)[restOf q (addL fixed free)] ∈ vecs q := List.getElem_mem _
    obtain ⟨v3, v4⟩ := v2 _ hrows
    have egt : (vecs q).getD (restOf q (addL fixed free)) [] = (vecs q)[restOf q (addL fixed free)] := by
      rw [List.getD_eq_getElem?_getD, List.getElem?_eq_getElem hr0]
      rfl
    have eleft : leftOk q (vecs q) fixed free n = (vecs q)[restOf q (addL fixed free)].any fun row => leL row free && hasRoom q (subL (addL fixed free) row) n := by
      unfold leftOk
      rw [egt]
    generalize (vecs q)[restOf q (addL fixed free)] = rows at prw v3 v4 eleft
    refine ⟨vp, vvs, ((restOf q (addL fixed free) : Nat) : Int), .ref r, ev, rfl, SqL.of hvp, atI_vn erv, r, rfl, ⟨_, SqL.of hr1⟩, ?_⟩
    refine forL (K := K) (a := r) (vs := rws) rows (fun acc row => acc || (leL row free && hasRoom q (subL (addL fixed free) row) n)) false (fun acc σ H' => acc = false ∧ Same H2 H' ∧ ∃ t6, σ = [some (vn q), some vv, some (.ref a), some (.ref b), some (vn n), some (.ref D), t6, none, none, none]) (paired_len prw)
      ⟨rfl, Same.refl _, none, rfl⟩ (fun acc σ H' h => SqL.of (h.2.1 _ _ hr1)) ?_ ?_
    · rintro i v row acc σ H3 hv hy _ ⟨rfl, sm, t6, rfl⟩
      obtain ⟨z', ez, t, ev, ht⟩ := paired_at prw hy
      rw [ez] at hv
      obtain rfl : z' = v := Option.some.inj hv
      subst ev
      have hrl := v4 row (List.mem_of_getElem? hy)
      have s3 := (s1.trans s2).trans sm
      have ht3 := Same.tup sm ht
      have hb3 : SqL K H3 b (vns free) := s3.seq hb
      refine ⟨_, rfl, _, rfl, t, b, vns row, vns free, rfl, ht3, hb3, fun D2 nD2 => ?_⟩
      refine lcZ (k := true) (k2 := false) (K := K) (a := t) (b := b) (zs := vns row) (zs' := vns free) row free (fun _ => true) (fun p => decide (p.1 ≤ p.2)) (fun _ v c => v = .bl c) nD2 (by rw [line24, hrl]; omega) ht3 hb3 (vns_len _) (vns_len _) (hrl.trans lb.symm)
        (fun _ _ _ _ _ h _ _ => h) ?_ ?_
      · intro i z z' y y' Hx T1 K1 K2 hz hz' hy hy' sm _ hT h1 h2
        rw [vns_at hy] at hz
        rw [vns_at hy'] at hz'
        obtain rfl := Option.some.inj hz
        obtain rfl := Option.some.inj hz'
        refine ⟨T1, _, rfl, SqT.of upd_same, rfl, _, _, rfl, _, _, rfl, rfl, rfl, yesT ?_⟩
        exact ⟨_, rfl, _, rfl, y, y', rfl, rfl, h1 _ _ (Same.new hT) rfl rfl⟩
      intro H4 ws2 s4 eD2 pw2
      rw [filt_all] at pw2
      have ebl : ws2 = ((row.zip free).map fun p => decide (p.1 ≤ p.2)).map V.bl := by
        clear eD2
        generalize ((row.zip free).map fun p => decide (p.1 ≤ p.2)) = bsx at pw2
        induction pw2 with
        | nil => rfl
        | cons e _ ih => rw [e, ih]; rfl
      rw [ebl] at eD2
      refine ⟨D2, _, rfl, SqL.of eD2, _, rfl, ?_⟩
      rw [le_zip]
      have s5 := sm.trans s4
      refine ite2 (fun c => ?_) (fun c => ?_)
      · have hm5 : SqL K H4 D (vns (addL fixed free)) := SqL.of ((s2.trans s5) _ _ eD)
        have ht5 := Same.tup s4 ht3
        refine ⟨_, rfl, _, rfl, _, rfl, D, t, vns (addL fixed free), vns row, rfl, hm5, ht5, fun D3 nD3 => ?_⟩
        refine lcZ (k := false) (k2 := true) (K := K) (a := D) (b := t) (zs := vns (addL fixed free)) (zs' := vns row) (addL fixed free) row (fun _ => true) (fun p => p.1 - p.2) (fun _ v n => v = vn n) nD3 (by rw [line24, lm]; omega) hm5 ht5 (vns_len _) (vns_len _) (lm.trans hrl.symm)
          (fun _ _ _ _ _ h _ _ => h) ?_ ?_
        · intro i z z' y y' Hx T1 K1 K2 hz hz' hy hy' sm _ hT h1 h2
          rw [vns_at hy] at hz
          rw [vns_at hy'] at hz'
          obtain rfl := Option.some.inj hz
          obtain rfl := Option.some.inj hz'
          obtain ⟨bb, e1, e2⟩ := addL_at hy
          have e3 := leL_at c hy' e1
          refine ⟨T1, _, rfl, SqT.of upd_same, rfl, _, _, rfl, _, _, rfl, rfl, rfl, yesT ?_⟩
          exact ⟨_, rfl, _, rfl, y, y', rfl, rfl, by omega, h1 _ _ (Same.new hT) rfl rfl⟩
        intro H5 ws3 s6 eD3 pw3
        rw [filt_all, sub_zip] at pw3
        rw [paired_vn pw3] at eD3
        refine ⟨_, rfl, q, n, D3, subL (addL fixed free) row, rfl, hq, SqL.of eD3, (subL_len (lm.trans hrl.symm)).trans lm, fun H6 s7 => ⟨_, rfl, ?_⟩⟩
        refine ite2 (fun c2 => ?_) (fun c2 => ?_)
        · have z := k _ (((s3.trans s4).trans s6).trans s7)
          rw [eleft] at z
          have e : (rows.any fun row => leL row free && hasRoom q (subL (addL fixed free) row) n) = true := List.any_eq_true.mpr ⟨row, List.mem_of_getElem? hy, by rw [c, c2]; rfl⟩
          rw [e] at z
          exact z
        · have c2 : hasRoom q (subL (addL fixed free) row) n = false := by simpa using c2
          exact ⟨by rw [c2, Bool.and_false]; rfl, (s5.trans s6).trans s7, _, rfl⟩
      · have c : leL row free = false := by simpa using c
        exact ⟨by rw [c]; rfl, s5, _, rfl⟩
    · rintro σ H3 ⟨e, sm, t6, rfl⟩
      rw [fold_or, Bool.false_or] at e
      have z := k _ ((s1.trans s2).trans sm)
      rw [eleft, e] at z
      exact z
end
end Mo
namespace Mo
open PySem PySem.Spec PyProof.Rows L2
open C8 (pe_c pe_gc)
def rowF (q : Nat) (row : List Nat) : List (List Nat) := (List.range q).map fun u => row ++ [u]
def rowsN (q i : Nat) : List (List Nat) := (List.range i).foldl (fun rows _ => rows.flatMap (rowF q)) [[]]
theorem rowsN_ok : ∀ q ∈ Qs, rowsN q (fOf q) = rowsOf q ∧ ∀ i, i < fOf q → (rowsN q i).length ≤ 100 ∧ ∀ row ∈ rowsN q i, row.length ≤ 3 := by decide +kernel
theorem rowsOf_ok : ∀ q ∈ Qs, (rowsOf q).length ≤ 1000 ∧ ∀ row ∈ rowsOf q, row.length = fOf q := by decide +kernel
theorem paired_upd {β : Type} {F G : Addr → β → Prop} : ∀ {rs : List Addr} {vec : List β} {j : Nat} {r : Addr} {c : β}, Paired F rs vec → rs[j]? = some r → rs.Nodup → (∀ r' b, r' ≠ r → F r' b → G r' b) → G r c → Paired G rs (vec.set j c)
  | _, _, j, r, c, .nil, h, _, _, _ => by simp at h
  | x :: rs, y :: vec, 0, r, c, .cons e t, h, nd, hG, hc => by
    obtain rfl : x = r := by simpa using h
    have hx := (List.nodup_cons.mp nd).1
    rw [List.set_cons_zero]
    refine .cons hc ?_
    clear h nd
    induction t with
    | nil => exact .nil
    | @cons a b as bs h' t' ih =>
      exact .cons (hG _ _ (fun q => hx (by rw [q]; exact List.mem_cons_self ..)) h') (ih fun hm => hx (List.mem_cons_of_mem _ hm))
  | x :: rs, y :: vec, j + 1, r, c, .cons e t, h, nd, hG, hc => by
    have h2 : rs[j]? = some r := by simpa using h
    have nd2 := List.nodup_cons.mp nd
    have hx : x ≠ r := fun q => nd2.1 (by rw [q]; exact List.mem_of_getElem? h2)
    rw [List.set_cons_succ]
    exact .cons (hG _ _ hx e) (paired_upd t h2 nd2.2 hG hc)
theorem put_len (q b : Nat) : ∀ (zs : List (List Nat)) (vec : List (List (List Nat))), (∀ rows ∈ vec, rows.length ≤ b) → ∀ rows ∈ zs.foldl (putRow q) vec, rows.length ≤ b + zs.length
  | [], vec, h => fun rows hr => h rows hr
  | z :: zs, vec, h => fun rows hr => by
    have e := put_len q (b + 1) zs (putRow q vec z) (fun rows hr => by
      rcases List.mem_or_eq_of_mem_set hr with e | e
      · have := h rows e; omega
      · rw [e, List.length_append]
        have hg : (vec.getD (restOf q z) []).length ≤ b := by
          rw [List.getD_eq_getElem?_getD]
          cases hc : vec[restOf q z]? with
          | none => exact Nat.zero_le _
          | some x => exact h x (List.mem_of_getElem? hc)
        show _ + 1 ≤ _
        omega) rows hr
    rw [List.length_cons]
    omega
def spVecs (K : PySem.W.Frag) : Sp := fun vs H Q _ => ∃ q : Nat, vs = [vn q] ∧ q ∈ Qs ∧ ∀ H' v, Same H H' → VecR K H' v (vecs q) → Q v H'
section
variable {P : Program} {w : World} {K : PySem.W.Frag} {mg : Str → Option Value} {base : Heap} {aF aP aW : Addr}
theorem ok_vectors_of (T : Txt K mg aF aP aW) (d : Df K mg "vectors_of" s_vectors_of ["q"]) (c_rest_of_units : C8.Cal P w K mg base 2 "rest_of_units" (spRestU K) []) : C8.Cal P w K mg base 3 "vectors_of" (spVecs K) [] := by
  refine cal_of d sc_vectors_of (fun vs H Q E h => ?_) (fun f cdv A outer s H vs Q E hr h => ?_)
  · obtain ⟨q, rfl, _⟩ := h
    rfl
  · obtain ⟨q, rfl, hq, k⟩ := h
    obtain ⟨q1, q2, p1, p2, f1, f2⟩ := Qs_facts hq
    obtain ⟨r1, r2⟩ := rowsN_ok q hq
    obtain ⟨r3, r4⟩ := rowsOf_ok q hq
    refine ⟨_, (pss_cons (ps_set (i := 1) sc_vectors_of.nd rfl (Or.inl rfl) (pe_lst (pa_cons (pe_tup pa_nil) pa_nil)))
      (pss_cons (ps_for PassesOwn.never rfl (pi_range1 (by rfl) T.range_ (pa_cons (pe_ix ix_kint (pe_gc rfl T.POWERS_BELOW) (pv 0) (fun _ _ => rfl)) pa_nil)) (pg_name (i := 2) sc_vectors_of.nd rfl (Or.inl rfl)) (pss_one (ps_setLc2 (i := 1) (own := [("row", 4), ("units", 6)]) rfl sc_vectors_of.nd rfl rfl (sw_true rfl rfl rfl (by decide +kernel)) (pi_list (pv 1)) (blkOk_by (own := [("row", 4), ("units", 6)]) (N := N_vectors_of) (sc := defScope s_vectors_of) (by decide +kernel)) (vs1 := [6]) (by decide) (fun _ _ _ _ _ => (pg_name (i := 4) sc_vectors_of.nd rfl (Or.inl rfl))) (fun _ _ _ _ _ => pts_nil) (fun _ _ _ _ _ => (pi_range1 (by rfl) T.range_ (pa_cons (pv 0) pa_nil))) (fun _ _ _ _ _ => (pg_name (i := 6) sc_vectors_of.nd rfl (Or.inl rfl))) (fun _ _ _ _ _ => pts_nil) (fun _ _ _ _ _ => (pe_tup (pa_star' (K := K) rfl (pv 4) (pa_cons (pv 6) pa_nil)))))))
      (pss_cons (ps_setLc (i := 3) (own := [("rest", 5)]) rfl sc_vectors_of.nd rfl rfl (sw_true rfl rfl rfl (by decide +kernel)) (pi_range1 (by rfl) T.range_ (pa_cons (pe_op nSub (pv 0) pe_int) pa_nil)) (blkOk_by (own := [("rest", 5)]) (N := N_vectors_of) (sc := defScope s_vectors_of) (by decide +kernel)) (fun _ _ _ _ _ => (pg_name (i := 5) sc_vectors_of.nd rfl (Or.inl rfl))) (fun _ _ _ _ _ => pts_nil) (fun _ _ _ _ _ => (pe_lst pa_nil)))
      (pss_cons (ps_for PassesOwn.never rfl (pi_list (pv 1)) (pg_name (i := 4) sc_vectors_of.nd rfl (Or.inl rfl)) (pss_one (ps_expr (pe_bm PySem.F.plainAttrs_list PySem.F.slot_list_append PySem.F.type_list_append mt_append (pe_ix ix_list (pv 3) (pe_c c_rest_of_units hr (by decide) rfl (pa_cons (pv 0) (pa_cons (pv 4) pa_nil))) (fun _ _ => rfl)) (pa_cons (pv 4) pa_nil)))))
      (pss_one (ps_ret (pv 3))))))), ?_⟩
    refine ⟨Nat.zero_le _, fun z0 n0 => ⟨len1, fun l0 m0 => ?_⟩⟩
    have s0 := (Same.new (o := .tup []) n0).trans (Same.new (o := .lst [.ref z0]) m0)
    have tn0 : TN K (upd (upd H z0 (.tup [])) l0 (.lst [.ref z0])) (.ref z0) [] := ⟨z0, rfl, SqT.of ((Same.new m0) _ _ upd_same)⟩
    refine ⟨_, rfl, aW, (q : Int), vn (fOf q), _, rfl, rfl, T.powers, kq hq fOf, ((fOf q : Nat) : Int), rfl, by omega, by omega, ?_⟩
    refine forR0 (n := fOf q) (fun rows _ => rows.flatMap (rowF q)) [[]] (fun rows σ H' => Same H H' ∧ ∃ p t2, LTN K H' p rows ∧ σ = [some (vn q), some (.ref p), t2, none, none, none, none]) ⟨s0, l0, none, ⟨_, upd_same, .cons tn0 .nil⟩, rfl⟩ ?_ ?_
    · rintro i rows σ H1 hi erows ⟨sm, p, t2, ⟨ws, hp, pw⟩, rfl⟩
      obtain ⟨r5, r6⟩ := r2 i hi
      have erows2 : rows = rowsN q i := erows
      rw [← erows2] at r5 r6
      refine ⟨_, rfl, p, rfl, ⟨_, SqL.of hp⟩, fun D nD => ?_⟩
      refine ⟨fun i m H' => m = rows.length - i ∧ i ≤ rows.length ∧ Same H1 H' ∧ ∃ ds, H' D = some (.lst ds) ∧ Paired (TN K H') ds ((rows.take i).flatMap (rowF q)), ⟨rows.length, by simp, Nat.zero_le _, Same.new nD, [], upd_same, .nil⟩, ?_⟩
      rintro i m H2 ⟨rfl, hi, sm2, ds, hD, pd⟩
      by_cases hlt : i < rows.length
      · have hy : rows[i]? = some rows[i] := List.getElem?_eq_getElem hlt
        have et : rows.take (i + 1) = rows.take i ++ [rows[i]] := by rw [List.take_succ, hy]; rfl
        obtain ⟨z, ez, t, ev, ht⟩ := paired_at pw hy
        subst ev
        have hrow := r6 _ (List.mem_of_getElem? hy)
        have hcount : ((rows.take i).flatMap (rowF q)).length ≤ 1000 := by
          refine Nat.le_trans (flat_le (rowF q) q _ fun x _ => by unfold rowF; rw [List.length_map, List.length_range]; exact Nat.le_refl _) ?_
          refine Nat.le_trans (Nat.mul_le_mul (show (rows.take i).length ≤ 100 by rw [List.length_take]; omega) q2) (by decide)
        refine .inr ⟨⟨ws, .ref t, sm2.seq (SqL.of hp), ez⟩, fun H' => i + 1 ≤ rows.length ∧ Same H1 H' ∧ ∃ ds, H' D = some (.lst ds) ∧ Paired (TN K H') ds ((rows.take (i + 1)).flatMap (rowF q)), fun H' ⟨a, b⟩ => ⟨rows.length - (i + 1), by omega, rfl, a, b⟩, fun x H' y => ?_⟩
        obtain ⟨e1, e2⟩ := y
        subst e1
        have ex := e2 ws (sm2.seq (SqL.of hp))
        rw [ez] at ex
        obtain rfl := Option.some.inj ex
        rw [et, List.flatMap_append]
        generalize hrw : rows[i] = row at ht hrow
        generalize (rows.take i).flatMap (rowF q) = pre at pd hcount
        have e1r : [row].flatMap (rowF q) = rowF q row := by simp
        rw [e1r]
        refine ⟨rfl, yesT ?_⟩
        refine ⟨_, rfl, (q : Int), rfl, by omega, by omega, ?_⟩
        refine ⟨fun j m H' => m = q - j ∧ j ≤ q ∧ Same H1 H' ∧ ∃ ds, H' D = some (.lst ds) ∧ Paired (TN K H') ds (pre ++ (List.range j).map fun u => row ++ [u]), ⟨q, by simp, Nat.zero_le _, sm2, ds, hD, by simpa using pd⟩, ?_⟩
        rintro j m H3 ⟨rfl, hj, sm3, es, hE, pe⟩
        by_cases hjl : j < q
        · refine .inr ⟨hjl, fun H' => j + 1 ≤ q ∧ Same H1 H' ∧ ∃ ds, H' D = some (.lst ds) ∧ Paired (TN K H') ds (pre ++ (List.range (j + 1)).map fun u => row ++ [u]), fun H' ⟨a, b⟩ => ⟨q - (j + 1), by omega, rfl, a, b⟩, fun x H' y => ?_⟩
          obtain ⟨e3, e4⟩ := y
          subst e3 e4
          rw [Int.zero_add]
          refine ⟨rfl, yesT ?_⟩
          have ht3 := Same.tup sm3 ht
          refine ⟨_, rfl, t, vns row, rfl, .inl ht3, _, rfl, ?_⟩
          refine ⟨by rw [line24, List.length_append, vns_len]; show _ + 1 ≤ _; omega, fun u0 nu => ?_⟩
          have s6 := Same.new (o := .tup (vns row ++ [vn j])) nu
          have hE2 := s6 _ _ hE
          have esl : es.length ≤ 2000 := by
            rw [paired_len pe, List.length_append, List.length_map, List.length_range]
            omega
          refine ⟨es, hE2, by rw [line24]; omega, hjl, ?_⟩
          have sb : SameBut D (upd H' u0 (.tup (vns row ++ [vn j]))) (upd (upd H' u0 (.tup (vns row ++ [vn j]))) D (.lst (es ++ [.ref u0]))) := fun b o hb e => by rw [upd_ne hb]; exact e
          refine ⟨Same.upd (sm3.trans s6) nD, _, upd_same, ?_⟩
          rw [List.range_succ, List.map_append, ← List.append_assoc]
          refine paired_app (paired_mono pe fun v ns h => (h.mono s6).but hE2 sb) (.cons ?_ .nil)
          refine ⟨u0, rfl, sb.tup hE2 ?_⟩
          rw [vns_app]
          exact SqT.of upd_same
        · have ej : j = q := by omega
          subst ej
          exact .inl ⟨Nat.le_refl _, hlt, sm3, es, hE, pe⟩
      · have e : i = rows.length := by omega
        subst e
        rw [List.take_length] at pd
        refine .inl ⟨⟨ws, sm2.seq (SqL.of hp), Nat.le_of_eq (paired_len pw)⟩, ?_⟩
        exact ⟨sm.trans sm2, D, _, ⟨ds, hD, pd⟩, rfl⟩
    · rintro σ H1 ⟨sm, p, t2, hL, rfl⟩
      have hL2 : LTN K H1 p (rowsOf q) := by rw [← r1]; exact hL
      clear hL
      obtain ⟨ws, hp, pw⟩ := hL2
      refine ⟨_, rfl, q, 1, rfl, rfl, by omega, ((q - 1 : Nat) : Int), rfl, by omega, by omega, fun D nD => ?_⟩
      refine ⟨fun i m H' => m = q - 1 - i ∧ i ≤ q - 1 ∧ Same H1 H' ∧ ∃ rs : List Addr, rs.length = i ∧ H' D = some (.lst (rs.map V.ref)) ∧ rs.Nodup ∧ ∀ r ∈ rs, H1 r = none ∧ r ≠ D ∧ H' r = some (.lst []), ⟨q - 1, by simp, Nat.zero_le _, Same.new nD, [], rfl, upd_same, List.nodup_nil, fun r hr => by cases hr⟩, ?_⟩
      rintro i m H2 ⟨rfl, hi, sm2, rs, hrl, hD, hnd, hrs⟩
      by_cases hlt : i < q - 1
      · refine .inr ⟨hlt, fun H' => i + 1 ≤ q - 1 ∧ Same H1 H' ∧ ∃ rs : List Addr, rs.length = i + 1 ∧ H' D = some (.lst (rs.map V.ref)) ∧ rs.Nodup ∧ ∀ r ∈ rs, H1 r = none ∧ r ≠ D ∧ H' r = some (.lst []), fun H' ⟨a, b⟩ => ⟨q - 1 - (i + 1), by omega, rfl, a, b⟩, fun x H' y => ?_⟩
        obtain ⟨e3, e4⟩ := y
        subst e3 e4
        refine ⟨rfl, yesT ⟨Nat.zero_le _, fun r0 nr => ?_⟩⟩
        have s6 := Same.new (o := .lst []) nr
        have hD2 := s6 _ _ hD
        have nrD : r0 ≠ D := fun e => by rw [e, hD] at nr; cases nr
        refine ⟨_, hD2, by rw [List.length_map, line24]; omega, hlt, Same.upd (sm2.trans s6) nD, rs ++ [r0], by rw [List.length_append, hrl]; rfl, by rw [upd_same, List.map_append]; rfl, ?_, fun r hr => ?_⟩
        · rw [List.nodup_append]
          refine ⟨hnd, by simp, fun a ha b hb => ?_⟩
          rw [List.mem_singleton.mp hb]
          intro e
          have := (hrs a ha).2.2
          rw [e, nr] at this
          cases this
        · rcases List.mem_append.mp hr with e | e
          · obtain ⟨x1, x2, x3⟩ := hrs r e
            exact ⟨x1, x2, by rw [upd_ne x2]; exact s6 _ _ x3⟩
          · rw [List.mem_singleton.mp e]
            exact ⟨sm2.free nr, nrD, by rw [upd_ne nrD]; exact upd_same⟩
      · have e : i = q - 1 := by omega
        subst e
        refine .inl ⟨Nat.le_refl _, ?_⟩
        have p0 : Paired (fun r rows => ∃ ws, H2 r = some (.lst ws) ∧ Paired (TN K H2) ws rows) rs (List.replicate (q - 1) []) := by
          rw [← hrl]
          clear hrl hD hnd hlt hi
          induction rs with
          | nil => exact .nil
          | cons r rs ih => exact .cons ⟨[], (hrs r (List.mem_cons_self ..)).2.2, .nil⟩ (ih fun r hr => hrs r (List.mem_cons_of_mem _ hr))
        have hrs0 : ∀ r ∈ rs, H1 r = none ∧ r ≠ D := fun r hr => ⟨(hrs r hr).1, (hrs r hr).2.1⟩
        clear hrs hlt hi
        refine ⟨_, rfl, p, rfl, ⟨_, SqL.of (sm2 _ _ hp)⟩, ?_⟩
        refine forL (K := K) (a := p) (vs := ws) (rowsOf q) (putRow q) (List.replicate (q - 1) []) (fun vec σ H' => vec.length = q - 1 ∧ Same H1 H' ∧ H' D = some (.lst (rs.map V.ref)) ∧ Paired (fun r rows => ∃ ws, H' r = some (.lst ws) ∧ Paired (TN K H') ws rows) rs vec ∧ ∃ t2 t4, σ = [some (vn q), some (.ref p), t2, some (.ref D), t4, none, none]) (paired_len pw)
          ⟨List.length_replicate, sm2, hD, p0, _, none, rfl⟩ (fun acc σ H' h => SqL.of (h.2.1 _ _ hp)) ?_ ?_
        · rintro j v row vec σ H3 hv hy evec ⟨hvl, sm3, hD3, pr, t2, t4, rfl⟩
          obtain ⟨z', ez, t, ev, ht⟩ := paired_at pw hy
          rw [ez] at hv
          obtain rfl : z' = v := Option.some.inj hv
          subst ev
          have hrow := r4 row (List.mem_of_getElem? hy)
          refine ⟨_, rfl, _, rfl, _, rfl, q, t, row, true, rfl, hq, Same.tup sm3 ht, hrow, fun H4 s4 => ?_⟩
          have hjlt : restOf q row < vec.length := by rw [hvl]; exact Nat.mod_lt _ (by omega)
          have hvg : vec[restOf q row]? = some (vec.getD (restOf q row) []) := by
            rw [List.getD_eq_getElem?_getD, List.getElem?_eq_getElem hjlt]
            rfl
          obtain ⟨r, er, rw4, hr4, prw4⟩ := paired_at pr hvg
          have hat : (rs.map V.ref)[restOf q row]? = some (.ref r) := by rw [List.getElem?_map, er]; rfl
          have hr5 := s4 _ _ hr4
          refine ⟨D, _, ((restOf q row : Nat) : Int), .ref r, rfl, rfl, SqL.of (s4 _ _ hD3), atI_vn hat, .inl ⟨rfl, _, SqL.of hr5⟩, _, rfl, r, rw4, .ref t, rfl, rfl, hr5, ?_, ?_⟩
          · have z := put_len q 0 ((rowsOf q).take j) (List.replicate (q - 1) []) (fun rows hr => by rw [(List.mem_replicate.mp hr).2]; exact Nat.le_refl _)
            rw [← evec] at z
            have z2 := z _ (List.mem_of_getElem? hvg)
            rw [List.length_take] at z2
            rw [paired_len prw4, line24]
            omega
          · obtain ⟨x1, x2⟩ := hrs0 r (List.mem_of_getElem? er)
            have sb : SameBut r H4 (upd H4 r (.lst (rw4 ++ [.ref t]))) := fun b o hb e => by rw [upd_ne hb]; exact e
            refine ⟨by unfold putRow; rw [List.length_set]; exact hvl, Same.upd (sm3.trans s4) x1, by rw [upd_ne (Ne.symm x2)]; exact s4 _ _ hD3, ?_, _, _, rfl⟩
            refine paired_upd pr er hnd (fun r' b hne ⟨ws', h1, h2⟩ => ⟨ws', by rw [upd_ne hne]; exact s4 _ _ h1, paired_mono h2 fun v ns h => (h.mono s4).but hr5 sb⟩) ?_
            refine ⟨_, upd_same, paired_app (paired_mono prw4 fun v ns h => (h.mono s4).but hr5 sb) (.cons ⟨t, rfl, sb.tup hr5 (Same.tup (sm3.trans s4) ht)⟩ .nil)⟩
        · rintro σ H3 ⟨hvl, sm3, hD3, pr, t2, t4, rfl⟩
          refine ⟨_, rfl, k _ _ (sm.trans sm3) ⟨D, _, rfl, hD3, ?_⟩⟩
          have pr2 : Paired (fun r rows => ∃ ws, H3 r = some (.lst ws) ∧ Paired (TN K H3) ws rows) rs (vecs q) := pr
          clear pr hD3 hD hnd hrs0 hrl p0
          generalize vecs q = vv at pr2
          induction pr2 with
          | nil => exact .nil
          | cons h _ ih =>
            obtain ⟨ws', h1, h2⟩ := h
            exact .cons ⟨_, ws', rfl, h1, h2⟩ ih
end
end Mo
namespace Mo
open PySem PySem.Spec PyProof.Rows L2
open C8 (pe_c pe_gc)
theorem withUnit_len (u : List Nat) (p d : Nat) : (withUnit u p d).length = u.length := List.length_set ..
theorem unitsOf_len (f : Nat) (row : List Nat) : (unitsOf f row).length = f := by unfold unitsOf; rw [List.length_map, List.length_range]
def spLeast (K : PySem.W.Frag) : Sp := fun vs H Q _ => ∃ (q whole n r : Nat) (vv : V), vs = [vn q, vv, vn whole, vn n] ∧ q ∈ Qs ∧ VecR K H vv (vecs q) ∧ whole < 16777216 ∧ leastRest q (vecs q) whole n = some r ∧ ∀ H', Same H H' → Q (vn r) H'
def spGreat (K : PySem.W.Frag) : Sp := fun vs H Q _ => ∃ (q d k : Nat) (told : Option (List Nat)), vs = [vn q, vn d, vn k] ∧ q ∈ Qs ∧ k < 30000 ∧ d ≤ 300 ∧ greatest q (vecs q) d k = some told ∧
  (told = none → ∀ H', Same H H' → Q .non H') ∧ (∀ v, told = some v → ∀ H' p, Same H H' → H' p = some (.tup (vns v)) → Q (.ref p) H')
section
variable {P : Program} {w : World} {K : PySem.W.Frag} {mg : Str → Option Value} {base : Heap} {aF aP aW : Addr}
theorem ok_least_rest (T : Txt K mg aF aP aW) (d : Df K mg "least_rest" s_least_rest ["q", "vectors", "whole", "n"]) (c_digits_in : C8.Cal P w K mg base 1 "digits_in" spDigs []) (c_units_of : C8.Cal P w K mg base 1 "units_of" (spUnits K) []) (c_is_left_possible : C8.Cal P w K mg base 3 "is_left_possible" (spLeft K) []) (c_with_unit : C8.Cal P w K mg base 1 "with_unit" (spWith K) []) (c_of_digits_in : C8.Cal P w K mg base 1 "of_digits_in" (spOfD K) []) : C8.Cal P w K mg base 4 "least_rest" (spLeast K) [] := by
  refine cal_of d sc_least_rest (fun vs H Q E h => ?_) (fun f cdv A outer s H vs Q E hr h => ?_)
  · obtain ⟨q, _, _, _, _, rfl, _⟩ := h
    rfl
  · obtain ⟨q, whole, n, r, vv, rfl, hq, hV, hw, hleast, k⟩ := h
    obtain ⟨q1, q2, p1, p2, f1, f2⟩ := Qs_facts hq
    refine ⟨_, (pss_cons (ps_par (i := 4) (j := 5) rfl sc_least_rest.nd rfl rfl (by decide) rfl rfl (pa_cons (pe_ix ix_kint (pe_gc rfl T.PRIMES_BELOW) (pv 0) (fun _ _ => rfl)) (pa_cons (pe_ix ix_kint (pe_gc rfl T.POWERS_BELOW) (pv 0) (fun _ _ => rfl)) pa_nil)) (by rfl))
      (pss_cons (ps_par3 (i := 6) (j := 7) (l := 8) rfl sc_least_rest.nd rfl rfl rfl (by decide) (by decide) (by decide) rfl rfl rfl (pa_cons (pe_c c_digits_in hr (by decide) rfl (pa_cons (pv 4) (pa_cons (pv 2) pa_nil))) (pa_cons (pe_lst pa_nil) (pa_cons (pe_op op_rep (pe_lst (pa_cons pe_int pa_nil)) (pv 5)) pa_nil))) (by rfl))
      (pss_cons (ps_for PassesOwn.never rfl (pi_range3 (by rfl) T.range_ (pa_cons (pe_op op_sub (pe_callB call_len_seq (by rfl) T.len_ PySem.boot_len (pa_cons (pv 6) pa_nil)) pe_int) (pa_cons (pe_un un_neg pe_int) (pa_cons (pe_un un_neg pe_int) pa_nil)))) (pg_name (i := 9) sc_least_rest.nd rfl (Or.inl rfl)) (pss_cons (ps_set (i := 10) sc_least_rest.nd rfl (Or.inl rfl) (pe_c c_units_of hr (by decide) rfl (pa_cons (pv 5) (pa_cons (pe_slice sl_list (pv 6) po_none (po_some (pv 9))) pa_nil))))
      (pss_cons (ps_set (i := 11) sc_least_rest.nd rfl (Or.inl rfl) pe_int)
      (pss_cons (ps_while PassesOwn.never (pt_not (pt_val (pe_c c_is_left_possible hr (by decide) rfl (pa_cons (pv 0) (pa_cons (pv 1) (pa_cons (pe_c c_with_unit hr (by decide) rfl (pa_cons (pv 8) (pa_cons (pv 9) (pa_cons (pv 11) pa_nil)))) (pa_cons (pv 10) (pa_cons (pv 3) pa_nil)))))))) (pss_one (ps_aug (i := 11) sc_least_rest.nd rfl (Or.inl rfl) pe_int ip_addN)))
      (pss_cons (ps_set (i := 8) sc_least_rest.nd rfl (Or.inl rfl) (pe_c c_with_unit hr (by decide) rfl (pa_cons (pv 8) (pa_cons (pv 9) (pa_cons (pv 11) pa_nil)))))
      (pss_one (ps_expr (pe_bm PySem.F.plainAttrs_list PySem.F.slot_list_append PySem.F.type_list_append mt_append (pv 7) (pa_cons (pv 11) pa_nil)))))))))
      (pss_one (ps_ret (pe_c c_of_digits_in hr (by decide) rfl (pa_cons (pv 4) (pa_cons (pe_revL (pv 7)) pa_nil)))))))), ?_⟩
    refine ⟨_, rfl, aP, (q : Int), vn (pOf q), _, rfl, rfl, T.primes, kq hq pOf, _, rfl, aW, (q : Int), vn (fOf q), _, rfl, rfl, T.powers, kq hq fOf, _, _, rfl, ?_⟩
    refine ⟨_, rfl, _, rfl, pOf q, whole, rfl, p1, by omega, hw, fun rp nrp => ⟨Nat.zero_le _, fun tp ntp => ⟨len1, fun l0 n0 => ⟨_, rfl, l0, ((fOf q : Nat) : Int), [vn 0], rfl, rfl, upd_same, by omega, by omega, by rw [line24, Int.toNat_natCast]; show 1 * _ ≤ _; omega, fun fp nfp => ?_⟩⟩⟩⟩
    rw [Int.toNat_natCast, rep_v]
    have s1 := Same.new (o := .lst (vns (digs (pOf q) whole))) nrp
    have s2 := Same.new (o := .lst []) ntp
    have s3 := Same.new (o := .lst [vn 0]) n0
    have s4 := Same.new (o := .lst (vns (List.replicate (fOf q) 0))) nfp
    have sA := ((s1.trans s2).trans s3).trans s4
    have erp := ((s2.trans s3).trans s4) _ _ (upd_same (a := rp))
    have etp := (s3.trans s4) _ _ (upd_same (a := tp))
    have ntp0 : H tp = none := s1.free ntp
    have rne : rp ≠ tp := ne_of_none upd_same ntp
    refine ⟨_, _, _, rfl, ?_⟩
    have hdl := digs_len (pOf q) whole
    have hneg : (-1 : Int) = - ((1 : Nat) : Int) := rfl
    generalize hrow : digs (pOf q) whole = row at erp etp hdl sA ⊢
    have rg : RgC ((row.length : Int) - 1) (-1) (-1) row.length := by
      have z := RgC.neg (i := (row.length : Int) - 1) (j := -1) (by omega) (by omega) (by omega) (by omega)
      have e : ((row.length : Int) - 1 - -1).toNat = row.length := by omega
      rw [e] at z
      exact z
    refine ⟨_, rfl, rp, _, rfl, .inl (SqL.of erp), ?_⟩
    rw [vns_len]
    refine ⟨_, 1, rfl, rfl, 1, rfl, 1, rfl, _, _, _, row.length, rfl, rg, ?_⟩
    have hgo : restGo q (vecs q) row n row.length [] (List.replicate (fOf q) 0) = (some r).bind fun _ => restGo q (vecs q) row n row.length [] (List.replicate (fOf q) 0) := rfl
    obtain ⟨fin, hfin, hfr⟩ : ∃ fin, restGo q (vecs q) row n row.length [] (List.replicate (fOf q) 0) = some fin ∧ ofD (pOf q) fin.reverse = r := by
      unfold leastRest at hleast
      rw [hrow] at hleast
      cases e : restGo q (vecs q) row n row.length [] (List.replicate (fOf q) 0) with
      | none => rw [e] at hleast; cases hleast
      | some fin => rw [e] at hleast; exact ⟨fin, rfl, Option.some.inj hleast⟩
    clear hgo
    refine for_any row.length (fun i σ H' => ∃ told fixed fp, restGo q (vecs q) row n (row.length - i) told fixed = some fin ∧ told.length = i ∧ fixed.length = fOf q ∧ Same H H' ∧ H' rp = some (.lst (vns row)) ∧ H' tp = some (.lst (vns told)) ∧ H' fp = some (.lst (vns fixed)) ∧
      ∃ t9 t10 t11, σ = [some (vn q), some vv, some (vn whole), some (vn n), some (vn (pOf q)), some (vn (fOf q)), some (.ref rp), some (.ref tp), some (.ref fp), t9, t10, t11]) ?_ (fun i σ H' hi _ => hi) (fun σ H' _ => Nat.le_refl _) ?_ ?_
    · exact ⟨[], _, fp, hfin, rfl, List.length_replicate, sA, erp, etp, upd_same, none, none, none, rfl⟩
    · rintro i x σ H0 H1 hi ⟨told, fixed, fp, hgo, htl, hfl, sm, hrp, htp, hfp, t9, t10, t11, rfl⟩ ⟨e1, e2⟩
      subst e1 e2
      obtain ⟨place, hpl⟩ : ∃ place, row.length - i = place + 1 := ⟨row.length - i - 1, by omega⟩
      have ei : V.int ((row.length : Int) - 1 + ((i : Nat) : Int) * -1) = vn place := by congr 1; omega
      rw [ei]
      rw [hpl] at hgo
      have hpl2 : row.length - (i + 1) = place := by omega
      refine ⟨_, rfl, _, rfl, _, rfl, (place : Int), rfl, rp, _, rfl, SqL.of hrp, fun c1 nc1 => ?_⟩
      rw [cut_take]
      refine ⟨fOf q, c1, row.take place, rfl, f1, f2, SqL.of upd_same, fun H2 up s2 hup => ?_⟩
      have sc := Same.new (o := .lst (vns (row.take place))) nc1
      have sB := sc.trans s2
      have hstep : restGo q (vecs q) row n (place + 1) told fixed = match findD (fun digit => leftOk q (vecs q) (withUnit fixed place digit) (unitsOf (fOf q) (row.take place)) n) (pOf q) 0 with
        | none => none
        | some digit => restGo q (vecs q) row n place (told ++ [digit]) (withUnit fixed place digit) := rfl
      rw [hstep] at hgo
      cases hf : findD (fun digit => leftOk q (vecs q) (withUnit fixed place digit) (unitsOf (fOf q) (row.take place)) n) (pOf q) 0 with
      | none => rw [hf] at hgo; cases hgo
      | some dig =>
        rw [hf] at hgo
        dsimp only at hgo
        refine ⟨fun m σ H' => ∃ dd, findD (fun digit => leftOk q (vecs q) (withUnit fixed place digit) (unitsOf (fOf q) (row.take place)) n) m dd = some dig ∧ Same H2 H' ∧ σ = [some (vn q), some vv, some (vn whole), some (vn n), some (vn (pOf q)), some (vn (fOf q)), some (.ref rp), some (.ref tp), some (.ref fp), some (vn place), some (.ref up), some (vn dd)], ⟨pOf q, 0, hf, Same.refl _, rfl⟩, ?_⟩
        rintro m σ H3 ⟨dd, hfd, sm3, rfl⟩
        have sC := sB.trans sm3
        have hne : fixed ≠ [] := fun e => by rw [e] at hfl; simp at hfl; omega
        refine ⟨_, rfl, _, rfl, _, rfl, _, rfl, _, rfl, fp, fixed, place, dd, rfl, SqL.of (sC _ _ hfp), hne, fun H4 wp s4 _ hwp => ?_⟩
        have sD := sC.trans s4
        refine ⟨_, rfl, _, rfl, q, n, vv, wp, up, withUnit fixed place dd, unitsOf (fOf q) (row.take place), rfl, hq, hV.mono (sm.trans sD), SqL.of hwp, SqL.of ((sm3.trans s4) _ _ hup), (withUnit_len _ _ _).trans hfl, unitsOf_len _ _, fun H5 s5 => ⟨_, rfl, ?_⟩⟩
        have sE := sD.trans s5
        refine ite2 (fun c => ?_) (fun c => ?_)
        · have c : leftOk q (vecs q) (withUnit fixed place dd) (unitsOf (fOf q) (row.take place)) n = false := by simpa using c
          cases m with
          | zero => cases hfd
          | succ m =>
            have e2 : findD (fun digit => leftOk q (vecs q) (withUnit fixed place digit) (unitsOf (fOf q) (row.take place)) n) (m + 1) dd = bif leftOk q (vecs q) (withUnit fixed place dd) (unitsOf (fOf q) (row.take place)) n then some dd else findD (fun digit => leftOk q (vecs q) (withUnit fixed place digit) (unitsOf (fOf q) (row.take place)) n) m (dd + 1) := rfl
            rw [e2, c] at hfd
            refine ⟨fun σ' H' => ∃ m', m' < m + 1 ∧ ∃ dd, findD (fun digit => leftOk q (vecs q) (withUnit fixed place digit) (unitsOf (fOf q) (row.take place)) n) m' dd = some dig ∧ Same H2 H' ∧ σ' = [some (vn q), some vv, some (vn whole), some (vn n), some (vn (pOf q)), some (vn (fOf q)), some (.ref rp), some (.ref tp), some (.ref fp), some (vn place), some (.ref up), some (vn dd)], fun _ _ h => h, ?_⟩
            refine ⟨_, rfl, dd, 1, rfl, rfl, trivial, m, Nat.lt_succ_self _, dd + 1, hfd, (sm3.trans s4).trans s5, rfl⟩
        · have c : leftOk q (vecs q) (withUnit fixed place dd) (unitsOf (fOf q) (row.take place)) n = true := by simpa using c
          have edig : dig = dd := by
            cases m with
            | zero => cases hfd
            | succ m =>
              have e2 : findD (fun digit => leftOk q (vecs q) (withUnit fixed place digit) (unitsOf (fOf q) (row.take place)) n) (m + 1) dd = bif leftOk q (vecs q) (withUnit fixed place dd) (unitsOf (fOf q) (row.take place)) n then some dd else findD (fun digit => leftOk q (vecs q) (withUnit fixed place digit) (unitsOf (fOf q) (row.take place)) n) m (dd + 1) := rfl
              rw [e2, c] at hfd
              exact (Option.some.inj hfd).symm
          subst edig
          refine ⟨_, rfl, _, rfl, _, rfl, fp, fixed, place, dig, rfl, SqL.of (sE _ _ hfp), hne, fun H6 wp2 s6 nwp2 hwp2 => ?_⟩
          have sF := sE.trans s6
          have htF := sF _ _ htp
          refine ⟨_, rfl, .inl ⟨rfl, _, SqL.of htF⟩, _, rfl, tp, vns told, vn dig, rfl, rfl, htF, by rw [vns_len, htl, line24]; omega, ?_⟩
          have wne : wp2 ≠ tp := fun e => by
            rw [e, sE _ _ htp] at nwp2
            cases nwp2
          refine ⟨told ++ [dig], withUnit fixed place dig, wp2, by rw [hpl2]; exact hgo, by rw [List.length_append, htl]; rfl, (withUnit_len _ _ _).trans hfl, Same.upd (sm.trans sF) ntp0, ?_, by rw [upd_same, vns_app]; rfl, ?_, _, _, _, rfl⟩
          · rw [upd_ne rne]; exact sF _ _ hrp
          · rw [upd_ne wne]; exact hwp2
    · rintro σ H1 ⟨told, fixed, fp, hgo, htl, hfl, sm, hrp, htp, hfp, t9, t10, t11, rfl⟩
      rw [Nat.sub_self] at hgo
      obtain rfl : told = fin := Option.some.inj hgo
      refine ⟨_, rfl, _, rfl, tp, _, rfl, SqL.of htp, fun rr nrr => ?_⟩
      rw [vns_rev]
      refine ⟨pOf q, rr, told.reverse, rfl, by omega, SqL.of upd_same, fun H' s' => ?_⟩
      rw [hfr]
      exact k _ ((sm.trans (Same.new nrr)).trans s')
theorem ok_greatest_in (T : Txt K mg aF aP aW) (d : Df K mg "greatest_in" s_greatest_in ["q", "d", "k"]) (c_most_parts_in : C8.Cal P w K mg base 3 "most_parts_in" spMost []) (c_vectors_of : C8.Cal P w K mg base 3 "vectors_of" (spVecs K) []) (c_least_rest : C8.Cal P w K mg base 4 "least_rest" (spLeast K) []) : C8.Cal P w K mg base 5 "greatest_in" (spGreat K) [] := by
  refine cal_of d sc_greatest_in (fun vs H Q E h => ?_) (fun f cdv A outer s H vs Q E hr h => ?_)
  · obtain ⟨q, _, _, _, rfl, _⟩ := h
    rfl
  · obtain ⟨q, dd, k0, told, rfl, hq, hk, hd, hg, kn, ks⟩ := h
    obtain ⟨q1, q2, p1, p2, f1, f2⟩ := Qs_facts hq
    refine ⟨_, (pss_cons (ps_if (pt_cmpR nGt (pv 1) (pe_c c_most_parts_in hr (by decide) rfl (pa_cons (pv 0) (pa_cons (pv 2) pa_nil))) (nomark _)) (pss_one (ps_ret pe_non)) pss_nil)
      (pss_cons (ps_par3 (i := 3) (j := 4) (l := 5) rfl sc_greatest_in.nd rfl rfl rfl (by decide) (by decide) (by decide) rfl rfl rfl (pa_cons (pe_c c_vectors_of hr (by decide) rfl (pa_cons (pv 0) pa_nil)) (pa_cons (pe_lst pa_nil) (pa_cons (pv 2) pa_nil))) (by rfl))
      (pss_cons (ps_for PassesOwn.never rfl (pi_range3 (by rfl) T.range_ (pa_cons (pv 1) (pa_cons pe_int (pa_cons (pe_un un_neg pe_int) pa_nil)))) (pg_name (i := 6) sc_greatest_in.nd rfl (Or.inl rfl)) (pss_cons (ps_set (i := 7) sc_greatest_in.nd rfl (Or.inl rfl) (pe_c c_least_rest hr (by decide) rfl (pa_cons (pv 0) (pa_cons (pv 3) (pa_cons (pv 5) (pa_cons (pv 6) pa_nil))))))
      (pss_cons (ps_expr (pe_bm PySem.F.plainAttrs_list PySem.F.slot_list_append PySem.F.type_list_append mt_append (pv 4) (pa_cons (pe_op nSub (pv 5) (pv 7)) pa_nil)))
      (pss_one (ps_set (i := 5) sc_greatest_in.nd rfl (Or.inl rfl) (pv 7))))))
      (pss_one (ps_ret (pe_tup (pa_cons (pv 5) (StX.pa_star (pe_revL (pv 4)) pa_nil)))))))), ?_⟩
    refine ⟨_, rfl, _, rfl, _, rfl, q, k0, rfl, hq, hk, fun H1 s1 => ?_⟩
    refine ⟨dd, mostParts q k0, rfl, rfl, _, rfl, ?_⟩
    refine ite2 (fun c => ?_) (fun c => ?_)
    · have c : mostParts q k0 < dd := of_decide_eq_true c
      have e : greatest q (vecs q) dd k0 = some none := by
        unfold greatest
        have z2 : Nat.blt (mostParts q k0) dd = true := by unfold Nat.blt; exact Nat.ble_eq_true_of_le c
        rw [z2]
        rfl
      rw [e] at hg
      exact kn (Option.some.inj hg).symm _ s1
    · have c : ¬ mostParts q k0 < dd := fun q => c (decide_eq_true q)
      obtain ⟨fin, hfin, hfr⟩ : ∃ fin, greatGo q (vecs q) dd [] k0 = some fin ∧ told = some fin := by
        unfold greatest at hg
        have z2 : Nat.blt (mostParts q k0) dd = false := by
          rw [Bool.eq_false_iff]
          intro h
          exact c (Nat.le_of_ble_eq_true h)
        rw [z2] at hg
        cases e : greatGo q (vecs q) dd [] k0 with
        | none => rw [e] at hg; cases hg
        | some fin => rw [e] at hg; exact ⟨fin, rfl, (Option.some.inj hg).symm⟩
      refine ⟨_, rfl, q, rfl, hq, fun H2 vv s2 hV => ⟨Nat.zero_le _, fun fp nfp => ⟨_, rfl, _, _, _, rfl, ?_⟩⟩⟩
      have sA := (s1.trans s2).trans (Same.new (o := .lst []) nfp)
      have hV2 := hV.mono (Same.new (o := .lst []) nfp)
      have nfp0 : H fp = none := (s1.trans s2).free nfp
      have rg : RgC (dd : Int) 0 (-1) dd := by
        have z := RgC.neg (i := (dd : Int)) (j := 0) (by omega) (by omega) (by omega) (by omega)
        have e : ((dd : Int) - 0).toNat = dd := by omega
        rw [e] at z
        exact z
      refine ⟨_, rfl, 1, rfl, _, _, _, dd, rfl, rg, ?_⟩
      have nfp2 : H2 fp = none := nfp
      refine for_any dd (fun i σ H' => ∃ found left, greatGo q (vecs q) (dd - i) found left = some fin ∧ left ≤ k0 ∧ found.length = i ∧ Same H2 H' ∧ H' fp = some (.lst (vns found)) ∧ ∃ t6 t7, σ = [some (vn q), some (vn dd), some (vn k0), some vv, some (.ref fp), some (vn left), t6, t7]) ?_ (fun i σ H' hi _ => hi) (fun σ H' _ => Nat.le_refl _) ?_ ?_
      · exact ⟨[], k0, hfin, Nat.le_refl _, rfl, Same.new nfp, upd_same, none, none, rfl⟩
      · rintro i x σ H0 H3 hi ⟨found, left, hgo, hle, hlen, sm, hfp, t6, t7, rfl⟩ ⟨e1, e2⟩
        subst e1 e2
        obtain ⟨n, hn⟩ : ∃ n, dd - i = n + 1 := ⟨dd - i - 1, by omega⟩
        have ei : V.int ((dd : Int) + ((i : Nat) : Int) * -1) = vn (n + 1) := by congr 1; omega
        rw [ei]
        rw [hn] at hgo
        have hn2 : dd - (i + 1) = n := by omega
        have hstep : greatGo q (vecs q) (n + 1) found left = match leastRest q (vecs q) left (n + 1) with
          | none => none
          | some rest => bif Nat.ble rest left then greatGo q (vecs q) n (found ++ [left - rest]) rest else none := rfl
        rw [hstep] at hgo
        cases hf : leastRest q (vecs q) left (n + 1) with
        | none => rw [hf] at hgo; cases hgo
        | some rest =>
          rw [hf] at hgo
          dsimp only at hgo
          cases hb : Nat.ble rest left with
          | false => rw [hb] at hgo; cases hgo
          | true =>
            rw [hb] at hgo
            have hb2 := Nat.le_of_ble_eq_true hb
            refine ⟨_, rfl, _, rfl, _, rfl, _, rfl, q, left, n + 1, rest, vv, rfl, hq, hV.mono sm, by omega, hf, fun H4 s4 => ?_⟩
            have hfp4 := s4 _ _ hfp
            refine ⟨_, rfl, .inl ⟨rfl, _, SqL.of hfp4⟩, _, rfl, _, rfl, left, rest, rfl, rfl, hb2, fp, _, _, rfl, rfl, hfp4, by rw [vns_len, hlen, line24]; omega, ?_⟩
            refine ⟨_, rfl, found ++ [left - rest], rest, by rw [hn2]; exact hgo, by omega, by rw [List.length_append, hlen]; rfl, Same.upd (sm.trans s4) nfp2, by rw [upd_same, vns_app]; rfl, _, _, rfl⟩
      · rintro σ H3 ⟨found, left, hgo, hle, hlen, sm, hfp, t6, t7, rfl⟩
        rw [Nat.sub_self] at hgo
        have efin : left :: found.reverse = fin := Option.some.inj hgo
        refine ⟨_, rfl, _, rfl, fp, _, rfl, SqL.of hfp, fun rr nrr => ⟨rr, _, rfl, .inr (SqL.of upd_same), ?_⟩⟩
        rw [vns_rev]
        dsimp only [tNil]
        rw [List.append_nil]
        refine ⟨by rw [line24]; show (vns found.reverse).length + 1 ≤ _; rw [vns_len, List.length_reverse]; omega, fun tt ntt => ?_⟩
        refine ks fin hfr _ _ ((((s1.trans s2).trans sm).trans (Same.new nrr)).trans (Same.new ntt)) ?_
        rw [upd_same, ← efin]
        rfl
end
end Mo
namespace Mo
open PySem PySem.Spec PyProof.Rows L2
open C8 (pe_c pe_gc)
def spWhole : Sp := fun vs H Q _ => ∃ i : Int, vs = [.int i] ∧ Q (.bl true) H
def spIsInt : Sp := fun vs H Q _ => ∃ n : Nat, vs = [vn n] ∧ n < 10 ^ 60 ∧ Q (.bl true) H
def spBetween : Sp := fun vs H Q _ => ∃ i a b : Int, vs = [.int i, .int a, .int b] ∧ a ≤ i ∧ i ≤ b ∧ Q (.bl true) H
def spIsF : Sp := fun vs H Q _ => ∃ q : Nat, vs = [vn q] ∧ q ∈ Qs ∧ Q (.bl true) H
def spReqF : Sp := fun vs H Q _ => ∃ q : Nat, vs = [vn q] ∧ q ∈ Qs ∧ Q .non H
def spReq : Sp := fun vs H Q _ => ∃ q d k : Nat, vs = [vn q, vn d, vn k] ∧ q ∈ Qs ∧ d ≤ 300 ∧ k < 10 ^ 60 ∧ Q .non H
def spZero : Sp := fun vs H Q _ => ∃ q d k : Nat, vs = [vn q, vn d, vn k] ∧ q ∈ Qs ∧ d ≤ 300 ∧ k < 30000 ∧ ∀ H', Same H H' → Q (.bl (decide (mostParts q k < d))) H'
theorem fields_in : ∀ q ∈ Qs, inV (vn q) (vns [2, 3, 4, 5, 7, 8, 9]) = true := by decide +kernel
/-- a number below total; the dice change -/
def spRoll : Sp := fun vs H Q _ => ∃ (D : Addr) (t : Nat) (a b c : Int), vs = [.ref D, vn t] ∧ 0 < t ∧ t < 1073741824 ∧ H D = some (.lst [.int a, .int b, .int c]) ∧
  ∀ (r : Nat) (a' b' c' : Int), r < t → Q (vn r) (upd H D (.lst [.int a', .int b', .int c']))
section
variable {P : Program} {w : World} {K : PySem.W.Frag} {mg : Str → Option Value} {base : Heap} {aF aP aW : Addr}
theorem ok_is_whole_number (T : Txt K mg aF aP aW) (d : Df K mg "is_whole_number" s_is_whole_number ["value"]) : C8.Cal P w K mg base 1 "is_whole_number" spWhole [] := by
  refine cal_of d sc_is_whole_number (fun vs H Q E h => ?_) (fun f cdv A outer s H vs Q E hr h => ?_)
  · obtain ⟨q, rfl, _⟩ := h
    rfl
  · obtain ⟨i, rfl, k⟩ := h
    refine ⟨_, (pss_one (ps_ret (pe_and (pe_callB call_isi (by rfl) T.isinstance_ (by decide +kernel) (pa_cons (pv 0) (pa_cons (pe_bltn rfl T.int_ (by decide +kernel) (show RelV (.ty "int") (.type "int") from rfl)) pa_nil))) (pe_one (pe_not (pe_callB call_isi (by rfl) T.isinstance_ (by decide +kernel) (pa_cons (pv 0) (pa_cons (pe_bltn rfl T.bool_ (by decide +kernel) (show RelV (.ty "bool") (.type "bool") from rfl)) pa_nil)))))))), ?_⟩
    exact ⟨_, rfl, .int i, .ty "int", .type "int", .type "int", true, rfl, .ty _, .base (.int _), rfl, true, rfl, iteT ⟨_, rfl, .int i, .ty "bool", .type "int", .type "bool", false, rfl, .ty _, .base (.int _), rfl, false, rfl, k⟩⟩
theorem ok_is_integer (T : Txt K mg aF aP aW) (d : Df K mg "is_integer" s_is_integer ["value"]) (c_is_whole_number : C8.Cal P w K mg base 1 "is_whole_number" spWhole []) : C8.Cal P w K mg base 2 "is_integer" spIsInt [] := by
  refine cal_of d sc_is_integer (fun vs H Q E h => ?_) (fun f cdv A outer s H vs Q E hr h => ?_)
  · obtain ⟨q, rfl, _⟩ := h
    rfl
  · obtain ⟨n, rfl, hn, k⟩ := h
    refine ⟨_, (pss_one (ps_ret (pe_and (pe_c c_is_whole_number hr (by decide) rfl (pa_cons (pv 0) pa_nil)) (pe_one (pe_cmpR op_lt (pe_callB call_abs (by rfl) T.abs_ (by decide +kernel) (pa_cons (pv 0) pa_nil)) (pe_gc rfl T.SIXTY_DIGITS) (nomark _)))))), ?_⟩
    refine ⟨_, rfl, (n : Int), rfl, true, rfl, iteT ⟨_, rfl, (n : Int), rfl, _, _, rfl, rfl, ?_⟩⟩
    have e : decide ((if (n : Int) < 0 then -(n : Int) else (n : Int)) < 10 ^ 60) = true := by
      rw [if_neg (by omega)]
      have h1 : (10 : Nat) ^ 60 = 1000000000000000000000000000000000000000000000000000000000000 := by decide
      have h2 : (10 : Int) ^ 60 = 1000000000000000000000000000000000000000000000000000000000000 := by decide
      rw [h1] at hn
      rw [h2]
      exact decide_eq_true (by omega)
    show Q (V.bl (decide ((if (n : Int) < 0 then -(n : Int) else (n : Int)) < 10 ^ 60))) H
    rw [e]
    exact k
theorem ok_is_within (T : Txt K mg aF aP aW) (d : Df K mg "is_within" s_is_within ["value", "least", "most"]) (c_is_whole_number : C8.Cal P w K mg base 1 "is_whole_number" spWhole []) : C8.Cal P w K mg base 2 "is_within" spBetween [] := by
  refine cal_of d sc_is_within (fun vs H Q E h => ?_) (fun f cdv A outer s H vs Q E hr h => ?_)
  · obtain ⟨q, _, _, rfl, _⟩ := h
    rfl
  · obtain ⟨i, a, b, rfl, h1, h2, k⟩ := h
    refine ⟨_, (pss_one (ps_ret (pe_and (pe_c c_is_whole_number hr (by decide) rfl (pa_cons (pv 0) pa_nil)) (pe_one (pe_chain op_le op_le (pv 1) (pv 0) (pv 2)))))), ?_⟩
    refine ⟨_, rfl, i, rfl, true, rfl, iteT ⟨_, rfl, _, rfl, a, i, rfl, rfl, _, rfl, ?_⟩⟩
    have e1 : decide (a ≤ i) = true := decide_eq_true h1
    have e2 : decide (i ≤ b) = true := decide_eq_true h2
    rw [e1]
    refine iteT ⟨_, rfl, i, b, rfl, rfl, ?_⟩
    show Q (V.bl (decide (i ≤ b))) H
    rw [e2]
    exact k
theorem ok_is_from_zero (T : Txt K mg aF aP aW) (d : Df K mg "is_from_zero" s_is_from_zero ["value"]) (c_is_integer : C8.Cal P w K mg base 2 "is_integer" spIsInt []) : C8.Cal P w K mg base 3 "is_from_zero" spIsInt [] := by
  refine cal_of d sc_is_from_zero (fun vs H Q E h => ?_) (fun f cdv A outer s H vs Q E hr h => ?_)
  · obtain ⟨q, rfl, _⟩ := h
    rfl
  · obtain ⟨n, rfl, hn, k⟩ := h
    refine ⟨_, (pss_one (ps_ret (pe_and (pe_c c_is_integer hr (by decide) rfl (pa_cons (pv 0) pa_nil)) (pe_one (pe_cmpR op_ge (pv 0) pe_int (nomark _)))))), ?_⟩
    refine ⟨_, rfl, n, rfl, hn, true, rfl, iteT ⟨_, rfl, (n : Int), 0, rfl, rfl, ?_⟩⟩
    have e : decide ((0 : Int) ≤ (n : Int)) = true := decide_eq_true (by omega)
    show Q (V.bl (decide ((0 : Int) ≤ (n : Int)))) H
    rw [e]
    exact k
theorem ok_is_field_in (T : Txt K mg aF aP aW) (d : Df K mg "is_field_in" s_is_field_in ["value"]) (c_is_whole_number : C8.Cal P w K mg base 1 "is_whole_number" spWhole []) : C8.Cal P w K mg base 2 "is_field_in" spIsF [] := by
  refine cal_of d sc_is_field_in (fun vs H Q E h => ?_) (fun f cdv A outer s H vs Q E hr h => ?_)
  · obtain ⟨q, rfl, _⟩ := h
    rfl
  · obtain ⟨q, rfl, hq, k⟩ := h
    refine ⟨_, (pss_one (ps_ret (pe_and (pe_c c_is_whole_number hr (by decide) rfl (pa_cons (pv 0) pa_nil)) (pe_one (pe_cmpR op_in_seq (pv 0) (pe_gc rfl T.FIELDS) (by rfl)))))), ?_⟩
    refine ⟨_, rfl, (q : Int), rfl, true, rfl, iteT ⟨_, rfl, aF, _, rfl, .inr (T.fields H), rfl, by decide, ?_⟩⟩
    rw [fields_in q hq]
    exact k
theorem ok_require_field (T : Txt K mg aF aP aW) (d : Df K mg "require_field" s_require_field ["q"]) (c_is_field_in : C8.Cal P w K mg base 2 "is_field_in" spIsF []) : C8.Cal P w K mg base 3 "require_field" spReqF [] := by
  refine cal_of d sc_require_field (fun vs H Q E h => ?_) (fun f cdv A outer s H vs Q E hr h => ?_)
  · obtain ⟨q, rfl, _⟩ := h
    rfl
  · obtain ⟨q, rfl, hq, k⟩ := h
    refine ⟨_, (pss_one (ps_if (pt_not (pt_val (pe_c c_is_field_in hr (by decide) rfl (pa_cons (pv 0) pa_nil)))) (pss_one ps_never) pss_nil)), ?_⟩
    exact ⟨_, rfl, q, rfl, hq, true, rfl, iteF k⟩
theorem ok_require_partings (T : Txt K mg aF aP aW) (d : Df K mg "require_partings" s_require_partings ["q", "d", "k"]) (c_require_field : C8.Cal P w K mg base 3 "require_field" spReqF []) (c_is_within : C8.Cal P w K mg base 2 "is_within" spBetween []) (c_is_from_zero : C8.Cal P w K mg base 3 "is_from_zero" spIsInt []) : C8.Cal P w K mg base 4 "require_partings" spReq [] := by
  refine cal_of d sc_require_partings (fun vs H Q E h => ?_) (fun f cdv A outer s H vs Q E hr h => ?_)
  · obtain ⟨q, _, _, rfl, _⟩ := h
    rfl
  · obtain ⟨q, dd, k0, rfl, hq, hd, hk, k⟩ := h
    refine ⟨_, (pss_cons (ps_expr (pe_c c_require_field hr (by decide) rfl (pa_cons (pv 0) pa_nil)))
      (pss_cons (ps_if (pt_not (pt_val (pe_c c_is_within hr (by decide) rfl (pa_cons (pv 1) (pa_cons pe_int (pa_cons (pe_gc rfl T.MAX_PARTS) pa_nil)))))) (pss_one ps_never) pss_nil)
      (pss_one (ps_if (pt_not (pt_val (pe_c c_is_from_zero hr (by decide) rfl (pa_cons (pv 2) pa_nil)))) (pss_one ps_never) pss_nil)))), ?_⟩
    refine ⟨_, rfl, q, rfl, hq, ?_⟩
    refine ⟨_, rfl, (dd : Int), 0, 300, rfl, by omega, by omega, true, rfl, iteF ?_⟩
    exact ⟨_, rfl, k0, rfl, hk, true, rfl, iteF k⟩
theorem k60 {k : Nat} (h : k < 30000) : k < 10 ^ 60 := Nat.lt_of_lt_of_le h (by decide)
theorem ok_parting (T : Txt K mg aF aP aW) (d : Df K mg "parting" s_parting ["q", "d", "k"]) (c_require_partings : C8.Cal P w K mg base 4 "require_partings" spReq []) (c_greatest_in : C8.Cal P w K mg base 5 "greatest_in" (spGreat K) []) : C8.Cal P w K mg base 6 "parting" (spGreat K) [] := by
  refine cal_of d sc_parting (fun vs H Q E h => ?_) (fun f cdv A outer s H vs Q E hr h => ?_)
  · obtain ⟨q, _, _, _, rfl, _⟩ := h
    rfl
  · obtain ⟨q, dd, k0, told, rfl, hq, hk, hd, hg, kn, ks⟩ := h
    refine ⟨_, (pss_cons (ps_expr (pe_c c_require_partings hr (by decide) rfl (pa_cons (pv 0) (pa_cons (pv 1) (pa_cons (pv 2) pa_nil)))))
      (pss_one (ps_ret (pe_c c_greatest_in hr (by decide) rfl (pa_cons (pv 0) (pa_cons (pv 1) (pa_cons (pv 2) pa_nil))))))), ?_⟩
    refine ⟨_, rfl, _, rfl, _, rfl, q, dd, k0, rfl, hq, hd, k60 hk, ?_⟩
    exact ⟨_, rfl, _, rfl, _, rfl, q, dd, k0, told, rfl, hq, hk, hd, hg, kn, ks⟩
theorem ok_is_zero_sum (T : Txt K mg aF aP aW) (d : Df K mg "is_zero_sum" s_is_zero_sum ["q", "d", "k"]) (c_require_partings : C8.Cal P w K mg base 4 "require_partings" spReq []) (c_most_parts_in : C8.Cal P w K mg base 3 "most_parts_in" spMost []) : C8.Cal P w K mg base 5 "is_zero_sum" spZero [] := by
  refine cal_of d sc_is_zero_sum (fun vs H Q E h => ?_) (fun f cdv A outer s H vs Q E hr h => ?_)
  · obtain ⟨q, _, _, rfl, _⟩ := h
    rfl
  · obtain ⟨q, dd, k0, rfl, hq, hd, hk, k⟩ := h
    refine ⟨_, (pss_cons (ps_expr (pe_c c_require_partings hr (by decide) rfl (pa_cons (pv 0) (pa_cons (pv 1) (pa_cons (pv 2) pa_nil)))))
      (pss_one (ps_ret (pe_cmpR nGt (pv 1) (pe_c c_most_parts_in hr (by decide) rfl (pa_cons (pv 0) (pa_cons (pv 2) pa_nil))) (nomark _))))), ?_⟩
    refine ⟨_, rfl, _, rfl, _, rfl, q, dd, k0, rfl, hq, hd, k60 hk, ?_⟩
    refine ⟨_, rfl, _, rfl, _, rfl, q, k0, rfl, hq, hk, fun H1 s1 => ?_⟩
    exact ⟨dd, mostParts q k0, rfl, rfl, k _ s1⟩
theorem at3 {a b c : V} : atI [a, b, c] 0 = some a ∧ atI [a, b, c] 1 = some b ∧ atI [a, b, c] 2 = some c := ⟨rfl, rfl, rfl⟩
theorem ok_l_roll (T : Txt K mg aF aP aW) (d : Df K mg "_law_roll" s_l_roll ["_law_dice_here", "_law_total"]) : C8.Cal P w K mg base 1 "_law_roll" spRoll [] := by
  refine cal_of d sc_l_roll (fun vs H Q E h => ?_) (fun f cdv A outer s H vs Q E hr h => ?_)
  · obtain ⟨q, _, _, _, _, rfl, _⟩ := h
    rfl
  · obtain ⟨D, t, a, b, c, rfl, t0, t1, hD, k⟩ := h
    refine ⟨_, (pss_cons (ps_set (i := 2) sc_l_roll.nd rfl (Or.inl rfl) (pe_callTy call_int1 (by rfl) T.int_ (by decide +kernel) (pa_cons (pv 1) pa_nil)))
      (pss_cons (ps_if (pt_cmpR op_gt (pe_ix ix_list (pv 0) pe_int (fun _ _ => rfl)) pe_int (nomark _)) (pss_cons (ps_set (i := 3) sc_l_roll.nd rfl (Or.inl rfl) (pe_op op_mod (pe_ix ix_list (pv 0) pe_int (fun _ _ => rfl)) (pv 2)))
      (pss_cons (ps_asg (pe_op op_fdiv (pe_ix ix_list (pv 0) pe_int (fun _ _ => rfl)) (pv 2)) (pg_sub (pv 0) pe_int set_list))
      (pss_one (ps_ret (pe_callTy call_int1 (by rfl) T.int_ (by decide +kernel) (pa_cons (pv 3) pa_nil)))))) pss_nil)
      (pss_cons (ps_asg (pe_op op_add (pe_ix ix_list (pv 0) pe_int (fun _ _ => rfl)) pe_int) (pg_sub (pv 0) pe_int set_list))
      (pss_cons (ps_set (i := 4) sc_l_roll.nd rfl (Or.inl rfl) (pe_op op_mod (pe_op op_add (pe_ix ix_list (pv 0) pe_int (fun _ _ => rfl)) (pe_op op_mul pe_int (pe_ix ix_list (pv 0) pe_int (fun _ _ => rfl)))) pe_int))
      (pss_cons (ps_set (i := 5) sc_l_roll.nd rfl (Or.inl rfl) (pe_op op_add (pe_op op_mul (pe_op op_mod (pe_op op_mul (pv 4) (pv 4)) pe_int) (pv 4)) (pe_op op_mul pe_int (pe_ix ix_list (pv 0) pe_int (fun _ _ => rfl)))))
      (pss_cons (ps_set (i := 5) sc_l_roll.nd rfl (Or.inl rfl) (pe_op op_mod (pv 5) pe_int))
      (pss_one (ps_ret (pe_callTy call_int1 (by rfl) T.int_ (by decide +kernel) (pa_cons (pe_op op_mod (pe_op op_fdiv (pv 5) pe_int) (pv 2)) pa_nil)))))))))), ?_⟩
    have tN : ∀ x : Int, ∃ r : Nat, x % (t : Int) = (r : Int) ∧ r < t := fun x => by
      have h1 := Int.emod_nonneg x (show (t : Int) ≠ 0 by omega)
      have h2 := Int.emod_lt_of_pos x (show (0 : Int) < t by omega)
      exact ⟨(x % (t : Int)).toNat, by omega, by omega⟩
    refine ⟨_, rfl, .inl ⟨(t : Int), rfl, ?_⟩⟩
    refine ⟨_, rfl, D, _, 0, _, rfl, rfl, SqL.of hD, rfl, a, 0, rfl, rfl, _, rfl, ?_⟩
    refine ite2 (fun cc => ?_) (fun cc => ?_)
    · refine ⟨_, rfl, D, _, 0, _, rfl, rfl, SqL.of hD, rfl, _, rfl, a, (t : Int), rfl, rfl, by omega, ?_⟩
      refine ⟨_, rfl, D, _, 0, _, rfl, rfl, SqL.of hD, rfl, _, rfl, a, (t : Int), rfl, rfl, ⟨by omega, by omega⟩, ?_⟩
      refine ⟨_, rfl, D, _, 0, 0, rfl, rfl, hD, rfl, ?_⟩
      obtain ⟨r, e1, e2⟩ := tN a
      refine ⟨_, rfl, .inl ⟨a % (t : Int), rfl, ?_⟩⟩
      rw [e1]
      exact k r _ _ _ e2
    · refine ⟨_, rfl, D, _, 2, _, rfl, rfl, SqL.of hD, rfl, c, 1, rfl, rfl, ?_⟩
      refine ⟨_, rfl, D, _, 2, 2, rfl, rfl, hD, rfl, ?_⟩
      have hD2 : upd H D (.lst [.int a, .int b, .int (c + 1)]) D = some (.lst [.int a, .int b, .int (c + 1)]) := upd_same
      refine ⟨_, rfl, D, _, 1, _, rfl, rfl, SqL.of hD2, rfl, _, rfl, D, _, 2, _, rfl, rfl, SqL.of hD2, rfl, 1000427, c + 1, rfl, rfl, .inl (by decide), b, _, rfl, rfl, _, 2305843009213693951, rfl, rfl, (show (0 : Int) < 2305843009213693951 by decide), ?_⟩
      dsimp only [gName]
      have o1 := Int.emod_nonneg (b + 1000427 * (c + 1)) (show (2305843009213693951 : Int) ≠ 0 by decide)
      have o2 := Int.emod_lt_of_pos (b + 1000427 * (c + 1)) (show (0 : Int) < 2305843009213693951 by decide)
      generalize (b + 1000427 * (c + 1)) % 2305843009213693951 = one at o1 o2
      have e64 : (2 : Int) ^ 64 = 18446744073709551616 := by decide
      refine ⟨_, rfl, _, rfl, one, one, rfl, rfl, .inl (by rw [e64]; omega), _, 2305843009213693921, rfl, rfl, (show (0 : Int) < 2305843009213693921 by decide), _, rfl, _, one, rfl, rfl, .inr (by rw [e64]; omega), _, rfl, D, _, 2, _, rfl, rfl, SqL.of hD2, rfl, 9491, c + 1, rfl, rfl, .inl (by decide), _, _, rfl, rfl, ?_⟩
      refine ⟨_, rfl, _, 2305843009213693907, rfl, rfl, (show (0 : Int) < 2305843009213693907 by decide), ?_⟩
      refine ⟨_, rfl, _, 4096, rfl, rfl, ⟨by decide, by decide⟩, _, rfl, _, (t : Int), rfl, rfl, by omega, .inl ⟨_, rfl, ?_⟩⟩
      obtain ⟨r, e1, e2⟩ := tN ((one * one % 2305843009213693921 * one + 9491 * (c + 1)) % 2305843009213693907 / 4096)
      rw [e1]
      exact k r _ _ _ e2
end
end Mo
namespace Mo
open PySem PySem.Spec PyProof.Rows L2
open C8 (pe_c pe_gc)
open GxR (TabB TabG Tabbed)
/-- the heap but for the table at P -/
def off (P : Addr) (H : Hp) : Hp := fun a => if a = P then none else H a
theorem off_ne {P a : Addr} {H : Hp} (h : a ≠ P) : off P H a = H a := if_neg h
theorem off_at {P : Addr} {H : Hp} : off P H P = none := if_pos rfl
theorem off_some {P a : Addr} {H : Hp} {o : HO} (h : off P H a = some o) : a ≠ P ∧ H a = some o := by
  by_cases e : a = P
  · rw [e, off_at] at h; cases h
  · exact ⟨e, by rw [off_ne e] at h; exact h⟩
theorem off_sub {P : Addr} {H : Hp} : Same (off P H) H := fun a o h => (off_some h).2
theorem off_mono {P : Addr} {H H' : Hp} (h : Same H H') : Same (off P H) (off P H') := fun a o e => by
  obtain ⟨e1, e2⟩ := off_some e
  rw [off_ne e1]
  exact h _ _ e2
theorem off_tab {P : Addr} {H H' : Hp} (h : Tabbed P H H') : Same (off P H) (off P H') := fun a o e => by
  obtain ⟨e1, e2⟩ := off_some e
  rw [off_ne e1, h.2 a e1]
  exact e2
theorem off_of {P a : Addr} {H : Hp} {o : HO} (h : H a = some o) (hP : TabG H P) (ho : ∀ p, o ≠ .tbl p) : off P H a = some o := by
  rw [off_ne]
  · exact h
  · intro e
    obtain ⟨ps, hp, _⟩ := hP
    rw [e, hp] at h
    exact ho ps (Option.some.inj h).symm
theorem TabG.same {P : Addr} {H H' : Hp} (h : TabG H P) (e : Same H H') : TabG H' P := let ⟨ps, a, b⟩ := h; ⟨ps, e _ _ a, b⟩
/-- a def's facts, its code object at c -/
def DfC (K : PySem.W.Frag) (mg : Str → Option Value) (x : Str) (st : Stmt) (ps : List Str) (c : Addr) : Prop := ∃ (f : Addr) (fd : FuncData), L2.Fun K x x st f fd ∧ fd.code = .ref c ∧ mg x = some (.ref f) ∧ Binds K fd ps []
section
variable {P : Program} {w : World} {K : PySem.W.Frag} {mg : Str → Option Value} {base : Heap}
theorem cal_ofC {x : Str} {st : Stmt} {N ps : List Str} {k : Nat} {sp : Sp} {c : Addr} (d : DfC K mg x st ps c) (S : FnScope N ps (L2.defScope st)) (len : ∀ vs H Q E, sp vs H Q E → vs.length = ps.length)
    (hbody : ∀ (f : Addr) (A : Around) (outer : List Env) (s : Shared) (H : Hp) (vs : List V) (Q : VK) (E : XK), Room k (A.deeper (envOfC x (L2.defScope st) s.heap.objs.size f (.ref c))) → sp vs H Q E →
      ∃ t, PSs (cxOf CX0 P w K mg base N x (L2.defScope st) f (.ref c) A outer s H E).nox (L2.defBody st) t ∧ t { nx := fun _ H' => Q .non H', rt := Q } (start N vs) H) : C8.Cal P w K mg base (k + 1) x sp [] := by
  obtain ⟨f, fd, F, hc, hm, b⟩ := d
  refine ⟨f, fd, ps, [], ?_, hm, F.kp, b, .nil⟩
  obtain ⟨oc, od, kV, doc, pm, an, cdv, ct, osl, e, lk, hcd⟩ := F.ex
  rw [e] at hc
  have hc2 : cdv = .ref c := hc
  subst hc2
  rw [e]
  rw [e] at lk
  refine fn_of lk hcd S len fun A outer s H vs Q E hr hsp => ?_
  obtain ⟨t, h, q⟩ := hbody f A outer s H vs Q E hr hsp
  exact ⟨t, h.nox, q⟩
end
def spBarIn (Pt : Addr) : Sp := fun vs H Q _ => ∃ q d k : Nat, vs = [vn q, vn d, vn k] ∧ q ∈ Qs ∧ d ≤ 300 ∧ k < 30000 ∧ TabG H Pt ∧ ∀ H', Same (off Pt H) (off Pt H') → TabG H' Pt → Q (barV (barM q d k)) H'
section
variable {P : Program} {w : World} {K : PySem.W.Frag} {mg : Str → Option Value} {base : Heap} {aF aP aW c Pt : Addr}
theorem ok_digit_bar_in (T : Txt K mg aF aP aW) (TB : TabB base mg c Pt) (d : DfC K mg "digit_bar_in" s_digit_bar_in ["q", "d", "k"] c) (c_shift_sums_in : C8.Cal P w K mg base 2 "shift_sums_in" spShifts []) : C8.Cal P w K mg base 3 "digit_bar_in" (spBarIn Pt) [] := by
  refine cal_ofC d sc_digit_bar_in (fun vs H Q E h => ?_) (fun f A outer s H vs Q E hr h => ?_)
  · obtain ⟨q, _, _, rfl, _⟩ := h
    rfl
  · obtain ⟨q, dd, k0, rfl, hq, hd, hk, hT, k⟩ := h
    obtain ⟨q1, q2, p1, p2, f1, f2⟩ := Qs_facts hq
    refine ⟨_, (pss_one (ps_ret (pe_nextE (xa := "shift") (xb := "told") (nd := "d") (nq := "q") (id := 1) (iq := 0) hr (by rfl) T.next_ (by rfl) T.enumerate_ TB rfl ?S rfl rfl (Or.inr (Or.inl rfl)) (Or.inr (Or.inl rfl)) (pa_cons (pe_c c_shift_sums_in hr (by decide) rfl (pa_cons (pv 0) (pa_cons (pv 2) pa_nil))) pa_nil)))), ?_⟩
    case S =>
      refine ⟨rfl, rfl, by decide, rfl, rfl, rfl, by decide, rfl, rfl, rfl, rfl, fun y hy e => ?_, fun cc hc => by rw [← hc]; rfl, fun cc hc => by rw [← hc]; rfl⟩
      have hy2 : y = ((".0" : Str), NameKind.local) ∨ y = (("shift" : Str), NameKind.local) ∨ y = (("told" : Str), NameKind.local) ∨ y = (("d" : Str), NameKind.free) ∨ y = (("q" : Str), NameKind.free) := by simpa using hy
      rcases hy2 with z | z | z | z | z
      · rw [z] at e; cases e
      · rw [z] at e; cases e
      · rw [z] at e; cases e
      · rw [z]; exact ⟨_, rfl⟩
      · rw [z]; exact ⟨_, rfl⟩
    refine ⟨_, rfl, _, rfl, q, k0, rfl, hq, hk, fun p hp => ?_⟩
    have s1 := Same.new (o := .lst (vns (shifts q k0))) hp
    refine ⟨p, shifts q k0, dd, q, rfl, SqL.of upd_same, rfl, rfl, by omega, by omega, TabG.same hT s1, fun H2 hT2 => ?_⟩
    exact k _ ((off_mono s1).trans (off_tab hT2)) hT2.1
theorem ok_digit_bar (T : Txt K mg aF aP aW) (d : Df K mg "digit_bar" s_digit_bar ["q", "d", "k"]) (c_require_partings : C8.Cal P w K mg base 4 "require_partings" spReq []) (c_digit_bar_in : C8.Cal P w K mg base 3 "digit_bar_in" (spBarIn Pt) []) : C8.Cal P w K mg base 5 "digit_bar" (spBarIn Pt) [] := by
  refine cal_of d sc_digit_bar (fun vs H Q E h => ?_) (fun f cdv A outer s H vs Q E hr h => ?_)
  · obtain ⟨q, _, _, rfl, _⟩ := h
    rfl
  · obtain ⟨q, dd, k0, rfl, hq, hd, hk, hT, k⟩ := h
    refine ⟨_, (pss_cons (ps_expr (pe_c c_require_partings hr (by decide) rfl (pa_cons (pv 0) (pa_cons (pv 1) (pa_cons (pv 2) pa_nil)))))
      (pss_one (ps_ret (pe_c c_digit_bar_in hr (by decide) rfl (pa_cons (pv 0) (pa_cons (pv 1) (pa_cons (pv 2) pa_nil))))))), ?_⟩
    refine ⟨_, rfl, _, rfl, _, rfl, q, dd, k0, rfl, hq, hd, k60 hk, ?_⟩
    exact ⟨_, rfl, _, rfl, _, rfl, q, dd, k0, rfl, hq, hd, hk, hT, k⟩
end
/-! ### the paper, once -/
theorem ne_same {v : V} : ¬ (!decide (v = v)) = true := by simp
theorem bl_ne {a b : Bool} (h : a ≠ b) : decide (V.bl a = V.bl b) = false := decide_eq_false fun e => h (by injection e)
theorem inV_of : ∀ {l : List Nat} {b : Nat}, l.contains b = true → inV (vn b) (vns l) = true
  | [], b, h => by simp at h
  | x :: r, b, h => by
    show (eqV (vn x) (vn b) || inV (vn b) (vns r)) = true
    rw [List.contains_cons, Bool.or_eq_true] at h
    rcases h with e | e
    · have e2 : b = x := by simpa using e
      subst e2
      have z : eqV (vn b) (vn b) = true := by show ((b : Int) == (b : Int)) = true; simp
      rw [z]
      rfl
    · rw [inV_of e, Bool.or_true]
theorem sumL_le : ∀ {l : List Nat} {x : Nat}, x ∈ l → x ≤ sumL l
  | [], x, h => by cases h
  | y :: r, x, h => by
    show x ≤ y + sumL r
    rcases List.mem_cons.mp h with e | e
    · omega
    · have := sumL_le e
      omega
theorem paper_due {q d k : Nat} (h : paperOk q (vecs q) d k true = true) : greatest q (vecs q) d k = some none ∧ decide (mostParts q k < d) = true ∧ ∃ b, barM q d k = some b ∧ (barsM q d k).contains b = true := by
  unfold paperOk at h
  cases hg : greatest q (vecs q) d k with
  | none => rw [hg] at h; cases h
  | some told =>
    rw [hg] at h
    dsimp only at h
    simp only [Bool.and_eq_true] at h
    obtain ⟨h1, h2, h3, h4, h5⟩ := h
    cases told with
    | some v => simp at h2
    | none =>
      have e : Nat.blt (mostParts q k) d = true := by simpa using h1
      refine ⟨rfl, decide_eq_true (Nat.le_of_ble_eq_true e), ?_⟩
      cases hb : barM q d k with
      | none => rw [hb] at h3; simp at h3
      | some b => rw [hb] at h5; exact ⟨b, rfl, h5⟩
theorem paper_not {q d k : Nat} (h : paperOk q (vecs q) d k false = true) : ∃ v, greatest q (vecs q) d k = some (some v) ∧ decide (mostParts q k < d) = false ∧ barM q d k = none ∧ isPartM q d k v = true := by
  unfold paperOk at h
  cases hg : greatest q (vecs q) d k with
  | none => rw [hg] at h; cases h
  | some told =>
    rw [hg] at h
    dsimp only at h
    simp only [Bool.and_eq_true] at h
    obtain ⟨h1, h2, h3, h4, h5⟩ := h
    cases told with
    | none => simp at h2
    | some v =>
      refine ⟨v, rfl, decide_eq_false fun c => ?_, ?_, h4⟩
      · have e : Nat.blt (mostParts q k) d = true := Nat.ble_eq_true_of_le c
        rw [e] at h1
        simp at h1
      · cases hb : barM q d k with
        | none => rfl
        | some b => rw [hb] at h3; simp at h3
theorem part_small {q d k : Nat} {v : List Nat} (h : isPartM q d k v = true) : v.length = d + 1 ∧ ∀ x ∈ v, x ≤ k := by
  unfold isPartM at h
  simp only [Bool.and_eq_true, decide_eq_true_eq] at h
  refine ⟨h.1, fun x hx => ?_⟩
  have := sumL_le hx
  have := h.2.1
  omega
def spPaper (Pt : Addr) : Sp := fun vs H Q _ => ∃ (fv : V) (q d k : Nat) (due : Bool), vs = [fv, vn d, vn k, .bl due] ∧ FieldR (off Pt H) fv q ∧ d ≤ 100 ∧ k ≤ 3000 ∧ TabG H Pt ∧ paperOk q (vecs q) d k due = true ∧
  ∀ H', Same (off Pt H) (off Pt H') → TabG H' Pt → Q (.bl true) H'
section
variable {P : Program} {w : World} {K : PySem.W.Frag} {mg : Str → Option Value} {base : Heap} {aF aP aW c Pt : Addr}
theorem ok_l_paper_right (T : Txt K mg aF aP aW) (d : Df K mg "_law_paper_right" s_l_paper_right ["_law_field_here", "_law_d", "_law_k", "_law_is_due"]) (c_parting : C8.Cal P w K mg base 6 "parting" (spGreat K) []) (c_digit_bar : C8.Cal P w K mg base 5 "digit_bar" (spBarIn Pt) [])
    (c_is_zero_sum : C8.Cal P w K mg base 5 "is_zero_sum" spZero []) (c_l_is_parting : C8.Cal P w K mg base 3 "_law_is_parting" spIsPart []) (c_l_bars : C8.Cal P w K mg base 3 "_law_bars" spBars []) : C8.Cal P w K mg base 7 "_law_paper_right" (spPaper Pt) [] := by
  refine cal_of d sc_l_paper_right (fun vs H Q E h => ?_) (fun f cdv A outer s H vs Q E hr h => ?_)
  · obtain ⟨q, _, _, _, _, rfl, _⟩ := h
    rfl
  · obtain ⟨fv, q, dd, k0, due, rfl, hF0, hd, hk, hT, hp, k⟩ := h
    have hF := hF0.mono off_sub
    have hq := hF.isq
    refine ⟨_, (pss_cons (ps_set (i := 4) sc_l_paper_right.nd rfl (Or.inl rfl) (pe_dget (hu_of hr) (pv 0) pe_str (fun _ _ => rfl)))
      (pss_cons (ps_par (i := 5) (j := 6) rfl sc_l_paper_right.nd rfl rfl (by decide) rfl rfl (pa_cons (pe_c c_parting hr (by decide) rfl (pa_cons (pv 4) (pa_cons (pv 1) (pa_cons (pv 2) pa_nil)))) (pa_cons (pe_c c_digit_bar hr (by decide) rfl (pa_cons (pv 4) (pa_cons (pv 1) (pa_cons (pv 2) pa_nil)))) pa_nil)) (by rfl))
      (pss_cons (ps_if (PW.pt (pw_or (pt_cmpR op_ne (pe_c c_is_zero_sum hr (by decide) rfl (pa_cons (pv 4) (pa_cons (pv 1) (pa_cons (pv 2) pa_nil)))) (pv 3) (nomark _)) (pw_or (pt_cmpR op_ne (pe_cmpR op_isN (pv 5) pe_non (nomark _)) (pv 3) (nomark _)) (pw_or1 (pt_cmpR op_eq (pe_cmpR op_isN (pv 6) pe_non (nomark _)) (pv 3) (nomark _)))))) (pss_one (ps_ret pe_bl)) pss_nil)
      (pss_cons (ps_if (PW.pt (pw_and (pt_cmpR op_notN (pv 5) pe_non (nomark _)) (pw_and1 (pt_not (pt_val (pe_c c_l_is_parting hr (by decide) rfl (pa_cons (pv 0) (pa_cons (pv 1) (pa_cons (pv 2) (pa_cons (pv 5) pa_nil)))))))))) (pss_one (ps_ret pe_bl)) pss_nil)
      (pss_one (ps_ret (pe_or (pe_cmpR op_isN (pv 6) pe_non (nomark _)) (pe_one (pe_cmpR op_in_seq (pv 6) (pe_c c_l_bars hr (by decide) rfl (pa_cons (pv 0) (pa_cons (pv 1) (pa_cons (pv 2) pa_nil)))) (by rfl)))))))))), ?_⟩
    obtain ⟨fa, ef, g1, _⟩ := hF.at
    refine ⟨_, rfl, fa, _, ef, g1, ?_⟩
    cases due with
    | true =>
      obtain ⟨hg, hm, b, hb, hbs⟩ := paper_due hp
      refine ⟨_, rfl, _, rfl, _, rfl, q, dd, k0, none, rfl, hq, by omega, by omega, hg, fun _ H1 s1 => ?_, fun v e => by cases e⟩
      refine ⟨_, rfl, _, rfl, _, rfl, q, dd, k0, rfl, hq, by omega, by omega, TabG.same hT s1, fun H2 s2 hT2 => ⟨_, _, rfl, ?_⟩⟩
      rw [hb]
      have sO := (off_mono s1).trans s2
      refine ⟨_, rfl, _, rfl, _, rfl, q, dd, k0, rfl, hq, by omega, by omega, fun H3 s3 => ⟨_, rfl, rfl, _, rfl, ?_⟩⟩
      rw [hm]
      refine ite2 (fun e => absurd e ne_same) (fun _ => ?_)
      refine ⟨_, rfl, rfl, _, rfl, rfl, _, rfl, ?_⟩
      refine ite2 (fun e => absurd e (by simp)) (fun _ => ?_)
      refine ⟨_, rfl, rfl, _, rfl, rfl, _, rfl, ?_⟩
      refine ite2 (fun e => absurd e (by simp [barV])) (fun _ => ?_)
      refine ⟨_, rfl, rfl, _, rfl, ?_⟩
      refine ite2 (fun e => absurd e (by simp)) (fun _ => ?_)
      refine iteF ?_
      refine ⟨_, rfl, rfl, _, rfl, ?_⟩
      refine ite2 (fun e => absurd e (by simp [barV])) (fun _ => ?_)
      have sP := sO.trans (off_mono s3)
      refine ⟨_, rfl, _, rfl, _, rfl, _, rfl, fv, q, dd, k0, rfl, (hF0.mono sP).mono off_sub, by omega, fun H4 lp s4 hlp => ?_⟩
      refine ⟨lp, _, rfl, .inl (SqL.of hlp), rfl, flat_vns _, ?_⟩
      have z := k _ (sP.trans (off_mono s4)) (TabG.same hT2 (s3.trans s4))
      rw [← inV_of hbs] at z
      exact z
    | false =>
      obtain ⟨v, hg, hm, hb, hpart⟩ := paper_not hp
      obtain ⟨hvl, hvs⟩ := part_small hpart
      refine ⟨_, rfl, _, rfl, _, rfl, q, dd, k0, some v, rfl, hq, by omega, by omega, hg, (fun e => by cases e), fun v' e H1 tp s1 htp => ?_⟩
      obtain rfl : v = v' := Option.some.inj e
      have hT1 := TabG.same hT s1
      refine ⟨_, rfl, _, rfl, _, rfl, q, dd, k0, rfl, hq, by omega, by omega, hT1, fun H2 s2 hT2 => ⟨_, _, rfl, ?_⟩⟩
      rw [hb]
      have sO := (off_mono s1).trans s2
      have htp2 : H2 tp = some (.tup (vns v)) := off_sub _ _ (s2 _ _ (off_of htp hT1 fun p e => by cases e))
      refine ⟨_, rfl, _, rfl, _, rfl, q, dd, k0, rfl, hq, by omega, by omega, fun H3 s3 => ⟨_, rfl, rfl, _, rfl, ?_⟩⟩
      rw [hm]
      refine ite2 (fun e => absurd e ne_same) (fun _ => ?_)
      refine ⟨_, rfl, rfl, _, rfl, rfl, _, rfl, ?_⟩
      refine ite2 (fun e => absurd e (by simp)) (fun _ => ?_)
      refine ⟨_, rfl, rfl, _, rfl, rfl, _, rfl, ?_⟩
      refine ite2 (fun e => absurd e (by simp [barV])) (fun _ => ?_)
      refine ⟨_, rfl, rfl, _, rfl, ?_⟩
      refine ite2 (fun _ => ?_) (fun e => absurd (by simp) e)
      have sP := sO.trans (off_mono s3)
      refine ⟨_, rfl, _, rfl, _, rfl, _, rfl, fv, q, dd, k0, tp, v, rfl, (hF0.mono sP).mono off_sub, s3 _ _ htp2, by omega, fun x hx => by have := hvs x hx; omega, by omega, fun H4 s4 => ⟨_, rfl, ?_⟩⟩
      rw [hpart]
      refine iteF ?_
      refine ⟨_, rfl, rfl, _, rfl, ?_⟩
      refine ite2 (fun _ => ?_) (fun e => absurd (by simp [barV]) e)
      exact k _ (sP.trans (off_mono s4)) (TabG.same hT2 (s3.trans s4))
end
end Mo
namespace Mo
open PySem PySem.Spec PyProof.Rows L2
open C8 (pe_c pe_gc)
open GxR (TabB TabG Tabbed)
theorem op_powW {X : Cx} : OpR X (binaryOp .Pow) (rI (fun i j => 0 ≤ j ∧ (Builtin.Int.intBits i : Int) * j ≤ 2 ^ 27) fun i j => .int (i ^ j.toNat)) := opI fun _ _ _ _ _ _ _ hc q => pow_int hc.1 hc.2 q
/-- three numbers at D -/
def Dice (D : Addr) (H : Hp) : Prop := ∃ a b c : Int, H D = some (.lst [.int a, .int b, .int c])
theorem but_upd {D : Addr} {H : Hp} {o : HO} : SameBut D H (upd H D o) := fun b u hb e => by rw [upd_ne hb]; exact e
theorem SameBut.refl {D : Addr} {H : Hp} : SameBut D H H := fun _ _ _ e => e
theorem SameBut.trans {D : Addr} {H H1 H2 : Hp} (a : SameBut D H H1) (b : SameBut D H1 H2) : SameBut D H H2 := fun c u hc e => b c u hc (a c u hc e)
theorem SameBut.of {D : Addr} {H H1 : Hp} (a : Same H H1) : SameBut D H H1 := fun c u _ e => a c u e
theorem Dice.same {D : Addr} {H H1 : Hp} (h : Dice D H) (a : Same H H1) : Dice D H1 := let ⟨x, y, z, e⟩ := h; ⟨x, y, z, a _ _ e⟩
def spDice (K : PySem.W.Frag) : Sp := fun vs H Q _ => ∃ (a : Addr) (ns : List Int) (i : Nat), vs = [.ref a, vn i] ∧ SqL K H a (ns.map V.int) ∧ i ≤ 100 ∧ ∀ p, H p = none → ∀ H', Same H H' → H p = none → Dice p H' → Q (.ref p) H'
def spOneOf (K : PySem.W.Frag) : Sp := fun vs H Q _ => ∃ (D L : Addr) (items : List Nat), vs = [.ref D, .ref L] ∧ Dice D H ∧ SqL K H L (vns items) ∧ items ≠ [] ∧ items.length < 1000 ∧ (∀ H', SameBut D H H' → SqL K H' L (vns items)) ∧
  ∀ x ∈ items, ∀ H', SameBut D H H' → Dice D H' → Q (vn x) H'
def spQ : Sp := fun vs H Q _ => ∃ D : Addr, vs = [.ref D] ∧ Dice D H ∧ ∀ q ∈ Qs, ∀ H', SameBut D H H' → Dice D H' → Q (vn q) H'
def spSmall : Sp := fun vs H Q _ => ∃ (D : Addr) (q most : Nat), vs = [.ref D, vn q, vn most] ∧ 2 ≤ q ∧ q ≤ 9 ∧ most ≤ 100 ∧ Dice D H ∧ ∀ k, k ≤ most → ∀ H', SameBut D H H' → Dice D H' → Q (vn k) H'
theorem sizeGo_le (q most : Nat) : ∀ f d, sizeGo q most f d ≤ f + d
  | 0, d => by show d ≤ _; omega
  | f + 1, d => by
    show (if q ^ (d + 1) ≤ most then sizeGo q most f (d + 1) else d) ≤ _
    split
    · have := sizeGo_le q most f (d + 1); omega
    · omega
theorem min_v (n m : Nat) : (V.int (if ((m : Nat) : Int) < ((n : Nat) : Int) then ((m : Nat) : Int) else ((n : Nat) : Int))) = vn (min n m) := by
  congr 1
  by_cases h : m < n
  · rw [if_pos (by omega), Nat.min_eq_right (by omega)]
  · rw [if_neg (by omega), Nat.min_eq_left (by omega)]
section
variable {P : Program} {w : World} {K : PySem.W.Frag} {mg : Str → Option Value} {base : Heap} {aF aP aW c Pt : Addr}
theorem ok_l_dice (T : Txt K mg aF aP aW) (d : Df K mg "_law_dice" s_l_dice ["_law_script", "_law_at"]) : C8.Cal P w K mg base 1 "_law_dice" (spDice K) [] := by
  refine cal_of d sc_l_dice (fun vs H Q E h => ?_) (fun f cdv A outer s H vs Q E hr h => ?_)
  · obtain ⟨q, _, _, rfl, _⟩ := h
    rfl
  · obtain ⟨a, ns, i, rfl, ha, hi, k⟩ := h
    refine ⟨_, (pss_cons (ps_set (i := 2) sc_l_dice.nd rfl (Or.inl rfl) (pe_op op_add (pe_op op_mul pe_int (pv 1)) pe_int))
      (pss_cons (ps_if (pt_cmpR op_lt (pv 1) (pe_callB call_len_seq (by rfl) T.len_ PySem.boot_len (pa_cons (pv 0) pa_nil)) (nomark _)) (pss_one (ps_set (i := 2) sc_l_dice.nd rfl (Or.inl rfl) (pe_ix ix_list (pv 0) (pv 1) (fun _ _ => rfl)))) pss_nil)
      (pss_cons (ps_set (i := 3) sc_l_dice.nd rfl (Or.inl rfl) (pe_op op_mod (pe_callTy call_int1 (by rfl) T.int_ (by decide +kernel) (pa_cons (pe_callB call_abs (by rfl) T.abs_ (by decide +kernel) (pa_cons (pv 2) pa_nil)) pa_nil)) (pe_op op_powW (pe_op op_pow pe_int pe_int) pe_int)))
      (pss_cons (ps_set (i := 4) sc_l_dice.nd rfl (Or.inl rfl) (pe_op op_fdivW (pv 3) (pe_op op_pow pe_int pe_int)))
      (pss_cons (ps_set (i := 5) sc_l_dice.nd rfl (Or.inl rfl) (pe_op op_add (pe_op op_add (pe_op op_add (pe_op op_mul (pe_op op_mod (pv 3) pe_int) pe_int) (pe_op op_mul pe_int (pv 1))) (pe_op op_mul pe_int (pe_callTy call_int1 (by rfl) T.int_ (by decide +kernel) (pa_cons (pe_cmpR op_lt (pv 2) pe_int (nomark _)) pa_nil)))) pe_int))
      (pss_one (ps_ret (pe_lst (pa_cons (pv 4) (pa_cons (pe_op op_mod (pv 5) pe_int) (pa_cons pe_int pa_nil))))))))))), ?_⟩
    have e64 : (2 : Int) ^ 64 = 18446744073709551616 := by decide
    have m0 : ∀ j : Int, CMul 103 j := fun j => .inl (by rw [e64]; omega)
    have m1 : ∀ j : Int, CMul 3539 j := fun j => .inl (by rw [e64]; omega)
    have m2 : ∀ j : Int, CMul 97 j := fun j => .inl (by rw [e64]; omega)
    have m3 : ∀ j : Int, CMul j 60509 := fun j => .inr (by rw [e64]; omega)
    refine ⟨_, rfl, 103, (i : Int), rfl, rfl, m0 _, _, 43, rfl, rfl, ?_⟩
    refine ⟨_, rfl, _, rfl, a, _, rfl, .inl ha, (i : Int), _, rfl, rfl, _, rfl, ?_⟩
    have rest : ∀ x : Int, (tSeq (tAsg (tOp (rI (fun _ j => 0 < j) fun i j => .int (i % j)) (tCB (fun xs H Q => (∃ i, xs = [.int i] ∧ Q (.int i) H) ∨ ∃ k, xs = [.bl k] ∧ Q (.int (if k then 1 else 0)) H) (tCons (tCB (fun xs H Q => ∃ i, xs = [.int i] ∧ Q (.int (if i < 0 then -i else i)) H) (tCons (tVar 2) tNil)) tNil)) (tOp (rI (fun i j => 0 ≤ j ∧ (Builtin.Int.intBits i : Int) * j ≤ 2 ^ 27) fun i j => .int (i ^ j.toNat)) (tOp (rI CPow fun i j => .int (i ^ j.toNat)) (tC (.int 10)) (tC (.int 60))) (tC (.int 10)))) (gName 3))
        (tSeq (tAsg (tOp (rI CDivW fun i j => .int (i / j)) (tVar 3) (tOp (rI CPow fun i j => .int (i ^ j.toNat)) (tC (.int 10)) (tC (.int 18)))) (gName 4))
        (tSeq (tAsg (tOp (rI0 fun i j => .int (i + j)) (tOp (rI0 fun i j => .int (i + j)) (tOp (rI0 fun i j => .int (i + j)) (tOp (rI CMul fun i j => .int (i * j)) (tOp (rI (fun _ j => 0 < j) fun i j => .int (i % j)) (tVar 3) (tC (.int 2147482661))) (tC (.int 60509))) (tOp (rI CMul fun i j => .int (i * j)) (tC (.int 3539)) (tVar 1))) (tOp (rI CMul fun i j => .int (i * j)) (tC (.int 97)) (tCB (fun xs H Q => (∃ i, xs = [.int i] ∧ Q (.int i) H) ∨ ∃ k, xs = [.bl k] ∧ Q (.int (if k then 1 else 0)) H) (tCons (tOp (rI0 fun i j => .bl (decide (i < j))) (tVar 2) (tC (.int 0))) tNil)))) (tC (.int 113))) (gName 5))
        (tRet (tLst (tCons (tVar 4) (tCons (tOp (rI (fun _ j => 0 < j) fun i j => .int (i % j)) (tVar 5) (tC (.int 2147482591))) (tCons (tC (.int 0)) tNil)))))))) { nx := fun _ H' => Q .non H', rt := Q } [some (.ref a), some (vn i), some (.int x), none, none, none] H := by
      intro x
      refine ⟨_, rfl, _, rfl, .inl ⟨_, rfl, 10, 60, rfl, rfl, ⟨by decide, by decide, by decide⟩, _, 10, rfl, rfl, ⟨by decide, ?_⟩, _, _, rfl, rfl, ?_, ?_⟩⟩
      · decide +kernel
      · show (0 : Int) < (10 ^ Int.toNat 60) ^ Int.toNat 10
        decide +kernel
      refine ⟨_, rfl, 10, 18, rfl, rfl, ⟨by decide, by decide, by decide⟩, _, _, rfl, rfl, ⟨?_, ?_⟩, ?_⟩
      · decide +kernel
      · decide +kernel
      refine ⟨_, rfl, _, 2147482661, rfl, rfl, (show (0 : Int) < 2147482661 by decide), _, 60509, rfl, rfl, m3 _, _, rfl, 3539, (i : Int), rfl, rfl, m1 _, _, _, rfl, rfl, _, rfl, x, 0, rfl, rfl, .inr ⟨decide (x < 0), rfl, 97, _, rfl, rfl, m2 _, _, _, rfl, rfl, _, 113, rfl, rfl, ?_⟩⟩
      refine ⟨_, rfl, _, rfl, _, 2147482591, rfl, rfl, (show (0 : Int) < 2147482591 by decide), len3, fun p hp => ?_⟩
      exact k p hp _ (Same.new hp) hp ⟨_, _, _, upd_same⟩
    refine ite2 (fun cc => ?_) (fun cc => ?_)
    · have cc : (i : Int) < ((ns.map V.int).length : Int) := of_decide_eq_true cc
      have hil : i < (ns.map V.int).length := by omega
      have hil2 : i < ns.length := by rw [List.length_map] at hil; exact hil
      have hv : (ns.map V.int)[i]? = some (.int ns[i]) := by rw [List.getElem?_map, List.getElem?_eq_getElem hil2]; rfl
      refine ⟨_, rfl, _, rfl, a, _, (i : Int), _, rfl, rfl, ha, atI_vn hv, ?_⟩
      exact rest _
    · exact rest _
theorem ok_l_one_of (T : Txt K mg aF aP aW) (d : Df K mg "_law_one_of" s_l_one_of ["_law_dice_here", "_law_items"]) (c_l_roll : C8.Cal P w K mg base 1 "_law_roll" spRoll []) : C8.Cal P w K mg base 2 "_law_one_of" (spOneOf K) [] := by
  refine cal_of d sc_l_one_of (fun vs H Q E h => ?_) (fun f cdv A outer s H vs Q E hr h => ?_)
  · obtain ⟨q, _, _, rfl, _⟩ := h
    rfl
  · obtain ⟨D, L, items, rfl, ⟨x, y, z, hD⟩, hL, hne, hlen, hL2, k⟩ := h
    have hl0 : 0 < items.length := List.length_pos_iff.mpr hne
    refine ⟨_, (pss_one (ps_ret (pe_ix ix_list (pv 1) (pe_c c_l_roll hr (by decide) rfl (pa_cons (pv 0) (pa_cons (pe_callB call_len_seq (by rfl) T.len_ PySem.boot_len (pa_cons (pv 1) pa_nil)) pa_nil))) (fun _ _ => rfl)))), ?_⟩
    refine ⟨_, rfl, _, rfl, _, rfl, L, _, rfl, .inl hL, ?_⟩
    rw [vns_len]
    refine ⟨D, items.length, x, y, z, rfl, hl0, by omega, hD, fun r x' y' z' hr2 => ?_⟩
    refine ⟨L, _, ((r : Nat) : Int), _, rfl, rfl, hL2 _ but_upd, atI_vns hr2, ?_⟩
    refine k _ ?_ _ but_upd ⟨_, _, _, upd_same⟩
    rw [List.getD_eq_getElem?_getD, List.getElem?_eq_getElem hr2]
    exact List.getElem_mem _
theorem ok_l_q (T : Txt K mg aF aP aW) (d : Df K mg "_law_q" s_l_q ["_law_dice_here"]) (c_l_one_of : C8.Cal P w K mg base 2 "_law_one_of" (spOneOf K) []) : C8.Cal P w K mg base 3 "_law_q" spQ [] := by
  refine cal_of d sc_l_q (fun vs H Q E h => ?_) (fun f cdv A outer s H vs Q E hr h => ?_)
  · obtain ⟨q, rfl, _⟩ := h
    rfl
  · obtain ⟨D, rfl, hD, k⟩ := h
    refine ⟨_, (pss_one (ps_ret (pe_c c_l_one_of hr (by decide) rfl (pa_cons (pv 0) (pa_cons (pe_lst (pa_cons pe_int (pa_cons pe_int (pa_cons pe_int (pa_cons pe_int (pa_cons pe_int (pa_cons pe_int (pa_cons pe_int (pa_cons pe_int (pa_cons pe_int pa_nil)))))))))) pa_nil))))), ?_⟩
    refine ⟨_, rfl, by rw [line24]; decide, fun L nL => ?_⟩
    have s1 := Same.new (o := .lst [V.int 2, V.int 2, V.int 3, V.int 3, V.int 4, V.int 5, V.int 7, V.int 8, V.int 9]) nL
    have hDL : L ≠ D := by
      obtain ⟨x, y, z, e⟩ := hD
      exact Ne.symm (ne_of_none e nL)
    have hL : (upd H L (.lst [V.int 2, V.int 2, V.int 3, V.int 3, V.int 4, V.int 5, V.int 7, V.int 8, V.int 9])) L = some (.lst (vns [2, 2, 3, 3, 4, 5, 7, 8, 9])) := upd_same
    refine ⟨D, L, [2, 2, 3, 3, 4, 5, 7, 8, 9], rfl, hD.same s1, SqL.of hL, by simp, by decide, fun H' sb => SqL.of (sb _ _ hDL hL), fun x hx H' sb hD' => ?_⟩
    refine k x ?_ H' ((SameBut.of s1).trans sb) hD'
    have e : ∀ x ∈ [2, 2, 3, 3, 4, 5, 7, 8, 9], x ∈ Qs := by decide
    exact e x hx
theorem ok_l_small_k (T : Txt K mg aF aP aW) (d : Df K mg "_law_small_k" s_l_small_k ["_law_dice_here", "_law_q_here", "_law_most_here"]) (c_l_roll : C8.Cal P w K mg base 1 "_law_roll" spRoll []) (c_l_raised : C8.Cal P w K mg base 1 "_law_raised" spRaised []) (c_l_size : C8.Cal P w K mg base 2 "_law_size" spSize []) : C8.Cal P w K mg base 3 "_law_small_k" spSmall [] := by
  refine cal_of d sc_l_small_k (fun vs H Q E h => ?_) (fun f cdv A outer s H vs Q E hr h => ?_)
  · obtain ⟨q, _, _, rfl, _⟩ := h
    rfl
  · obtain ⟨D, q, most, rfl, q1, q2, hm, ⟨x, y, z, hD⟩, k⟩ := h
    refine ⟨_, (pss_cons (ps_set (i := 3) sc_l_small_k.nd rfl (Or.inl rfl) (pe_c c_l_roll hr (by decide) rfl (pa_cons (pv 0) (pa_cons pe_int pa_nil))))
      (pss_cons (ps_if (pt_cmpR nEq (pv 3) pe_int (nomark _)) (pss_one (ps_ret (pe_c c_l_roll hr (by decide) rfl (pa_cons (pv 0) (pa_cons (pe_op nAdd (pv 2) pe_int) pa_nil))))) pss_nil)
      (pss_cons (ps_if (pt_cmpR nEq (pv 3) pe_int (nomark _)) (pss_one (ps_ret (pe_op nMul (pe_op nSub (pv 1) pe_int) (pe_c c_l_roll hr (by decide) rfl (pa_cons (pv 0) (pa_cons (pe_op nAdd (pe_op nDiv (pv 2) (pe_op nSub (pv 1) pe_int)) pe_int) pa_nil)))))) pss_nil)
      (pss_cons (ps_set (i := 4) sc_l_small_k.nd rfl (Or.inl rfl) pe_int)
      (pss_cons (ps_for PassesOwn.never rfl (pi_range1 (by rfl) T.range_ (pa_cons (pe_op nAdd pe_int (pe_c c_l_roll hr (by decide) rfl (pa_cons (pv 0) (pa_cons pe_int pa_nil)))) pa_nil)) (pg_name (i := 5) sc_l_small_k.nd rfl (Or.inl rfl)) (pss_one (ps_set (i := 4) sc_l_small_k.nd rfl (Or.inl rfl) (pe_op nAdd (pv 4) (pe_c c_l_raised hr (by decide) rfl (pa_cons (pv 1) (pa_cons (pe_c c_l_roll hr (by decide) rfl (pa_cons (pv 0) (pa_cons (pe_op nAdd (pe_c c_l_size hr (by decide) rfl (pa_cons (pv 1) (pa_cons (pv 2) pa_nil))) pe_int) pa_nil))) pa_nil)))))))
      (pss_one (ps_ret (pe_callB (call_min2 rfl) (by rfl) T.min_ (by decide +kernel) (pa_cons (pv 4) (pa_cons (pv 2) pa_nil)))))))))), ?_⟩
    refine ⟨_, rfl, D, 4, x, y, z, rfl, by decide, by decide, hD, fun way x1 y1 z1 hway => ?_⟩
    have hD1 : upd H D (.lst [.int x1, .int y1, .int z1]) D = some (.lst [.int x1, .int y1, .int z1]) := upd_same
    have b1 : SameBut D H (upd H D (.lst [.int x1, .int y1, .int z1])) := but_upd
    refine ⟨_, rfl, way, 0, rfl, rfl, _, rfl, ?_⟩
    refine ite2 (fun _ => ?_) (fun _ => ?_)
    · refine ⟨_, rfl, _, rfl, most, 1, rfl, rfl, trivial, D, most + 1, x1, y1, z1, rfl, by omega, by omega, hD1, fun r x2 y2 z2 hr2 => ?_⟩
      exact k r (by omega) _ (b1.trans but_upd) ⟨_, _, _, upd_same⟩
    refine ⟨_, rfl, way, 1, rfl, rfl, _, rfl, ?_⟩
    refine ite2 (fun _ => ?_) (fun _ => ?_)
    · refine ⟨_, rfl, q, 1, rfl, rfl, by omega, _, rfl, _, rfl, _, rfl, q, 1, rfl, rfl, by omega, most, q - 1, rfl, rfl, ⟨by omega, by omega⟩, most / (q - 1), 1, rfl, rfl, trivial, D, most / (q - 1) + 1, x1, y1, z1, rfl, Nat.succ_pos _, ?_, hD1, fun r x2 y2 z2 hr2 => ?_⟩
      · have := Nat.div_le_self most (q - 1)
        omega
      · refine ⟨q - 1, r, rfl, rfl, .inl (by omega), ?_⟩
        refine k _ ?_ _ (b1.trans but_upd) ⟨_, _, _, upd_same⟩
        show (q - 1) * r ≤ most
        have h1 := Nat.mul_le_mul_left (q - 1) (show r ≤ most / (q - 1) by omega)
        have h2 := Nat.mul_div_le most (q - 1)
        omega
    refine ⟨_, rfl, D, 4, x1, y1, z1, rfl, by decide, by decide, hD1, fun cnt x2 y2 z2 hcnt => ?_⟩
    refine ⟨1, cnt, rfl, rfl, trivial, ((1 + cnt : Nat) : Int), rfl, by omega, by omega, ?_⟩
    refine for_range (lo := 0) (n := 1 + cnt) (fun _ σ H' => SameBut D H H' ∧ Dice D H' ∧ ∃ found t, σ = [some (.ref D), some (vn q), some (vn most), some (vn way), some (vn found), t]) ⟨b1.trans but_upd, ⟨_, _, _, upd_same⟩, 0, none, rfl⟩ ?_ ?_
    · rintro i σ H' hi ⟨sb, ⟨x3, y3, z3, hD3⟩, found, t, rfl⟩
      have hs : sizeM q most ≤ 200 := by
        have := sizeGo_le q most (most + 1) 0
        unfold sizeM
        omega
      refine ⟨_, rfl, _, rfl, _, rfl, _, rfl, _, rfl, q, most, rfl, q1, by omega, by omega, sizeM q most, 1, rfl, rfl, trivial, D, sizeM q most + 1, x3, y3, z3, rfl, by omega, by omega, hD3, fun r x4 y4 z4 hr2 => ?_⟩
      refine ⟨q, r, rfl, by omega, by omega, found, q ^ r, rfl, rfl, trivial, ?_⟩
      exact ⟨sb.trans but_upd, ⟨_, _, _, upd_same⟩, _, _, rfl⟩
    · rintro σ H' ⟨sb, hD3, found, t, rfl⟩
      refine ⟨_, rfl, _, rfl, (found : Int), (most : Int), rfl, ?_⟩
      rw [min_v]
      exact k _ (Nat.min_le_right _ _) _ sb hD3
end
end Mo
namespace Mo
open PySem PySem.Spec PyProof.Rows L2
open C8 (pe_c pe_gc)
open GxR (TabB TabG Tabbed)
theorem newPart_in {H H' : Hp} {a : Addr} {o : HO} (h : newPart H H' a = some o) : H a = none ∧ H' a = some o := by
  unfold newPart at h
  cases e : H a with
  | none => rw [e] at h; exact ⟨rfl, h⟩
  | some z => rw [e] at h; cases h
theorem TabG.but {D Pt : Addr} {H H' : Hp} (h : TabG H Pt) (hD : Dice D H) (e : SameBut D H H') : TabG H' Pt := by
  obtain ⟨ps, h1, h2⟩ := h
  obtain ⟨x, y, z, hx⟩ := hD
  refine ⟨ps, e _ _ (fun q => ?_) h1, h2⟩
  rw [q, hx] at h1
  cases h1
theorem q_pow : ∀ q ∈ Qs, dMax q ≤ 4 ∧ ∀ d, d ≤ dMax q → q ^ d ≤ 1000 := by decide +kernel
theorem k_pow : ∀ d, d ≤ 4 → kMax d ≤ 80 ∧ (kMax d + 1) ^ d ≤ 1000000 := by decide +kernel
theorem blt_dec {n m : Nat} : Nat.blt n m = decide (n < m) := by
  rw [Bool.eq_iff_iff, decide_eq_true_iff]
  exact ⟨fun h => Nat.le_of_ble_eq_true h, fun h => Nat.ble_eq_true_of_le h⟩
/-- what the law says over its domain -/
def SumOk : Prop := ∀ q ∈ Qs, ∀ d, d ≤ dMax q → ∀ k, k ≤ kMax d → (pSum q d k).isEmpty = Nat.blt (mostM q k) d
def RestOk : Prop := ∀ q ∈ Qs, ∀ d, d ≤ dMax q → ∀ k, k ≤ kMax d → restOk q (vecs q) d k (Nat.blt (mostM q k) d) = true
def spRight (Pt : Addr) : Sp := fun vs H Q _ => ∃ D : Addr, vs = [.ref D] ∧ Dice D H ∧ TabG H Pt ∧ ∀ H', Same (off D (off Pt H)) H' → TabG H' Pt → Q (.bl true) H'
def spLaw (K : PySem.W.Frag) (Pt : Addr) : Sp := fun vs H Q _ => ∃ (a : Addr) (ns : List Int), vs = [.ref a] ∧ SqL K H a (ns.map V.int) ∧ TabG H Pt ∧ ∀ H', Q (.bl true) H'
section
variable {P : Program} {w : World} {K : PySem.W.Frag} {mg : Str → Option Value} {base : Heap} {aF aP aW c Pt : Addr}
theorem ok_l_right (HS : SumOk) (HR : RestOk) (T : Txt K mg aF aP aW) (d : Df K mg "_law_right" s_l_right ["_law_dice_here"]) (c_l_q : C8.Cal P w K mg base 3 "_law_q" spQ []) (c_l_field : C8.Cal P w K mg base 3 "_law_field" spField []) (c_l_roll : C8.Cal P w K mg base 1 "_law_roll" spRoll [])
    (c_l_size : C8.Cal P w K mg base 2 "_law_size" spSize []) (c_l_small_k : C8.Cal P w K mg base 3 "_law_small_k" spSmall []) (c_l_sum : C8.Cal P w K mg base 4 "_law_sum" (spSum K) []) (c_l_most : C8.Cal P w K mg base 3 "_law_most" spLMost []) (c_l_partings : C8.Cal P w K mg base 3 "_law_partings" (spParts K) [])
    (c_l_paper_right : C8.Cal P w K mg base 7 "_law_paper_right" (spPaper Pt) []) : C8.Cal P w K mg base 8 "_law_right" (spRight Pt) [] := by
  refine cal_of d sc_l_right (fun vs H Q E h => ?_) (fun f cdv A outer s H vs Q E hr h => ?_)
  · obtain ⟨q, rfl, _⟩ := h
    rfl
  · obtain ⟨D, rfl, hD, hT, k⟩ := h
    refine ⟨_, (pss_cons (ps_set (i := 1) sc_l_right.nd rfl (Or.inl rfl) (pe_c c_l_q hr (by decide) rfl (pa_cons (pv 0) pa_nil)))
      (pss_cons (ps_set (i := 2) sc_l_right.nd rfl (Or.inl rfl) (pe_c c_l_field hr (by decide) rfl (pa_cons (pv 1) pa_nil)))
      (pss_cons (ps_set (i := 3) sc_l_right.nd rfl (Or.inl rfl) (pe_c c_l_roll hr (by decide) rfl (pa_cons (pv 0) (pa_cons (pe_op nAdd (pe_callB (call_min2 rfl) (by rfl) T.min_ (by decide +kernel) (pa_cons pe_int (pa_cons (pe_c c_l_size hr (by decide) rfl (pa_cons (pv 1) (pa_cons pe_int pa_nil))) pa_nil))) pe_int) pa_nil))))
      (pss_cons (ps_set (i := 4) sc_l_right.nd rfl (Or.inl rfl) (pe_c c_l_small_k hr (by decide) rfl (pa_cons (pv 0) (pa_cons (pv 1) (pa_cons (pe_ifExp (pt_cmpR nGt (pv 3) pe_int (nomark _)) pe_int pe_int) pa_nil)))))
      (pss_cons (ps_set (i := 5) sc_l_right.nd rfl (Or.inl rfl) (pe_cmpR (op_eqNil hr.units) (pe_c c_l_sum hr (by decide) rfl (pa_cons (pv 2) (pa_cons (pv 3) (pa_cons (pv 4) pa_nil)))) (pe_tup pa_nil) (nomark _)))
      (pss_cons (ps_if (PW.pt (pw_or (pt_cmpR op_ne (pv 5) (pe_cmpR nGt (pv 3) (pe_c c_l_most hr (by decide) rfl (pa_cons (pv 2) (pa_cons (pv 4) pa_nil))) (nomark _)) (nomark _)) (pw_or1 (pt_cmpR op_ne (pv 5) (pe_cmpR (op_eqNilT hr.units) (pe_c c_l_partings hr (by decide) rfl (pa_cons (pv 2) (pa_cons (pv 3) (pa_cons (pv 4) pa_nil)))) (pe_lst pa_nil) (nomark _)) (nomark _))))) (pss_one (ps_ret pe_bl)) pss_nil)
      (pss_one (ps_ret (pe_and (pe_c c_l_paper_right hr (by decide) rfl (pa_cons (pv 2) (pa_cons (pv 3) (pa_cons (pv 4) (pa_cons (pv 5) pa_nil))))) (pe_one (pe_c c_l_paper_right hr (by decide) rfl (pa_cons (pv 2) (pa_cons (pv 3) (pa_cons (pe_op nMul (pv 4) (pe_dget (hu_of hr) (pv 2) pe_str (fun _ _ => rfl))) (pa_cons (pv 5) pa_nil))))))))))))))), ?_⟩
    refine ⟨_, rfl, D, rfl, hD, fun q hq H1 b1 hD1 => ?_⟩
    obtain ⟨q1, q2, p1, p2, f1, f2⟩ := Qs_facts hq
    have hT1 := TabG.but hT hD b1
    refine ⟨_, rfl, q, rfl, hq, fun H2 fv s2 hF => ?_⟩
    have hD2 := hD1.same s2
    have hT2 := TabG.same hT1 s2
    obtain ⟨x2, y2, z2, eD2⟩ := id hD2
    refine ⟨_, rfl, _, rfl, q, 81, rfl, q1, by omega, by omega, 4, (sizeM q 81 : Int), rfl, ?_⟩
    rw [show (4 : Int) = ((4 : Nat) : Int) from rfl, min_v]
    obtain ⟨d4, hqd⟩ := q_pow q hq
    refine ⟨dMax q, 1, rfl, rfl, trivial, D, dMax q + 1, x2, y2, z2, rfl, Nat.succ_pos _, by omega, eD2, fun dd x3 y3 z3 hdd => ?_⟩
    have hdd : dd ≤ dMax q := by omega
    have hqd := hqd dd hdd
    obtain ⟨k80, hkp⟩ := k_pow dd (by omega)
    have b3 : SameBut D H2 (upd H2 D (.lst [.int x3, .int y3, .int z3])) := but_upd
    have hD3 : Dice D (upd H2 D (.lst [.int x3, .int y3, .int z3])) := ⟨_, _, _, upd_same⟩
    refine ⟨_, rfl, _, rfl, _, rfl, dd, 2, rfl, rfl, _, rfl, ?_⟩
    refine ite2 (fun c => ?a) (fun c => ?b)
    case' a =>
      have ek : kMax dd = 30 := if_pos (of_decide_eq_true c)
      refine ⟨D, q, 30, rfl, q1, q2, by omega, hD3, fun k0 hk0 H4 b4 hD4 => ?_⟩
      rw [← ek] at hk0
    case' b =>
      have ek : kMax dd = 80 := if_neg (fun e => c (decide_eq_true e))
      refine ⟨D, q, 80, rfl, q1, q2, by omega, hD3, fun k0 hk0 H4 b4 hD4 => ?_⟩
      rw [← ek] at hk0
    all_goals
      clear c ek
      have hk80 : k0 ≤ 80 := Nat.le_trans hk0 k80
      have hkd : (k0 + 1) ^ dd ≤ 1000000 := Nat.le_trans (Nat.pow_le_pow_left (show k0 + 1 ≤ kMax dd + 1 by omega) dd) hkp
      have hS := HS q hq dd hdd k0 hk0
      have hR := HR q hq dd hdd k0 hk0
      have hT4 := TabG.but (TabG.but hT2 hD2 b3) hD3 b4
      have hNew : Same (newPart H1 H2) (off Pt H4) := fun a o e => by
        obtain ⟨e1, e2⟩ := newPart_in e
        have aD : a ≠ D := fun z => by
          obtain ⟨x, y, z', e'⟩ := hD1
          rw [z, e'] at e1
          cases e1
        have aP : a ≠ Pt := fun z => by
          obtain ⟨ps, e', _⟩ := hT1
          rw [z, e'] at e1
          cases e1
        rw [off_ne aP]
        exact b4 _ _ aD (b3 _ _ aD e2)
      have hOld : Same (off D (off Pt H)) (off Pt H4) := fun a o e => by
        obtain ⟨aD, e1⟩ := off_some e
        obtain ⟨aP, e2⟩ := off_some e1
        rw [off_ne aP]
        exact b4 _ _ aD (b3 _ _ aD (s2 _ _ (b1 _ _ aD e2)))
      have hF4 := hF.mono hNew
      refine ⟨_, rfl, _, rfl, _, rfl, fv, q, dd, k0, rfl, hF4.mono off_sub, by omega, hqd, hk80, fun H5 sp s5 hsp => ?_⟩
      refine ⟨by decide, fun z nz => ⟨sp, z, (pSum q dd k0).map fun n : Nat => (n : Int), rfl, rfl, sq_cast (Same.tup (Same.new nz) hsp), SqT.of upd_same, ?_⟩⟩
      have s6 := s5.trans (Same.new (o := .tup []) nz)
      have edue : (V.bl (if false = true then !((pSum q dd k0).map fun n : Nat => (n : Int)).isEmpty else ((pSum q dd k0).map fun n : Nat => (n : Int)).isEmpty)) = .bl (Nat.blt (mostM q k0) dd) := by
        rw [if_neg Bool.false_ne_true, isEmpty_cast, hS]
      rw [edue]
      refine ⟨_, rfl, _, rfl, _, rfl, _, rfl, fv, q, k0, rfl, (hF4.mono off_sub).mono s6, by omega, fun H7 s7 => ?_⟩
      refine ⟨dd, mostM q k0, rfl, rfl, rfl, _, rfl, ?_⟩
      rw [blt_dec]
      refine ite2 (fun e => absurd e ne_same) (fun _ => ?_)
      have s8 := s6.trans s7
      refine ⟨_, rfl, _, rfl, _, rfl, _, rfl, fv, q, dd, k0, rfl, (hF4.mono off_sub).mono s8, hk80, by omega, hkd, fun H9 lp ws bs s9 hlp hpb hbe => ?_⟩
      refine ⟨Nat.zero_le _, fun z2 nz2 => ⟨lp, z2, ws, bs, rfl, rfl, SqL.of ((Same.new nz2) _ _ hlp), paired_mono hpb fun v b t => tupI_mono t (Same.new nz2), SqL.of upd_same, rfl, _, rfl, ?_⟩⟩
      have s10 := (s8.trans s9).trans (Same.new (o := .lst []) nz2)
      have hR2 := hR
      unfold restOk at hR2
      rw [Bool.and_eq_true, Bool.and_eq_true, Bool.and_eq_true] at hR2
      obtain ⟨r1, r2, r3, r4⟩ := hR2
      have r2 : Nat.blt (mostM q k0) dd = (partingsM q dd k0).isEmpty := by simpa using r2
      rw [hbe, ← r2, ← blt_dec]
      refine ite2 (fun e => absurd e ne_same) (fun _ => ?_)
      have hF10 := hF4.mono (off_mono s10)
      refine ⟨_, rfl, _, rfl, _, rfl, _, rfl, fv, q, dd, k0, _, rfl, hF10, by omega, by omega, TabG.same hT4 s10, r3, fun H11 s11 hT11 => ?_⟩
      refine ⟨true, rfl, iteT ?_⟩
      have hF11 := hF10.mono s11
      obtain ⟨fa, ef, g1, g2, _⟩ := (hF11.mono off_sub).at
      have hkp2 : k0 * pOf q ≤ 3000 := Nat.le_trans (Nat.mul_le_mul hk80 p2) (by decide)
      refine ⟨_, rfl, _, rfl, _, rfl, _, rfl, fa, _, ef, g2, k0, pOf q, rfl, rfl, .inl (by omega), _, rfl, fv, q, dd, k0 * pOf q, _, rfl, hF11, by omega, hkp2, hT11, r4, fun H12 s12 hT12 => ?_⟩
      exact k _ (((hOld.trans (off_mono s10)).trans s11).trans (s12.trans off_sub)) hT12
theorem ok_law (HS : SumOk) (HR : RestOk) (T : Txt K mg aF aP aW) {f : Addr} {fd : FuncData} (FL : L2.Fun K "law" "law" s_law f fd) (c_l_right : C8.Cal P w K mg base 8 "_law_right" (spRight Pt) []) (c_l_dice : C8.Cal P w K mg base 1 "_law_dice" (spDice K) []) : FnOk P w K mg base L2.CX0 9 f fd ["_law_script"] (spLaw K Pt) := by
  refine FL.ok sc_law (fun vs H Q E h => ?_) (fun cdv A outer s H vs Q E hr h => ?_)
  · obtain ⟨q, _, rfl, _⟩ := h
    rfl
  · obtain ⟨a, ns, rfl, hS, hT, k⟩ := h
    refine ⟨_, (pss_cons (ps_for PassesOwn.never rfl (pi_range1 (by rfl) T.range_ (pa_cons (pe_callB (call_max2 rfl) (by rfl) T.max_ (by decide +kernel) (pa_cons pe_int (pa_cons (pe_callB (call_min2 rfl) (by rfl) T.min_ (by decide +kernel) (pa_cons pe_int (pa_cons (pe_callB call_len_seq (by rfl) T.len_ PySem.boot_len (pa_cons (pv 0) pa_nil)) pa_nil))) pa_nil))) pa_nil)) (pg_name (i := 1) sc_law.nd rfl (Or.inl rfl)) (pss_one (ps_if (pt_not (pt_val (pe_c c_l_right hr (by decide) rfl (pa_cons (pe_c c_l_dice hr (by decide) rfl (pa_cons (pv 0) (pa_cons (pv 1) pa_nil))) pa_nil)))) (pss_one (ps_ret pe_bl)) pss_nil)))
      (pss_one (ps_ret pe_bl))), ?_⟩
    have hB : SqL K (off Pt H) a (ns.map V.int) := by
      rcases hS with (h | ⟨o, h⟩) | h
      · exact .inl (.inl (off_of h hT fun p e => by cases e))
      · exact .inl (.inr ⟨o, off_of h hT fun p e => by cases e⟩)
      · exact .inr h
    refine ⟨_, rfl, a, _, rfl, .inl hS, 6, _, rfl, ?_⟩
    rw [show (6 : Int) = ((6 : Nat) : Int) from rfl, min_v]
    refine ⟨1, _, rfl, ?_⟩
    rw [show (1 : Int) = ((1 : Nat) : Int) from rfl, max_v]
    have hn : max 1 (min 6 (ns.map V.int).length) ≤ 6 := by omega
    generalize max 1 (min 6 (ns.map V.int).length) = n at hn
    refine ⟨(n : Int), rfl, by omega, by omega, ?_⟩
    refine for_range (lo := 0) (n := n) (fun _ σ H' => Same (off Pt H) H' ∧ TabG H' Pt ∧ ∃ t, σ = [some (.ref a), t]) ⟨off_sub, hT, none, rfl⟩ ?_ ?_
    · rintro i σ H1 hi ⟨sm, hT1, t, rfl⟩
      rw [Int.zero_add]
      refine ⟨_, rfl, _, rfl, a, ns, i, rfl, sm.seq hB, by omega, fun D nD H2 s2 _ hD2 => ?_⟩
      refine ⟨D, rfl, hD2, TabG.same hT1 s2, fun H3 s3 hT3 => ⟨_, rfl, iteF ?_⟩⟩
      refine ⟨fun b o e => s3 _ _ ?_, hT3, _, rfl⟩
      obtain ⟨bP, e1⟩ := off_some e
      have bD : b ≠ D := fun z => by
        have e2 := sm _ _ e
        rw [z, nD] at e2
        cases e2
      rw [off_ne bD, off_ne bP]
      exact s2 _ _ (sm _ _ e)
    · rintro σ H1 ⟨sm, hT1, t, rfl⟩
      exact k _
end
end Mo
/-! The sum over the monic polynomials, by packed numbers. -/
namespace Mo
abbrev E3 := Nat × Nat × Nat
def z0 : E3 := (0, 0, 0)
def eadd (u v : E3) : E3 := (u.1 + v.1, u.2.1 + v.2.1, u.2.2 + v.2.2)
def esm (s : Nat) (u : E3) : E3 := (s * u.1, s * u.2.1, s * u.2.2)
def mulE (f : Nat) (u v : E3) : E3 :=
  bif Nat.beq f 1 then (u.1 * v.1, 0, 0)
  else bif Nat.beq f 2 then (u.1 * v.1 + u.2.1 * v.2.1, u.1 * v.2.1 + u.2.1 * v.1 + u.2.1 * v.2.1, 0)
  else (u.1 * v.1 + (u.2.1 * v.2.2 + u.2.2 * v.2.1), u.1 * v.2.1 + u.2.1 * v.1 + (u.2.1 * v.2.2 + u.2.2 * v.2.1) + u.2.2 * v.2.2, u.1 * v.2.2 + u.2.1 * v.2.1 + u.2.2 * v.1 + u.2.2 * v.2.2)
def emb (p a : Nat) : E3 := (a % p, a / p % p, a / (p * p) % p)
def ev (X : Nat) : List E3 → E3
  | [] => z0
  | e :: r => eadd e (esm X (ev X r))
theorem e3 {u v : E3} (h1 : u.1 = v.1) (h2 : u.2.1 = v.2.1) (h3 : u.2.2 = v.2.2) : u = v := by
  obtain ⟨a, b, c⟩ := u
  obtain ⟨x, y, z⟩ := v
  dsimp only at h1 h2 h3
  rw [h1, h2, h3]
theorem mulE_add (f : Nat) (u v w : E3) : mulE f (eadd u v) w = eadd (mulE f u w) (mulE f v w) := by
  unfold mulE eadd
  cases Nat.beq f 1 <;> cases Nat.beq f 2 <;> (apply e3 <;> first | (dsimp only [cond]; done) | (dsimp only [cond]; grind))
theorem mulE_sm (f s : Nat) (u w : E3) : mulE f (esm s u) w = esm s (mulE f u w) := by
  unfold mulE esm
  cases Nat.beq f 1 <;> cases Nat.beq f 2 <;> (apply e3 <;> first | (dsimp only [cond]; done) | (dsimp only [cond]; grind))
theorem mulE_add' (f : Nat) (u v w : E3) : mulE f w (eadd u v) = eadd (mulE f w u) (mulE f w v) := by
  unfold mulE eadd
  cases Nat.beq f 1 <;> cases Nat.beq f 2 <;> (apply e3 <;> first | (dsimp only [cond]; done) | (dsimp only [cond]; grind))
theorem mulE_sm' (f s : Nat) (u w : E3) : mulE f w (esm s u) = esm s (mulE f w u) := by
  unfold mulE esm
  cases Nat.beq f 1 <;> cases Nat.beq f 2 <;> (apply e3 <;> first | (dsimp only [cond]; done) | (dsimp only [cond]; grind))
theorem mulE_z (f : Nat) (u : E3) : mulE f z0 u = z0 ∧ mulE f u z0 = z0 := by
  unfold mulE z0
  cases Nat.beq f 1 <;> cases Nat.beq f 2 <;> constructor <;> (apply e3 <;> first | (dsimp only [cond]; done) | (dsimp only [cond]; grind))
theorem eadd_z (u : E3) : eadd u z0 = u ∧ eadd z0 u = u := ⟨e3 (Nat.add_zero _) (Nat.add_zero _) (Nat.add_zero _), e3 (Nat.zero_add _) (Nat.zero_add _) (Nat.zero_add _)⟩
theorem esm_z (s : Nat) : esm s z0 = z0 := e3 (Nat.mul_zero _) (Nat.mul_zero _) (Nat.mul_zero _)
theorem esm_1 (u : E3) : esm 1 u = u := e3 (Nat.one_mul _) (Nat.one_mul _) (Nat.one_mul _)
theorem eadd_a (u v w : E3) : eadd (eadd u v) w = eadd u (eadd v w) := e3 (Nat.add_assoc ..) (Nat.add_assoc ..) (Nat.add_assoc ..)
theorem eadd_c (u v : E3) : eadd u v = eadd v u := e3 (Nat.add_comm ..) (Nat.add_comm ..) (Nat.add_comm ..)
theorem esm_add (s : Nat) (u v : E3) : esm s (eadd u v) = eadd (esm s u) (esm s v) := e3 (Nat.mul_add ..) (Nat.mul_add ..) (Nat.mul_add ..)
theorem esm_esm (s t : Nat) (u : E3) : esm s (esm t u) = esm (s * t) u := e3 (Nat.mul_assoc ..).symm (Nat.mul_assoc ..).symm (Nat.mul_assoc ..).symm
theorem ev_zero (X n : Nat) : ev X (List.replicate n z0) = z0 := by
  induction n with
  | zero => rfl
  | succ n ih => rw [List.replicate_succ]; show eadd z0 (esm X (ev X _)) = z0; rw [ih, esm_z]; rfl
theorem ev_bump (X : Nat) (e : E3) : ∀ (c : List E3) (m : Nat), m < c.length → ev X (c.set m (eadd (c.getD m z0) e)) = eadd (ev X c) (esm (X ^ m) e)
  | [], m, h => by simp at h
  | x :: r, 0, _ => by
    show eadd (eadd x e) (esm X (ev X r)) = eadd (eadd x (esm X (ev X r))) (esm (X ^ 0) e)
    rw [Nat.pow_zero, esm_1, eadd_a, eadd_a, eadd_c e]
  | x :: r, m + 1, h => by
    have ih := ev_bump X e r m (by simpa using h)
    show eadd x (esm X (ev X (r.set m (eadd (r.getD m z0) e)))) = eadd (eadd x (esm X (ev X r))) (esm (X ^ (m + 1)) e)
    rw [ih, esm_add, esm_esm, eadd_a, Nat.pow_succ, Nat.mul_comm X]
/-- e stands for the field's element a -/
def cg (q : Nat) (e : E3) (a : Nat) : Prop := a < q ∧ e.1 % pOf q = a % pOf q ∧ e.2.1 % pOf q = a / pOf q % pOf q ∧ e.2.2 % pOf q = a / (pOf q * pOf q) % pOf q
theorem madd {p a b c d : Nat} (h1 : a % p = b % p) (h2 : c % p = d % p) : (a + c) % p = (b + d) % p := by rw [Nat.add_mod, h1, h2, ← Nat.add_mod]
theorem mmul {p a b c d : Nat} (h1 : a % p = b % p) (h2 : c % p = d % p) : (a * c) % p = (b * d) % p := by rw [Nat.mul_mod, h1, h2, ← Nat.mul_mod]
def same3 (p : Nat) (u v : E3) : Bool := Nat.beq (u.1 % p) (v.1 % p) && (Nat.beq (u.2.1 % p) (v.2.1 % p) && Nat.beq (u.2.2 % p) (v.2.2 % p))
theorem tabs_emb : ∀ q ∈ Qs, ∀ a, a < q → ∀ b, b < q → same3 (pOf q) (emb (pOf q) (eSum (pOf q) (fOf q) a b)) (eadd (emb (pOf q) a) (emb (pOf q) b)) = true ∧ same3 (pOf q) (emb (pOf q) (eProd (pOf q) (fOf q) a b)) (mulE (fOf q) (emb (pOf q) a) (emb (pOf q) b)) = true := by decide +kernel
theorem same3_of {p : Nat} {u v : E3} (h : same3 p u v = true) : u.1 % p = v.1 % p ∧ u.2.1 % p = v.2.1 % p ∧ u.2.2 % p = v.2.2 % p := by
  unfold same3 at h
  rw [Bool.and_eq_true, Bool.and_eq_true] at h
  exact ⟨Nat.eq_of_beq_eq_true h.1, Nat.eq_of_beq_eq_true h.2.1, Nat.eq_of_beq_eq_true h.2.2⟩
theorem cg_iff {q : Nat} {e : E3} {a : Nat} (h : cg q e a) : e.1 % pOf q = (emb (pOf q) a).1 % pOf q ∧ e.2.1 % pOf q = (emb (pOf q) a).2.1 % pOf q ∧ e.2.2 % pOf q = (emb (pOf q) a).2.2 % pOf q := by
  obtain ⟨_, h1, h2, h3⟩ := h
  refine ⟨?_, ?_, ?_⟩
  · rw [h1]; exact (Nat.mod_mod _ _).symm
  · rw [h2]; exact (Nat.mod_mod _ _).symm
  · rw [h3]; exact (Nat.mod_mod _ _).symm
theorem cg_of {q : Nat} {e : E3} {a : Nat} (h0 : a < q) (h1 : e.1 % pOf q = (emb (pOf q) a).1 % pOf q) (h2 : e.2.1 % pOf q = (emb (pOf q) a).2.1 % pOf q) (h3 : e.2.2 % pOf q = (emb (pOf q) a).2.2 % pOf q) : cg q e a :=
  ⟨h0, h1.trans (Nat.mod_mod _ _), h2.trans (Nat.mod_mod _ _), h3.trans (Nat.mod_mod _ _)⟩
theorem cg_emb {q a : Nat} (h : a < q) : cg q (emb (pOf q) a) a := cg_of h rfl rfl rfl
theorem cg_add {q : Nat} (hq : q ∈ Qs) {e e' : E3} {a b : Nat} (h : cg q e a) (h' : cg q e' b) : cg q (eadd e e') (lk (plusT q) a b) := by
  rw [lk_plus h.1 h'.1]
  obtain ⟨s1, s2, s3⟩ := same3_of (tabs_emb q hq a h.1 b h'.1).1
  obtain ⟨u1, u2, u3⟩ := cg_iff h
  obtain ⟨v1, v2, v3⟩ := cg_iff h'
  exact cg_of (tabs_low q hq a h.1 b h'.1).1 ((madd u1 v1).trans s1.symm) ((madd u2 v2).trans s2.symm) ((madd u3 v3).trans s3.symm)
theorem mulE_mod {p f : Nat} {u v u' v' : E3} (h1 : u.1 % p = u'.1 % p) (h2 : u.2.1 % p = u'.2.1 % p) (h3 : u.2.2 % p = u'.2.2 % p) (k1 : v.1 % p = v'.1 % p) (k2 : v.2.1 % p = v'.2.1 % p) (k3 : v.2.2 % p = v'.2.2 % p) :
    (mulE f u v).1 % p = (mulE f u' v').1 % p ∧ (mulE f u v).2.1 % p = (mulE f u' v').2.1 % p ∧ (mulE f u v).2.2 % p = (mulE f u' v').2.2 % p := by
  unfold mulE
  cases Nat.beq f 1
  · cases Nat.beq f 2
    · exact ⟨madd (mmul h1 k1) (madd (mmul h2 k3) (mmul h3 k2)), madd (madd (madd (mmul h1 k2) (mmul h2 k1)) (madd (mmul h2 k3) (mmul h3 k2))) (mmul h3 k3), madd (madd (madd (mmul h1 k3) (mmul h2 k2)) (mmul h3 k1)) (mmul h3 k3)⟩
    · exact ⟨madd (mmul h1 k1) (mmul h2 k2), madd (madd (mmul h1 k2) (mmul h2 k1)) (mmul h2 k2), rfl⟩
  · exact ⟨mmul h1 k1, rfl, rfl⟩
theorem cg_mul {q : Nat} (hq : q ∈ Qs) {e e' : E3} {a b : Nat} (h : cg q e a) (h' : cg q e' b) : cg q (mulE (fOf q) e e') (lk (mulT q) a b) := by
  rw [lk_mul h.1 h'.1]
  obtain ⟨s1, s2, s3⟩ := same3_of (tabs_emb q hq a h.1 b h'.1).2
  obtain ⟨u1, u2, u3⟩ := cg_iff h
  obtain ⟨v1, v2, v3⟩ := cg_iff h'
  obtain ⟨m1, m2, m3⟩ := mulE_mod (f := fOf q) u1 u2 u3 v1 v2 v3
  exact cg_of (tabs_low q hq a h.1 b h'.1).2 (m1.trans s1.symm) (m2.trans s2.symm) (m3.trans s3.symm)
theorem cg_z {q : Nat} (hq : 0 < q) : cg q z0 0 := ⟨hq, rfl, by show 0 % _ = 0 / _ % _; rw [Nat.zero_div], by show 0 % _ = 0 / _ % _; rw [Nat.zero_div]⟩
/-- c stands for the polynomial l -/
def RP (q : Nat) (c : List E3) (l : List Nat) : Prop := ∀ i, cg q (c.getD i z0) (l.getD i 0)
theorem RP.low {q : Nat} {c : List E3} {l : List Nat} (h : RP q c l) : Low q l := fun x hx => by
  obtain ⟨i, hi, e⟩ := List.getElem_of_mem hx
  have := (h i).1
  rw [List.getD_eq_getElem?_getD, List.getElem?_eq_getElem hi] at this
  rw [← e]
  exact this
theorem getD_set {α : Type} (l : List α) (m i : Nat) (x d : α) : (l.set m x).getD i d = if m = i ∧ m < l.length then x else l.getD i d := by
  rw [List.getD_eq_getElem?_getD, List.getD_eq_getElem?_getD, List.getElem?_set]
  by_cases h : m = i
  · subst h
    by_cases h2 : m < l.length
    · simp [h2]
    · simp [h2]
  · simp [h]
theorem RP.set {q : Nat} {c : List E3} {l : List Nat} (h : RP q c l) (hl : c.length = l.length) {m : Nat} {e : E3} {x : Nat} (hx : cg q e x) : RP q (c.set m e) (l.set m x) := fun i => by
  rw [getD_set, getD_set, hl]
  by_cases hm : m = i ∧ m < l.length
  · rw [if_pos hm, if_pos hm]; exact hx
  · rw [if_neg hm, if_neg hm]; exact h i
theorem RP.rep {q : Nat} (hq : 0 < q) (n : Nat) : RP q (List.replicate n z0) (List.replicate n 0) := fun i => by
  have e1 : (List.replicate n z0).getD i z0 = z0 := by rw [List.getD_eq_getElem?_getD, List.getElem?_replicate]; split <;> rfl
  have e2 : (List.replicate n 0).getD i 0 = 0 := by rw [List.getD_eq_getElem?_getD, List.getElem?_replicate]; split <;> rfl
  rw [e1, e2]
  exact cg_z hq
theorem RP.cons {q : Nat} {c : List E3} {l : List Nat} {e : E3} {x : Nat} (h : RP q (e :: c) (x :: l)) : cg q e x ∧ RP q c l := ⟨h 0, fun i => h (i + 1)⟩
/-! ### the product -/
theorem plus_zero : ∀ q ∈ Qs, ∀ a, a < q → eSum (pOf q) (fOf q) a 0 = a ∧ eProd (pOf q) (fOf q) a 0 = 0 := by decide +kernel
theorem inner_ev {q : Nat} (hq : q ∈ Qs) (j r : Nat) (er : E3) (hr : cg q er r) : ∀ (as : List Nat) (ca : List E3) (t : Nat) (found : List Nat) (c : List E3), as.length = ca.length → RP q ca as → t + as.length + j ≤ found.length → c.length = found.length → RP q c found →
    ∃ c' : List E3, c'.length = c.length ∧ RP q c' ((as.zipIdx t).foldl (fun found li => found.set (li.2 + j) (lk (plusT q) (found.getD (li.2 + j) 0) (lk (mulT q) li.1 r))) found) ∧ ∀ X, ev X c' = eadd (ev X c) (esm (X ^ (t + j)) (mulE (fOf q) (ev X ca) er))
  | [], ca, t, found, c, hl, _, _, _, hR => by
    have e : ca = [] := List.length_eq_zero_iff.mp hl.symm
    subst e
    refine ⟨c, rfl, hR, fun X => ?_⟩
    show ev X c = eadd (ev X c) (esm _ (mulE _ z0 er))
    rw [(mulE_z _ _).1, esm_z, (eadd_z _).1]
  | a :: as, [], t, found, c, hl, _, _, _, _ => by simp at hl
  | a :: as, e :: ca, t, found, c, hl, hA, hb, hc, hR => by
    obtain ⟨h1, h2⟩ := hA.cons
    have hm : t + j < c.length := by rw [hc]; rw [List.length_cons] at hb; omega
    have hx := cg_add hq (hR (t + j)) (cg_mul hq h1 hr)
    obtain ⟨c', i1, i2, i3⟩ := inner_ev hq j r er hr as ca (t + 1) (found.set (t + j) (lk (plusT q) (found.getD (t + j) 0) (lk (mulT q) a r))) (c.set (t + j) (eadd (c.getD (t + j) z0) (mulE (fOf q) e er)))
      (by simpa using hl) h2 (by rw [List.length_set]; rw [List.length_cons] at hb; omega) (by rw [List.length_set, List.length_set]; exact hc) (hR.set hc hx)
    refine ⟨c', i1.trans (List.length_set ..), ?_, fun X => ?_⟩
    · rw [List.zipIdx_cons, List.foldl_cons]
      exact i2
    · rw [i3, ev_bump X _ c _ hm]
      show _ = eadd (ev X c) (esm (X ^ (t + j)) (mulE (fOf q) (eadd e (esm X (ev X ca))) er))
      rw [mulE_add, mulE_sm, esm_add, esm_esm, eadd_a]
      have ep : X ^ (t + 1 + j) = X ^ (t + j) * X := by rw [show t + 1 + j = (t + j) + 1 by omega, Nat.pow_succ]
      rw [ep]
theorem outer_ev {q : Nat} (hq : q ∈ Qs) (as : List Nat) (ca : List E3) (hl : as.length = ca.length) (hA : RP q ca as) : ∀ (bs : List Nat) (t : Nat) (found : List Nat) (c : List E3), Low q bs → t + bs.length + as.length ≤ found.length + 1 → c.length = found.length → RP q c found →
    ∃ c' : List E3, c'.length = c.length ∧ RP q c' ((bs.zipIdx t).foldl (fun found rj => if rj.1 ≠ 0 then pInner q rj.2 rj.1 found as else found) found) ∧ ∀ X, ev X c' = eadd (ev X c) (esm (X ^ t) (mulE (fOf q) (ev X ca) (ev X (bs.map (emb (pOf q))))))
  | [], t, found, c, _, _, _, hR => by
    refine ⟨c, rfl, hR, fun X => ?_⟩
    show ev X c = eadd (ev X c) (esm _ (mulE _ _ z0))
    rw [(mulE_z _ _).2, esm_z, (eadd_z _).1]
  | b :: bs, t, found, c, hB, hb, hc, hR => by
    rw [List.length_cons] at hb
    have lb : b < q := hB b (List.mem_cons_self ..)
    have step : ∃ c1 : List E3, c1.length = c.length ∧ RP q c1 (if b ≠ 0 then pInner q t b found as else found) ∧ ∀ X, ev X c1 = eadd (ev X c) (esm (X ^ t) (mulE (fOf q) (ev X ca) (emb (pOf q) b))) := by
      by_cases h0 : b ≠ 0
      · rw [if_pos h0]
        obtain ⟨c1, i1, i2, i3⟩ := inner_ev hq t b (emb (pOf q) b) (cg_emb lb) as ca 0 found c hl hA (by omega) hc hR
        refine ⟨c1, i1, i2, fun X => ?_⟩
        rw [i3, Nat.zero_add]
      · have e0 : b = 0 := Classical.not_not.mp h0
        rw [if_neg h0]
        refine ⟨c, rfl, hR, fun X => ?_⟩
        have e1 : emb (pOf q) b = z0 := by
          rw [e0]
          unfold emb z0
          rw [Nat.zero_div, Nat.zero_div, Nat.zero_mod]
        rw [e1, (mulE_z _ _).2, esm_z, (eadd_z _).1]
    obtain ⟨c1, i1, i2, i3⟩ := step
    have hlen1 : (if b ≠ 0 then pInner q t b found as else found).length = found.length := by
      split
      · exact pInner_len q t b _ _
      · rfl
    obtain ⟨c', j1, j2, j3⟩ := outer_ev hq as ca hl hA bs (t + 1) (if b ≠ 0 then pInner q t b found as else found) c1 (fun x hx => hB x (List.mem_cons_of_mem _ hx)) (by rw [hlen1]; omega) (by rw [hlen1, i1]; exact hc) i2
    refine ⟨c', j1.trans i1, ?_, fun X => ?_⟩
    · rw [List.zipIdx_cons, List.foldl_cons]
      exact j2
    · rw [j3, i3]
      show _ = eadd (ev X c) (esm (X ^ t) (mulE (fOf q) (ev X ca) (eadd (emb (pOf q) b) (esm X (ev X (bs.map (emb (pOf q))))))))
      rw [mulE_add', mulE_sm', esm_add, esm_esm, eadd_a, Nat.pow_succ]
/-- c stands for l, as long -/
def RL (q : Nat) (c : List E3) (l : List Nat) : Prop := c.length = l.length ∧ RP q c l
theorem prod_ev {q : Nat} (hq : q ∈ Qs) {as bs : List Nat} {ca : List E3} (hA : RL q ca as) (hB : Low q bs) (ha : as ≠ []) (hb : bs ≠ []) :
    ∃ c', RL q c' (pProd q as bs) ∧ pProd q as bs ≠ [] ∧ ∀ X, ev X c' = mulE (fOf q) (ev X ca) (ev X (bs.map (emb (pOf q)))) := by
  obtain ⟨q1, _⟩ := Qs_facts hq
  have la := List.length_pos_iff.mpr ha
  have lb := List.length_pos_iff.mpr hb
  have epr : pProd q as bs = bs.zipIdx.foldl (fun found rj => if rj.1 ≠ 0 then pInner q rj.2 rj.1 found as else found) (List.replicate (as.length + bs.length - 1) 0) := if_neg (fun h => h.elim ha hb)
  obtain ⟨c', i1, i2, i3⟩ := outer_ev hq as ca hA.1.symm hA.2 bs 0 (List.replicate (as.length + bs.length - 1) 0) (List.replicate (as.length + bs.length - 1) z0) hB (by rw [List.length_replicate]; omega) (by rw [List.length_replicate, List.length_replicate]) (RP.rep (by omega) _)
  have e : ∀ l (z : Nat × Nat), (if z.1 ≠ 0 then pInner q z.2 z.1 l as else l).length = l.length := fun l z => by
    split
    · exact pInner_len q z.2 z.1 _ _
    · rfl
  have hlen : (pProd q as bs).length = as.length + bs.length - 1 := by rw [epr, fold_len _ e, List.length_replicate]
  refine ⟨c', ⟨?_, by rw [epr]; exact i2⟩, fun h0 => ?_, fun X => ?_⟩
  · rw [i1, List.length_replicate, hlen]
  · rw [h0] at hlen
    have : 0 = as.length + bs.length - 1 := hlen
    omega
  · rw [i3, ev_zero, (eadd_z _).2, Nat.pow_zero, esm_1]
def mulN (f : Nat) : Nat → E3 → E3 → E3
  | 0, u, _ => u
  | n + 1, u, v => mulN f n (mulE f u v) v
theorem rep_ev {q : Nat} (hq : q ∈ Qs) {big : List Nat} (hB : Low q big) (hb : big ≠ []) : ∀ (n : Nat) (found : List Nat) (c : List E3), RL q c found → found ≠ [] →
    ∃ c', RL q c' (pRep q big n found) ∧ pRep q big n found ≠ [] ∧ ∀ X, ev X c' = mulN (fOf q) n (ev X c) (ev X (big.map (emb (pOf q))))
  | 0, found, c, h, h0 => ⟨c, h, h0, fun _ => rfl⟩
  | n + 1, found, c, h, h0 => by
    obtain ⟨c1, i1, i2, i3⟩ := prod_ev hq h hB h0 hb
    obtain ⟨c', j1, j2, j3⟩ := rep_ev hq hB hb n (pProd q found big) c1 i1 i2
    refine ⟨c', j1, j2, fun X => ?_⟩
    rw [j3, i3]
    rfl
/-! ### the stretched -/
theorem ev_set0 (X : Nat) (e : E3) : ∀ (c : List E3) (m : Nat), m < c.length → c.getD m z0 = z0 → ev X (c.set m e) = eadd (ev X c) (esm (X ^ m) e) := fun c m h h0 => by
  have z := ev_bump X e c m h
  rw [h0, (eadd_z e).2] at z
  exact z
theorem stretch_go (p s X : Nat) (hs : 1 ≤ s) : ∀ (as : List Nat) (t : Nat) (l : List Nat), (as ≠ [] → s * (t + as.length - 1) < l.length) → (∀ m, s * t ≤ m → l.getD m 0 = 0) →
    ev X (((as.zipIdx t).foldl (fun found xa => found.set (s * xa.2) xa.1) l).map (emb p)) = eadd (ev X (l.map (emb p))) (esm (X ^ (s * t)) (ev (X ^ s) (as.map (emb p))))
  | [], t, l, _, _ => by
    show _ = eadd _ (esm _ z0)
    rw [esm_z, (eadd_z _).1]
    rfl
  | a :: as, t, l, hl, hz => by
    have hl1 := hl (by simp)
    rw [List.length_cons] at hl1
    have hm : s * t < l.length := by
      refine Nat.lt_of_le_of_lt (Nat.mul_le_mul_left s (show t ≤ t + (as.length + 1) - 1 by omega)) hl1
    rw [List.zipIdx_cons, List.foldl_cons]
    rw [stretch_go p s X hs as (t + 1) (l.set (s * t) a) (fun h => by rw [List.length_set]; rw [show t + 1 + as.length - 1 = t + (as.length + 1) - 1 by omega]; exact hl1) (fun m hm2 => by
      have hst : s * t < m := by
        rw [Nat.mul_add, Nat.mul_one] at hm2
        omega
      rw [getD_set, if_neg (fun h => by omega)]
      exact hz m (by omega))]
    have e0 : emb p 0 = z0 := by
      unfold emb z0
      rw [Nat.zero_div, Nat.zero_div, Nat.zero_mod]
    have eg : (l.map (emb p)).getD (s * t) z0 = z0 := by
      have z := hz (s * t) (Nat.le_refl _)
      rw [List.getD_eq_getElem?_getD, List.getElem?_map]
      rw [List.getD_eq_getElem?_getD, List.getElem?_eq_getElem hm] at z
      rw [List.getElem?_eq_getElem hm]
      have z2 : l[s * t] = 0 := z
      rw [z2]
      exact e0
    rw [List.map_set, ev_set0 X _ _ _ (by rw [List.length_map]; exact hm) eg, eadd_a]
    show _ = eadd _ (esm (X ^ (s * t)) (eadd (emb p a) (esm (X ^ s) (ev (X ^ s) (as.map (emb p))))))
    rw [esm_add, esm_esm, ← Nat.pow_add, Nat.mul_add, Nat.mul_one]
theorem stretch_ev (p s X : Nat) (hs : 1 ≤ s) {as : List Nat} (ha : as ≠ []) : ev X ((stretch s as).map (emb p)) = ev (X ^ s) (as.map (emb p)) := by
  have e0 : emb p 0 = z0 := by
    unfold emb z0
    rw [Nat.zero_div, Nat.zero_div, Nat.zero_mod]
  unfold stretch
  rw [if_pos ha]
  have z := stretch_go p s X hs as 0 (List.replicate (s * (as.length - 1) + 1) 0) (fun _ => by rw [List.length_replicate, Nat.zero_add]; omega) (fun m _ => by rw [List.getD_eq_getElem?_getD, List.getElem?_replicate]; split <;> rfl)
  rw [z, List.map_replicate, e0, ev_zero, (eadd_z _).2, Nat.mul_zero, Nat.pow_zero, esm_1]
end Mo
namespace Mo
/-! ### the power -/
def pkGo (f q : Nat) (ea : List E3) : List Nat → Nat → E3 → E3
  | [], _, u => u
  | d :: r, Y, u => pkGo f q ea r (Y ^ q) (mulN f d u (ev Y ea))
def pk (f q X k : Nat) (ea : List E3) : E3 := pkGo f q ea (digs q k) X (1, 0, 0)
theorem pow_ev {q : Nat} (hq : q ∈ Qs) {a : List Nat} (hA : Low q a) (ha : a ≠ []) : ∀ (ds : List Nat) (t : Nat) (found : List Nat) (c : List E3), RL q c found → found ≠ [] →
    ∃ c', RL q c' ((ds.zipIdx t).foldl (powF q a) found) ∧ (ds.zipIdx t).foldl (powF q a) found ≠ [] ∧ ∀ X, ev X c' = pkGo (fOf q) q (a.map (emb (pOf q))) ds (X ^ q ^ t) (ev X c)
  | [], t, found, c, h, h0 => ⟨c, h, h0, fun _ => rfl⟩
  | d :: ds, t, found, c, h, h0 => by
    obtain ⟨q1, _⟩ := Qs_facts hq
    have hs : 1 ≤ q ^ t := Nat.pow_pos (by omega)
    have hbig : stretch (q ^ t) a ≠ [] := fun e => by
      have := stretch_len (step := q ^ t) ha
      rw [e] at this
      have h2 : 0 = q ^ t * (a.length - 1) + 1 := this
      omega
    obtain ⟨c1, i1, i2, i3⟩ := rep_ev hq (low_stretch (step := q ^ t) (by omega) hA) hbig d found c h h0
    obtain ⟨c', j1, j2, j3⟩ := pow_ev hq hA ha ds (t + 1) (pRep q (stretch (q ^ t) a) d found) c1 i1 i2
    rw [List.zipIdx_cons, List.foldl_cons]
    refine ⟨c', j1, j2, fun X => ?_⟩
    rw [j3, i3, stretch_ev (pOf q) (q ^ t) X hs ha]
    show pkGo _ _ _ ds (X ^ q ^ (t + 1)) _ = pkGo _ _ _ ds ((X ^ q ^ t) ^ q) _
    rw [Nat.pow_succ, Nat.pow_mul]
theorem pPow_ev {q : Nat} (hq : q ∈ Qs) {a : List Nat} (hA : Low q a) (ha : a ≠ []) (k : Nat) : ∃ c', RL q c' (pPow q a k) ∧ ∀ X, ev X c' = pk (fOf q) q X k (a.map (emb (pOf q))) := by
  obtain ⟨q1, q2, p1, _⟩ := Qs_facts hq
  have e1 : emb (pOf q) 1 = (1, 0, 0) := by
    unfold emb
    rw [Nat.mod_eq_of_lt (by omega), Nat.div_eq_of_lt (by omega), Nat.div_eq_of_lt (Nat.lt_of_lt_of_le (show 1 < 2 * 2 by decide) (Nat.mul_le_mul p1 p1)), Nat.zero_mod]
  have hR : RL q [emb (pOf q) 1] [1] := ⟨rfl, fun i => by
    cases i with
    | zero => exact cg_emb (by omega)
    | succ i => exact cg_z (by omega)⟩
  obtain ⟨c', i1, _, i3⟩ := pow_ev hq hA ha (digs q k) 0 [1] _ hR (by simp)
  refine ⟨c', i1, fun X => ?_⟩
  rw [i3]
  have e2 : ev X [emb (pOf q) 1] = (1, 0, 0) := by
    show eadd _ (esm X z0) = _
    rw [esm_z, (eadd_z _).1, e1]
  rw [e2, Nat.pow_zero, Nat.pow_one]
  rfl
/-! ### the sum -/
def addc : List E3 → List E3 → List E3
  | [], b => b
  | x :: a, [] => x :: a
  | x :: a, y :: b => eadd x y :: addc a b
theorem addc_at : ∀ (a b : List E3) (i : Nat), (addc a b).getD i z0 = eadd (a.getD i z0) (b.getD i z0)
  | [], b, i => by
    show b.getD i z0 = eadd ([].getD i z0) _
    rw [show ([] : List E3).getD i z0 = z0 by simp, (eadd_z _).2]
  | x :: a, [], i => by
    show (x :: a).getD i z0 = eadd _ ([].getD i z0)
    rw [show ([] : List E3).getD i z0 = z0 by simp, (eadd_z _).1]
  | x :: a, y :: b, 0 => rfl
  | x :: a, y :: b, i + 1 => addc_at a b i
theorem addc_ev (X : Nat) : ∀ a b : List E3, ev X (addc a b) = eadd (ev X a) (ev X b)
  | [], b => (eadd_z _).2.symm
  | x :: a, [] => (eadd_z _).1.symm
  | x :: a, y :: b => by
    show eadd (eadd x y) (esm X (ev X (addc a b))) = eadd (eadd x (esm X (ev X a))) (eadd y (esm X (ev X b)))
    rw [addc_ev X a b, esm_add, eadd_a, eadd_a, ← eadd_a y, eadd_c y, eadd_a]
theorem addc_len : ∀ a b : List E3, (addc a b).length = max a.length b.length
  | [], b => by show b.length = max 0 _; omega
  | x :: a, [] => by show (x :: a).length = max _ 0; omega
  | x :: a, y :: b => by
    show (addc a b).length + 1 = max (a.length + 1) (b.length + 1)
    rw [addc_len a b]
    omega
theorem trimLen_out (row : List Nat) : ∀ (n i : Nat), trimLen row n ≤ i → i < n → row.getD i 0 = 0
  | 0, i, _, h => by omega
  | n + 1, i, h1, h2 => by
    unfold trimLen at h1
    by_cases h0 : row.getD n 0 = 0
    · rw [if_pos h0] at h1
      by_cases e : i = n
      · rw [e]; exact h0
      · exact trimLen_out row n i h1 (by omega)
    · rw [if_neg h0] at h1
      omega
theorem trim_at (row : List Nat) (i : Nat) : (trim row).getD i 0 = row.getD i 0 := by
  unfold trim
  rw [List.getD_eq_getElem?_getD, List.getElem?_take]
  by_cases h : i < trimLen row row.length
  · rw [if_pos h, List.getD_eq_getElem?_getD]
  · rw [if_neg h]
    by_cases h2 : i < row.length
    · rw [trimLen_out row row.length i (by omega) h2]
      rfl
    · rw [List.getD_eq_getElem?_getD, List.getElem?_eq_none (by omega)]
theorem trim_nil {row : List Nat} (h : ∀ i, (trim row).getD i 0 = 0) : trim row = [] := by
  have hl : ∀ n, trimLen row n = 0 ∨ row.getD (trimLen row n - 1) 0 ≠ 0 := fun n => by
    induction n with
    | zero => exact .inl rfl
    | succ n ih =>
      unfold trimLen
      by_cases h0 : row.getD n 0 = 0
      · rw [if_pos h0]; exact ih
      · rw [if_neg h0]; exact .inr (by simpa using h0)
  unfold trim
  rcases hl row.length with e | e
  · rw [e]; rfl
  · exact absurd ((trim_at row _).symm.trans (h _)) e
theorem padTo_at (n : Nat) (a : List Nat) (i : Nat) : (padTo n a).getD i 0 = a.getD i 0 := by
  unfold padTo
  rw [List.getD_eq_getElem?_getD, List.getD_eq_getElem?_getD, List.getElem?_append]
  by_cases h : i < a.length
  · rw [if_pos h]
  · rw [if_neg h, List.getElem?_eq_none (show a.length ≤ i by omega), List.getElem?_replicate]
    split <;> rfl
theorem plus00 : ∀ q ∈ Qs, eSum (pOf q) (fOf q) 0 0 = 0 := by decide +kernel
theorem pPlus_at {q : Nat} (hq : q ∈ Qs) (a b : List Nat) (i : Nat) : (pPlus q a b).getD i 0 = lk (plusT q) (a.getD i 0) (b.getD i 0) := by
  obtain ⟨q1, _⟩ := Qs_facts hq
  unfold pPlus
  rw [trim_at, ← padTo_at (max a.length b.length) a i, ← padTo_at (max a.length b.length) b i]
  have lA : (padTo (max a.length b.length) a).length = max a.length b.length := by unfold padTo; rw [List.length_append, List.length_replicate]; omega
  have lB : (padTo (max a.length b.length) b).length = max a.length b.length := by unfold padTo; rw [List.length_append, List.length_replicate]; omega
  generalize padTo (max a.length b.length) a = A at lA
  generalize padTo (max a.length b.length) b = B at lB
  rw [List.getD_eq_getElem?_getD, List.getD_eq_getElem?_getD, List.getD_eq_getElem?_getD, List.getElem?_zipWith]
  by_cases h : i < max a.length b.length
  · rw [List.getElem?_eq_getElem (show i < A.length by omega), List.getElem?_eq_getElem (show i < B.length by omega)]
    rfl
  · rw [List.getElem?_eq_none (show A.length ≤ i by omega), List.getElem?_eq_none (show B.length ≤ i by omega)]
    show 0 = lk (plusT q) 0 0
    rw [lk_plus (by omega) (by omega), plus00 q hq]
theorem plus_rp {q : Nat} (hq : q ∈ Qs) {c c' : List E3} {a b : List Nat} (h : RP q c a) (h' : RP q c' b) : RP q (addc c c') (pPlus q a b) := fun i => by
  rw [addc_at, pPlus_at hq]
  exact cg_add hq (h i) (h' i)
def sumGo (f q X k : Nat) : List (List E3) → E3 → E3
  | [], u => u
  | ea :: r, u => sumGo f q X k r (eadd u (pk f q X k ea))
theorem sum_ev {q k : Nat} (hq : q ∈ Qs) (hk : k ≤ 80) : ∀ (ms : List (List Nat)) (found : List Nat) (c : List E3), (∀ a ∈ ms, Low q a ∧ a ≠ [] ∧ a.length ≤ 5) → RP q c found → c.length ≤ 300000 →
    ∃ c', RP q c' (ms.foldl (fun found a => pPlus q found (pPow q a k)) found) ∧ c'.length ≤ 300000 ∧ ∀ X, ev X c' = sumGo (fOf q) q X k (ms.map fun a => a.map (emb (pOf q))) (ev X c)
  | [], found, c, _, hR, hl => ⟨c, hR, hl, fun _ => rfl⟩
  | a :: ms, found, c, hm, hR, hl => by
    obtain ⟨q1, q2, _⟩ := Qs_facts hq
    obtain ⟨h1, h2, h3⟩ := hm a (List.mem_cons_self ..)
    obtain ⟨c1, i1, i2⟩ := pPow_ev hq h1 h2 k
    have l1 : c1.length ≤ 300000 := by rw [i1.1]; exact pPow_len q1 q2 hk h2 h3
    obtain ⟨c', j1, j2, j3⟩ := sum_ev hq hk ms (pPlus q found (pPow q a k)) (addc c c1) (fun b hb => hm b (List.mem_cons_of_mem _ hb)) (plus_rp hq hR i1.2) (by rw [addc_len]; omega)
    refine ⟨c', j1, j2, fun X => ?_⟩
    rw [j3, addc_ev, i2]
    rfl
/-! ### digits -/
def evN (X : Nat) : List Nat → Nat
  | [] => 0
  | x :: r => x + X * evN X r
theorem ev_1 (X : Nat) : ∀ c : List E3, (ev X c).1 = evN X (c.map (·.1)) ∧ (ev X c).2.1 = evN X (c.map (·.2.1)) ∧ (ev X c).2.2 = evN X (c.map (·.2.2))
  | [] => ⟨rfl, rfl, rfl⟩
  | e :: r => by
    obtain ⟨h1, h2, h3⟩ := ev_1 X r
    refine ⟨?_, ?_, ?_⟩
    · show e.1 + X * (ev X r).1 = e.1 + X * evN X _
      rw [h1]
    · show e.2.1 + X * (ev X r).2.1 = e.2.1 + X * evN X _
      rw [h2]
    · show e.2.2 + X * (ev X r).2.2 = e.2.2 + X * evN X _
      rw [h3]
theorem evN_1 : ∀ c : List Nat, evN 1 c = sumL c
  | [] => rfl
  | x :: r => by show x + 1 * evN 1 r = x + sumL r; rw [evN_1 r, Nat.one_mul]
def zdig (p X : Nat) : Nat → Nat → Bool
  | 0, _ => true
  | n + 1, U => bif Nat.beq U 0 then true else bif Nat.beq (U % X % p) 0 then zdig p X n (U / X) else false
theorem zdig_0 (p X : Nat) : ∀ n, zdig p X n 0 = true
  | 0 => rfl
  | _ + 1 => rfl
theorem zdig_ev (p X : Nat) : ∀ (cs : List Nat) (n : Nat), cs.length ≤ n → sumL cs < X → zdig p X n (evN X cs) = cs.all fun x => Nat.beq (x % p) 0
  | [], n, _, _ => zdig_0 p X n
  | x :: r, 0, h, _ => by simp at h
  | x :: r, n + 1, h, hX => by
    have hx : x + sumL r < X := hX
    have ih := zdig_ev p X r n (by simpa using h) (by omega)
    show (bif Nat.beq (x + X * evN X r) 0 then true else bif Nat.beq ((x + X * evN X r) % X % p) 0 then zdig p X n ((x + X * evN X r) / X) else false) = (Nat.beq (x % p) 0 && r.all fun x => Nat.beq (x % p) 0)
    have em : (x + X * evN X r) % X = x := by rw [Nat.add_mul_mod_self_left, Nat.mod_eq_of_lt (by omega)]
    have ed : (x + X * evN X r) / X = evN X r := by rw [Nat.add_mul_div_left _ _ (by omega), Nat.div_eq_of_lt (by omega), Nat.zero_add]
    rw [em, ed, ih]
    cases hb : Nat.beq (x + X * evN X r) 0 with
    | true =>
      have e0 : x + X * evN X r = 0 := Nat.eq_of_beq_eq_true hb
      have ex : x = 0 := by omega
      have ev0 : evN X r = 0 := by
        rcases Nat.mul_eq_zero.mp (show X * evN X r = 0 by omega) with e | e
        · omega
        · exact e
      rw [ev0, zdig_0] at ih
      rw [← ih, ex, Nat.zero_mod]
      rfl
    | false =>
      cases Nat.beq (x % p) 0 <;> rfl
theorem emb_zero : ∀ q ∈ Qs, ∀ a, a < q → a % pOf q = 0 → a / pOf q % pOf q = 0 → a / (pOf q * pOf q) % pOf q = 0 → a = 0 := by decide +kernel
def bigX : Nat := 1152921504606846976
def mset (q d : Nat) : List (List E3) := (monics q d).map fun a => a.map (emb (pOf q))
def zd3 (p : Nat) (U : E3) : Bool := zdig p bigX 300000 U.1 && (zdig p bigX 300000 U.2.1 && zdig p bigX 300000 U.2.2)
def lt3X (U : E3) : Bool := Nat.blt U.1 bigX && (Nat.blt U.2.1 bigX && Nat.blt U.2.2 bigX)
theorem all_comp {c : List E3} (g : E3 → Nat) (hg : g z0 = 0) (p : Nat) : ((c.map g).all fun x => Nat.beq (x % p) 0) = true ↔ ∀ i, g (c.getD i z0) % p = 0 := by
  rw [List.all_eq_true]
  constructor
  · intro h i
    by_cases hi : i < c.length
    · have z := h (g c[i]) (List.mem_map.mpr ⟨c[i], List.getElem_mem hi, rfl⟩)
      rw [List.getD_eq_getElem?_getD, List.getElem?_eq_getElem hi]
      exact Nat.eq_of_beq_eq_true z
    · rw [List.getD_eq_getElem?_getD, List.getElem?_eq_none (by omega)]
      show g z0 % p = 0
      rw [hg, Nat.zero_mod]
  · intro h x hx
    obtain ⟨e, he, rfl⟩ := List.mem_map.mp hx
    obtain ⟨i, hi, rfl⟩ := List.getElem_of_mem he
    have z := h i
    rw [List.getD_eq_getElem?_getD, List.getElem?_eq_getElem hi] at z
    have z2 : g c[i] % p = 0 := z
    rw [z2]
    rfl
theorem sum_zero {q d k : Nat} (hq : q ∈ Qs) (hd : d ≤ 4) (hk : k ≤ 80) (hb : lt3X (sumGo (fOf q) q 1 k (mset q d) z0) = true) : (pSum q d k).isEmpty = zd3 (pOf q) (sumGo (fOf q) q bigX k (mset q d) z0) := by
  obtain ⟨q1, q2, p1, _⟩ := Qs_facts hq
  have hm : ∀ a ∈ monics q d, Low q a ∧ a ≠ [] ∧ a.length ≤ 5 := fun a ha => by
    obtain ⟨h1, h2, h3⟩ := monic_facts q1 ha
    exact ⟨h1, h2, by omega⟩
  obtain ⟨c, hR, hl, he⟩ := sum_ev hq hk (monics q d) [] [] hm (fun i => by
    rw [show ([] : List E3).getD i z0 = z0 by simp, show ([] : List Nat).getD i 0 = 0 by simp]
    exact cg_z (by omega)) (Nat.zero_le _)
  have hp : (monics q d).foldl (fun found a => pPlus q found (pPow q a k)) [] = pSum q d k := rfl
  rw [hp] at hR
  have e1 := he 1
  have eX := he bigX
  have e1' : ev 1 c = sumGo (fOf q) q 1 k (mset q d) z0 := e1
  have eX' : ev bigX c = sumGo (fOf q) q bigX k (mset q d) z0 := eX
  rw [← e1'] at hb
  rw [← eX']
  unfold lt3X at hb
  rw [Bool.and_eq_true, Bool.and_eq_true] at hb
  obtain ⟨b1, b2, b3⟩ := hb
  have b1 := Nat.le_of_ble_eq_true b1
  have b2 := Nat.le_of_ble_eq_true b2
  have b3 := Nat.le_of_ble_eq_true b3
  obtain ⟨s1, s2, s3⟩ := ev_1 1 c
  rw [s1, evN_1] at b1
  rw [s2, evN_1] at b2
  rw [s3, evN_1] at b3
  obtain ⟨t1, t2, t3⟩ := ev_1 bigX c
  unfold zd3
  rw [t1, t2, t3, zdig_ev _ _ _ _ (by rw [List.length_map]; exact hl) b1, zdig_ev _ _ _ _ (by rw [List.length_map]; exact hl) b2, zdig_ev _ _ _ _ (by rw [List.length_map]; exact hl) b3]
  rw [Bool.eq_iff_iff, Bool.and_eq_true, Bool.and_eq_true, all_comp (·.1) rfl, all_comp (·.2.1) rfl, all_comp (·.2.2) rfl]
  constructor
  · intro h0
    have e0 : pSum q d k = [] := List.isEmpty_iff.mp h0
    rw [e0] at hR
    have z : ∀ i, cg q (c.getD i z0) 0 := fun i => by
      have z := hR i
      rw [show ([] : List Nat).getD i 0 = 0 by simp] at z
      exact z
    refine ⟨fun i => ?_, fun i => ?_, fun i => ?_⟩
    · have := (z i).2.1; rw [Nat.zero_mod] at this; exact this
    · have := (z i).2.2.1; rw [Nat.zero_div, Nat.zero_mod] at this; exact this
    · have := (z i).2.2.2; rw [Nat.zero_div, Nat.zero_mod] at this; exact this
  · rintro ⟨h1, h2, h3⟩
    have hz : ∀ i, (pSum q d k).getD i 0 = 0 := fun i => by
      obtain ⟨r0, r1, r2, r3⟩ := hR i
      exact emb_zero q hq _ r0 (r1.symm.trans (h1 i)) (r2.symm.trans (h2 i)) (r3.symm.trans (h3 i))
    have hne : monics q d ≠ [] := fun e => by
      have hlen : (monics q d).length = q ^ d := by unfold monics lower; rw [List.length_map, List.length_map, List.length_range]
      rw [e] at hlen
      have hpos : 0 < q ^ d := Nat.pow_pos (by omega)
      have h0 : 0 = q ^ d := hlen
      omega
    have htr : ∃ row, pSum q d k = trim row := by
      rw [← hp]
      rcases List.eq_nil_or_concat (monics q d) with e | ⟨ms, a, e⟩
      · exact absurd e hne
      · rw [e, List.concat_eq_append, List.foldl_append]
        exact ⟨_, rfl⟩
    obtain ⟨row, er⟩ := htr
    rw [er] at hz ⊢
    rw [trim_nil hz]
    rfl
/-! ### over the domain -/
def chkS (q d k : Nat) : Bool := lt3X (sumGo (fOf q) q 1 k (mset q d) z0) && (zd3 (pOf q) (sumGo (fOf q) q bigX k (mset q d) z0) == Nat.blt (mostM q k) d)
def chkQ (q : Nat) : Bool := (List.range (dMax q + 1)).all fun d => (List.range (kMax d + 1)).all fun k => chkS q d k
end Mo
/-! The kernel's checks over the whole domain. -/
namespace Mo
theorem sum2 : chkQ 2 = true := by decide +kernel
theorem sum3 : chkQ 3 = true := by decide +kernel
theorem sum4 : chkQ 4 = true := by decide +kernel
theorem sum5 : chkQ 5 = true := by decide +kernel
theorem sum7 : chkQ 7 = true := by decide +kernel
theorem sum8 : chkQ 8 = true := by decide +kernel
theorem sum9 : chkQ 9 = true := by decide +kernel
def chkR (q : Nat) (v : List (List (List Nat))) : Bool := (List.range (dMax q + 1)).all fun d => (List.range (kMax d + 1)).all fun k => restOk q v d k (Nat.blt (mostM q k) d)
def vec2 : List (List (List Nat)) := [[[0],[1]]]
def vec3 : List (List (List Nat)) := [[[0],[2]],[[1]]]
def vec4 : List (List (List Nat)) := [[[0,0],[0,3],[1,1],[2,2],[3,0],[3,3]],[[0,2],[1,0],[1,3],[2,1],[3,2]],[[0,1],[1,2],[2,0],[2,3],[3,1]]]
def vec5 : List (List (List Nat)) := [[[0],[4]],[[1]],[[2]],[[3]]]
def vec7 : List (List (List Nat)) := [[[0],[6]],[[1]],[[2]],[[3]],[[4]],[[5]]]
def vec8 : List (List (List Nat)) := [[[0,0,0],[0,0,7],[0,1,3],[0,2,6],[0,3,2],[0,4,5],[0,5,1],[0,6,4],[0,7,0],[0,7,7],[1,0,5],[1,1,1],[1,2,4],[1,3,0],[1,3,7],[1,4,3],[1,5,6],[1,6,2],[1,7,5],[2,0,3],[2,1,6],[2,2,2],[2,3,5],[2,4,1],[2,5,4],[2,6,0],[2,6,7],[2,7,3],[3,0,1],[3,1,4],[3,2,0],[3,2,7],[3,3,3],[3,4,6],[3,5,2],[3,6,5],[3,7,1],[4,0,6],[4,1,2],[4,2,5],[4,3,1],[4,4,4],[4,5,0],[4,5,7],[4,6,3],[4,7,6],[5,0,4],[5,1,0],[5,1,7],[5,2,3],[5,3,6],[5,4,2],[5,5,5],[5,6,1],[5,7,4],[6,0,2],[6,1,5],[6,2,1],[6,3,4],[6,4,0],[6,4,7],[6,5,3],[6,6,6],[6,7,2],[7,0,0],[7,0,7],[7,1,3],[7,2,6],[7,3,2],[7,4,5],[7,5,1],[7,6,4],[7,7,0],[7,7,7]],[[0,0,2],[0,1,5],[0,2,1],[0,3,4],[0,4,0],[0,4,7],[0,5,3],[0,6,6],[0,7,2],[1,0,0],[1,0,7],[1,1,3],[1,2,6],[1,3,2],[1,4,5],[1,5,1],[1,6,4],[1,7,0],[1,7,7],[2,0,5],[2,1,1],[2,2,4],[2,3,0],[2,3,7],[2,4,3],[2,5,6],[2,6,2],[2,7,5],[3,0,3],[3,1,6],[3,2,2],[3,3,5],[3,4,1],[3,5,4],[3,6,0],[3,6,7],[3,7,3],[4,0,1],[4,1,4],[4,2,0],[4,2,7],[4,3,3],[4,4,6],[4,5,2],[4,6,5],[4,7,1],[5,0,6],[5,1,2],[5,2,5],[5,3,1],[5,4,4],[5,5,0],[5,5,7],[5,6,3],[5,7,6],[6,0,4],[6,1,0],[6,1,7],[6,2,3],[6,3,6],[6,4,2],[6,5,5],[6,6,1],[6,7,4],[7,0,2],[7,1,5],[7,2,1],[7,3,4],[7,4,0],[7,4,7],[7,5,3],[7,6,6],[7,7,2]],[[0,0,4],[0,1,0],[0,1,7],[0,2,3],[0,3,6],[0,4,2],[0,5,5],[0,6,1],[0,7,4],[1,0,2],[1,1,5],[1,2,1],[1,3,4],[1,4,0],[1,4,7],[1,5,3],[1,6,6],[1,7,2],[2,0,0],[2,0,7],[2,1,3],[2,2,6],[2,3,2],[2,4,5],[2,5,1],[2,6,4],[2,7,0],[2,7,7],[3,0,5],[3,1,1],[3,2,4],[3,3,0],[3,3,7],[3,4,3],[3,5,6],[3,6,2],[3,7,5],[4,0,3],[4,1,6],[4,2,2],[4,3,5],[4,4,1],[4,5,4],[4,6,0],[4,6,7],[4,7,3],[5,0,1],[5,1,4],[5,2,0],[5,2,7],[5,3,3],[5,4,6],[5,5,2],[5,6,5],[5,7,1],[6,0,6],[6,1,2],[6,2,5],[6,3,1],[6,4,4],[6,5,0],[6,5,7],[6,6,3],[6,7,6],[7,0,4],[7,1,0],[7,1,7],[7,2,3],[7,3,6],[7,4,2],[7,5,5],[7,6,1],[7,7,4]],[[0,0,6],[0,1,2],[0,2,5],[0,3,1],[0,4,4],[0,5,0],[0,5,7],[0,6,3],[0,7,6],[1,0,4],[1,1,0],[1,1,7],[1,2,3],[1,3,6],[1,4,2],[1,5,5],[1,6,1],[1,7,4],[2,0,2],[2,1,5],[2,2,1],[2,3,4],[2,4,0],[2,4,7],[2,5,3],[2,6,6],[2,7,2],[3,0,0],[3,0,7],[3,1,3],[3,2,6],[3,3,2],[3,4,5],[3,5,1],[3,6,4],[3,7,0],[3,7,7],[4,0,5],[4,1,1],[4,2,4],[4,3,0],[4,3,7],[4,4,3],[4,5,6],[4,6,2],[4,7,5],[5,0,3],[5,1,6],[5,2,2],[5,3,5],[5,4,1],[5,5,4],[5,6,0],[5,6,7],[5,7,3],[6,0,1],[6,1,4],[6,2,0],[6,2,7],[6,3,3],[6,4,6],[6,5,2],[6,6,5],[6,7,1],[7,0,6],[7,1,2],[7,2,5],[7,3,1],[7,4,4],[7,5,0],[7,5,7],[7,6,3],[7,7,6]],[[0,0,1],[0,1,4],[0,2,0],[0,2,7],[0,3,3],[0,4,6],[0,5,2],[0,6,5],[0,7,1],[1,0,6],[1,1,2],[1,2,5],[1,3,1],[1,4,4],[1,5,0],[1,5,7],[1,6,3],[1,7,6],[2,0,4],[2,1,0],[2,1,7],[2,2,3],[2,3,6],[2,4,2],[2,5,5],[2,6,1],[2,7,4],[3,0,2],[3,1,5],[3,2,1],[3,3,4],[3,4,0],[3,4,7],[3,5,3],[3,6,6],[3,7,2],[4,0,0],[4,0,7],[4,1,3],[4,2,6],[4,3,2],[4,4,5],[4,5,1],[4,6,4],[4,7,0],[4,7,7],[5,0,5],[5,1,1],[5,2,4],[5,3,0],[5,3,7],[5,4,3],[5,5,6],[5,6,2],[5,7,5],[6,0,3],[6,1,6],[6,2,2],[6,3,5],[6,4,1],[6,5,4],[6,6,0],[6,6,7],[6,7,3],[7,0,1],[7,1,4],[7,2,0],[7,2,7],[7,3,3],[7,4,6],[7,5,2],[7,6,5],[7,7,1]],[[0,0,3],[0,1,6],[0,2,2],[0,3,5],[0,4,1],[0,5,4],[0,6,0],[0,6,7],[0,7,3],[1,0,1],[1,1,4],[1,2,0],[1,2,7],[1,3,3],[1,4,6],[1,5,2],[1,6,5],[1,7,1],[2,0,6],[2,1,2],[2,2,5],[2,3,1],[2,4,4],[2,5,0],[2,5,7],[2,6,3],[2,7,6],[3,0,4],[3,1,0],[3,1,7],[3,2,3],[3,3,6],[3,4,2],[3,5,5],[3,6,1],[3,7,4],[4,0,2],[4,1,5],[4,2,1],[4,3,4],[4,4,0],[4,4,7],[4,5,3],[4,6,6],[4,7,2],[5,0,0],[5,0,7],[5,1,3],[5,2,6],[5,3,2],[5,4,5],[5,5,1],[5,6,4],[5,7,0],[5,7,7],[6,0,5],[6,1,1],[6,2,4],[6,3,0],[6,3,7],[6,4,3],[6,5,6],[6,6,2],[6,7,5],[7,0,3],[7,1,6],[7,2,2],[7,3,5],[7,4,1],[7,5,4],[7,6,0],[7,6,7],[7,7,3]],[[0,0,5],[0,1,1],[0,2,4],[0,3,0],[0,3,7],[0,4,3],[0,5,6],[0,6,2],[0,7,5],[1,0,3],[1,1,6],[1,2,2],[1,3,5],[1,4,1],[1,5,4],[1,6,0],[1,6,7],[1,7,3],[2,0,1],[2,1,4],[2,2,0],[2,2,7],[2,3,3],[2,4,6],[2,5,2],[2,6,5],[2,7,1],[3,0,6],[3,1,2],[3,2,5],[3,3,1],[3,4,4],[3,5,0],[3,5,7],[3,6,3],[3,7,6],[4,0,4],[4,1,0],[4,1,7],[4,2,3],[4,3,6],[4,4,2],[4,5,5],[4,6,1],[4,7,4],[5,0,2],[5,1,5],[5,2,1],[5,3,4],[5,4,0],[5,4,7],[5,5,3],[5,6,6],[5,7,2],[6,0,0],[6,0,7],[6,1,3],[6,2,6],[6,3,2],[6,4,5],[6,5,1],[6,6,4],[6,7,0],[6,7,7],[7,0,5],[7,1,1],[7,2,4],[7,3,0],[7,3,7],[7,4,3],[7,5,6],[7,6,2],[7,7,5]]]
def vec9 : List (List (List Nat)) := [[[0,0],[0,8],[1,5],[2,2],[3,7],[4,4],[5,1],[6,6],[7,3],[8,0],[8,8]],[[0,3],[1,0],[1,8],[2,5],[3,2],[4,7],[5,4],[6,1],[7,6],[8,3]],[[0,6],[1,3],[2,0],[2,8],[3,5],[4,2],[5,7],[6,4],[7,1],[8,6]],[[0,1],[1,6],[2,3],[3,0],[3,8],[4,5],[5,2],[6,7],[7,4],[8,1]],[[0,4],[1,1],[2,6],[3,3],[4,0],[4,8],[5,5],[6,2],[7,7],[8,4]],[[0,7],[1,4],[2,1],[3,6],[4,3],[5,0],[5,8],[6,5],[7,2],[8,7]],[[0,2],[1,7],[2,4],[3,1],[4,6],[5,3],[6,0],[6,8],[7,5],[8,2]],[[0,5],[1,2],[2,7],[3,4],[4,1],[5,6],[6,3],[7,0],[7,8],[8,5]]]
theorem isv2 : vecs 2 = vec2 := by decide +kernel
theorem rest2 : chkR 2 vec2 = true := by decide +kernel
theorem isv3 : vecs 3 = vec3 := by decide +kernel
theorem rest3 : chkR 3 vec3 = true := by decide +kernel
theorem isv4 : vecs 4 = vec4 := by decide +kernel
theorem rest4 : chkR 4 vec4 = true := by decide +kernel
theorem isv5 : vecs 5 = vec5 := by decide +kernel
theorem rest5 : chkR 5 vec5 = true := by decide +kernel
theorem isv7 : vecs 7 = vec7 := by decide +kernel
theorem rest7 : chkR 7 vec7 = true := by decide +kernel
theorem isv8 : vecs 8 = vec8 := by decide +kernel
theorem rest8 : chkR 8 vec8 = true := by decide +kernel
theorem isv9 : vecs 9 = vec9 := by decide +kernel
theorem rest9 : chkR 9 vec9 = true := by decide +kernel
theorem Qs_is {q : Nat} (h : q ∈ Qs) : q = 2 ∨ q = 3 ∨ q = 4 ∨ q = 5 ∨ q = 7 ∨ q = 8 ∨ q = 9 := by simpa [Qs] using h
theorem chkQ_all {q : Nat} (h : q ∈ Qs) : chkQ q = true := by
  rcases Qs_is h with e | e | e | e | e | e | e <;> subst e
  · exact sum2
  · exact sum3
  · exact sum4
  · exact sum5
  · exact sum7
  · exact sum8
  · exact sum9
theorem chkR_all {q : Nat} (h : q ∈ Qs) : chkR q (vecs q) = true := by
  rcases Qs_is h with e | e | e | e | e | e | e <;> subst e
  · rw [isv2]; exact rest2
  · rw [isv3]; exact rest3
  · rw [isv4]; exact rest4
  · rw [isv5]; exact rest5
  · rw [isv7]; exact rest7
  · rw [isv8]; exact rest8
  · rw [isv9]; exact rest9
theorem sumOk : SumOk := fun q hq d hd k hk => by
  have h1 := List.all_eq_true.mp (chkQ_all hq) d (List.mem_range.mpr (by omega))
  have h2 := List.all_eq_true.mp h1 k (List.mem_range.mpr (by omega))
  unfold chkS at h2
  rw [Bool.and_eq_true] at h2
  obtain ⟨d4, _⟩ := q_pow q hq
  obtain ⟨k80, _⟩ := k_pow d (by omega)
  rw [sum_zero hq (by omega) (by omega) h2.1]
  exact eq_of_beq h2.2
theorem restsOk : RestOk := fun q hq d hd k hk => by
  have h1 := List.all_eq_true.mp (chkR_all hq) d (List.mem_range.mpr (by omega))
  exact List.all_eq_true.mp h1 k (List.mem_range.mpr (by omega))
end Mo
/-! The end: what the top has written, told by facts; the table of digit_bar_in's code object is empty behind the top. -/
namespace Mo
open PySem PySem.Spec PyProof.Rows L2
structure Facts (K : PySem.W.Frag) (mg : Str → Option Value) : Prop where
  T : ∃ aF aP aW, Txt K mg aF aP aW
  is_whole_number : Df K mg "is_whole_number" s_is_whole_number ["value"]
  is_integer : Df K mg "is_integer" s_is_integer ["value"]
  is_within : Df K mg "is_within" s_is_within ["value", "least", "most"]
  is_from_zero : Df K mg "is_from_zero" s_is_from_zero ["value"]
  is_field_in : Df K mg "is_field_in" s_is_field_in ["value"]
  require_field : Df K mg "require_field" s_require_field ["q"]
  digits_in : Df K mg "digits_in" s_digits_in ["b", "k"]
  of_digits_in : Df K mg "of_digits_in" s_of_digits_in ["b", "row"]
  digit_sum_in : Df K mg "digit_sum_in" s_digit_sum_in ["b", "k"]
  shift_sums_in : Df K mg "shift_sums_in" s_shift_sums_in ["q", "k"]
  most_parts_in : Df K mg "most_parts_in" s_most_parts_in ["q", "k"]
  weights_of : Df K mg "weights_of" s_weights_of ["q"]
  vectors_of : Df K mg "vectors_of" s_vectors_of ["q"]
  units_of : Df K mg "units_of" s_units_of ["f", "row"]
  rest_of_units : Df K mg "rest_of_units" s_rest_of_units ["q", "units"]
  has_room : Df K mg "has_room" s_has_room ["q", "units", "n"]
  is_left_possible : Df K mg "is_left_possible" s_is_left_possible ["q", "vectors", "fixed", "free", "n"]
  with_unit : Df K mg "with_unit" s_with_unit ["units", "place", "digit"]
  least_rest : Df K mg "least_rest" s_least_rest ["q", "vectors", "whole", "n"]
  greatest_in : Df K mg "greatest_in" s_greatest_in ["q", "d", "k"]
  require_partings : Df K mg "require_partings" s_require_partings ["q", "d", "k"]
  parting : Df K mg "parting" s_parting ["q", "d", "k"]
  digit_bar : Df K mg "digit_bar" s_digit_bar ["q", "d", "k"]
  is_zero_sum : Df K mg "is_zero_sum" s_is_zero_sum ["q", "d", "k"]
  l_dice : Df K mg "_law_dice" s_l_dice ["_law_script", "_law_at"]
  l_roll : Df K mg "_law_roll" s_l_roll ["_law_dice_here", "_law_total"]
  l_one_of : Df K mg "_law_one_of" s_l_one_of ["_law_dice_here", "_law_items"]
  l_raised : Df K mg "_law_raised" s_l_raised ["_law_base", "_law_count"]
  l_digits : Df K mg "_law_digits" s_l_digits ["_law_base", "_law_number"]
  l_element_product : Df K mg "_law_element_product" s_l_element_product ["_law_p", "_law_f", "_law_one", "_law_other"]
  l_element_sum : Df K mg "_law_element_sum" s_l_element_sum ["_law_p", "_law_f", "_law_one", "_law_other"]
  l_field : Df K mg "_law_field" s_l_field ["_law_q_here"]
  l_trim : Df K mg "_law_trim" s_l_trim ["_law_row"]
  l_plus : Df K mg "_law_plus" s_l_plus ["_law_field_here", "_law_one", "_law_other"]
  l_product : Df K mg "_law_product" s_l_product ["_law_field_here", "_law_one", "_law_other"]
  l_stretched : Df K mg "_law_stretched" s_l_stretched ["_law_q_here", "_law_one", "_law_i"]
  l_power : Df K mg "_law_power" s_l_power ["_law_field_here", "_law_one", "_law_k"]
  l_lower : Df K mg "_law_lower" s_l_lower ["_law_q_here", "_law_d"]
  l_monics : Df K mg "_law_monics" s_l_monics ["_law_q_here", "_law_d"]
  l_q : Df K mg "_law_q" s_l_q ["_law_dice_here"]
  l_size : Df K mg "_law_size" s_l_size ["_law_q_here", "_law_most_here"]
  l_digit_sum : Df K mg "_law_digit_sum" s_l_digit_sum ["_law_base", "_law_number"]
  l_most : Df K mg "_law_most" s_l_most ["_law_field_here", "_law_k"]
  l_within : Df K mg "_law_within" s_l_within ["_law_p", "_law_k"]
  l_partings : Df K mg "_law_partings" s_l_partings ["_law_field_here", "_law_d", "_law_k"]
  l_small_k : Df K mg "_law_small_k" s_l_small_k ["_law_dice_here", "_law_q_here", "_law_most_here"]
  l_sum : Df K mg "_law_sum" s_l_sum ["_law_field_here", "_law_d", "_law_k"]
  l_is_parting : Df K mg "_law_is_parting" s_l_is_parting ["_law_field_here", "_law_d", "_law_k", "_law_value"]
  l_bars : Df K mg "_law_bars" s_l_bars ["_law_field_here", "_law_d", "_law_k"]
  l_paper_right : Df K mg "_law_paper_right" s_l_paper_right ["_law_field_here", "_law_d", "_law_k", "_law_is_due"]
  l_right : Df K mg "_law_right" s_l_right ["_law_dice_here"]
theorem law_ok {P0 : Program} {w : World} {K : PySem.W.Frag} {mg : Str → Option Value} {base : Heap} {c Pt f : Addr} {fd : FuncData} (F : Facts K mg) (dB : DfC K mg "digit_bar_in" s_digit_bar_in ["q", "d", "k"] c) (TB : GxR.TabB base mg c Pt) (FL : L2.Fun K "law" "law" s_law f fd) :
    FnOk P0 w K mg base L2.CX0 9 f fd ["_law_script"] (spLaw K Pt) := by
  obtain ⟨aF, aP, aW, T⟩ := F.T
  have c_is_whole_number := ok_is_whole_number (P := P0) (w := w) (base := base) T F.is_whole_number
  have c_is_integer := ok_is_integer (P := P0) (w := w) (base := base) T F.is_integer c_is_whole_number
  have c_is_within := ok_is_within (P := P0) (w := w) (base := base) T F.is_within c_is_whole_number
  have c_is_from_zero := ok_is_from_zero (P := P0) (w := w) (base := base) T F.is_from_zero c_is_integer
  have c_is_field_in := ok_is_field_in (P := P0) (w := w) (base := base) T F.is_field_in c_is_whole_number
  have c_require_field := ok_require_field (P := P0) (w := w) (base := base) T F.require_field c_is_field_in
  have c_digits_in := ok_digits_in (P := P0) (w := w) (base := base) T F.digits_in
  have c_of_digits_in := ok_of_digits_in (P := P0) (w := w) (base := base) T F.of_digits_in
  have c_digit_sum_in := ok_digit_sum_in (P := P0) (w := w) (base := base) T F.digit_sum_in
  have c_shift_sums_in := ok_shift_sums_in (P := P0) (w := w) (base := base) T F.shift_sums_in c_digit_sum_in
  have c_most_parts_in := ok_most_parts_in (P := P0) (w := w) (base := base) T F.most_parts_in c_shift_sums_in
  have c_weights_of := ok_weights_of (P := P0) (w := w) (base := base) T F.weights_of
  have c_units_of := ok_units_of (P := P0) (w := w) (base := base) T F.units_of
  have c_rest_of_units := ok_rest_of_units (P := P0) (w := w) (base := base) T F.rest_of_units c_weights_of
  have c_has_room := ok_has_room (P := P0) (w := w) (base := base) T F.has_room c_weights_of
  have c_is_left_possible := ok_is_left_possible (P := P0) (w := w) (base := base) T F.is_left_possible c_rest_of_units c_has_room
  have c_with_unit := ok_with_unit (P := P0) (w := w) (base := base) T F.with_unit
  have c_least_rest := ok_least_rest (P := P0) (w := w) (base := base) T F.least_rest c_digits_in c_units_of c_is_left_possible c_with_unit c_of_digits_in
  have c_require_partings := ok_require_partings (P := P0) (w := w) (base := base) T F.require_partings c_require_field c_is_within c_is_from_zero
  have c_is_zero_sum := ok_is_zero_sum (P := P0) (w := w) (base := base) T F.is_zero_sum c_require_partings c_most_parts_in
  have c_l_dice := ok_l_dice (P := P0) (w := w) (base := base) T F.l_dice
  have c_l_roll := ok_l_roll (P := P0) (w := w) (base := base) T F.l_roll
  have c_l_one_of := ok_l_one_of (P := P0) (w := w) (base := base) T F.l_one_of c_l_roll
  have c_l_raised := ok_l_raised (P := P0) (w := w) (base := base) T F.l_raised
  have c_l_digits := ok_l_digits (P := P0) (w := w) (base := base) T F.l_digits
  have c_l_element_product := ok_l_element_product (P := P0) (w := w) (base := base) T F.l_element_product c_l_digits
  have c_l_element_sum := ok_l_element_sum (P := P0) (w := w) (base := base) T F.l_element_sum
  have c_l_field := ok_l_field (P := P0) (w := w) (base := base) T F.l_field c_l_element_sum c_l_element_product
  have c_l_trim := ok_l_trim (P := P0) (w := w) (base := base) T F.l_trim
  have c_l_plus := ok_l_plus (P := P0) (w := w) (base := base) T F.l_plus c_l_trim
  have c_l_product := ok_l_product (P := P0) (w := w) (base := base) T F.l_product
  have c_l_stretched := ok_l_stretched (P := P0) (w := w) (base := base) T F.l_stretched c_l_raised
  have c_l_power := ok_l_power (P := P0) (w := w) (base := base) T F.l_power c_l_digits c_l_stretched c_l_product
  have c_l_lower := ok_l_lower (P := P0) (w := w) (base := base) T F.l_lower c_l_digits c_l_raised
  have c_l_monics := ok_l_monics (P := P0) (w := w) (base := base) T F.l_monics c_l_lower
  have c_l_q := ok_l_q (P := P0) (w := w) (base := base) T F.l_q c_l_one_of
  have c_l_size := ok_l_size (P := P0) (w := w) (base := base) T F.l_size c_l_raised
  have c_l_digit_sum := ok_l_digit_sum (P := P0) (w := w) (base := base) T F.l_digit_sum c_l_digits
  have c_l_most := ok_l_most (P := P0) (w := w) (base := base) T F.l_most c_l_digit_sum c_l_raised
  have c_l_within := ok_l_within (P := P0) (w := w) (base := base) T F.l_within c_l_digits
  have c_l_partings := ok_l_partings (P := P0) (w := w) (base := base) T F.l_partings c_l_within
  have c_l_small_k := ok_l_small_k (P := P0) (w := w) (base := base) T F.l_small_k c_l_roll c_l_raised c_l_size
  have c_l_sum := ok_l_sum (P := P0) (w := w) (base := base) T F.l_sum c_l_monics c_l_plus c_l_power
  have c_l_is_parting := ok_l_is_parting (P := P0) (w := w) (base := base) T F.l_is_parting c_l_digit_sum
  have c_l_bars := ok_l_bars (P := P0) (w := w) (base := base) T F.l_bars c_l_digit_sum c_l_raised
  have c_digit_bar_in := ok_digit_bar_in (P := P0) (w := w) (base := base) T TB dB c_shift_sums_in
  have c_vectors_of := ok_vectors_of (P := P0) (w := w) (base := base) T F.vectors_of c_rest_of_units
  have c_greatest_in := ok_greatest_in (P := P0) (w := w) (base := base) T F.greatest_in c_most_parts_in c_vectors_of c_least_rest
  have c_parting := ok_parting (P := P0) (w := w) (base := base) T F.parting c_require_partings c_greatest_in
  have c_digit_bar := ok_digit_bar (P := P0) (w := w) (base := base) T F.digit_bar c_require_partings c_digit_bar_in
  have c_l_paper_right := ok_l_paper_right (P := P0) (w := w) (base := base) T F.l_paper_right c_parting c_digit_bar c_is_zero_sum c_l_is_parting c_l_bars
  have c_l_right := ok_l_right (P := P0) (w := w) (base := base) sumOk restsOk T F.l_right c_l_q c_l_field c_l_roll c_l_size c_l_small_k c_l_sum c_l_most c_l_partings c_l_paper_right
  exact ok_law sumOk restsOk T FL c_l_right c_l_dice
/-! ### the head's facts -/
def dd (x : Str) (st : Stmt) : He.DefD := ⟨(x, none), x, x, defArgs st, defBody st, defScope st, [], []⟩
def fn0 : List He.DefD := [dd "is_whole_number" s_is_whole_number, dd "is_integer" s_is_integer, dd "is_within" s_is_within, dd "is_from_zero" s_is_from_zero, dd "is_field_in" s_is_field_in, dd "require_field" s_require_field, dd "digits_in" s_digits_in, dd "of_digits_in" s_of_digits_in, dd "digit_sum_in" s_digit_sum_in, dd "shift_sums_in" s_shift_sums_in, dd "most_parts_in" s_most_parts_in, dd "weights_of" s_weights_of, dd "vectors_of" s_vectors_of, dd "units_of" s_units_of, dd "rest_of_units" s_rest_of_units, dd "has_room" s_has_room, dd "is_left_possible" s_is_left_possible, dd "with_unit" s_with_unit, dd "least_rest" s_least_rest, dd "greatest_in" s_greatest_in]
def fn1 : List He.DefD := [dd "require_partings" s_require_partings, dd "parting" s_parting, dd "digit_bar" s_digit_bar, dd "is_zero_sum" s_is_zero_sum, dd "_law_dice" s_l_dice, dd "_law_roll" s_l_roll, dd "_law_one_of" s_l_one_of, dd "_law_raised" s_l_raised, dd "_law_digits" s_l_digits, dd "_law_element_product" s_l_element_product, dd "_law_element_sum" s_l_element_sum, dd "_law_field" s_l_field, dd "_law_trim" s_l_trim, dd "_law_plus" s_l_plus, dd "_law_product" s_l_product, dd "_law_stretched" s_l_stretched, dd "_law_power" s_l_power, dd "_law_lower" s_l_lower, dd "_law_monics" s_l_monics, dd "_law_q" s_l_q]
def fn2 : List He.DefD := [dd "_law_size" s_l_size, dd "_law_digit_sum" s_l_digit_sum, dd "_law_most" s_l_most, dd "_law_within" s_l_within, dd "_law_partings" s_l_partings, dd "_law_small_k" s_l_small_k, dd "_law_sum" s_l_sum, dd "_law_is_parting" s_l_is_parting, dd "_law_bars" s_l_bars, dd "_law_paper_right" s_l_paper_right, dd "_law_right" s_l_right, dd "digit_bar_in" s_digit_bar_in, dd "law" s_law]
def fnL : List He.DefD := fn0 ++ fn1 ++ fn2
theorem in_fn {d : He.DefD} (h : d ∈ fn0 ∨ d ∈ fn1 ∨ d ∈ fn2) : d ∈ fnL := by unfold fnL; rw [List.mem_append, List.mem_append]; rcases h with h | h | h; exact .inl (.inl h); exact .inl (.inr h); exact .inr h
def fa0 : List He.Fa := [.glo "is_whole_number", .glo "is_integer", .glo "is_within", .glo "is_from_zero", .glo "is_field_in", .glo "require_field", .glo "digits_in", .glo "of_digits_in", .glo "digit_sum_in", .glo "shift_sums_in", .glo "most_parts_in", .glo "weights_of", .glo "vectors_of", .glo "units_of", .glo "rest_of_units", .glo "has_room", .glo "is_left_possible", .glo "with_unit", .glo "least_rest", .glo "greatest_in"]
def fa1 : List He.Fa := [.glo "require_partings", .glo "parting", .glo "digit_bar", .glo "is_zero_sum", .glo "_law_dice", .glo "_law_roll", .glo "_law_one_of", .glo "_law_raised", .glo "_law_digits", .glo "_law_element_product", .glo "_law_element_sum", .glo "_law_field", .glo "_law_trim", .glo "_law_plus", .glo "_law_product", .glo "_law_stretched", .glo "_law_power", .glo "_law_lower", .glo "_law_monics", .glo "_law_q"]
def fa2 : List He.Fa := [.glo "_law_size", .glo "_law_digit_sum", .glo "_law_most", .glo "_law_within", .glo "_law_partings", .glo "_law_small_k", .glo "_law_sum", .glo "_law_is_parting", .glo "_law_bars", .glo "_law_paper_right", .glo "_law_right", .glo "digit_bar_in", .glo "law"]
def fa3 : List He.Fa := [.free "len", .free "abs", .free "min", .free "max", .free "sum", .free "all", .free "int", .free "bool", .free "tuple", .free "list", .free "isinstance", .free "sorted", .free "range", .free "enumerate", .free "zip", .free "next", .glo "FIELDS", .glo "PRIMES_BELOW", .glo "POWERS_BELOW", .int "SIXTY_DIGITS" 1000000000000000000000000000000000000000000000000000000000000, .int "MAX_PARTS" 300]
def faL : List He.Fa := fa0 ++ (fa1 ++ (fa2 ++ fa3))
theorem in_fa {d : He.Fa} (h : d ∈ fa0 ∨ d ∈ fa1 ∨ d ∈ fa2 ∨ d ∈ fa3) : d ∈ faL := by
  unfold faL
  rw [List.mem_append, List.mem_append, List.mem_append]
  exact h
/-- a dict of the top, its keys and values numbers -/
def entB : List DictEntry → List (Int × Int) → Bool
  | [], [] => true
  | e :: r, (k, v) :: l => (match e.key, e.val with
    | .int i _, .int j _ => decide (i = k) && (decide (j = v) && decide (e.hash = hashInt k))
    | _, _ => false) && entB r l
  | _, _ => false
def dicB (K : PySem.W.Frag) (x : Str) (l : List (Int × Int)) : Bool := match K.lookup (He.ga K x) with
  | some ⟨.type c, none, .dict es _, sl⟩ => decide (c = "dict") && (sl.isEmpty && entB es.toList l)
  | _ => false
theorem entB_cons {e : DictEntry} {r : List DictEntry} {k v : Int} {l : List (Int × Int)} (h : entB (e :: r) ((k, v) :: l) = true) : (∃ t, e.key = .int k t) ∧ (∃ t, e.val = .int v t) ∧ e.hash = hashInt k ∧ entB r l = true := by
  unfold entB at h
  rw [Bool.and_eq_true] at h
  obtain ⟨h1, h2⟩ := h
  split at h1
  · rename_i i ti j tj e1 e2
    rw [Bool.and_eq_true, Bool.and_eq_true] at h1
    obtain ⟨a, b, c⟩ := h1
    have a := of_decide_eq_true a
    have b := of_decide_eq_true b
    have c := of_decide_eq_true c
    subst a b
    exact ⟨⟨_, e1⟩, ⟨_, e2⟩, c, h2⟩
  · cases h1
theorem entB_keys : ∀ {es : List DictEntry} {l : List (Int × Int)}, entB es l = true → ∀ e ∈ es, ∃ i t, e.key = .int i t ∧ e.hash = hashInt i
  | [], l, _, e, he => by cases he
  | x :: r, [], h, e, he => by cases h
  | x :: r, (k, v) :: l, h, e, he => by
    obtain ⟨⟨t, h1⟩, _, h3, h4⟩ := entB_cons h
    rcases List.mem_cons.mp he with q | q
    · rw [q]; exact ⟨k, t, h1, h3⟩
    · exact entB_keys h4 e q
theorem entB_find : ∀ {es : List DictEntry} {l : List (Int × Int)}, entB es l = true → ∀ k v, l.find? (fun p => p.1 == k) = some (k, v) → ∃ u, (es.find? fun e => Value.isInt k e.key).map (·.val) = some u ∧ RelV (.int v) u
  | [], [], _, k, v, h => by cases h
  | [], _ :: _, h, _, _, _ => by cases h
  | x :: r, [], h, _, _, _ => by cases h
  | x :: r, (a, b) :: l, h, k, v, hf => by
    obtain ⟨⟨t, h1⟩, ⟨t2, h2⟩, _, h4⟩ := entB_cons h
    rw [List.find?_cons] at hf
    rw [List.find?_cons, h1]
    cases e : (a == k) with
    | true =>
      dsimp only at hf
      rw [e] at hf
      have hf2 : (a, b) = (k, v) := Option.some.inj hf
      injection hf2 with e1 e2
      have ei : Value.isInt k (.int a t) = true := e
      rw [ei]
      exact ⟨x.val, rfl, t2, by rw [h2, e2]⟩
    | false =>
      dsimp only at hf
      rw [e] at hf
      have ei : Value.isInt k (.int a t) = false := e
      rw [ei]
      exact entB_find h4 k v hf
theorem dicB_ok {K : PySem.W.Frag} {x : Str} {g : Nat → Nat} (h : dicB K x [(2, (g 2 : Nat)), (3, (g 3 : Nat)), (4, (g 4 : Nat)), (5, (g 5 : Nat)), (7, (g 7 : Nat)), (8, (g 8 : Nat)), (9, (g 9 : Nat))] = true) :
    KIntD K (He.ga K x) fun i => if 0 ≤ i ∧ i.toNat ∈ Qs then some (vn (g i.toNat)) else none := by
  unfold dicB at h
  split at h
  · rename_i c es n sl e
    rw [Bool.and_eq_true, Bool.and_eq_true] at h
    obtain ⟨h1, h2, h3⟩ := h
    have e1 : c = "dict" := of_decide_eq_true h1
    have e2 : sl = #[] := Array.isEmpty_iff.mp h2
    subst e1 e2
    refine ⟨es, n, e, fun z hz => entB_keys h3 z (by simpa using hz), fun i v hv => ?_⟩
    dsimp only at hv
    by_cases hq : 0 ≤ i ∧ i.toNat ∈ Qs
    · rw [if_pos hq] at hv
      obtain rfl := Option.some.inj hv
      obtain ⟨h0, hq⟩ := hq
      obtain ⟨m, rfl⟩ : ∃ m : Nat, i = (m : Int) := ⟨i.toNat, by omega⟩
      rw [Int.toNat_natCast] at hq ⊢
      have fnd : findBy Value.isInt es (m : Int) = (es.toList.find? fun e => Value.isInt (m : Int) e.key).map (·.val) := by
        unfold findBy
        rw [← Array.find?_toList]
      rw [fnd]
      refine entB_find h3 (m : Int) ((g m : Nat) : Int) ?_
      rcases Qs_is hq with e | e | e | e | e | e | e <;> subst e <;> rfl
    · rw [if_neg hq] at hv
      cases hv
  · cases h
def exL (K : PySem.W.Frag) : Bool := He.tupB K "FIELDS" [.int 2, .int 3, .int 4, .int 5, .int 7, .int 8, .int 9] && (dicB K "PRIMES_BELOW" [(2, (pOf 2 : Nat)), (3, (pOf 3 : Nat)), (4, (pOf 4 : Nat)), (5, (pOf 5 : Nat)), (7, (pOf 7 : Nat)), (8, (pOf 8 : Nat)), (9, (pOf 9 : Nat))] && dicB K "POWERS_BELOW" [(2, (fOf 2 : Nat)), (3, (fOf 3 : Nat)), (4, (fOf 4 : Nat)), (5, (fOf 5 : Nat)), (7, (fOf 7 : Nat)), (8, (fOf 8 : Nat)), (9, (fOf 9 : Nat))])
def tfL : List He.Defn := [("digit_bar_in", none)]
abbrev hk : PySem.W.Hook := He.hookX 3 faL fnL [] tfL exL
def obL (s : PySem.W.SharedT) : He.AlX := He.obsX 3 faL fnL [] tfL exL (HandSHeadRun.getT s)
theorem ob_eq (s : PySem.W.SharedT) : obL s = hk.obs s.abs := He.obsX_eq (HandSHeadRun.getT_eq s)
def loose0 : List Str := ["MonicError", "InvalidField", "InvalidNumber", "FIELDS", "PRIMES_BELOW", "POWERS_BELOW", "SIXTY_DIGITS", "is_whole_number", "is_integer", "is_within", "is_from_zero", "is_field_in", "require_field", "digits_in", "of_digits_in", "digit_sum_in", "shift_sums_in", "most_parts_in", "MAX_PARTS", "weights_of", "vectors_of", "units_of", "rest_of_units", "has_room", "is_left_possible"]
def loose1 : List Str := ["with_unit", "least_rest", "greatest_in", "digit_bar_in", "require_partings", "parting", "digit_bar", "is_zero_sum", "_law_dice", "_law_roll", "_law_one_of", "_law_raised", "_law_digits", "_law_element_product", "_law_element_sum", "_law_field", "_law_trim", "_law_plus", "_law_product", "_law_stretched", "_law_power", "_law_lower", "_law_monics", "_law_q", "_law_size"]
def loose2 : List Str := ["_law_digit_sum", "_law_most", "_law_within", "_law_partings", "_law_small_k", "_law_sum", "_law_is_parting", "_law_bars", "_law_paper_right", "_law_right"]
def looseL : List Str := loose0 ++ loose1 ++ loose2
section
variable {K : PySem.W.Frag} {h : Heap} {mg : Str → Option Value} {w : World}
theorem fun_of {x : Str} {st : Stmt} {f : Addr} {fd : FuncData} (F : FunD K x x (defArgs st) (defBody st) (defScope st) [] [] f fd) : L2.Fun K x x st f fd := by
  obtain ⟨oc, od, dV, kV, doc, pm, an, cdv, ct, osl, e, lk, hc, hd, _⟩ := F.ex
  rcases hd with ⟨_, e2⟩ | ⟨e2, _⟩
  · subst e2
    exact ⟨⟨oc, od, kV, doc, pm, an, cdv, ct, osl, e, lk, hc⟩, F.kp⟩
  · exact absurd rfl e2
theorem df_of {x : Str} {st : Stmt} {ps : List Str} (X : K.In h) (G : h.Ns mainGlobals mg) (c : He.SaysX faL fnL [] tfL exL w h K) (hd : dd x st ∈ fnL) (hg : He.Fa.glo x ∈ faL)
    (b : ∀ (kV doc pm : Value) (an : Option Addr) (cdv ct : Value) (us : List Value), us.length = ps.length → bindArgs (PySem.W.fnOf x x (defArgs st) (defBody st) (defScope st) .none kV doc pm an cdv ct) ⟨us, []⟩ = pure (ps.zip us)) : Df K mg x st ps := by
  obtain ⟨fd, F⟩ := c.t.d.defs hd
  have F' : FunD K x x (defArgs st) (defBody st) (defScope st) [] [] (He.ga K x) fd := F
  exact ⟨_, fd, fun_of F', He.glo_ok X G (c.t.d.facts hg), (fun_of F').binds b⟩
theorem facts_of (X : K.In h) (G : h.Ns mainGlobals mg) (c : He.SaysX faL fnL [] tfL exL w h K) : Facts K mg := by
  have e60 : (10 : Int) ^ 60 = 1000000000000000000000000000000000000000000000000000000000000 := by decide +kernel
  have hex := c.more
  unfold exL at hex
  rw [Bool.and_eq_true, Bool.and_eq_true] at hex
  obtain ⟨x1, x2, x3⟩ := hex
  have fr : ∀ {x : Str}, He.Fa.free x ∈ fa3 → mg x = none := fun hx => He.free_ok X G (c.t.d.facts (in_fa (.inr (.inr (.inr hx)))))
  have gl : ∀ {x : Str}, He.Fa.glo x ∈ fa3 → mg x = some (.ref (He.ga K x)) := fun hx => He.glo_ok X G (c.t.d.facts (in_fa (.inr (.inr (.inr hx)))))
  have it : ∀ {x : Str} {i : Int}, He.Fa.int x i ∈ fa3 → ∃ t, mg x = some (.int i t) := fun hx => He.int_ok X G (c.t.d.facts (in_fa (.inr (.inr (.inr hx)))))
  refine ⟨⟨He.ga K "FIELDS", He.ga K "PRIMES_BELOW", He.ga K "POWERS_BELOW", fr (by unfold fa3; simp), fr (by unfold fa3; simp), fr (by unfold fa3; simp), fr (by unfold fa3; simp), fr (by unfold fa3; simp), fr (by unfold fa3; simp), fr (by unfold fa3; simp), fr (by unfold fa3; simp), fr (by unfold fa3; simp), fr (by unfold fa3; simp), fr (by unfold fa3; simp), fr (by unfold fa3; simp), fr (by unfold fa3; simp), fr (by unfold fa3; simp), fr (by unfold fa3; simp), fr (by unfold fa3; simp), ⟨_, gl (by unfold fa3; simp), rfl⟩, fun H => He.tupB_ok x1 H, ⟨_, gl (by unfold fa3; simp), rfl⟩, dicB_ok x2, ⟨_, gl (by unfold fa3; simp), rfl⟩, dicB_ok x3, ?_, ?_⟩, ?_, ?_, ?_, ?_, ?_, ?_, ?_, ?_, ?_, ?_, ?_, ?_, ?_, ?_, ?_, ?_, ?_, ?_, ?_, ?_, ?_, ?_, ?_, ?_, ?_, ?_, ?_, ?_, ?_, ?_, ?_, ?_, ?_, ?_, ?_, ?_, ?_, ?_, ?_, ?_, ?_, ?_, ?_, ?_, ?_, ?_, ?_, ?_, ?_, ?_, ?_⟩
  · rw [e60]
    obtain ⟨t, e⟩ := it (x := "SIXTY_DIGITS") (i := 1000000000000000000000000000000000000000000000000000000000000) (by unfold fa3; simp)
    exact ⟨_, e, t, rfl⟩
  · obtain ⟨t, e⟩ := it (x := "MAX_PARTS") (i := 300) (by unfold fa3; simp)
    exact ⟨_, e, t, rfl⟩
  · exact df_of X G c (in_fn (.inl (by unfold fn0; simp))) (in_fa (.inl (by unfold fa0; simp))) fun _ _ _ _ _ _ us hl => match us, hl with | [_], _ => rfl
  · exact df_of X G c (in_fn (.inl (by unfold fn0; simp))) (in_fa (.inl (by unfold fa0; simp))) fun _ _ _ _ _ _ us hl => match us, hl with | [_], _ => rfl
  · exact df_of X G c (in_fn (.inl (by unfold fn0; simp))) (in_fa (.inl (by unfold fa0; simp))) fun _ _ _ _ _ _ us hl => match us, hl with | [_, _, _], _ => rfl
  · exact df_of X G c (in_fn (.inl (by unfold fn0; simp))) (in_fa (.inl (by unfold fa0; simp))) fun _ _ _ _ _ _ us hl => match us, hl with | [_], _ => rfl
  · exact df_of X G c (in_fn (.inl (by unfold fn0; simp))) (in_fa (.inl (by unfold fa0; simp))) fun _ _ _ _ _ _ us hl => match us, hl with | [_], _ => rfl
  · exact df_of X G c (in_fn (.inl (by unfold fn0; simp))) (in_fa (.inl (by unfold fa0; simp))) fun _ _ _ _ _ _ us hl => match us, hl with | [_], _ => rfl
  · exact df_of X G c (in_fn (.inl (by unfold fn0; simp))) (in_fa (.inl (by unfold fa0; simp))) fun _ _ _ _ _ _ us hl => match us, hl with | [_, _], _ => rfl
  · exact df_of X G c (in_fn (.inl (by unfold fn0; simp))) (in_fa (.inl (by unfold fa0; simp))) fun _ _ _ _ _ _ us hl => match us, hl with | [_, _], _ => rfl
  · exact df_of X G c (in_fn (.inl (by unfold fn0; simp))) (in_fa (.inl (by unfold fa0; simp))) fun _ _ _ _ _ _ us hl => match us, hl with | [_, _], _ => rfl
  · exact df_of X G c (in_fn (.inl (by unfold fn0; simp))) (in_fa (.inl (by unfold fa0; simp))) fun _ _ _ _ _ _ us hl => match us, hl with | [_, _], _ => rfl
  · exact df_of X G c (in_fn (.inl (by unfold fn0; simp))) (in_fa (.inl (by unfold fa0; simp))) fun _ _ _ _ _ _ us hl => match us, hl with | [_, _], _ => rfl
  · exact df_of X G c (in_fn (.inl (by unfold fn0; simp))) (in_fa (.inl (by unfold fa0; simp))) fun _ _ _ _ _ _ us hl => match us, hl with | [_], _ => rfl
  · exact df_of X G c (in_fn (.inl (by unfold fn0; simp))) (in_fa (.inl (by unfold fa0; simp))) fun _ _ _ _ _ _ us hl => match us, hl with | [_], _ => rfl
  · exact df_of X G c (in_fn (.inl (by unfold fn0; simp))) (in_fa (.inl (by unfold fa0; simp))) fun _ _ _ _ _ _ us hl => match us, hl with | [_, _], _ => rfl
  · exact df_of X G c (in_fn (.inl (by unfold fn0; simp))) (in_fa (.inl (by unfold fa0; simp))) fun _ _ _ _ _ _ us hl => match us, hl with | [_, _], _ => rfl
  · exact df_of X G c (in_fn (.inl (by unfold fn0; simp))) (in_fa (.inl (by unfold fa0; simp))) fun _ _ _ _ _ _ us hl => match us, hl with | [_, _, _], _ => rfl
  · exact df_of X G c (in_fn (.inl (by unfold fn0; simp))) (in_fa (.inl (by unfold fa0; simp))) fun _ _ _ _ _ _ us hl => match us, hl with | [_, _, _, _, _], _ => rfl
  · exact df_of X G c (in_fn (.inl (by unfold fn0; simp))) (in_fa (.inl (by unfold fa0; simp))) fun _ _ _ _ _ _ us hl => match us, hl with | [_, _, _], _ => rfl
  · exact df_of X G c (in_fn (.inl (by unfold fn0; simp))) (in_fa (.inl (by unfold fa0; simp))) fun _ _ _ _ _ _ us hl => match us, hl with | [_, _, _, _], _ => rfl
  · exact df_of X G c (in_fn (.inl (by unfold fn0; simp))) (in_fa (.inl (by unfold fa0; simp))) fun _ _ _ _ _ _ us hl => match us, hl with | [_, _, _], _ => rfl
  · exact df_of X G c (in_fn (.inr (.inl (by unfold fn1; simp)))) (in_fa (.inr (.inl (by unfold fa1; simp)))) fun _ _ _ _ _ _ us hl => match us, hl with | [_, _, _], _ => rfl
  · exact df_of X G c (in_fn (.inr (.inl (by unfold fn1; simp)))) (in_fa (.inr (.inl (by unfold fa1; simp)))) fun _ _ _ _ _ _ us hl => match us, hl with | [_, _, _], _ => rfl
  · exact df_of X G c (in_fn (.inr (.inl (by unfold fn1; simp)))) (in_fa (.inr (.inl (by unfold fa1; simp)))) fun _ _ _ _ _ _ us hl => match us, hl with | [_, _, _], _ => rfl
  · exact df_of X G c (in_fn (.inr (.inl (by unfold fn1; simp)))) (in_fa (.inr (.inl (by unfold fa1; simp)))) fun _ _ _ _ _ _ us hl => match us, hl with | [_, _, _], _ => rfl
  · exact df_of X G c (in_fn (.inr (.inl (by unfold fn1; simp)))) (in_fa (.inr (.inl (by unfold fa1; simp)))) fun _ _ _ _ _ _ us hl => match us, hl with | [_, _], _ => rfl
  · exact df_of X G c (in_fn (.inr (.inl (by unfold fn1; simp)))) (in_fa (.inr (.inl (by unfold fa1; simp)))) fun _ _ _ _ _ _ us hl => match us, hl with | [_, _], _ => rfl
  · exact df_of X G c (in_fn (.inr (.inl (by unfold fn1; simp)))) (in_fa (.inr (.inl (by unfold fa1; simp)))) fun _ _ _ _ _ _ us hl => match us, hl with | [_, _], _ => rfl
  · exact df_of X G c (in_fn (.inr (.inl (by unfold fn1; simp)))) (in_fa (.inr (.inl (by unfold fa1; simp)))) fun _ _ _ _ _ _ us hl => match us, hl with | [_, _], _ => rfl
  · exact df_of X G c (in_fn (.inr (.inl (by unfold fn1; simp)))) (in_fa (.inr (.inl (by unfold fa1; simp)))) fun _ _ _ _ _ _ us hl => match us, hl with | [_, _], _ => rfl
  · exact df_of X G c (in_fn (.inr (.inl (by unfold fn1; simp)))) (in_fa (.inr (.inl (by unfold fa1; simp)))) fun _ _ _ _ _ _ us hl => match us, hl with | [_, _, _, _], _ => rfl
  · exact df_of X G c (in_fn (.inr (.inl (by unfold fn1; simp)))) (in_fa (.inr (.inl (by unfold fa1; simp)))) fun _ _ _ _ _ _ us hl => match us, hl with | [_, _, _, _], _ => rfl
  · exact df_of X G c (in_fn (.inr (.inl (by unfold fn1; simp)))) (in_fa (.inr (.inl (by unfold fa1; simp)))) fun _ _ _ _ _ _ us hl => match us, hl with | [_], _ => rfl
  · exact df_of X G c (in_fn (.inr (.inl (by unfold fn1; simp)))) (in_fa (.inr (.inl (by unfold fa1; simp)))) fun _ _ _ _ _ _ us hl => match us, hl with | [_], _ => rfl
  · exact df_of X G c (in_fn (.inr (.inl (by unfold fn1; simp)))) (in_fa (.inr (.inl (by unfold fa1; simp)))) fun _ _ _ _ _ _ us hl => match us, hl with | [_, _, _], _ => rfl
  · exact df_of X G c (in_fn (.inr (.inl (by unfold fn1; simp)))) (in_fa (.inr (.inl (by unfold fa1; simp)))) fun _ _ _ _ _ _ us hl => match us, hl with | [_, _, _], _ => rfl
  · exact df_of X G c (in_fn (.inr (.inl (by unfold fn1; simp)))) (in_fa (.inr (.inl (by unfold fa1; simp)))) fun _ _ _ _ _ _ us hl => match us, hl with | [_, _, _], _ => rfl
  · exact df_of X G c (in_fn (.inr (.inl (by unfold fn1; simp)))) (in_fa (.inr (.inl (by unfold fa1; simp)))) fun _ _ _ _ _ _ us hl => match us, hl with | [_, _, _], _ => rfl
  · exact df_of X G c (in_fn (.inr (.inl (by unfold fn1; simp)))) (in_fa (.inr (.inl (by unfold fa1; simp)))) fun _ _ _ _ _ _ us hl => match us, hl with | [_, _], _ => rfl
  · exact df_of X G c (in_fn (.inr (.inl (by unfold fn1; simp)))) (in_fa (.inr (.inl (by unfold fa1; simp)))) fun _ _ _ _ _ _ us hl => match us, hl with | [_, _], _ => rfl
  · exact df_of X G c (in_fn (.inr (.inl (by unfold fn1; simp)))) (in_fa (.inr (.inl (by unfold fa1; simp)))) fun _ _ _ _ _ _ us hl => match us, hl with | [_], _ => rfl
  · exact df_of X G c (in_fn (.inr (.inr (by unfold fn2; simp)))) (in_fa (.inr (.inr (.inl (by unfold fa2; simp))))) fun _ _ _ _ _ _ us hl => match us, hl with | [_, _], _ => rfl
  · exact df_of X G c (in_fn (.inr (.inr (by unfold fn2; simp)))) (in_fa (.inr (.inr (.inl (by unfold fa2; simp))))) fun _ _ _ _ _ _ us hl => match us, hl with | [_, _], _ => rfl
  · exact df_of X G c (in_fn (.inr (.inr (by unfold fn2; simp)))) (in_fa (.inr (.inr (.inl (by unfold fa2; simp))))) fun _ _ _ _ _ _ us hl => match us, hl with | [_, _], _ => rfl
  · exact df_of X G c (in_fn (.inr (.inr (by unfold fn2; simp)))) (in_fa (.inr (.inr (.inl (by unfold fa2; simp))))) fun _ _ _ _ _ _ us hl => match us, hl with | [_, _], _ => rfl
  · exact df_of X G c (in_fn (.inr (.inr (by unfold fn2; simp)))) (in_fa (.inr (.inr (.inl (by unfold fa2; simp))))) fun _ _ _ _ _ _ us hl => match us, hl with | [_, _, _], _ => rfl
  · exact df_of X G c (in_fn (.inr (.inr (by unfold fn2; simp)))) (in_fa (.inr (.inr (.inl (by unfold fa2; simp))))) fun _ _ _ _ _ _ us hl => match us, hl with | [_, _, _], _ => rfl
  · exact df_of X G c (in_fn (.inr (.inr (by unfold fn2; simp)))) (in_fa (.inr (.inr (.inl (by unfold fa2; simp))))) fun _ _ _ _ _ _ us hl => match us, hl with | [_, _, _], _ => rfl
  · exact df_of X G c (in_fn (.inr (.inr (by unfold fn2; simp)))) (in_fa (.inr (.inr (.inl (by unfold fa2; simp))))) fun _ _ _ _ _ _ us hl => match us, hl with | [_, _, _, _], _ => rfl
  · exact df_of X G c (in_fn (.inr (.inr (by unfold fn2; simp)))) (in_fa (.inr (.inr (.inl (by unfold fa2; simp))))) fun _ _ _ _ _ _ us hl => match us, hl with | [_, _, _], _ => rfl
  · exact df_of X G c (in_fn (.inr (.inr (by unfold fn2; simp)))) (in_fa (.inr (.inr (.inl (by unfold fa2; simp))))) fun _ _ _ _ _ _ us hl => match us, hl with | [_, _, _, _], _ => rfl
  · exact df_of X G c (in_fn (.inr (.inr (by unfold fn2; simp)))) (in_fa (.inr (.inr (.inl (by unfold fa2; simp))))) fun _ _ _ _ _ _ us hl => match us, hl with | [_], _ => rfl
theorem end_mk {l : PySem.W.OpenLaw} {fa : Addr} {n : Nat} (X : K.In h) (G : h.Ns mainGlobals mg) (hfa : mg "law" = some (.ref fa)) (c : He.SaysX faL fnL [] tfL exL w h K) : LamX.LawAtS l w K L2.CX0 9 n "_law_script" mg fa h := by
  have F := facts_of X G c
  obtain ⟨fdL, FL0⟩ := c.t.d.defs (in_fn (.inr (.inr (by unfold fn2; simp))) : dd "law" s_law ∈ fnL)
  have FL : FunD K "law" "law" (defArgs s_law) (defBody s_law) (defScope s_law) [] [] (He.ga K "law") fdL := FL0
  have gL : mg "law" = some (.ref (He.ga K "law")) := He.glo_ok X G (c.t.d.facts (in_fa (.inr (.inr (.inl (by unfold fa2; simp))))))
  have e := hfa.symm.trans gL
  cases e
  have bL := FunD.bindsA (ps := ["_law_script"]) FL fun _ _ _ _ _ _ us hl => match us, hl with | [_], _ => rfl
  obtain ⟨fdB, FB0⟩ := c.t.d.defs (in_fn (.inr (.inr (by unfold fn2; simp))) : dd "digit_bar_in" s_digit_bar_in ∈ fnL)
  have FB : FunD K "digit_bar_in" "digit_bar_in" (defArgs s_digit_bar_in) (defBody s_digit_bar_in) (defScope s_digit_bar_in) [] [] (He.ga K "digit_bar_in") fdB := FB0
  have gB : mg "digit_bar_in" = some (.ref (He.ga K "digit_bar_in")) := He.glo_ok X G (c.t.d.facts (in_fa (.inr (.inr (.inl (by unfold fa2; simp))))))
  have mt : (("digit_bar_in", none) : He.Defn) ∈ tfL := List.mem_singleton_self _
  have dB : DfC K mg "digit_bar_in" s_digit_bar_in ["q", "d", "k"] (He.cT K ("digit_bar_in", none)).1 := by
    refine ⟨_, fdB, fun_of FB, ?_, gB, (fun_of FB).binds fun _ _ _ _ _ _ us hl => match us, hl with | [_, _, _], _ => rfl⟩
    obtain ⟨oc, od, dV, kV, doc, pm, an, cdv, ct, osl, e, lk, hc, _, _⟩ := FB.ex
    obtain ⟨c0, ec⟩ := He.codeIn_ref hc
    have hfc : fdB.code = .ref c0 := by rw [e]; exact ec
    have z := He.codeOf_eq (p := ("digit_bar_in", none)) lk hfc
    rw [hfc]
    exact congrArg Value.ref z.symm
  have one : ∀ p ∈ [He.cT K ("digit_bar_in", none)], p = He.cT K ("digit_bar_in", none) := fun p hp => List.mem_singleton.mp hp
  refine ⟨fdL, [He.cT K ("digit_bar_in", none)], spLaw K (He.cT K ("digit_bar_in", none)).2, ?_, ?_, ?_, fun s u => bL s [u] rfl, ?_, ?_⟩
  · intro p hp; rw [one p hp]; exact c.empty _ mt
  · intro p hp; rw [one p hp]; exact c.out _ mt
  · intro p hp; rw [one p hp]; exact PySem.W.codeHd_of_K X (c.hd _ mt)
  · intro H a ns _ _ hT hS
    exact ⟨a, ns, rfl, hS, ⟨#[], hT _ (List.mem_singleton_self _), trivial⟩, fun _ => rfl⟩
  · intro base _ _ hT
    obtain ⟨b1, b2, b3⟩ := hT _ (List.mem_singleton_self _)
    exact law_ok F dB ⟨b1, b2, b3⟩ (fun_of FL)
end
abbrev rowL : PySem.W.OpenRow := PySem.W.OpenLaw.row PySem.Challenge.rw_monicsums_k17_whole_zero_sums_partings_a
end Mo
set_option maxHeartbeats 0
namespace Mo
theorem runF (w : PySem.World) : HandSHeadRun.RunEq rowL (PySem.W.view rowL.prog [65]) hk obL 4000 looseL (w.withFollow "special-get-raises" false) := by
  intro os
  kernel_rfl
theorem runT (w : PySem.World) : HandSHeadRun.RunEq rowL (PySem.W.view rowL.prog [65]) hk obL 4000 looseL (w.withFollow "special-get-raises" true) := by
  intro os
  kernel_rfl
theorem runL (w : PySem.World) : HandSHeadRun.RunEq rowL (PySem.W.view rowL.prog [65]) hk obL 4000 looseL w :=
  PySem.W.byRow2 "special-get-raises" (P := fun w => HandSHeadRun.RunEq rowL (PySem.W.view rowL.prog [65]) hk obL 4000 looseL w) runF runT w
end Mo
open PySem PySem.W PySem.Calls PyProof.Rows in
set_option maxRecDepth 100000 in
set_option maxHeartbeats 0 in
theorem PySem.Challenge.cw_monicsums_k17_whole_zero_sums_partings_a_holds : PySem.Challenge.rw_monicsums_k17_whole_zero_sums_partings_a.Holds := by
  w_on; o_law
  refine HandSHeadRun.head_any (r := Mo.rowL) (q := PySem.W.view Mo.rowL.prog [65]) (H := Mo.hk) (ob := Mo.obL) (M := 4000) (loose := Mo.looseL) (d := HandSHeadRun.topDef Mo.rowL.prog 65) (kwd := []) Mo.ob_eq
    (by kernel_rfl) (fun s => by kernel_rfl) Mo.runL (by kernel_rfl) (by kernel_rfl) (by kernel_rfl) (by rfl) (by first | assumption | decide +kernel) (by decide +kernel) ⟨rfl, rfl, rfl, rfl, rfl, by decide +kernel⟩ ?hw ?hc
  case hw => w_witness2
  case hc =>
    refine LamX.walk_ofTsE (l := PySem.Challenge.rw_monicsums_k17_whole_zero_sums_partings_a) (n := 63) (k := 9) (x := "_law_script") (CX := fun _ => L2.CX0) rfl (by decide) (by kernel_rfl) ⟨rfl, by decide, by decide⟩ ?F (fun _ _ _ _ _ z => z)
    intro w mg fa h Y G hmg0
    obtain ⟨K, KX, c⟩ := Y
    have hmg : mg ("law" : PySem.Str) = some (.ref fa) := by
      have e : (HandSHeadRun.topDef Mo.rowL.prog 65).name = ("law" : PySem.Str) := by kernel_rfl
      rw [← e]
      exact hmg0
    exact ⟨K, KX, Mo.end_mk KX G hmg c⟩
