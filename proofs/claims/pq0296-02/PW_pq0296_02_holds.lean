import PyProof.Rows.All
import Wide.All
import OpenK.AllK
import Wide.FinOn
import PySem.Challenge.RW_pq0296_02
set_option Elab.async false
section
namespace Mine
inductive PV where
 | undef | none | bool (b : Bool) | int (i : Int) | str (n : Nat) | list (l : List PV) | tup (l : List PV) | obj (a : Nat)
 deriving Inhabited
inductive AObj where
 | list (l : List PV)
 | inst (c : Nat) (fs : List (Nat × PV))
 | dict (kvs : List (Int × PV))
abbrev Sto := Nat → Option AObj
def Sto.set (σ : Sto) (a : Nat) (o : AObj) : Sto := fun x => if x = a then some o else σ x
inductive BOp where | add | sub | mul | fdiv | mod
inductive COp where | eq | ne | lt | le | gt | ge | is | isnot | isin | notin
inductive Blt where | len | min | max | abs | sorted | copy
inductive Tgt where | var (i : Nat) | tup (l : List Tgt)
mutual
inductive ME where
 | int (i : Int) | bool (b : Bool) | none | str (n : Nat)
 | var (i : Nat) | glob (g : Nat)
 | bin (m : Bool) (op : BOp) (a b : ME)
 | cmp (op : COp) (a b : ME) | cmp2 (op1 op2 : COp) (a b c : ME)
 | and (a b : ME) | or (a b : ME) | not (a : ME)
 | ite (c a b : ME)
 | list (m : Bool) (es : List ME) | tup (es : List ME) | edict
 | attr (e : ME) (n : Nat)
 | sub (e i : ME) | slice (e : ME) (lo hi : Option ME) | rev (e : ME)
 | call (f : Nat) (args : List ME) | new (c : Nat) (args : List ME) | meth (e : ME) (n : Nat) (args : List ME)
 | blt (b : Blt) (args : List ME)
 | append (e x : ME) | extend (e x : ME) | pop (e i : ME)
 | comp (m : Bool) (k : Nat) (elt : ME) (t : Tgt) (it : MI) (conds : List ME)
inductive MI where
 | expr (e : ME) | range (e : ME) | zip (a b : ME) | enum (a : ME)
end
inductive MS where
 | assign (t : Tgt) (e : ME)
 | setattr (o : ME) (n : Nat) (e : ME)
 | setitem (o i e : ME)
 | setslice (o lo hi e : ME)
 | expr (e : ME)
 | ite (c : ME) (a b : List MS)
 | while (c : ME) (b : List MS)
 | for (t : Tgt) (it : MI) (b : List MS)
 | ret (e : ME)
 | stuck
abbrev KV := PV → Sto → Prop
abbrev Spec := Nat → List PV → Sto → KV → Prop
structure AFun where
 nargs : Nat
 nvars : Nat
 dflts : List PV
 body : List MS
structure Tabs where
 fn : Nat → Option AFun
 glob : Nat → PV
 meth : Nat → Nat → Option Nat
 init : Nat → Option Nat
def big : Nat := 16777216
def elems (σ : Sto) : PV → Option (List PV)
 | .list l => some l
 | .obj a => match σ a with | some (.list l) => some l | _ => Option.none
 | _ => Option.none
def ivs : List PV → Option (List Int)
 | [] => some []
 | .int i :: r => (ivs r).map (i :: ·)
 | _ :: _ => Option.none
def ivss : List PV → Option (List (List Int))
 | [] => some []
 | .list l :: r => match ivs l, ivss r with | some a, some b => some (a :: b) | _, _ => Option.none
 | _ :: _ => Option.none
def listEq (a b : List PV) : Option Bool :=
 match ivs a, ivs b with
 | some x, some y => some (x == y)
 | _, _ => match ivss a, ivss b with
  | some x, some y => some (x == y)
  | _, _ => if b.isEmpty then some a.isEmpty else Option.none
def valEq (σ : Sto) : PV → PV → Option Bool
 | .int i, .int j => some (i == j)
 | .bool a, .bool b => some (a == b)
 | .str a, .str b => some (a == b)
 | a, b => match elems σ a, elems σ b with
  | some x, some y => listEq x y
  | _, _ => Option.none
def isSame : PV → PV → Option Bool
 | .none, .none => some true
 | .obj _, .none => some false
 | _, _ => Option.none
def isIn (σ : Sto) : PV → PV → Option Bool
 | .int i, .tup l => (ivs l).map (·.contains i)
 | .int i, .obj a => match σ a with
  | some (.list l) => (ivs l).map (·.contains i)
  | _ => Option.none
 | .int i, .list l => (ivs l).map (·.contains i)
 | _, _ => Option.none
def cmpA (op : COp) (σ : Sto) (a b : PV) : Option Bool := match op with
 | .eq => valEq σ a b
 | .ne => (valEq σ a b).map (!·)
 | .lt => match a, b with | .int i, .int j => some (decide (i < j)) | _, _ => Option.none
 | .le => match a, b with | .int i, .int j => some (decide (i ≤ j)) | _, _ => Option.none
 | .gt => match a, b with | .int i, .int j => some (decide (i > j)) | _, _ => Option.none
 | .ge => match a, b with | .int i, .int j => some (decide (i ≥ j)) | _, _ => Option.none
 | .is => isSame a b
 | .isnot => (isSame a b).map (!·)
 | .isin => isIn σ a b
 | .notin => (isIn σ a b).map (!·)
def alloc (m : Bool) (l : List PV) (σ : Sto) (Q : KV) : Prop :=
 l.length ≤ big ∧ if m then ∀ a, σ a = Option.none → Q (.obj a) (σ.set a (.list l)) else Q (.list l) σ
def binA (m : Bool) (op : BOp) (a b : PV) (σ : Sto) (Q : KV) : Prop := match op, a, b with
 | .add, .int i, .int j => Q (.int (i + j)) σ
 | .sub, .int i, .int j => Q (.int (i - j)) σ
 | .mul, .int i, .int j => -(2 ^ 62) < i ∧ i < 2 ^ 62 ∧ Q (.int (i * j)) σ
 | .fdiv, .int i, .int j => j ≠ 0 ∧ j.natAbs < 1073741824 ∧ Q (.int (i.fdiv j)) σ
 | .mod, .int i, .int j => j ≠ 0 ∧ Q (.int (i.fmod j)) σ
 | .add, a, b => match elems σ a, elems σ b with
  | some x, some y => alloc m (x ++ y) σ Q
  | _, _ => False
 | .mul, .list x, .int n => -(2 ^ 62) < n ∧ n < 2 ^ 62 ∧ alloc m (List.replicate n.toNat x).flatten σ Q
 | _, _, _ => False
def clampI (n : Nat) (i : Int) : Nat := if i < 0 then (i + n).toNat else min i.toNat n
def sliceL' {α : Type} (l : List α) (lo hi : Nat) : List α := (l.take hi).drop lo
abbrev sliceL (l : List PV) (lo hi : Nat) : List PV := sliceL' l lo hi
def getI (l : List PV) (k : Int) : Option PV := if k < 0 then (if k + l.length < 0 then none else l[(k + l.length).toNat]?) else l[k.toNat]?
def subA (e i : PV) (σ : Sto) (Q : KV) : Prop :=
 match e, i with
 | .tup l, .int k => ∃ v, 0 ≤ k ∧ l[k.toNat]? = some v ∧ Q v σ
 | .obj a, .int k => match σ a with
  | some (.dict kvs) => ∃ v, (kvs.find? (·.1 == k)).map (·.2) = some v ∧ Q v σ
  | some (.list l) => ∃ v, getI l k = some v ∧ Q v σ
  | _ => False
 | .list l, .int k => ∃ v, getI l k = some v ∧ Q v σ
 | _, _ => False
def part (n : Nat) (d : Nat) : Option PV → Option Nat
 | Option.none => some d
 | some (.int i) => some (clampI n i)
 | _ => Option.none
def sliceA (e : PV) (lo hi : Option PV) (σ : Sto) (Q : KV) : Prop := match elems σ e with
 | some l => match part l.length 0 lo, part l.length l.length hi with
  | some a, some b => Q (.list (sliceL l a b)) σ
  | _, _ => False
 | _ => False
def getF (fs : List (Nat × PV)) (n : Nat) : Option PV := (fs.find? (·.1 == n)).map (·.2)
def setF : List (Nat × PV) → Nat → PV → List (Nat × PV)
 | [], n, v => [(n, v)]
 | (m, w) :: r, n, v => if m = n then (n, v) :: r else (m, w) :: setF r n v
def attrA (e : PV) (n : Nat) (σ : Sto) (Q : KV) : Prop := match e with
 | .obj a => match σ a with
  | some (.inst _ fs) => ∃ v, getF fs n = some v ∧ Q v σ
  | _ => False
 | _ => False
def insD (k : Int) : List Int → List Int
 | [] => [k]
 | x :: r => if k ≤ x then k :: x :: r else x :: insD k r
def sortI : List Int → List Int
 | [] => []
 | x :: r => insD x (sortI r)
def bltA (b : Blt) (vs : List PV) (σ : Sto) (Q : KV) : Prop := match b, vs with
 | .len, [.tup l] => Q (.int l.length) σ
 | .len, [v] => match elems σ v with | some l => Q (.int l.length) σ | _ => False
 | .min, [.int i, .int j] => Q (.int (min i j)) σ
 | .max, [.int i, .int j] => Q (.int (max i j)) σ
 | .abs, [.int i] => Q (.int i.natAbs) σ
 | .sorted, [.obj a] => match σ a with
  | some (.dict kvs) => kvs.length < 64 ∧ Q (.list ((sortI (kvs.map (·.1))).map .int)) σ
  | _ => False
 | .copy, [v] => match elems σ v with | some l => Q (.list l) σ | _ => False
 | _, _ => False
def appendA (e x : PV) (σ : Sto) (Q : KV) : Prop := match e with
 | .obj a => match σ a with
  | some (.list l) => l.length < big ∧ Q .none (σ.set a (.list (l ++ [x])))
  | _ => False
 | _ => False
def extendA (e x : PV) (σ : Sto) (Q : KV) : Prop := match e, x with
 | .obj a, .list y => match σ a with
  | some (.list l) => l.length + y.length ≤ big ∧ Q .none (σ.set a (.list (l ++ y)))
  | _ => False
 | _, _ => False
def popA (e i : PV) (σ : Sto) (Q : KV) : Prop := match e, i with
 | .obj a, .int k => match σ a with
  | some (.list l) => ∃ v, 0 ≤ k ∧ l[k.toNat]? = some v ∧ Q v (σ.set a (.list (l.eraseIdx k.toNat)))
  | _ => False
 | _, _ => False
mutual
def bindT : Tgt → PV → List PV → Option (List PV)
 | .var i, v, loc => if i < loc.length then some (loc.set i v) else Option.none
 | .tup ts, .tup vs, loc => bindTs ts vs loc
 | .tup _, _, _ => Option.none
def bindTs : List Tgt → List PV → List PV → Option (List PV)
 | [], [], loc => some loc
 | t :: ts, v :: vs, loc => match bindT t v loc with
  | some loc' => bindTs ts vs loc'
  | Option.none => Option.none
 | _, _, _ => Option.none
end
def bindA (t : Tgt) (v : PV) (loc : List PV) (Q : List PV → Prop) : Prop := ∃ loc', bindT t v loc = some loc' ∧ Q loc'
def eachA (body : PV → Sto → (List PV → Sto → Prop) → Prop) (watch : Sto → Prop) : List PV → List PV → Sto → (List PV → Sto → Prop) → Prop
 | [], acc, σ, Q => Q acc σ
 | x :: r, acc, σ, Q => body x σ fun o σ' => watch σ' ∧ eachA body watch r (acc ++ o) σ' Q
def itemsA (v : PV) (σ : Sto) (Q : List PV → (Sto → Prop) → Prop) : Prop := match v with
 | .list l => Q l fun _ => True
 | .obj a => match σ a with
  | some (.list l) => Q l fun σ' => σ' a = some (.list l)
  | _ => False
 | _ => False
def fill (T : Tabs) (f : Nat) (vs : List PV) : List PV := match T.fn f with
 | some a => vs ++ a.dflts.drop (vs.length + a.dflts.length - a.nargs)
 | Option.none => vs
section
variable (T : Tabs) (S : Spec)
mutual
def evalA : ME → List PV → Sto → KV → Prop
 | .int i, _, σ, Q => Q (.int i) σ
 | .bool b, _, σ, Q => Q (.bool b) σ
 | .none, _, σ, Q => Q .none σ
 | .str n, _, σ, Q => Q (.str n) σ
 | .var i, loc, σ, Q => ∃ v, loc[i]? = some v ∧ (match v with | .undef => False | v => Q v σ)
 | .glob g, _, σ, Q => Q (T.glob g) σ
 | .bin m op a b, loc, σ, Q => evalA a loc σ fun va σ₁ => evalA b loc σ₁ fun vb σ₂ => binA m op va vb σ₂ Q
 | .cmp op a b, loc, σ, Q => evalA a loc σ fun va σ₁ => evalA b loc σ₁ fun vb σ₂ => ∃ r, cmpA op σ₂ va vb = some r ∧ Q (.bool r) σ₂
 | .cmp2 op1 op2 a b c, loc, σ, Q => evalA a loc σ fun va σ₁ => evalA b loc σ₁ fun vb σ₂ => ∃ r, cmpA op1 σ₂ va vb = some r ∧
   if r then evalA c loc σ₂ fun vc σ₃ => ∃ r', cmpA op2 σ₃ vb vc = some r' ∧ Q (.bool r') σ₃ else Q (.bool false) σ₂
 | .and a b, loc, σ, Q => evalA a loc σ fun va σ₁ => ∃ r, va = .bool r ∧ if r then evalA b loc σ₁ Q else Q (.bool false) σ₁
 | .or a b, loc, σ, Q => evalA a loc σ fun va σ₁ => ∃ r, va = .bool r ∧ if r then Q (.bool true) σ₁ else evalA b loc σ₁ Q
 | .not a, loc, σ, Q => evalA a loc σ fun va σ₁ => ∃ r, va = .bool r ∧ Q (.bool (!r)) σ₁
 | .ite c a b, loc, σ, Q => evalA c loc σ fun vc σ₁ => ∃ r, vc = .bool r ∧ if r then evalA a loc σ₁ Q else evalA b loc σ₁ Q
 | .list m es, loc, σ, Q => evalsA es loc σ fun vs σ₁ => alloc m vs σ₁ Q
 | .tup es, loc, σ, Q => evalsA es loc σ fun vs σ₁ => vs.length ≤ big ∧ Q (.tup vs) σ₁
 | .edict, _, σ, Q => ∀ a, σ a = Option.none → Q (.obj a) (σ.set a (.dict []))
 | .attr e n, loc, σ, Q => evalA e loc σ fun v σ₁ => attrA v n σ₁ Q
 | .sub e i, loc, σ, Q => evalA e loc σ fun v σ₁ => evalA i loc σ₁ fun vi σ₂ => subA v vi σ₂ Q
 | .slice e lo hi, loc, σ, Q => evalA e loc σ fun v σ₁ => evalOA lo loc σ₁ fun vl σ₂ => evalOA hi loc σ₂ fun vh σ₃ => sliceA v vl vh σ₃ Q
 | .rev e, loc, σ, Q => evalA e loc σ fun v σ₁ => match v with | .list l => Q (.list l.reverse) σ₁ | _ => False
 | .call f args, loc, σ, Q => evalsA args loc σ fun vs σ₁ => S f (fill T f vs) σ₁ Q
 | .new c args, loc, σ, Q => evalsA args loc σ fun vs σ₁ => ∃ f, T.init c = some f ∧ ∀ a, σ₁ a = Option.none →
   S f (fill T f (.obj a :: vs)) (σ₁.set a (.inst c [])) fun r σ₂ => r = .none ∧ Q (.obj a) σ₂
 | .meth e n args, loc, σ, Q => evalA e loc σ fun v σ₁ => ∃ a c fs f, v = .obj a ∧ σ₁ a = some (.inst c fs) ∧ T.meth c n = some f ∧
   evalsA args loc σ₁ fun vs σ₂ => S f (fill T f (.obj a :: vs)) σ₂ Q
 | .blt b args, loc, σ, Q => evalsA args loc σ fun vs σ₁ => bltA b vs σ₁ Q
 | .append e x, loc, σ, Q => evalA e loc σ fun v σ₁ => (elems σ₁ v).isSome = true ∧ evalA x loc σ₁ fun w σ₂ => appendA v w σ₂ Q
 | .extend e x, loc, σ, Q => evalA e loc σ fun v σ₁ => (elems σ₁ v).isSome = true ∧ evalA x loc σ₁ fun w σ₂ => extendA v w σ₂ Q
 | .pop e i, loc, σ, Q => evalA e loc σ fun v σ₁ => (elems σ₁ v).isSome = true ∧ evalA i loc σ₁ fun w σ₂ => popA v w σ₂ Q
 | .comp m k elt t it conds, loc, σ, Q => evalIA it loc σ fun items watch σ₁ =>
   eachA (fun x σ' R => bindA t x (loc ++ List.replicate k .undef) fun loc' =>
    condsA conds loc' σ' fun ok σ₂ => if ok then evalA elt loc' σ₂ fun v σ₃ => R [v] σ₃ else R [] σ₂) watch items [] σ₁ fun l σ₂ => alloc m l σ₂ Q
def evalsA : List ME → List PV → Sto → (List PV → Sto → Prop) → Prop
 | [], _, σ, Q => Q [] σ
 | e :: es, loc, σ, Q => evalA e loc σ fun v σ₁ => evalsA es loc σ₁ fun vs σ₂ => Q (v :: vs) σ₂
def evalOA : Option ME → List PV → Sto → (Option PV → Sto → Prop) → Prop
 | Option.none, _, σ, Q => Q Option.none σ
 | some e, loc, σ, Q => evalA e loc σ fun v σ₁ => Q (some v) σ₁
def condsA : List ME → List PV → Sto → (Bool → Sto → Prop) → Prop
 | [], _, σ, Q => Q true σ
 | c :: cs, loc, σ, Q => evalA c loc σ fun v σ₁ => ∃ r, v = .bool r ∧ if r then condsA cs loc σ₁ Q else Q false σ₁
def evalIA : MI → List PV → Sto → (List PV → (Sto → Prop) → Sto → Prop) → Prop
 | .expr e, loc, σ, Q => evalA e loc σ fun v σ₁ => itemsA v σ₁ fun l w => Q l w σ₁
 | .range e, loc, σ, Q => evalA e loc σ fun v σ₁ => match v with
  | .int n => -2147483648 < n ∧ n ≤ 16777216 ∧ Q ((List.range n.toNat).map fun i => .int (i : Nat)) (fun _ => True) σ₁
  | _ => False
 | .zip a b, loc, σ, Q => evalA a loc σ fun va σ₁ => evalA b loc σ₁ fun vb σ₂ => match va, vb with
  | .list x, .list y => Q ((x.zip y).map fun p => .tup [p.1, p.2]) (fun _ => True) σ₂
  | _, _ => False
 | .enum a, loc, σ, Q => evalA a loc σ fun va σ₁ => match va with
  | .list x => Q (x.zipIdx.map fun p => .tup [.int (p.2 : Nat), p.1]) (fun _ => True) σ₁
  | _ => False
end
inductive Out where | next (loc : List PV) | ret (v : PV)
abbrev KO := Out → Sto → Prop
def forA (body : List PV → Sto → KO → Prop) (t : Tgt) (watch : Sto → Prop) : List PV → List PV → Sto → KO → Prop
 | [], loc, σ, Q => Q (.next loc) σ
 | x :: r, loc, σ, Q => bindA t x loc fun loc' => body loc' σ fun o σ' => match o with
  | .next loc'' => watch σ' ∧ forA body t watch r loc'' σ' Q
  | .ret v => Q (.ret v) σ'
def whileA (test : List PV → Sto → (Bool → Sto → Prop) → Prop) (body : List PV → Sto → KO → Prop) (loc : List PV) (σ : Sto) (Q : KO) : Prop :=
 ∃ I : Nat → List PV → Sto → Prop, (∃ n, I n loc σ) ∧ ∀ n loc σ, I n loc σ → test loc σ fun b σ' => if b then body loc σ' fun o σ'' => match o with
  | .next loc'' => ∃ m, m < n ∧ I m loc'' σ''
  | .ret v => Q (.ret v) σ''
 else Q (.next loc) σ'
mutual
def execA : MS → List PV → Sto → KO → Prop
 | .assign t e, loc, σ, Q => evalA T S e loc σ fun v σ₁ => bindA t v loc fun loc' => Q (.next loc') σ₁
 | .setattr o n e, loc, σ, Q => evalA T S e loc σ fun v σ₁ => evalA T S o loc σ₁ fun ov σ₂ => ∃ a c fs, ov = .obj a ∧ σ₂ a = some (.inst c fs) ∧ fs.length < 1000 ∧ Q (.next loc) (σ₂.set a (.inst c (setF fs n v)))
 | .setitem o i e, loc, σ, Q => evalA T S e loc σ fun v σ₁ => evalA T S o loc σ₁ fun ov σ₂ => evalA T S i loc σ₂ fun iv σ₃ => ∃ a kvs k, ov = .obj a ∧ iv = .int k ∧ σ₃ a = some (.dict kvs) ∧
   kvs.any (·.1 == k) = false ∧ kvs.length < big ∧ Q (.next loc) (σ₃.set a (.dict (kvs ++ [(k, v)])))
 | .setslice o lo hi e, loc, σ, Q => evalA T S e loc σ fun v σ₁ => evalA T S o loc σ₁ fun ov σ₂ => evalA T S lo loc σ₂ fun vl σ₃ => evalA T S hi loc σ₃ fun vh σ₄ => ∃ a l y i j, ov = .obj a ∧ v = .list y ∧ vl = .int i ∧ vh = .int j ∧
   σ₄ a = some (.list l) ∧ 0 ≤ i ∧ i ≤ j ∧ j ≤ l.length ∧ l.length + y.length ≤ big ∧ Q (.next loc) (σ₄.set a (.list (l.take i.toNat ++ y ++ l.drop j.toNat)))
 | .expr e, loc, σ, Q => evalA T S e loc σ fun _ σ₁ => Q (.next loc) σ₁
 | .ite c a b, loc, σ, Q => evalA T S c loc σ fun v σ₁ => ∃ r, v = .bool r ∧ if r then execsA a loc σ₁ Q else execsA b loc σ₁ Q
 | .while c b, loc, σ, Q => whileA (fun loc σ R => evalA T S c loc σ fun v σ₁ => ∃ r, v = .bool r ∧ R r σ₁) (fun loc σ R => execsA b loc σ R) loc σ Q
 | .for t it b, loc, σ, Q => evalIA T S it loc σ fun items watch σ₁ => forA (fun loc σ R => execsA b loc σ R) t watch items loc σ₁ Q
 | .ret e, loc, σ, Q => evalA T S e loc σ fun v σ₁ => Q (.ret v) σ₁
 | .stuck, _, _, _ => False
def execsA : List MS → List PV → Sto → KO → Prop
 | [], loc, σ, Q => Q (.next loc) σ
 | s :: r, loc, σ, Q => execA s loc σ fun o σ' => match o with
  | .next loc' => execsA r loc' σ' Q
  | .ret v => Q (.ret v) σ'
end
mutual
inductive Frz (σ σ' : Sto) : PV → PV → Prop
 | refl (v : PV) : Frz σ σ' v v
 | obj {a : Nat} {l l' : List PV} (h : σ a = some (.list l)) (h' : σ' a = Option.none) (x : FrzL σ σ' l l') : Frz σ σ' (.obj a) (.list l')
inductive FrzL (σ σ' : Sto) : List PV → List PV → Prop
 | nil : FrzL σ σ' [] []
 | cons {v v' : PV} {l l' : List PV} (x : Frz σ σ' v v') (y : FrzL σ σ' l l') : FrzL σ σ' (v :: l) (v' :: l')
end
def Wk (v : PV) (σ : Sto) (Q : KV) : Prop := ∃ v' σ', Frz σ σ' v v' ∧ (∀ a o, σ' a = some o → σ a = some o) ∧ Q v' σ'
end
end Mine
end
section
namespace Mine
open PySem
structure Ctx where
 fns : List (Str × Nat)
 globs : List Str
 clss : List Str
 attrs : List Str
 meths : List Str
 txts : List Str
 muts : List Str
 deep : Bool
 scope : Scope
 slots : List (Str × Nat)
 n : Nat
def idx (l : List Str) (x : Str) : Option Nat := match l with
 | [] => none
 | y :: r => if y = x then some 0 else (idx r x).map (· + 1)
def slotOf (l : List (Str × Nat)) (x : Str) : Option Nat := match l with
 | [] => none
 | (y, i) :: r => if y = x then some i else slotOf r x
def Ctx.kind (C : Ctx) (x : Str) : Option NameKind := C.scope.names.lookup x
def Ctx.loc (C : Ctx) (x : Str) : Option Nat := match C.kind x with
 | some .local | some .cell | some .free => slotOf C.slots x
 | _ => none
def Ctx.isGlob (C : Ctx) (x : Str) : Bool := C.kind x == some .globalImplicit
def opOf : Operator → Option BOp
 | .Add => some .add | .Sub => some .sub | .Mult => some .mul | .FloorDiv => some .fdiv | .Mod => some .mod | _ => none
def cmpOf : CmpOp → Option COp
 | .Eq => some .eq | .NotEq => some .ne | .Lt => some .lt | .LtE => some .le | .Gt => some .gt | .GtE => some .ge | .Is => some .is | .IsNot => some .isnot | .In => some .isin | .NotIn => some .notin
def bltOf (x : Str) (n : Nat) : Option Blt :=
 if x = "len" ∧ n = 1 then some .len else if x = "min" ∧ n = 2 then some .min else if x = "max" ∧ n = 2 then some .max else if x = "abs" ∧ n = 1 then some .abs else if x = "sorted" ∧ n = 1 then some .sorted else if x = "list" ∧ n = 1 then some .copy else none
def isMinusOne : Expr → Bool
 | .UnaryOp .USub (.Constant (.int 1) _ _) _ => true
 | _ => false
def mapO {α β : Type} (f : α → Option β) : List α → Option (List β)
 | [] => some []
 | x :: r => match f x, mapO f r with | some y, some ys => some (y :: ys) | _, _ => none
def compT (l : Bool) : Nat → Ctx → Expr → Option Tgt
 | 0, _, _ => none
 | n + 1, C, e => match e with
  | .Name x _ => match C.kind x with
   | some .local => (slotOf C.slots x).map .var
   | some .cell => if l then none else (slotOf C.slots x).map .var
   | _ => none
  | .Tuple es _ _ => (mapO (compT l n C) es).map .tup
  | _ => none
def compSlots (sc : Scope) (n : Nat) : List (Str × Nat) := ((sc.names.filter fun x => x.2 == .local && x.1 != (".0" : Str)).map (·.1)).zipIdx n
def Ctx.relab (C : Ctx) (sc : Scope) : Scope :=
  { sc with names := sc.names.map fun (n, k) => if (k == .free && C.scope.kind == .function && C.kind n == some .cell) then (n, .cell) else (n, k) }
def Ctx.inner (C : Ctx) (sc : Scope) : Ctx :=
  { C with scope := C.relab sc, slots := compSlots sc C.n ++ C.slots, n := C.n + (compSlots sc C.n).length }
def superFree : Expr → Bool
 | .Call (.Name id _) [] [] _ => id != ("super" : Str)
 | _ => true
def nodupB : List Str → Bool
 | [] => true
 | x :: r => !r.contains x && nodupB r
def compOk (C : Ctx) (sc : Scope) : Bool :=
 sc.kind == .function && sc.names.all (fun x => x.2 != .cell && x.1 != ("__debug__" : Str) && x.1 != ("__classdict__" : Str) && (x.2 != .free || (slotOf C.slots x.1).isSome && (C.kind x.1 == some .cell || C.kind x.1 == some .free))) && nodupB (sc.names.map (·.1)) && (slotOf C.slots ".0").isNone
def isTup : Expr → Bool
 | .Tuple .. => true
 | _ => false
def tupOnly : MI → Bool
 | .zip .. | .enum .. => true
 | _ => false
def compIt (E : Expr → Option ME) (C : Ctx) (it : Expr) : Option MI := match it with
 | .Call (.Name f _) [x] [] _ =>
  if C.isGlob f ∧ f = "range" then (E x).map MI.range
  else if C.isGlob f ∧ f = "enumerate" then (E x).map MI.enum
  else (E it).map MI.expr
 | .Call (.Name f _) [x, y] [] _ =>
  if C.isGlob f ∧ f = "zip" then (match E x, E y with | some u, some v => some (MI.zip u v) | _, _ => none)
  else (E it).map MI.expr
 | it => (E it).map MI.expr
def compE : Nat → Ctx → Bool → Expr → Option ME
 | 0, _, _, _ => none
 | n + 1, C, m, e =>
  let E := compE n C false
  match e with
  | .Constant (.int i) _ _ => some (.int i)
  | .Constant (.bool b) _ _ => some (.bool b)
  | .Constant .none _ _ => some .none
  | .Constant (.str s) _ _ => (idx C.txts s).map .str
  | .Name x _ => match C.loc x with
   | some i => some (.var i)
   | none => if C.isGlob x then (idx C.globs x).map .glob else none
  | .BinOp a op b _ => match opOf op, E a, E b with | some o, some x, some y => some (.bin m o x y) | _, _, _ => none
  | .Compare a [op] [b] _ => match cmpOf op, E a, E b with | some o, some x, some y => some (.cmp o x y) | _, _, _ => none
  | .Compare a [op1, op2] [b, c] _ => match cmpOf op1, cmpOf op2, E a, E b, E c with | some o1, some o2, some x, some y, some z => some (.cmp2 o1 o2 x y z) | _, _, _, _, _ => none
  | .BoolOp .And [a, b] _ => match E a, E b with | some x, some y => some (.and x y) | _, _ => none
  | .BoolOp .And [a, b, c] _ => match E a, E b, E c with | some x, some y, some z => some (.and x (.and y z)) | _, _, _ => none
  | .BoolOp .Or [a, b] _ => match E a, E b with | some x, some y => some (.or x y) | _, _ => none
  | .BoolOp .Or [a, b, c] _ => match E a, E b, E c with | some x, some y, some z => some (.or x (.or y z)) | _, _, _ => none
  | .UnaryOp .Not a _ => (E a).map .not
  | .UnaryOp .USub (.Constant (.int i) _ _) _ => some (.int (-i))
  | .IfExp t a b _ => match E t, compE n C m a, compE n C m b with | some x, some y, some z => some (.ite x y z) | _, _, _ => none
  | .List es _ => (mapO E es).map (.list (m || C.deep))
  | .Tuple es _ _ => (mapO E es).map .tup
  | .Dict [] [] _ => some .edict
  | .Attribute o a _ => if superFree o then (match E o, idx C.attrs a with | some x, some i => some (.attr x i) | _, _ => none) else none
  | .Subscript o (.Slice none none (some st) _) _ => if isMinusOne st then (E o).map .rev else none
  | .Subscript o (.Slice lo hi none _) _ => match E o, (match lo with | some l => (E l).map some | none => some none), (match hi with | some h => (E h).map some | none => some none) with
   | some x, some y, some z => some (.slice x y z) | _, _, _ => none
  | .Subscript o i _ => match E o, E i with | some x, some y => some (.sub x y) | _, _ => none
  | .Call (.Name f _) args [] _ => match mapO E args with
   | none => none
   | some as => if C.isGlob f then (match slotOf C.fns f with
    | some i => some (.call i as)
    | none => match idx C.clss f with
     | some c => some (.new c as)
     | none => (bltOf f as.length).map (.blt · as)) else none
  | .Call (.Attribute o a ap) args [] p => if ap.endLine == p.line && superFree o && decide (args.length < 30) then (match E o, mapO E args with
   | some x, some as =>
    if a = "append" then (match as with | [y] => some (.append x y) | _ => none)
    else if a = "extend" then (match as with | [y] => some (.extend x y) | _ => none)
    else if a = "pop" then (match as with | [y] => some (.pop x y) | _ => none)
    else (idx C.meths a).map fun i => .meth x i as
   | _, _ => none) else none
  | .ListComp elt [⟨t, it, ifs, 0⟩] sc _ =>
   let C' := C.inner sc
   if compOk C sc then match compT true n C' t, compE n C' false elt, mapO (compE n C' false) ifs, compIt E C it with
   | some t', some e', some cs, some it' => if tupOnly it' && !isTup t then none else some (.comp m (compSlots sc C.n).length e' t' it' cs)
   | _, _, _, _ => none
   else none
  | _ => none
def compI (n : Nat) (C : Ctx) (it : Expr) : Option MI := compIt (compE n C false) C it
def Ctx.isMut (C : Ctx) : Expr → Bool
 | .Name x _ => C.muts.contains x
 | .Attribute _ a _ => C.muts.contains a
 | _ => false
def compMs (n : Nat) (C : Ctx) : List Expr → List Expr → Option (List ME)
 | [], [] => some []
 | t :: ts, e :: es => match compE n C (C.isMut t) e, compMs n C ts es with | some x, some xs => some (x :: xs) | _, _ => none
 | _, _ => none
def isComp : Expr → Bool
 | .ListComp .. | .SetComp .. | .DictComp .. => true
 | _ => false
def isStar : Expr → Bool
 | .Starred .. => true
 | _ => false
def swapNames (C : Ctx) (line : Nat) (ts : List Expr) : List Str := ts.filterMap fun
 | .Name id pos => if C.kind id == some .local && pos.line == line then some id else none
 | _ => none
def swapFn (C : Ctx) (ts vs : List Expr) : Option (Option (List Str)) :=
 if !(ts.length == 2 || ts.length == 3) || vs.length != ts.length then some none
 else if vs.any isStar then some none
 else if (swapNames C ((ts.head?.map (·.pos.line)).getD 0) ts).length != ts.length || (swapNames C ((ts.head?.map (·.pos.line)).getD 0) ts).eraseDups.length != (swapNames C ((ts.head?.map (·.pos.line)).getD 0) ts).length then some none
 else if vs.all (foldedForSure 8) then some none
 else if vs.all (constantsAlone 8) then none
 else some (some (swapNames C ((ts.head?.map (·.pos.line)).getD 0) ts))
def swapOk (C : Ctx) (ts vs : List Expr) : Bool := match swapFn C ts vs with
 | none => false
 | some none => true
 | some (some ns) => nodupB ns
def compS : Nat → Ctx → Stmt → Option MS
 | 0, _, _ => none
 | n + 1, C, s => match s with
  | .Assign [.Attribute o a _] v _ => match compE n C (C.muts.contains a) v, compE n C false o, idx C.attrs a with | some x, some y, some i => some (.setattr y i x) | _, _, _ => none
  | .Assign [.Subscript o (.Slice (some lo) (some hi) none _) _] v _ => match compE n C false v, compE n C false o, compE n C false lo, compE n C false hi with
   | some x, some y, some l, some h => some (.setslice y l h x) | _, _, _, _ => none
  | .Assign [.Subscript o i _] v _ => match compE n C false v, compE n C false o, compE n C false i with | some x, some y, some z => some (.setitem y z x) | _, _, _ => none
  | .Assign [.Tuple ts k tp] (.Tuple es _ _) _ => if !swapOk C ts es then none else match compT false n C (.Tuple ts k tp), compMs n C ts es with | some t, some xs => some (.assign t (.tup xs)) | _, _ => none
  | .Assign [t] v _ => match compT false n C t, compE n C (C.isMut t) v with | some t', some x => some (.assign t' x) | _, _ => none
  | .Expr v _ => if isComp v then none else (compE n C false v).map .expr
  | .If c a b _ => match compE n C false c, mapO (compS n C) a, mapO (compS n C) b with | some x, some y, some z => some (.ite x y z) | _, _, _ => none
  | .While c b [] _ => match compE n C false c, mapO (compS n C) b with | some x, some y => some (.while x y) | _, _ => none
  | .For t it b [] _ => match compT false n C t, compI n C it, mapO (compS n C) b with | some t', some i, some y => if tupOnly i && !isTup t then none else some (.for t' i y) | _, _, _ => none
  | .Return (some e) _ => (compE n C false e).map .ret
  | .Return none _ => some (.ret .none)
  | .Raise .. => some .stuck
  | _ => none
def fnSlots (a : Arguments) (sc : Scope) : List Str :=
 let ps := a.args.map (·.arg)
 ps ++ (sc.names.filter fun x => (x.2 == .local || x.2 == .cell) && !ps.contains x.1).map (·.1)
end Mine
end
section
namespace Mine
open PySem PySem.W PyProof.Rows
structure Cfg where
 I : Addr → Option Obj
 D : Addr → Addr
 σ : Sto
structure Nm where
 attr : Nat → Str
 cls : Nat → Addr
 txt : Nat → Str
 h0 : Heap
 prog : Program
 w : World
 ntxt : Nat
 nattr : Nat
 txtInj : ∀ i j, i < ntxt → j < ntxt → txt i = txt j → i = j
 attrInj : ∀ i j, i < nattr → j < nattr → attr i = attr j → i = j
def isListO (o : Obj) (vs : List Value) : Prop := vs.length ≤ big ∧ ∃ n, o = listOf vs.toArray n
def isTupO (o : Obj) (vs : List Value) : Prop := vs.length ≤ big ∧ o.cls = .type "tuple" ∧ ∃ n, o.data = .seq vs.toArray n
section
variable (N : Nm)
mutual
inductive VRel (I : Addr → Option Obj) : Value → PV → Prop
 | none : VRel I .none .none
 | bool (b : Bool) : VRel I (.bool b) (.bool b)
 | int (i : Int) (t : Tok) : VRel I (.int i t) (.int i)
 | str (n : Nat) (t : Tok) (hn : n < N.ntxt) : VRel I (.str (N.txt n) t) (.str n)
 | list {a : Addr} {o : Obj} {vs : List Value} {l : List PV} (h : I a = some o) (ho : isListO o vs) (x : VRelL I vs l) : VRel I (.ref a) (.list l)
 | tup {a : Addr} {o : Obj} {vs : List Value} {l : List PV} (h : I a = some o) (ho : isTupO o vs) (x : VRelL I vs l) : VRel I (.ref a) (.tup l)
 | obj (a : Addr) : VRel I (.ref a) (.obj a)
inductive VRelL (I : Addr → Option Obj) : List Value → List PV → Prop
 | nil : VRelL I [] []
 | cons {v : Value} {d : PV} {vs : List Value} {l : List PV} (x : VRel I v d) (y : VRelL I vs l) : VRelL I (v :: vs) (d :: l)
end
inductive FRel (I : Addr → Option Obj) : List DictEntry → List (Nat × PV) → Prop
 | nil : FRel I [] []
 | cons {n : Nat} {t : Tok} {v : Value} {d : PV} {es : List DictEntry} {fs : List (Nat × PV)} (hn : n < N.nattr) (x : VRel N I v d) (y : FRel I es fs) :
   FRel I (⟨PyData.keyHash N.w.params (N.attr n), .str (N.attr n) t, v⟩ :: es) ((n, d) :: fs)
inductive KRel (I : Addr → Option Obj) : List (Int × Value) → List (Int × PV) → Prop
 | nil : KRel I [] []
 | cons {k : Int} {v : Value} {d : PV} {es : List (Int × Value)} {fs : List (Int × PV)} (x : VRel N I v d) (y : KRel I es fs) : KRel I ((k, v) :: es) ((k, d) :: fs)
def ObjAt (I : Addr → Option Obj) (D : Addr → Addr) (h : Heap) (a : Addr) : AObj → Prop
 | .list l => ∃ o vs, h.get? a = some o ∧ isListO o vs ∧ VRelL N I vs l
 | .inst c fs => h.get? a = some (instObj (N.cls c) (D a)) ∧ ∃ es n, h.get? (D a) = some (dictOf es n) ∧ FRel N I es fs
 | .dict kvs => (a == sysModules) = false ∧ ∃ kv, h.DictOf (intKind N.prog N.w) a kv ∧ KRel N I kv kvs
def Foot (c : Cfg) (b : Addr) : Prop := c.σ b ≠ none ∨ ∃ a C fs, c.σ a = some (.inst C fs) ∧ c.D a = b
structure SR (c : Cfg) (h : Heap) : Prop where
 fr : ∀ a o, c.I a = some o → h.get? a = some o
 st : ∀ a x, c.σ a = some x → ObjAt N c.I c.D h a x
 ni : ∀ b, Foot c b → c.I b = none
 dj : ∀ a C fs, c.σ a = some (.inst C fs) → c.σ (c.D a) = none
 dd : ∀ a C fs a' C' fs', c.σ a = some (.inst C fs) → c.σ a' = some (.inst C' fs') → c.D a = c.D a' → a = a'
 stat : ∀ a o, N.h0.get? a = some o → c.I a = some o
structure Evo (X : Addr → Prop) (c : Cfg) (h : Heap) (c' : Cfg) (h' : Heap) : Prop where
 inc : ∀ a o, c.I a = some o → c'.I a = some o
 keep : ∀ b o, h.get? b = some o → ¬ Foot c b → ¬ X b → h'.get? b = some o
 live : ∀ b, h'.get? b = none → h.get? b = none
 foot : ∀ b, Foot c' b → Foot c b ∨ h.get? b = none
 inew : ∀ b o, c'.I b = some o → c.I b = some o ∨ Foot c b ∨ h.get? b = none
end
abbrev NoX : Addr → Prop := fun _ => False
variable {N : Nm} {c c' c'' : Cfg} {h h' h'' : Heap} {X : Addr → Prop}
mutual
theorem VRel.mono {I I' : Addr → Option Obj} (inc : ∀ a o, I a = some o → I' a = some o) : ∀ {v : Value} {d : PV}, VRel N I v d → VRel N I' v d
 | _, _, .none => .none
 | _, _, .bool b => .bool b
 | _, _, .int i t => .int i t
 | _, _, .str n t hn => .str n t hn
 | _, _, .list h ho x => .list (inc _ _ h) ho (VRelL.mono inc x)
 | _, _, .tup h ho x => .tup (inc _ _ h) ho (VRelL.mono inc x)
 | _, _, .obj a => .obj a
theorem VRelL.mono {I I' : Addr → Option Obj} (inc : ∀ a o, I a = some o → I' a = some o) : ∀ {v : List Value} {d : List PV}, VRelL N I v d → VRelL N I' v d
 | _, _, .nil => .nil
 | _, _, .cons x y => .cons (VRel.mono inc x) (VRelL.mono inc y)
end
theorem FRel.mono {I I' : Addr → Option Obj} (inc : ∀ a o, I a = some o → I' a = some o) : ∀ {v : List DictEntry} {d : List (Nat × PV)}, FRel N I v d → FRel N I' v d
 | _, _, .nil => .nil
 | _, _, .cons hn x y => .cons hn (x.mono inc) (FRel.mono inc y)
theorem KRel.mono {I I' : Addr → Option Obj} (inc : ∀ a o, I a = some o → I' a = some o) : ∀ {v : List (Int × Value)} {d : List (Int × PV)}, KRel N I v d → KRel N I' v d
 | _, _, .nil => .nil
 | _, _, .cons x y => .cons (x.mono inc) (KRel.mono inc y)
theorem VRelL.length {I : Addr → Option Obj} : ∀ {v : List Value} {d : List PV}, VRelL N I v d → v.length = d.length
 | _, _, .nil => rfl
 | _, _, .cons _ y => by simp [y.length]
theorem VRelL.append {I : Addr → Option Obj} : ∀ {v v' : List Value} {d d' : List PV}, VRelL N I v d → VRelL N I v' d' → VRelL N I (v ++ v') (d ++ d')
 | _, _, _, _, .nil, y => y
 | _, _, _, _, .cons a x, y => .cons a (x.append y)
theorem VRelL.getElem {I : Addr → Option Obj} : ∀ {v : List Value} {d : List PV}, VRelL N I v d → ∀ {i : Nat} {x : PV}, d[i]? = some x → ∃ y, v[i]? = some y ∧ VRel N I y x
 | _, _, .nil, i, x, e => by simp at e
 | _, _, .cons a y, 0, x, e => by simp at e; subst e; exact ⟨_, by simp, a⟩
 | _, _, .cons a y, i + 1, x, e => by simp at e; obtain ⟨z, hz, r⟩ := y.getElem e; exact ⟨z, by simpa using hz, r⟩
theorem VRelL.take {I : Addr → Option Obj} : ∀ {v : List Value} {d : List PV} (n : Nat), VRelL N I v d → VRelL N I (v.take n) (d.take n)
 | _, _, 0, _ => by simpa using .nil
 | _, _, _ + 1, .nil => by simpa using .nil
 | _, _, n + 1, .cons a y => by simpa using .cons a (y.take n)
theorem VRelL.drop {I : Addr → Option Obj} : ∀ {v : List Value} {d : List PV} (n : Nat), VRelL N I v d → VRelL N I (v.drop n) (d.drop n)
 | _, _, 0, x => by simpa using x
 | _, _, _ + 1, .nil => by simpa using .nil
 | _, _, n + 1, .cons a y => by simpa using y.drop n
theorem VRelL.reverse {I : Addr → Option Obj} : ∀ {v : List Value} {d : List PV}, VRelL N I v d → VRelL N I v.reverse d.reverse
 | _, _, .nil => .nil
 | _, _, .cons a y => by simpa using y.reverse.append (.cons a .nil)
theorem VRelL.eraseIdx {I : Addr → Option Obj} : ∀ {v : List Value} {d : List PV} (n : Nat), VRelL N I v d → VRelL N I (v.eraseIdx n) (d.eraseIdx n)
 | _, _, 0, .nil => .nil
 | _, _, 0, .cons a y => by simpa using y
 | _, _, _ + 1, .nil => .nil
 | _, _, n + 1, .cons a y => by simpa using .cons a (y.eraseIdx n)
theorem Evo.refl (X : Addr → Prop) (c : Cfg) (h : Heap) : Evo X c h c h :=
 ⟨fun _ _ e => e, fun _ _ e _ _ => e, fun _ e => e, fun _ e => .inl e, fun _ _ e => .inl e⟩
theorem Evo.trans (a : Evo X c h c' h') (b : Evo X c' h' c'' h'') : Evo X c h c'' h'' where
 inc := fun x o e => b.inc _ _ (a.inc _ _ e)
 keep := fun x o e nf nx => b.keep _ _ (a.keep _ _ e nf nx) (fun q => (a.foot x q).elim nf fun z => by rw [z] at e; cases e) nx
 live := fun x e => a.live x (b.live x e)
 foot := fun x q => (b.foot x q).elim (fun z => a.foot x z) fun z => .inr (a.live x z)
 inew := fun x o e => (b.inew x o e).elim (fun z => a.inew x o z) fun z => z.elim (fun z => (a.foot x z).elim (fun z => .inr (.inl z)) fun z => .inr (.inr z)) fun z => .inr (.inr (a.live x z))
theorem Evo.weaken {Y : Addr → Prop} (a : Evo X c h c' h') (hY : ∀ b, X b → Y b) : Evo Y c h c' h' :=
 ⟨a.inc, fun b o e nf nx => a.keep b o e nf fun q => nx (hY b q), a.live, a.foot, a.inew⟩
theorem Evo.fresh (a : Evo X c h c' h') (hX : ∀ b, X b → h.get? b = none) : Evo NoX c h c' h' :=
 ⟨a.inc, fun b o e nf _ => a.keep b o e nf (fun q => by rw [hX b q] at e; cases e), a.live, a.foot, a.inew⟩
theorem liveOf (hk : ∀ b o, h.get? b = some o → h'.get? b = some o) : ∀ b, h'.get? b = none → h.get? b = none := fun b e => by
 cases q : h.get? b with
 | none => rfl
 | some o => rw [hk b o q] at e; cases e
theorem Evo.ext (hk : ∀ b o, h.get? b = some o → h'.get? b = some o) : Evo X c h c h' :=
 ⟨fun _ _ e => e, fun b o e _ _ => hk b o e, liveOf hk, fun _ e => .inl e, fun _ _ e => .inl e⟩
theorem ObjAt.lift {I I' : Addr → Option Obj} {D D' : Addr → Addr} {a : Addr} (inc : ∀ a o, I a = some o → I' a = some o) (hD : D' a = D a) : ∀ {x : AObj},
  (∀ b o, (b = a ∨ (b = D a ∧ ∃ C fs, x = .inst C fs)) → h.get? b = some o → h'.get? b = some o) → ObjAt N I D h a x → ObjAt N I' D' h' a x
 | .list l, hk, ⟨o, vs, e, ho, r⟩ => ⟨o, vs, hk a o (.inl rfl) e, ho, r.mono inc⟩
 | .inst C fs, hk, ⟨e, es, n, e2, r⟩ => ⟨by rw [hD]; exact hk a _ (.inl rfl) e, es, n, by rw [hD]; exact hk _ _ (.inr ⟨rfl, C, fs, rfl⟩) e2, r.mono inc⟩
 | .dict kvs, hk, ⟨z, kv, ⟨o, es, ep, e, q⟩, r⟩ => ⟨z, kv, ⟨o, es, ep, hk a o (.inl rfl) e, q⟩, r.mono inc⟩
theorem ObjAt.some {I : Addr → Option Obj} {D : Addr → Addr} {a : Addr} : ∀ {x : AObj}, ObjAt N I D h a x → ∃ o, h.get? a = some o
 | .list _, ⟨o, _, e, _⟩ => ⟨o, e⟩
 | .inst _ _, ⟨e, _⟩ => ⟨_, e⟩
 | .dict _, ⟨_, _, ⟨o, _, _, e, _⟩, _⟩ => ⟨o, e⟩
theorem SR.foot_some (S : SR N c h) {b : Addr} (f : Foot c b) : ∃ o, h.get? b = some o := by
 rcases f with f | ⟨a, C, fs, e, rfl⟩
 ·cases q : c.σ b with
  | none => exact absurd q f
  | some x => exact (S.st b x q).some
 ·obtain ⟨_, es, n, e2, _⟩ := S.st a _ e
  exact ⟨_, e2⟩
theorem SR.not_foot (S : SR N c h) {b : Addr} (e : h.get? b = none) : ¬ Foot c b := fun f => by
 obtain ⟨o, q⟩ := S.foot_some f; rw [e] at q; cases q
theorem SR.sto_none (S : SR N c h) {b : Addr} (e : h.get? b = none) : c.σ b = none := Classical.byContradiction fun q => S.not_foot e (.inl q)
theorem SR.I_none (S : SR N c h) {b : Addr} (e : h.get? b = none) : c.I b = none := by
 cases q : c.I b with
 | none => rfl
 | some o => rw [S.fr b o q] at e; cases e
theorem SR.ext (S : SR N c h) (hk : ∀ b o, h.get? b = some o → h'.get? b = some o) : SR N c h' :=
 ⟨fun a o e => hk a o (S.fr a o e), fun a x e => (S.st a x e).lift (fun _ _ e => e) rfl fun b o _ e => hk b o e, S.ni, S.dj, S.dd, S.stat⟩
theorem SR.touch {t : Addr} (S : SR N c h) (hs : Heap.ExtBut t h h') (nf : ¬ Foot c t) (ni : c.I t = none) : SR N c h' :=
 ⟨fun a o e => hs a o (fun q => by rw [q, ni] at e; cases e) (S.fr a o e), fun a x e => (S.st a x e).lift (fun _ _ e => e) rfl fun b o hb e' => hs b o (fun q => nf (by
   subst q
   rcases hb with rfl | ⟨rfl, C, fs, rfl⟩
   ·exact .inl (by rw [e]; simp)
   ·exact .inr ⟨a, C, fs, e, rfl⟩)) e', S.ni, S.dj, S.dd, S.stat⟩
theorem Evo.touch {t : Addr} (E : Evo X c h c' h') (hs : Heap.ExtBut t h' h'') (hl : ∃ o, h''.get? t = some o) (hn : h.get? t = none ∨ X t) : Evo X c h c' h'' where
 inc := E.inc
 keep := fun b o e nf nx => hs b o (fun q => hn.elim (fun z => by rw [q, z] at e; cases e) fun z => nx (q ▸ z)) (E.keep b o e nf nx)
 live := fun b e => by
  by_cases q : b = t
  ·subst q; obtain ⟨o, hl⟩ := hl; rw [hl] at e; cases e
  ·refine E.live b ?_
   cases z : h'.get? b with
   | none => rfl
   | some o => rw [hs b o q z] at e; cases e
 foot := E.foot
 inew := E.inew
def Cfg.addI (c : Cfg) (a : Addr) (o : Obj) : Cfg := { c with I := fun x => if x = a then some o else c.I x }
def Cfg.put (c : Cfg) (a : Addr) (x : AObj) : Cfg := { c with σ := c.σ.set a x }
theorem SR.freezeNew {a : Addr} {o : Obj} (S : SR N c h) (hk : ∀ b o, h.get? b = some o → h'.get? b = some o) (hn : h.get? a = none) (e : h'.get? a = some o) :
  SR N (c.addI a o) h' ∧ Evo X c h (c.addI a o) h' := by
 have inc : ∀ b o', c.I b = some o' → (c.addI a o).I b = some o' := fun b o' q => by
  show (if b = a then _ else _) = _
  rw [if_neg]; exact q
  rintro rfl; rw [S.I_none hn] at q; cases q
 refine ⟨⟨fun b o' q => ?_, fun b x q => ((S.ext hk).st b x q).lift inc rfl fun _ _ _ e => e, fun b f => ?_, S.dj, S.dd, fun b o' q => inc _ _ (S.stat b o' q)⟩, inc, fun b o' q _ _ => hk b o' q, liveOf hk, fun b f => .inl f, fun b o' q => ?_⟩
 ·have q' : (if b = a then some o else c.I b) = some o' := q
  split at q'
  ·rename_i z; cases q'; rw [z]; exact e
  ·exact hk b o' (S.fr b o' q')
 ·have nf := S.not_foot hn
  show (if b = a then some o else c.I b) = none
  rw [if_neg (fun z => nf (by rw [← z]; exact f))]; exact S.ni b f
 ·have q' : (if b = a then some o else c.I b) = some o' := q
  split at q'
  ·rename_i z; exact .inr (.inr (by rw [z]; exact hn))
  ·exact .inl q'
theorem SR.putNew {a : Addr} {x : AObj} (S : SR N c h) (hk : ∀ b o, h.get? b = some o → h'.get? b = some o) (hn : h.get? a = none) (hx : ∀ C fs, x ≠ .inst C fs) (e : ObjAt N c.I c.D h' a x) :
  SR N (c.put a x) h' ∧ Evo X c h (c.put a x) h' := by
 have S' := S.ext hk
 have nf := S.not_foot hn
 have foot : ∀ b, Foot (c.put a x) b → b = a ∨ Foot c b := fun b f => by
  rcases f with f | ⟨a', C, fs, q, rfl⟩
  ·by_cases z : b = a
   ·exact .inl z
   ·exact .inr (.inl (by simpa [Cfg.put, Sto.set, z] using f))
  ·have q' : (if a' = a then some x else c.σ a') = some (.inst C fs) := q
   split at q'
   ·cases q'; exact absurd rfl (hx C fs)
   ·exact .inr (.inr ⟨a', C, fs, q', rfl⟩)
 have old : ∀ a' C fs, (c.put a x).σ a' = some (.inst C fs) → c.σ a' = some (.inst C fs) := fun a' C fs q => by
  have q' : (if a' = a then some x else c.σ a') = some (.inst C fs) := q
  split at q'
  ·cases q'; exact absurd rfl (hx C fs)
  ·exact q'
 refine ⟨⟨S'.fr, fun b y q => ?_, fun b f => ?_, fun a' C fs q => ?_, fun a' C fs a'' C' fs' q q' => S.dd a' C fs a'' C' fs' (old _ _ _ q) (old _ _ _ q'), S.stat⟩, fun _ _ e => e, fun b o' q _ _ => hk b o' q, liveOf hk, fun b f => ?_, fun _ _ e => .inl e⟩
 ·have q' : (if b = a then some x else c.σ b) = some y := q
  split at q'
  ·rename_i z; cases q'; subst z; exact e
  ·exact S'.st b y q'
 ·rcases foot b f with rfl | f
  ·exact S.I_none hn
  ·exact S.ni b f
 ·show (if c.D a' = a then some x else c.σ (c.D a')) = none
  rw [if_neg]; exact S.dj a' C fs (old _ _ _ q)
  intro z; exact nf (.inr ⟨a', C, fs, old _ _ _ q, z⟩)
 ·rcases foot b f with rfl | f
  ·exact .inr hn
  ·exact .inl f
theorem SR.putL {a : Addr} {x y : AObj} (S : SR N c h) (hs : Heap.SameBut a h h') (ho : c.σ a = some y) (hy : ∀ C fs, y ≠ .inst C fs) (hx : ∀ C fs, x ≠ .inst C fs) (e : ObjAt N c.I c.D h' a x) :
  SR N (c.put a x) h' ∧ Evo X c h (c.put a x) h' := by
 have fa : Foot c a := .inl (by rw [ho]; simp)
 have ia := S.ni a fa
 have old : ∀ a' C fs, (c.put a x).σ a' = some (.inst C fs) → c.σ a' = some (.inst C fs) := fun a' C fs q => by
  have q' : (if a' = a then some x else c.σ a') = some (.inst C fs) := q
  split at q'
  ·cases q'; exact absurd rfl (hx C fs)
  ·exact q'
 have foot : ∀ b, Foot (c.put a x) b → Foot c b := fun b f => by
  rcases f with f | ⟨a', C, fs, q, rfl⟩
  ·by_cases z : b = a
   ·exact z ▸ fa
   ·exact .inl (by simpa [Cfg.put, Sto.set, z] using f)
  ·exact .inr ⟨a', C, fs, old _ _ _ q, rfl⟩
 refine ⟨⟨fun b o q => (hs.2 b (fun z => by rw [z] at q; rw [show (c.put a x).I a = none from ia] at q; cases q)).trans (S.fr b o q), fun b z q => ?_, fun b f => S.ni b (foot b f), fun a' C fs q => ?_, fun a' C fs a'' C' fs' q q' => S.dd a' C fs a'' C' fs' (old _ _ _ q) (old _ _ _ q'), S.stat⟩,
  fun _ _ e => e, fun b o q nf _ => (hs.2 b (fun z => nf (z ▸ fa))).trans q, fun b q => ?_, fun b f => .inl (foot b f), fun _ _ e => .inl e⟩
 ·have q' : (if b = a then some x else c.σ b) = some z := q
  split at q'
  ·rename_i w; cases q'; subst w; exact e
  ·rename_i hne
   refine (S.st b z q').lift (fun _ _ e => e) rfl fun b' o hb e' => (hs.2 b' ?_).trans e'
   intro w
   rcases hb with w' | ⟨w', C, fs, rfl⟩
   ·exact hne (w'.symm.trans w)
   ·have this : c.σ (c.D b) = none := S.dj b C fs q'; have w'' : b' = c.D b := w'; rw [← w'', w, ho] at this; cases this
 ·show (if c.D a' = a then some x else c.σ (c.D a')) = none
  have := S.dj a' C fs (old _ _ _ q)
  rw [if_neg]; exact this
  intro z; rw [z, ho] at this; cases this
 ·by_cases z : b = a
  ·subst z; obtain ⟨o, w⟩ := e.some; rw [w] at q; cases q
  ·rw [← hs.2 b z]; exact q
theorem SR.putF {a : Addr} {C C' : Nat} {fs fs' : List (Nat × PV)} (S : SR N c h) (hs : Heap.SameBut (c.D a) h h') (ho : c.σ a = some (.inst C fs)) (e : ObjAt N c.I c.D h' a (.inst C' fs')) :
  SR N (c.put a (.inst C' fs')) h' ∧ Evo X c h (c.put a (.inst C' fs')) h' := by
 have fd : Foot c (c.D a) := .inr ⟨a, C, fs, ho, rfl⟩
 have id := S.ni _ fd
 have old : ∀ a' C₁ fs₁, (c.put a (.inst C' fs')).σ a' = some (.inst C₁ fs₁) → ∃ C₂ fs₂, c.σ a' = some (.inst C₂ fs₂) := fun a' C₁ fs₁ q => by
  have q' : (if a' = a then some (AObj.inst C' fs') else c.σ a') = some (.inst C₁ fs₁) := q
  split at q'
  ·rename_i z; exact ⟨C, fs, z ▸ ho⟩
  ·exact ⟨_, _, q'⟩
 have foot : ∀ b, Foot (c.put a (.inst C' fs')) b → Foot c b := fun b f => by
  rcases f with f | ⟨a', C₁, fs₁, q, rfl⟩
  ·by_cases z : b = a
   ·exact .inl (by rw [z, ho]; simp)
   ·exact .inl (by simpa [Cfg.put, Sto.set, z] using f)
  ·obtain ⟨C₂, fs₂, q'⟩ := old _ _ _ q; exact .inr ⟨a', C₂, fs₂, q', rfl⟩
 refine ⟨⟨fun b o q => (hs.2 b (fun z => by rw [z] at q; rw [show (c.put a (.inst C' fs')).I (c.D a) = none from id] at q; cases q)).trans (S.fr b o q), fun b z q => ?_, fun b f => S.ni b (foot b f), fun a' C₁ fs₁ q => ?_,
   fun a' C₁ fs₁ a'' C₂ fs₂ q q' => by obtain ⟨_, _, w⟩ := old _ _ _ q; obtain ⟨_, _, w'⟩ := old _ _ _ q'; exact S.dd _ _ _ _ _ _ w w', S.stat⟩,
  fun _ _ e => e, fun b o q nf _ => (hs.2 b (fun z => nf (z ▸ fd))).trans q, fun b q => ?_, fun b f => .inl (foot b f), fun _ _ e => .inl e⟩
 ·have q' : (if b = a then some (AObj.inst C' fs') else c.σ b) = some z := q
  split at q'
  ·rename_i w; cases q'; subst w; exact e
  ·rename_i hne
   refine (S.st b z q').lift (fun _ _ e => e) rfl fun b' o hb e' => (hs.2 b' ?_).trans e'
   intro w
   rcases hb with w' | ⟨w', C₁, fs₁, rfl⟩
   ·have this : c.σ (c.D a) = none := S.dj a C fs ho; have w'' : b' = b := w'; have w3 : b' = c.D a := w; rw [← w3, w'', q'] at this; cases this
   ·exact hne (S.dd _ _ _ _ _ _ q' ho (w'.symm.trans w))
 ·obtain ⟨C₂, fs₂, w⟩ := old _ _ _ q
  show (if c.D a' = a then some (AObj.inst C' fs') else c.σ (c.D a')) = none
  have := S.dj a' C₂ fs₂ w
  rw [if_neg]; exact this
  intro z; rw [z, ho] at this; cases this
 ·by_cases z : b = c.D a
  ·obtain ⟨_, es, n, w, _⟩ := e; rw [z, w] at q; cases q
  ·rw [← hs.2 b z]; exact q
end Mine
end
section
namespace Mine
open PySem PySem.W PyProof.Rows
variable {N : Nm} {c c' c'' : Cfg} {h h' h'' : Heap} {X : Addr → Prop}
theorem SR.instNew {k : Nat} (S : SR N c h) :
  SR N { c with D := fun x => if x = h.objs.size + 1 then h.objs.size else c.D x, σ := c.σ.set (h.objs.size + 1) (.inst k []) } ((h.push emptyDict).push (instObj (N.cls k) h.objs.size)) ∧
  Evo X c h { c with D := fun x => if x = h.objs.size + 1 then h.objs.size else c.D x, σ := c.σ.set (h.objs.size + 1) (.inst k []) } ((h.push emptyDict).push (instObj (N.cls k) h.objs.size)) := by
 have hk : ∀ b o, h.get? b = some o → ((h.push emptyDict).push (instObj (N.cls k) h.objs.size)).get? b = some o := fun b o e => Heap.get?_push_of_some _ (Heap.get?_push_of_some _ e)
 have hn : h.get? h.objs.size = none := by
  cases q : h.get? h.objs.size with
  | none => rfl
  | some o => exact absurd (Heap.lt_size q) (Nat.lt_irrefl _)
 have hn1 : h.get? (h.objs.size + 1) = none := by
  cases q : h.get? (h.objs.size + 1) with
  | none => rfl
  | some o => exact absurd (Heap.lt_size q) (Nat.not_lt.mpr (Nat.le_succ _))
 have e0 : ((h.push emptyDict).push (instObj (N.cls k) h.objs.size)).get? h.objs.size = some emptyDict := Heap.get?_push_of_some _ (Heap.get?_push_size _ rfl)
 have e1 : ((h.push emptyDict).push (instObj (N.cls k) h.objs.size)).get? (h.objs.size + 1) = some (instObj (N.cls k) h.objs.size) := by
  have := Heap.get?_push_size (h.push emptyDict) (o := instObj (N.cls k) h.objs.size) rfl
  rwa [Heap.size_push] at this
 have S' := S.ext hk
 have ne : ∀ a x, c.σ a = some x → a ≠ h.objs.size + 1 := fun a x e z => by rw [z, S.sto_none hn1] at e; cases e
 have old : ∀ a C fs, (c.σ.set (h.objs.size + 1) (.inst k [])) a = some (.inst C fs) → (a = h.objs.size + 1) ∨ (a ≠ h.objs.size + 1 ∧ c.σ a = some (.inst C fs)) := fun a C fs q => by
  have q' : (if a = h.objs.size + 1 then some (AObj.inst k []) else c.σ a) = some (.inst C fs) := q
  split at q'
  ·rename_i z; exact .inl z
  ·rename_i z; exact .inr ⟨z, q'⟩
 have foot : ∀ b, Foot { c with D := fun x => if x = h.objs.size + 1 then h.objs.size else c.D x, σ := c.σ.set (h.objs.size + 1) (.inst k []) } b → b = h.objs.size + 1 ∨ b = h.objs.size ∨ Foot c b := fun b f => by
  rcases f with f | ⟨a', C, fs, q, rfl⟩
  ·by_cases z : b = h.objs.size + 1
   ·exact .inl z
   ·exact .inr (.inr (.inl (by simpa [Sto.set, z] using f)))
  ·rcases old _ _ _ q with z | ⟨z, q'⟩
   ·exact .inr (.inl (by simp [z]))
   ·refine .inr (.inr (.inr ⟨a', C, fs, q', ?_⟩)); simp [z]
 have nd : ∀ a C fs, c.σ a = some (.inst C fs) → c.D a ≠ h.objs.size := fun a C fs q z => by
  have := S.not_foot hn; exact this (.inr ⟨a, C, fs, q, z⟩)
 have nd1 : ∀ a C fs, c.σ a = some (.inst C fs) → c.D a ≠ h.objs.size + 1 := fun a C fs q z => by
  have := S.not_foot hn1; exact this (.inr ⟨a, C, fs, q, z⟩)
 refine ⟨⟨S'.fr, fun a x q => ?_, fun b f => ?_, fun a C fs q => ?_, fun a C fs a' C' fs' q q' e => ?_, S.stat⟩, fun _ _ e => e, fun b o q _ _ => hk b o q, liveOf hk, fun b f => ?_, fun _ _ e => .inl e⟩
 ·have q' : (if a = h.objs.size + 1 then some (AObj.inst k []) else c.σ a) = some x := q
  split at q'
  ·rename_i z; cases q'; subst z
   exact ⟨by simpa using e1, [], 0, by simpa using e0, .nil⟩
  ·rename_i z
   exact (S'.st a x q').lift (fun _ _ e => e) (by simp [z]) fun _ _ _ e => e
 ·rcases foot b f with rfl | rfl | f
  ·exact S.I_none hn1
  ·exact S.I_none hn
  ·exact S.ni b f
 ·rcases old _ _ _ q with z | ⟨z, q'⟩
  ·subst z
   show (if (if h.objs.size + 1 = h.objs.size + 1 then h.objs.size else c.D (h.objs.size + 1)) = h.objs.size + 1 then _ else c.σ (if h.objs.size + 1 = h.objs.size + 1 then h.objs.size else c.D (h.objs.size + 1))) = none
   simp [S.sto_none hn]
  ·show (if (if a = h.objs.size + 1 then h.objs.size else c.D a) = h.objs.size + 1 then _ else c.σ (if a = h.objs.size + 1 then h.objs.size else c.D a)) = none
   simp [z, nd1 a C fs q', S.dj a C fs q']
 ·rcases old _ _ _ q with z | ⟨z, w⟩ <;> rcases old _ _ _ q' with z' | ⟨z', w'⟩
  ·rw [z, z']
  ·exfalso; simp only [z, z', if_true, if_false] at e; exact nd _ _ _ w' e.symm
  ·exfalso; simp only [z, z', if_true, if_false] at e; exact nd _ _ _ w e
  ·simp only [z, z', if_false] at e; exact S.dd _ _ _ _ _ _ w w' e
 ·rcases foot b f with rfl | rfl | f
  ·exact .inr hn1
  ·exact .inr hn
  ·exact .inl f
noncomputable def Cfg.frz (c : Cfg) (σ' : Sto) (h : Heap) : Cfg :=
  { c with σ := σ', I := fun a => match σ' a, c.σ a with | none, some (.list _) => h.get? a | _, _ => c.I a }
theorem SR.frz {σ' : Sto} (S : SR N c h) (hs : ∀ a o, σ' a = some o → c.σ a = some o) : SR N (c.frz σ' h) h ∧ Evo X c h (c.frz σ' h) h := by
 have inc : ∀ a o, c.I a = some o → (c.frz σ' h).I a = some o := fun a o e => by
  show (match σ' a, c.σ a with | none, some (.list _) => h.get? a | _, _ => c.I a) = some o
  split
  ·exact S.fr a o e
  ·exact e
 have foot : ∀ b, Foot (c.frz σ' h) b → Foot c b := fun b f => by
  rcases f with f | ⟨a, C, fs, q, rfl⟩
  ·refine .inl fun z => f ?_
   cases w : σ' b with
   | none => exact w
   | some o => rw [hs b o w] at z; cases z
  ·exact .inr ⟨a, C, fs, hs _ _ q, rfl⟩
 have nfI : ∀ b o, (c.frz σ' h).I b = some o → c.I b = some o ∨ (σ' b = none ∧ ∃ l, c.σ b = some (.list l) ∧ h.get? b = some o) := fun b o e => by
  have e' : (match σ' b, c.σ b with | none, some (.list _) => h.get? b | _, _ => c.I b) = some o := e
  split at e'
  ·rename_i l q1 q2; exact .inr ⟨q1, l, q2, e'⟩
  ·exact .inl e'
 refine ⟨⟨fun a o e => ?_, fun a x q => (S.st a x (hs a x q)).lift inc rfl fun _ _ _ e => e, fun b f => ?_, fun a C fs q => ?_, fun a C fs a' C' fs' q q' => S.dd a C fs a' C' fs' (hs _ _ q) (hs _ _ q'), fun a o e => inc _ _ (S.stat a o e)⟩,
  inc, fun b o e _ _ => e, fun _ e => e, fun b f => .inl (foot b f), fun b o e => ?_⟩
 ·rcases nfI a o e with e | ⟨_, _, _, e⟩
  ·exact S.fr a o e
  ·exact e
 ·have f0 := foot b f
  cases q : (c.frz σ' h).I b with
  | none => rfl
  | some o =>
   exfalso
   rcases nfI b o q with e | ⟨z, l, w, e⟩
   ·rw [S.ni b f0] at e; cases e
   ·rcases f with f | ⟨a, C, fs, q', w'⟩
    ·exact f z
    ·have : c.σ (c.D a) = none := S.dj a C fs (hs _ _ q')
     have w'' : c.D a = b := w'
     rw [w'', w] at this; cases this
 ·show σ' (c.D a) = none
  cases w : σ' (c.D a) with
  | none => rfl
  | some o => have : c.σ (c.D a) = none := S.dj a C fs (hs _ _ q); rw [hs _ _ w] at this; cases this
 ·rcases nfI b o e with e | ⟨_, l, w, _⟩
  ·exact .inl e
  ·exact .inr (.inl (.inl (by rw [w]; simp)))
mutual
theorem Frz.vrel {σ' : Sto} (S : SR N c h) (hs : ∀ a o, σ' a = some o → c.σ a = some o) : ∀ {d d' : PV} {v : Value}, Frz c.σ σ' d d' → VRel N c.I v d → VRel N (c.frz σ' h).I v d'
 | _, _, v, .refl d, x => x.mono (S.frz (X := NoX) hs).2.inc
 | _, _, _, .obj (a := a) (l := l) q q' y, .obj _ => by
  obtain ⟨o, vs, e, ho, r⟩ := S.st a _ q
  refine .list (o := o) (vs := vs) ?_ ho (FrzL.vrel S hs y r)
  show (match σ' a, c.σ a with | none, some (.list _) => h.get? a | _, _ => c.I a) = some o
  rw [q', q]; exact e
theorem FrzL.vrel {σ' : Sto} (S : SR N c h) (hs : ∀ a o, σ' a = some o → c.σ a = some o) : ∀ {d d' : List PV} {v : List Value}, FrzL c.σ σ' d d' → VRelL N c.I v d → VRelL N (c.frz σ' h).I v d'
 | _, _, _, .nil, .nil => .nil
 | _, _, _, .cons x y, .cons a b => .cons (Frz.vrel S hs x a) (FrzL.vrel S hs y b)
end
def VarAt (env : Env) (h : Heap) (x : Str) (cv : Value) : Prop :=
 (env.kindOf x = some .local ∧ ∃ m, h.Ns env.locals m ∧ m x = some cv) ∨ ((env.kindOf x = some .cell ∨ env.kindOf x = some .free) ∧ ∃ a, env.cells.lookup x = some a ∧ h.IsCell a (some cv))
def Own (env : Env) (b : Addr) : Prop := b = env.locals ∨ ∃ x, (x, b) ∈ env.cells
structure CtxOk (C : Ctx) (env : Env) : Prop where
 fn : env.scope.kind = .function
 sc : env.scope = C.scope
 inj : ∀ x y i, slotOf C.slots x = some i → slotOf C.slots y = some i → x = y
 lt : ∀ x i, slotOf C.slots x = some i → i < C.n
 apart : env.cells.Pairwise fun x y => x.2 ≠ y.2
 off : ∀ x a, (x, a) ∈ env.cells → a ≠ env.locals
 cell : ∀ x i, slotOf C.slots x = some i → C.kind x = some .cell ∨ C.kind x = some .free → ∃ a, env.cells.lookup x = some a
 names : ∀ x k, C.kind x = some k → (x == ("__debug__" : Str)) = false ∧ (x == ("__classdict__" : Str)) = false
theorem CtxOk.kind {C : Ctx} {env : Env} (K : CtxOk C env) (x : Str) : env.kindOf x = C.kind x := by
 unfold Env.kindOf Ctx.kind; rw [K.sc]
theorem loc_cases {C : Ctx} {x : Str} {i : Nat} (h : C.loc x = some i) : slotOf C.slots x = some i ∧ (C.kind x = some .local ∨ C.kind x = some .cell ∨ C.kind x = some .free) := by
 unfold Ctx.loc at h
 split at h <;> first | cases h | skip
 ·rename_i e; exact ⟨h, .inl e⟩
 ·rename_i e; exact ⟨h, .inr (.inl e)⟩
 ·rename_i e; exact ⟨h, .inr (.inr e)⟩
structure LR (N : Nm) (C : Ctx) (env : Env) (c : Cfg) (h : Heap) (loc : List PV) : Prop where
 ns : ∃ m, h.Ns env.locals m
 cells : ∀ x a, (x, a) ∈ env.cells → ∃ v, h.IsCell a v
 len : loc.length = C.n
 vars : ∀ x i v, C.loc x = some i → loc[i]? = some v → v ≠ .undef → ∃ cv, VarAt env h x cv ∧ VRel N c.I cv v
 off : ∀ b, Own env b → ¬ Foot c b ∧ c.I b = none
theorem LR.own_some {C : Ctx} {env : Env} {loc : List PV} (L : LR N C env c h loc) {b : Addr} (o : Own env b) : ∃ x, h.get? b = some x := by
 rcases o with rfl | ⟨x, hx⟩
 ·obtain ⟨m, ob, _, _, e, _⟩ := L.ns; exact ⟨ob, e⟩
 ·obtain ⟨v, ob, e, _⟩ := L.cells x b hx; exact ⟨ob, e⟩
theorem LR.kept {C : Ctx} {env : Env} {loc : List PV} (L : LR N C env c h loc) (E : Evo X c h c' h') (hX : ∀ b, Own env b → ¬X b) {b : Addr} (o : Own env b) : ∀ x, h.get? b = some x → h'.get? b = some x :=
 fun x e => E.keep b x e (L.off b o).1 (hX b o)
theorem LR.evoX {C : Ctx} {env : Env} {loc : List PV} (L : LR N C env c h loc) (E : Evo X c h c' h') (hX : ∀ b, Own env b → ¬X b) : LR N C env c' h' loc where
 ns := let ⟨m, o, es, ep, e, r⟩ := L.ns; ⟨m, o, es, ep, L.kept E hX (.inl rfl) _ e, r⟩
 cells := fun x a hx => let ⟨v, o, e, r⟩ := L.cells x a hx; ⟨v, o, L.kept E hX (.inr ⟨x, hx⟩) _ e, r⟩
 len := L.len
 vars := fun x i v hl hv hu => by
  obtain ⟨cv, hcv, r⟩ := L.vars x i v hl hv hu
  refine ⟨cv, ?_, r.mono E.inc⟩
  rcases hcv with ⟨k, m, ⟨o, es, ep, e, r⟩, hm⟩ | ⟨k, a, ha, o, e, r⟩
  ·exact .inl ⟨k, m, ⟨o, es, ep, L.kept E hX (.inl rfl) _ e, r⟩, hm⟩
  ·exact .inr ⟨k, a, ha, o, L.kept E hX (.inr ⟨x, mem_of_lookup ha⟩) _ e, r⟩
 off := fun b o => by
  obtain ⟨x, e⟩ := L.own_some o
  obtain ⟨nf, ni⟩ := L.off b o
  refine ⟨fun f => (E.foot b f).elim nf (fun z => by rw [z] at e; cases e), ?_⟩
  cases q : c'.I b with
  | none => rfl
  | some y =>
   rcases E.inew b y q with z | z | z
   ·rw [ni] at z; cases z
   ·exact absurd z nf
   ·rw [z] at e; cases e
theorem LR.evo {C : Ctx} {env : Env} {loc : List PV} (L : LR N C env c h loc) (E : Evo NoX c h c' h') : LR N C env c' h' loc := L.evoX E fun _ _ => id
section
variable {A : Around} {E : Value → Shared → Prop} {s : Shared} {M : Model} {C : Ctx} {env : Env} {loc : List PV}
theorem LR.read {x : Str} {i : Nat} {d : PV} {pos : Pos} {Q : Value → Shared → Prop} (K : CtxOk C env) (L : LR N C env c s.heap loc) (hl : C.loc x = some i) (hd : loc[i]? = some d) (hu : d ≠ .undef)
  (h : ∀ v, VRel N c.I v d → Q v s) : wpAny M A (eval (.Name x pos) env) Q E s := by
 obtain ⟨cv, hcv, r⟩ := L.vars x i d hl hd hu
 have hk : ∃ k, C.kind x = some k := by
  obtain ⟨-, q | q | q⟩ := loc_cases hl <;> exact ⟨_, q⟩
 obtain ⟨k, hk⟩ := hk
 refine wpAny_Name ?_ (K.names x k hk).1
 rcases hcv with ⟨k, m, hn, hm⟩ | ⟨k | k, a, ha, hc⟩
 ·exact wpAny_loadName_local K.fn k hn hm (h _ r)
 ·exact wpAny_loadName_cell K.fn k ha hc (h _ r)
 ·exact wpAny_loadName_free K.fn k ha hc (h _ r) (K.names x _ hk).2
theorem LR.store {x : Str} {i : Nat} {d : PV} {v : Value} {Q : Unit → Shared → Prop} (K : CtxOk C env) (S : SR N c s.heap) (L : LR N C env c s.heap loc) (hl : slotOf C.slots x = some i) (hk : (C.kind x = some .local ∧ X env.locals) ∨ (C.kind x = some .cell ∧ ∀ a, env.cells.lookup x = some a → X a)) (hv : VRel N c.I v d)
  (h : ∀ h' tk, SR N c h' → Evo X c s.heap c h' → LR N C env c h' (loc.set i d) → Q () { s with heap := h', toks := tk }) : wpAny M A (storeName env x v) Q E s := by
 have hi : i < loc.length := by rw [L.len]; exact K.lt x i hl
 have main : ∀ (t : Addr) (h' : Heap), Own env t → X t → Heap.SameBut t s.heap h' → (∃ m, h'.Ns env.locals m) → (∀ y a, (y, a) ∈ env.cells → ∃ v, h'.IsCell a v) → VarAt env h' x v →
   (∀ y cv, y ≠ x → VarAt env s.heap y cv → VarAt env h' y cv) → SR N c h' ∧ Evo X c s.heap c h' ∧ LR N C env c h' (loc.set i d) := by
  intro t h' ho hX hs hns hcs hx hy
  obtain ⟨nf, ni⟩ := L.off t ho
  have htl : ∃ o, h'.get? t = some o := by
   rcases ho with rfl | ⟨y, hy'⟩
   ·obtain ⟨m, ob, _, _, e, _⟩ := hns; exact ⟨ob, e⟩
   ·obtain ⟨v, ob, e, _⟩ := hcs y t hy'; exact ⟨ob, e⟩
  refine ⟨S.touch hs.extBut nf ni, (Evo.refl X c s.heap).touch hs.extBut htl (.inr hX), hns, hcs, by rw [List.length_set]; exact L.len, fun y j w hj hw hu => ?_, L.off⟩
  rw [List.getElem?_set] at hw
  by_cases q : i = j
  ·subst q
   rw [if_pos rfl, if_pos hi] at hw
   cases hw
   rw [K.inj y x i (loc_cases hj).1 hl]
   exact ⟨v, hx, hv⟩
  ·rw [if_neg q] at hw
   obtain ⟨cv, hcv, r⟩ := L.vars y j w hj hw hu
   exact ⟨cv, hy y cv (fun z => q (by have := (loc_cases hj).1; rw [z, hl] at this; exact Option.some.inj this)) hcv, r⟩
 rcases hk with ⟨k, kX⟩ | ⟨k, kX⟩
 ·have k' : env.kindOf x = some .local := (K.kind x).trans k
  obtain ⟨m, hn⟩ := L.ns
  refine wpAny_storeName_local k' hn (fun h' hn' hs => ?_) (by rw [K.fn]; rfl)
  obtain ⟨a, b, e⟩ := main env.locals h' (.inl rfl) kX hs ⟨_, hn'⟩ (fun y a hy => let ⟨v, hc⟩ := L.cells y a hy; ⟨v, hc.sameBut hs (K.off y a hy)⟩) (.inl ⟨k', _, hn', by simp⟩) (fun y cv hne hcv => by
   rcases hcv with ⟨k', m', hm', e⟩ | ⟨k', a, ha, hc⟩
   ·refine .inl ⟨k', _, hn', ?_⟩
    show (if y = x then some v else m y) = _
    rw [if_neg hne]
    obtain ⟨o, es, ep, q, q2, _, q3⟩ := hn
    obtain ⟨o', es', ep', r, r2, _, r3⟩ := hm'
    rw [q] at r; cases r; rw [q2] at r2; cases r2
    rw [← q3 y, r3 y]; exact e
   ·exact .inr ⟨k', a, ha, hc.sameBut hs (K.off y a (mem_of_lookup ha))⟩)
  exact h h' _ a b e
 ·have k' : env.kindOf x = some .cell := (K.kind x).trans k
  obtain ⟨a, ha⟩ := K.cell x i hl (.inl k)
  obtain ⟨v0, hc⟩ := L.cells x a (mem_of_lookup ha)
  refine wpAny_storeName_cell K.fn k' ha hc fun h' hc' hs => ?_
  have ow : Own env a := .inr ⟨x, mem_of_lookup ha⟩
  obtain ⟨p, q, r⟩ := main a h' ow (kX a ha) hs (let ⟨m, hn⟩ := L.ns; ⟨m, hn.sameBut hs (Ne.symm (K.off x a (mem_of_lookup ha)))⟩) (fun y b hy => by
    by_cases z : b = a
    ·subst z; exact ⟨_, hc'⟩
    ·obtain ⟨v, hv⟩ := L.cells y b hy; exact ⟨v, hv.sameBut hs z⟩) (.inr ⟨.inl k', a, ha, hc'⟩) (fun y cv hne hcv => by
   rcases hcv with ⟨k', m', hm', e⟩ | ⟨k', b, hb, hcb⟩
   ·exact .inl ⟨k', m', hm'.sameBut hs (Ne.symm (K.off x a (mem_of_lookup ha))), e⟩
   ·exact .inr ⟨k', b, hb, hcb.sameBut hs fun z => hne (name_of_addr K.apart (mem_of_lookup hb) (z ▸ mem_of_lookup ha))⟩)
  exact h h' s.toks p q r
end
end Mine
end
section
namespace Mine
open PySem PySem.W PyProof.Rows PySem.Spec PyProof PySem.SeqAt
abbrev NoE : Value → Shared → Prop := fun _ _ => False
def VPost (N : Nm) (c : Cfg) (s : Shared) (Q : KV) (v : Value) (s' : Shared) : Prop :=
 ∃ c' d, SR N c' s'.heap ∧ Evo NoX c s.heap c' s'.heap ∧ VRel N c'.I v d ∧ Q d c'.σ ∧ s'.gens = s.gens ∧ s'.os = s.os
abbrev WV (N : Nm) (A : Around) (t : Sem Value) (c : Cfg) (s : Shared) (Q : KV) : Prop := wpAny (model N.prog N.w) A t (VPost N c s Q) NoE s
variable {N : Nm} {c : Cfg} {s : Shared} {A : Around} {Q : KV}
theorem vp_here {v : Value} {d : PV} {s' : Shared} (S : SR N c s.heap) (x : VRel N c.I v d) (q : Q d c.σ) (hh : s'.heap = s.heap := by rfl) (hg : s'.gens = s.gens := by rfl) (ho : s'.os = s.os := by rfl) : VPost N c s Q v s' :=
 ⟨c, d, hh ▸ S, hh ▸ Evo.refl _ _ _, x, q, hg, ho⟩
theorem vp_ext {v : Value} {d : PV} {s' : Shared} (S : SR N c s.heap) (hk : ∀ b o, s.heap.get? b = some o → s'.heap.get? b = some o) (x : VRel N c.I v d) (q : Q d c.σ) (hg : s'.gens = s.gens := by rfl) (ho : s'.os = s.os := by rfl) : VPost N c s Q v s' :=
 ⟨c, d, S.ext hk, Evo.ext hk, x, q, hg, ho⟩
theorem VPost.trans {c₁ : Cfg} {s₁ : Shared} {v : Value} {s' : Shared} (E : Evo NoX c s.heap c₁ s₁.heap) (hg : s₁.gens = s.gens) (ho : s₁.os = s.os) (x : VPost N c₁ s₁ Q v s') : VPost N c s Q v s' :=
 let ⟨c', d, S, E', r, q, g, o⟩ := x; ⟨c', d, S, E.trans E', r, q, g.trans hg, o.trans ho⟩
theorem get_size_none (h : Heap) : h.get? h.objs.size = none := by
 cases q : h.get? h.objs.size with
 | none => rfl
 | some o => exact absurd (Heap.lt_size q) (Nat.lt_irrefl _)
theorem vp_alloc {m : Bool} {a : Addr} {o : Obj} {vs : List Value} {l : List PV} {s' : Shared} (S : SR N c s.heap) (x : VRelL N c.I vs l) (h : alloc m l c.σ Q)
  (hk : ∀ b o, s.heap.get? b = some o → s'.heap.get? b = some o) (hn : s.heap.get? a = none) (e : s'.heap.get? a = some o) (ho : ∃ n, o = listOf vs.toArray n) (hg : s'.gens = s.gens := by rfl) (hos : s'.os = s.os := by rfl) : VPost N c s Q (.ref a) s' := by
 obtain ⟨hz, h⟩ := h
 replace ho : isListO o vs := ⟨x.length ▸ hz, ho⟩
 cases m with
 | false =>
  obtain ⟨S', E'⟩ := S.freezeNew (X := NoX) hk hn e
  exact ⟨_, _, S', E', .list (by show (if a = a then some o else c.I a) = some o; rw [if_pos rfl]) ho (x.mono E'.inc), h, hg, hos⟩
 | true =>
  obtain ⟨S', E'⟩ := S.putNew (X := NoX) (x := .list l) hk hn (fun _ _ z => by cases z) ⟨o, vs, e, ho, x⟩
  exact ⟨_, _, S', E', .obj a, h a (S.sto_none hn), hg, hos⟩
theorem vp_push {m : Bool} {vs : List Value} {l : List PV} {tk : Nat} {n : Nat} (S : SR N c s.heap) (x : VRelL N c.I vs l) (h : alloc m l c.σ Q) :
  VPost N c s Q (.ref s.heap.objs.size) { s with heap := s.heap.push { cls := .type "list", data := .seq vs.toArray n }, toks := tk } :=
 vp_alloc S x h (fun _ _ e => Heap.get?_push_of_some _ e) (get_size_none _) (Heap.get?_push_size _ rfl) ⟨n, rfl⟩
theorem isList_of {h : Heap} {a : Addr} {o : Obj} {vs : List Value} (e : h.get? a = some o) (ho : isListO o vs) : h.IsList a vs.toArray := let ⟨_, n, ho⟩ := ho; ⟨o, e, by rw [ho], n, by rw [ho]⟩
theorem isTup_of {h : Heap} {a : Addr} {o : Obj} {vs : List Value} (e : h.get? a = some o) (ho : isTupO o vs) : h.IsTuple a vs.toArray := ⟨o, e, ho.2.1, ho.2.2⟩
theorem list_at {v : Value} {l : List PV} (S : SR N c s.heap) (x : VRel N c.I v (.list l)) : ∃ a vs, v = .ref a ∧ s.heap.IsList a vs.toArray ∧ VRelL N c.I vs l ∧ l.length ≤ big := by
 cases x with
 | list h ho x => exact ⟨_, _, rfl, isList_of (S.fr _ _ h) ho, x, x.length ▸ ho.1⟩
theorem elems_at {v : Value} {d : PV} {l : List PV} (S : SR N c s.heap) (x : VRel N c.I v d) (e : elems c.σ d = some l) : ∃ a vs, v = .ref a ∧ s.heap.IsList a vs.toArray ∧ VRelL N c.I vs l ∧ l.length ≤ big := by
 cases d with
 | list l' => cases e; exact list_at S x
 | obj a =>
  cases x
  simp only [elems] at e
  split at e
  ·rename_i l' q; cases e
   obtain ⟨o, vs, g, ho, r⟩ := S.st a _ q
   exact ⟨_, _, rfl, isList_of g ho, r, r.length ▸ ho.1⟩
  ·cases e
 | _ => cases e
theorem tup_at {v : Value} {l : List PV} (S : SR N c s.heap) (x : VRel N c.I v (.tup l)) : ∃ a vs, v = .ref a ∧ s.heap.IsTuple a vs.toArray ∧ VRelL N c.I vs l ∧ l.length ≤ big := by
 cases x with
 | tup h ho x => exact ⟨_, _, rfl, isTup_of (S.fr _ _ h) ho, x, x.length ▸ ho.1⟩
theorem add_lists_h {l b : Addr} {vs ws : List Value} {Q : Value → Shared → Prop} {E : Value → Shared → Prop} (hl : s.heap.IsList l vs.toArray) (hb : s.heap.IsList b ws.toArray)
  (h : Q (.ref s.heap.objs.size) { s with heap := s.heap.push { cls := .type "list", data := .seq (vs ++ ws).toArray } }) (hsz : vs.length + ws.length ≤ sizeLine) :
  wpAny (model N.prog N.w) A (binaryOp .Add (.ref l) (.ref b)) Q E s := by
 obtain ⟨⟨cls, dd, data, sl⟩, ho, hc, n, hd⟩ := id hl
 obtain ⟨⟨cls2, dd2, data2, sl2⟩, ho2, hc2, n2, hd2⟩ := id hb
 simp only at hc hd hc2 hd2
 subst hc hd hc2 hd2
 have e : vs.toArray ++ ws.toArray = (vs ++ ws).toArray := by simp
 refine concat_meets ⟨_, ho, rfl⟩ ⟨_, ho2, rfl⟩ noFill_list_add seq_list_add PySem.F.slot_list_add PySem.F.entry_list_add (PySem.F.args_list_add_2 _ _) (list_addW l b vs.toArray ws.toArray n n2 dd dd2 sl sl2 (by simpa using hsz)) ⟨ho, ho2, ?_⟩
 rw [e]; exact h
theorem mul_list_h {l : Addr} {vs : List Value} {x : Int} {u : Tok} {Q : Value → Shared → Prop} {E : Value → Shared → Prop} (hl : s.heap.IsList l vs.toArray)
  (hlo : -(2 ^ 63 : Int) ≤ x) (hhi : x < 2 ^ 63) (hsz : vs.length * x.toNat ≤ 2 ^ 24)
  (h : Q (.ref s.heap.objs.size) { s with heap := s.heap.push { cls := .type "list", data := .seq (List.replicate x.toNat vs).flatten.toArray } }) :
  wpAny (model N.prog N.w) A (binaryOp .Mult (.ref l) (.int x u)) Q E s := by
 obtain ⟨⟨cls, d, data, sl⟩, ho, hcl, k, hd⟩ := id hl
 simp only at hcl hd
 subst hcl hd
 have hsz' : vs.toArray.size * x.toNat ≤ 2 ^ 24 := by simpa using hsz
 refine wpAny_binaryOp_repeat_ref (T := "list") (U := "int") (by decide) ⟨_, ho, rfl⟩ (fun s' => typeIs_int s' x u) noFill_list_mul F.fills_int_mul F.slot_int_rmul repeat_list F.slot_int_index.lookup
  (call_meets F.slot_int_rmul (typeIs_int s x u) F.entry_int_rmul (F.args_int_rmul_2 _ _) (lm_int_rmul_list_any x u l vs.toArray k d sl)
   ⟨ho, rfl, ⟨_, ho, rfl⟩, call_meets F.slot_list_mul ⟨_, ho, rfl⟩ F.entry_list_mul (F.args_list_mul_2 _ _)
    (lm_list_mul_any l vs.toArray k d sl x u (by simp [Builtin.List.listFitsIndex]; omega) (by omega) (by simp [Builtin.List.listTooLong, sizeLine]; omega))
    ⟨ho, ?_⟩⟩)
 rw [← listMul_foldl_if] at h
 exact h
theorem replicate_flat : ∀ {vs : List Value} {l : List PV} (n : Nat), VRelL N c.I vs l → VRelL N c.I (List.replicate n vs).flatten (List.replicate n l).flatten
 | _, _, 0, _ => .nil
 | _, _, n + 1, x => by simpa [List.replicate_succ] using x.append (replicate_flat n x)
theorem flat_lenS {α : Type} (l : List α) : ∀ n, (List.replicate n l).flatten.length = l.length * n
 | 0 => rfl
 | n + 1 => by rw [List.replicate_succ, List.flatten_cons, List.length_append, flat_lenS l n, Nat.mul_succ, Nat.add_comm]
theorem binA_add {m : Bool} {a b : PV} {σ : Sto} (h : binA m .add a b σ Q) : (∃ i j, a = .int i ∧ b = .int j ∧ Q (.int (i + j)) σ) ∨ ∃ x y, elems σ a = some x ∧ elems σ b = some y ∧ alloc m (x ++ y) σ Q := by
 unfold binA at h
 split at h
 any_goals (rename_i e; cases e)
 ·exact .inl ⟨_, _, rfl, rfl, h⟩
 ·split at h
  ·rename_i h1 h2; exact .inr ⟨_, _, h1, h2, h⟩
  ·exact h.elim
 ·exact h.elim
theorem bin_sound {m : Bool} {op : Operator} {o : BOp} {v w : Value} {a b : PV} (S : SR N c s.heap) (ha : VRel N c.I v a) (hb : VRel N c.I w b) (ho : opOf op = some o) (h : binA m o a b c.σ Q) :
  WV N A (binaryOp op v w) c s Q := by
 cases op <;> simp only [opOf, Option.some.injEq, reduceCtorEq] at ho <;> subst ho
 ·-- Add
  rcases binA_add h with ⟨i, j, rfl, rfl, h⟩ | ⟨x, y, e1, e2, h⟩
  ·cases ha; cases hb; exact PyProof.Rows.add_int (vp_here S (.int _ _) h)
  ·obtain ⟨p, vs, rfl, hl, r, _⟩ := elems_at S ha e1
   obtain ⟨q, ws, rfl, hl', r', _⟩ := elems_at S hb e2
   have rr := r.append r'
   refine add_lists_h hl hl' (vp_push (tk := s.toks) S rr h) ?_
   have := h.1
   rw [List.length_append] at this
   rw [r.length, r'.length]; exact this
 ·cases a <;> cases b <;> simp only [binA] at h <;> first | exact h.elim | (cases ha; cases hb; exact PyProof.Rows.sub_int (vp_here S (.int _ _) h))
 ·-- Mult
  cases a <;> cases b <;> simp only [binA] at h <;> try exact h.elim
  ·cases ha; cases hb
   exact PyProof.Rows.mul_int (vp_here S (.int _ _) h.2.2) (IntMulOk.of_left (intBits_le_64 (by omega) (by omega)))
  ·obtain ⟨h1, h2, h3⟩ := h
   cases hb
   obtain ⟨p, vs, rfl, hl, r, _⟩ := list_at S ha
   have hz := h3.1
   rw [flat_lenS] at hz
   refine mul_list_h hl (by omega) (by omega) (by rw [r.length]; exact hz) (vp_push (tk := s.toks) S (replicate_flat _ r) h3)
 ·cases a <;> cases b <;> simp only [binA] at h <;> first | exact h.elim | (cases ha; cases hb; exact mod_int h.1 (vp_here S (.int _ _) h.2))
 ·cases a <;> cases b <;> simp only [binA] at h <;> first | exact h.elim | (cases ha; cases hb; exact floordiv_int h.1 (vp_here S (.int _ _) h.2.2) (.inl (PyProof.noPylong_small h.2.1)))
structure AOk (A : Around) : Prop where
 h : A.handled = none
 u : A.units ≤ 9000
def CPost (r : Bool) (s : Shared) (u : Value) (s' : Shared) : Prop := u = .bool r ∧ (∀ b o, s.heap.get? b = some o → s'.heap.get? b = some o) ∧ s'.gens = s.gens ∧ s'.os = s.os
theorem cp_here {r r' : Bool} {s' : Shared} (e : r = r') (hh : s'.heap = s.heap := by rfl) (hg : s'.gens = s.gens := by rfl) (ho : s'.os = s.os := by rfl) : CPost r' s (.bool r) s' :=
 ⟨by rw [e], fun _ _ q => by rw [hh]; exact q, hg, ho⟩
theorem ivs_rel : ∀ {vs : List Value} {l : List PV} {ns : List Int}, VRelL N c.I vs l → ivs l = some ns → IntsAre vs ns
 | _, _, _, .nil, e => by cases e; exact .nil
 | _, _, _, .cons (d := d) x y, e => by
  cases d <;> simp only [ivs, reduceCtorEq, Option.map_eq_some_iff] at e
  obtain ⟨ns, e1, rfl⟩ := e
  cases x
  exact .cons _ _ (ivs_rel y e1)
theorem ivss_rel (S : SR N c s.heap) : ∀ {vs : List Value} {l : List PV} {ns : List (List Int)}, VRelL N c.I vs l → ivss l = some ns → ∃ as, ReadsAll s.heap vs (ns.map fun n => .list (n.map PyData.int)) as
 | _, _, _, .nil, e => by cases e; exact ⟨_, .nil⟩
 | _, _, _, .cons (d := d) x y, e => by
  cases d <;> simp only [ivss, reduceCtorEq] at e
  rename_i l
  split at e
  ·rename_i a b h1 h2
   cases e
   obtain ⟨as, r⟩ := ivss_rel S y h2
   obtain ⟨p, ws, rfl, hl, rr, _⟩ := list_at S x
   exact ⟨_, .cons (reads_of_ints hl (ivs_rel rr h1)) r⟩
  ·cases e
theorem ivss_facts : ∀ ns : List (List Int), PyData.canLayAll0 (ns.map fun n => .list (n.map PyData.int)) = true ∧ PyData.depthAll (ns.map fun n => .list (n.map PyData.int)) ≤ 3
 | [] => ⟨rfl, by decide⟩
 | n :: r => by
  obtain ⟨a, b⟩ := ivss_facts r
  have := ke_depthAll n
  refine ⟨?_, ?_⟩
  ·simp only [List.map_cons, PyData.canLayAll0, PyData.canLay0, canLayAll0_ints, a, Bool.and_self]
  ·simp only [List.map_cons, PyData.depthAll, PyData.depth, this]; omega
theorem ivss_noMix : ∀ ns ms : List (List Int), noMixAll (ns.map fun n => .list (n.map PyData.int)) (ms.map fun n => .list (n.map PyData.int)) = true
 | [], [] => rfl
 | [], _ :: _ => rfl
 | _ :: _, [] => rfl
 | a :: as, b :: bs => by simp only [List.map_cons, noMixAll, noMix, noMix_ints, ivss_noMix as bs, Bool.and_self]
theorem ivss_same : ∀ ns ms : List (List Int), PySem.Spec.sameAll (ns.map fun n => .list (n.map PyData.int)) (ms.map fun n => .list (n.map PyData.int)) = decide (ns = ms)
 | [], [] => rfl
 | [], _ :: _ => rfl
 | _ :: _, [] => rfl
 | a :: as, b :: bs => by
  simp only [List.map_cons, PySem.Spec.sameAll, PySem.Spec.same, same_ints, ivss_same as bs, List.cons.injEq]
  by_cases h : a = b <;> by_cases h' : as = bs <;> simp [h, h']
theorem list_eq_sound {a b : Addr} {vs ws : List Value} {x y : List PV} {r : Bool} (K : AOk A) (S : SR N c s.heap) (hl : s.heap.IsList a vs.toArray) (hl' : s.heap.IsList b ws.toArray) (hx : VRelL N c.I vs x) (hy : VRelL N c.I ws y) (h : listEq x y = some r) :
  wpAny (model N.prog N.w) A (compareOp .Eq (.ref a) (.ref b)) (CPost r s) NoE s ∧ wpAny (model N.prog N.w) A (compareOp .NotEq (.ref a) (.ref b)) (CPost (!r) s) NoE s := by
 have hu : A.units + 64 < cLine := by have := K.u; show A.units + 64 < 9900; omega
 unfold listEq at h
 split at h
 ·rename_i p q h1 h2
  cases h
  exact ⟨eq_intsK hl (ivs_rel hx h1) hl' (ivs_rel hy h2) hu (by exact cp_here (by by_cases e : p = q <;> simp [e])), ne_intsK hl (ivs_rel hx h1) hl' (ivs_rel hy h2) hu (by exact cp_here (by by_cases e : p = q <;> simp [e]))⟩
 ·split at h
  ·rename_i p q h1 h2
   cases h
   obtain ⟨as, ra⟩ := ivss_rel S hx h1
   obtain ⟨bs, rb⟩ := ivss_rel S hy h2
   obtain ⟨f1, f2⟩ := ivss_facts p
   obtain ⟨g1, g2⟩ := ivss_facts q
   obtain ⟨o, e, hc, n, hd⟩ := hl
   obtain ⟨o', e', hc', n', hd'⟩ := hl'
   have R1 := reads_list_at e hc hd (by simpa using ra)
   have R2 := reads_list_at e' hc' hd' (by simpa using rb)
   have S1 : SeqAt.shaped (.list (p.map fun n => .list (n.map PyData.int))) = true := by
    unfold SeqAt.shaped; simp only [PyData.canLay0, f1, PyData.depth, Bool.true_and]; exact decide_eq_true (by omega)
   have S2 : SeqAt.shaped (.list (q.map fun n => .list (n.map PyData.int))) = true := by
    unfold SeqAt.shaped; simp only [PyData.canLay0, g1, PyData.depth, Bool.true_and]; exact decide_eq_true (by omega)
   exact ⟨eq_dataH_same R1 R2 S1 S2 hu (by simp only [noMix]; exact ivss_noMix p q) (by exact cp_here (by simp only [PySem.Spec.same]; rw [ivss_same]; by_cases e : p = q <;> simp [e])),
    ne_dataH_same R1 R2 S1 S2 hu (by simp only [noMix]; exact ivss_noMix p q) (by exact cp_here (by simp only [PySem.Spec.same]; rw [ivss_same]; by_cases e : p = q <;> simp [e]))⟩
  ·split at h
   ·rename_i hb
    cases h
    cases y with
    | cons _ _ => cases hb
    | nil =>
    cases hy
    have hu' : A.units < cLine := by omega
    cases x with
    | nil =>
     cases hx
     exact ⟨eq_listAt (e := fun _ => true) hl hl' rfl hu' (fun j h1 => absurd h1 (Nat.not_lt_zero j)) (cp_here rfl), RcNeAt.lists (e := fun _ => true) hl hl' rfl hu' (fun j h1 => absurd h1 (Nat.not_lt_zero j)) N.prog N.w NoE _ (cp_here rfl)⟩
    | cons d l => cases hx with
     | cons a b => exact ⟨eq_list_lengthsAt hl hl' rfl hu' (cp_here rfl), RcNeAt.lists_lengths hl hl' rfl hu' N.prog N.w NoE _ (cp_here rfl)⟩
   ·cases h
theorem valEq_cases {σ : Sto} {a b : PV} {r : Bool} (h : valEq σ a b = some r) : (∃ i j, a = .int i ∧ b = .int j ∧ r = (i == j)) ∨ (∃ i j, a = .bool i ∧ b = .bool j ∧ r = (i == j)) ∨ (∃ i j, a = .str i ∧ b = .str j ∧ r = (i == j)) ∨
  ∃ x y, elems σ a = some x ∧ elems σ b = some y ∧ listEq x y = some r := by
 unfold valEq at h
 split at h
 ·cases h; exact .inl ⟨_, _, rfl, rfl, rfl⟩
 ·cases h; exact .inr (.inl ⟨_, _, rfl, rfl, rfl⟩)
 ·cases h; exact .inr (.inr (.inl ⟨_, _, rfl, rfl, rfl⟩))
 ·split at h
  ·rename_i h1 h2; exact .inr (.inr (.inr ⟨_, _, h1, h2, h⟩))
  ·cases h
theorem eq_sound {v w : Value} {a b : PV} {r : Bool} (K : AOk A) (S : SR N c s.heap) (ha : VRel N c.I v a) (hb : VRel N c.I w b) (h : valEq c.σ a b = some r) :
  wpAny (model N.prog N.w) A (compareOp .Eq v w) (CPost r s) NoE s ∧ wpAny (model N.prog N.w) A (compareOp .NotEq v w) (CPost (!r) s) NoE s := by
 rcases valEq_cases h with ⟨i, j, rfl, rfl, rfl⟩ | ⟨i, j, rfl, rfl, rfl⟩ | ⟨i, j, rfl, rfl, rfl⟩ | ⟨x, y, h1, h2, h⟩
 ·cases ha; cases hb; exact ⟨PyProof.Rows.eq_int (cp_here rfl), PyProof.Rows.ne_int (cp_here rfl)⟩
 ·cases ha; cases hb; exact ⟨eq_bool (cp_here rfl), ne_bool (cp_here (by cases i <;> cases j <;> rfl))⟩
 ·cases ha with | str _ _ hi => cases hb with | str _ _ hj =>
  have e : (N.txt i == N.txt j) = (i == j) := by
   by_cases q : i = j
   ·subst q; simp
   ·have : N.txt i ≠ N.txt j := fun z => q (N.txtInj i j hi hj z)
    rw [beq_eq_false_iff_ne.mpr q, beq_eq_false_iff_ne.mpr this]
  exact ⟨PyProof.Rows.eq_str (cp_here e), PyProof.Rows.ne_str (cp_here (by show (!(N.txt i == N.txt j)) = _; rw [e]))⟩
 ·obtain ⟨p, vs, rfl, hl, r1, _⟩ := elems_at S ha h1
  obtain ⟨q, ws, rfl, hl', r2, _⟩ := elems_at S hb h2
  exact list_eq_sound K S hl hl' r1 r2 h
def isI (i : Int) (y : Value) : Bool := match y with | .int j _ => j == i | _ => false
theorem any_isI {i : Int} : ∀ {vs : List Value} {ns : List Int}, IntsAre vs ns → vs.any (isI i) = ns.contains i
  | _, _, .nil => rfl
  | _, _, .cons n t h => by
    rw [List.any_cons, List.contains_cons, any_isI h]
    show (n == i || _) = _
    rw [show (n == i) = (i == n) by by_cases q : n = i; · simp [q]
                                    · rw [beq_eq_false_iff_ne.mpr q, beq_eq_false_iff_ne.mpr (Ne.symm q)]]
theorem eqAt_ivs {B : Around} {i : Int} {t : Tok} {vs : List Value} {ns : List Int} (h : IntsAre vs ns) : ∀ y, y ∈ vs.toArray → EqAt B s y (.int i t) (isI i y) := fun y hy => by
 have hy' : y ∈ vs := by simpa using hy
 clear hy
 induction h with
 | nil => cases hy'
 | cons n u h ih =>
  rcases List.mem_cons.mp hy' with rfl | h'
  ·exact EqAt.int_int _ _ _ _
  ·exact ih h'
theorem in_sound {v w : Value} {a b : PV} {r : Bool} (S : SR N c s.heap) (ha : VRel N c.I v a) (hb : VRel N c.I w b) (h : isIn c.σ a b = some r) :
  wpAny (model N.prog N.w) A (compareOp .In v w) (CPost r s) NoE s ∧ wpAny (model N.prog N.w) A (compareOp .NotIn v w) (CPost (!r) s) NoE s := by
 have lists : ∀ {i : Int} {t : Tok} {p : Addr} {vs : List Value} {l : List PV}, s.heap.IsList p vs.toArray → VRelL N c.I vs l → (ivs l).map (·.contains i) = some r →
   wpAny (model N.prog N.w) A (compareOp .In (.int i t) (.ref p)) (CPost r s) NoE s ∧ wpAny (model N.prog N.w) A (compareOp .NotIn (.int i t) (.ref p)) (CPost (!r) s) NoE s := by
  intro i t p vs l hl hr e
  obtain ⟨ns, e1, rfl⟩ := Option.map_eq_some_iff.mp e
  have I := ivs_rel hr e1
  have E : vs.toArray.any (isI i) = ns.contains i := by rw [← any_isI I]; simp
  exact ⟨in_listAt (isI i) hl (eqAt_ivs I) (cp_here E), notIn_listAt (isI i) hl (eqAt_ivs I) (cp_here (by rw [E]))⟩
 unfold isIn at h
 split at h
 ·rename_i i l
  cases ha
  obtain ⟨p, vs, rfl, hl, hr, _⟩ := tup_at S hb
  obtain ⟨ns, e1, rfl⟩ := Option.map_eq_some_iff.mp h
  have I := ivs_rel hr e1
  have E : vs.toArray.any (isI i) = ns.contains i := by rw [← any_isI I]; simp
  exact ⟨in_tupleAt (isI i) hl (eqAt_ivs I) (cp_here E), notIn_tupleAt (isI i) hl (eqAt_ivs I) (cp_here (by rw [E]))⟩
 ·rename_i i a'
  split at h
  ·rename_i l q
   cases ha
   obtain ⟨p, vs, rfl, hl, hr, _⟩ := elems_at S hb (l := l) (by simp [elems, q])
   exact lists hl hr h
  ·cases h
 ·rename_i i l
  cases ha
  obtain ⟨p, vs, rfl, hl, hr, _⟩ := list_at S hb
  exact lists hl hr h
 ·cases h
theorem is_sound {v w : Value} {a b : PV} {r : Bool} (ha : VRel N c.I v a) (hb : VRel N c.I w b) (h : isSame a b = some r) :
  wpAny (model N.prog N.w) A (compareOp .Is v w) (CPost r s) NoE s ∧ wpAny (model N.prog N.w) A (compareOp .IsNot v w) (CPost (!r) s) NoE s := by
 unfold isSame at h
 split at h
 ·cases h; cases ha; cases hb; exact ⟨is_none_gen (cp_here rfl), isNot_none (cp_here rfl)⟩
 ·cases h; cases ha; cases hb; exact ⟨is_none_gen (cp_here rfl), isNot_none (cp_here rfl)⟩
 ·cases h
theorem cmp_sound {op : CmpOp} {o : COp} {v w : Value} {a b : PV} {r : Bool} (K : AOk A) (S : SR N c s.heap) (ha : VRel N c.I v a) (hb : VRel N c.I w b) (ho : cmpOf op = some o) (h : cmpA o c.σ a b = some r) :
  wpAny (model N.prog N.w) A (compareOp op v w) (CPost r s) NoE s := by
 have nn : ∀ {x : Option Bool}, x.map (!·) = some r → ∃ r', x = some r' ∧ r = !r' := fun e => by
  obtain ⟨r', e1, e2⟩ := Option.map_eq_some_iff.mp e; exact ⟨r', e1, e2.symm⟩
 cases op <;> simp only [cmpOf, Option.some.injEq] at ho <;> subst ho <;> simp only [cmpA] at h
 ·exact (eq_sound K S ha hb h).1
 ·obtain ⟨r', e1, rfl⟩ := nn h; exact (eq_sound K S ha hb e1).2
 ·split at h
  ·cases h; cases ha; cases hb; exact PyProof.Rows.lt_int (cp_here rfl)
  ·cases h
 ·split at h
  ·cases h; cases ha; cases hb; exact PyProof.Rows.le_int (cp_here rfl)
  ·cases h
 ·split at h
  ·cases h; cases ha; cases hb; exact PyProof.Rows.gt_int (cp_here rfl)
  ·cases h
 ·split at h
  ·cases h; cases ha; cases hb; exact PyProof.Rows.ge_int (cp_here rfl)
  ·cases h
 ·exact (is_sound ha hb h).1
 ·obtain ⟨r', e1, rfl⟩ := nn h; exact (is_sound ha hb e1).2
 ·exact (in_sound S ha hb h).1
 ·obtain ⟨r', e1, rfl⟩ := nn h; exact (in_sound S ha hb e1).2
theorem list_exact {v : Value} {d : PV} {l : List PV} (S : SR N c s.heap) (x : VRel N c.I v d) (e : elems c.σ d = some l) : ∃ a vs n, v = .ref a ∧ s.heap.get? a = some (listOf vs.toArray n) ∧ VRelL N c.I vs l := by
 cases d with
 | list l' => cases e; cases x with
  | list h ho x => obtain ⟨hz, n, rfl⟩ := ho; exact ⟨_, _, n, rfl, S.fr _ _ h, x⟩
 | obj a =>
  cases x
  simp only [elems] at e
  split at e
  ·rename_i l' q; cases e
   obtain ⟨o, vs, g, ⟨hz0, n, rfl⟩, r⟩ := S.st a _ q
   exact ⟨_, _, n, rfl, g, r⟩
  ·cases e
 | _ => cases e
theorem vp_put {a : Addr} {vs : List Value} {l l' : List PV} {n : Nat} {v : Value} {d : PV} {s' : Shared} (S : SR N c s.heap) (q : c.σ a = some (.list l)) (hs : Heap.SameBut a s.heap s'.heap) (e : s'.heap.get? a = some (listOf vs.toArray n)) (x : VRelL N c.I vs l')
  (hv : VRel N c.I v d) (hz : l'.length ≤ big) (h : Q d (c.σ.set a (.list l'))) (hg : s'.gens = s.gens := by rfl) (ho : s'.os = s.os := by rfl) : VPost N c s Q v s' := by
 obtain ⟨S', E'⟩ := S.putL (X := NoX) (x := .list l') hs q (fun _ _ z => by cases z) (fun _ _ z => by cases z) ⟨_, vs, e, ⟨x.length ▸ hz, n, rfl⟩, x⟩
 exact ⟨_, d, S', E', hv, h, hg, ho⟩
theorem upd_seq {h : Heap} {D : Addr} {vs : List Value} {n : Nat} (e : h.get? D = some (listOf vs.toArray n)) (f : Array Value → Array Value) : ∃ n', (h.update D (Obj.mapSeq f)).get? D = some (listOf (f vs.toArray) n') := by
 have q := PySem.IsL.update e f
 exact ⟨_, q⟩
theorem append_sound {v w : Value} {a b : PV} (S : SR N c s.heap) (ha : VRel N c.I v a) (hb : VRel N c.I w b) (h : appendA a b c.σ Q) : WV N A (call (.builtin "list.append") [v, w]) c s Q := by
 unfold appendA at h
 split at h
 ·rename_i p
  split at h
  ·rename_i l q
   cases ha
   obtain ⟨o, vs, g, ⟨hz0, n, rfl⟩, r⟩ := S.st p _ q
   refine append_at (hsz := by rw [List.size_toArray, r.length]; exact Nat.le_of_lt h.1) g fun h' hs ho' => ?_
   rw [List.push_toArray] at ho'
   exact vp_put S q hs ho' (r.append (.cons hb .nil)) .none (by rw [List.length_append]; exact h.1) h.2
  ·exact h.elim
 ·exact h.elim
theorem extend_sound {v w : Value} {a b : PV} (S : SR N c s.heap) (ha : VRel N c.I v a) (hb : VRel N c.I w b) (h : extendA a b c.σ Q) : WV N A (call (.builtin "list.extend") [v, w]) c s Q := by
 unfold extendA at h
 split at h
 ·rename_i p y
  split at h
  ·rename_i l q
   cases ha
   obtain ⟨o, vs, g, ⟨hz0, n, rfl⟩, r⟩ := S.st p _ q
   obtain ⟨b', ws, n2, rfl, g2, r2⟩ := list_exact S hb (l := y) rfl
   obtain ⟨h1, h2⟩ := h
   have hz1 := r.length
   have hz2 := r2.length
   have hb : big = 16777216 := rfl
   obtain ⟨n', e'⟩ := upd_seq g (fun x => x ++ ws.toArray)
   refine call_meets PySem.F.slot_list_extend ⟨_, g, rfl⟩ PySem.F.entry_list_extend (PySem.F.args_list_extend_2 _ _) (PySem.AutoSeq1.list_extend_list_list_0 p vs.toArray n b' ws.toArray n2 ?_ ?_ ?_) ⟨g, g2, vp_put (n := n') S q (Heap.SameBut.update ..) ?_ (r.append r2) .none (by rw [List.length_append]; exact h1) h2⟩
   ·simp [Builtin.List.listTooLong, sizeLine]; intro _; omega
   ·rw [List.size_toArray, sizeLine_eq]; omega
   ·rw [List.size_toArray, List.size_toArray, sizeLine_eq]; omega
   ·rw [List.append_toArray] at e'; exact e'
  ·exact h.elim
 ·exact h.elim
theorem pop_sound {v w : Value} {a b : PV} (S : SR N c s.heap) (ha : VRel N c.I v a) (hb : VRel N c.I w b) (h : popA a b c.σ Q) : WV N A (call (.builtin "list.pop") [v, w]) c s Q := by
 unfold popA at h
 split at h
 ·rename_i p k
  split at h
  ·rename_i l q
   cases ha; cases hb
   obtain ⟨o, vs, g, ⟨hz0, n, rfl⟩, r⟩ := S.st p _ q
   obtain ⟨d, h0, h2, h3⟩ := h
   have hz : l.length ≤ big := r.length ▸ hz0
   obtain ⟨y, hy, ry⟩ := r.getElem h2
   have hlt : k.toNat < vs.length := (List.getElem?_eq_some_iff.mp hy).1
   have hb : big = 16777216 := rfl
   have hz1 := r.length
   obtain ⟨n', e'⟩ := upd_seq g (fun x => x.eraseIdxIfInBounds k.toNat)
   refine call_meets PySem.F.slot_list_pop ⟨_, g, rfl⟩ PySem.F.entry_list_pop (PySem.F.args_list_pop_2 _ _) (PySem.MeetsSeq.list_pop_at p _ n k _ k.toNat y ?_ ?_ ?_ ?_) ⟨g, vp_put (n := n') S q (Heap.SameBut.update ..) ?_ (r.eraseIdx k.toNat) ry (by rw [List.length_eraseIdx]; split <;> omega) h3⟩
   ·simp [Builtin.List.listFitsIndex]; omega
   ·unfold seqIndex?; rw [List.size_toArray]; simp; omega
   ·simpa using hy
   ·rw [List.size_toArray, sizeLine_eq]; omega
   ·rw [show (vs.toArray.eraseIdxIfInBounds k.toNat) = (vs.eraseIdx k.toNat).toArray by
     apply Array.toList_inj.mp
     simp [Array.eraseIdxIfInBounds, hlt]] at e'
    exact e'
  ·exact h.elim
 ·exact h.elim
end Mine
end
section
namespace Mine
open PySem PySem.W PyProof.Rows PySem.Spec PyProof PySem.SeqAt
variable {N : Nm} {c : Cfg} {s : Shared} {A : Around} {Q : KV}
def PRel (N : Nm) (I : Addr → Option Obj) (v : Value) : Option PV → Prop
 | none => v = .none
 | some d => VRel N I v d
theorem PRel.mono {I I' : Addr → Option Obj} (inc : ∀ a o, I a = some o → I' a = some o) {v : Value} : ∀ {d : Option PV}, PRel N I v d → PRel N I' v d
 | none, h => h
 | some _, h => VRel.mono inc h
theorem clamp_clip (n : Nat) (i : Int) : clipAt n i = clampI n i := by
 have h := clipAt_cast n i
 unfold clampI
 split at h <;> split <;> omega
theorem pick_slice (vs : List Value) (lo hi : Option Int) : slicePick vs.toArray lo hi none = (sliceL' vs (lo.elim 0 (clampI vs.length)) (hi.elim vs.length (clampI vs.length))).toArray := by
 rw [slicePick_plain]
 have e : clipAt vs.length = clampI vs.length := funext (clamp_clip _)
 simp only [List.size_toArray, e, sliceL', List.drop_take]
theorem slice_sound {v vl vu : Value} {e : PV} {lo hi : Option PV} (S : SR N c s.heap) (ha : VRel N c.I v e) (hl : PRel N c.I vl lo) (hu : PRel N c.I vu hi) (h : sliceA e lo hi c.σ Q) :
  wpAny (model N.prog N.w) A (getItem v (.ref s.heap.objs.size)) (VPost N c s Q) NoE { s with heap := s.heap.push { cls := .type "slice", data := .fields #[vl, vu, .none] } } := by
 unfold sliceA at h
 split at h
 ·rename_i l hel
  split at h
  ·rename_i a b h1 h2
   obtain ⟨p, vs, rfl, hp, r, hz⟩ := elems_at S ha hel
   have part_of : ∀ {w : Value} {x : Option PV} {d n k : Nat}, PRel N c.I w x → part n d x = some k → ∃ i, IsPart w i ∧ i.elim d (clampI n) = k := by
    intro w x d n k hx hk
    cases x with
    | none => cases hx; cases hk; exact ⟨none, .none, rfl⟩
    | some x =>
     cases x <;> simp only [part, Option.some.injEq, reduceCtorEq] at hk
     cases hx
     exact ⟨some _, .int _ _, hk⟩
   obtain ⟨i, pi, ei⟩ := part_of hl h1
   obtain ⟨j, pj, ej⟩ := part_of hu h2
   have hz' : vs.length ≤ big := r.length.symm ▸ hz
   refine wpAny_getItem_list_slice (hp.push _) (Heap.IsSliceOf.new ..) pi pj .none (by simp) ?_ (by rw [List.size_toArray]; exact hz')
   rw [pick_slice, Heap.size_push]
   have rr : VRelL N c.I (sliceL' vs (i.elim 0 (clampI vs.length)) (j.elim vs.length (clampI vs.length))) (sliceL l a b) := by
    rw [r.length, ei, ej]; exact (r.take b).drop a
   have E1 : SR N c (s.heap.push { cls := .type "slice", data := .fields #[vl, vu, .none] }) := S.ext fun _ _ e => Heap.get?_push_of_some _ e
   have := vp_push (s := { s with heap := s.heap.push { cls := .type "slice", data := .fields #[vl, vu, .none] } }) (m := false) (tk := s.toks) (n := 0) (Q := Q) E1 rr ⟨?_, h⟩
   ·rw [Heap.size_push] at this
    exact VPost.trans (s₁ := { s with heap := s.heap.push { cls := .type "slice", data := .fields #[vl, vu, .none] } }) (Evo.ext fun _ _ e => Heap.get?_push_of_some _ e) rfl rfl this
   ·rw [sliceL, sliceL', List.length_drop, List.length_take]; omega
  ·exact h.elim
 ·exact h.elim
theorem rev_sound {v : Value} {l : List PV} {t : Tok} (S : SR N c s.heap) (ha : VRel N c.I v (.list l)) (h : Q (.list l.reverse) c.σ) :
  wpAny (model N.prog N.w) A (getItem v (.ref s.heap.objs.size)) (VPost N c s Q) NoE { s with heap := s.heap.push { cls := .type "slice", data := .fields #[.none, .none, .int (-1) t] } } := by
 obtain ⟨p, vs, rfl, hp, r, hz⟩ := list_at S ha
 have hz' : vs.length ≤ big := r.length.symm ▸ hz
 refine wpAny_getItem_list_slice (hp.push _) (Heap.IsSliceOf.new ..) .none .none (.int (-1) t) (by simp) ?_ (by rw [List.size_toArray]; exact hz')
 rw [krv_pick, Heap.size_push]
 show VPost N c s Q (.ref (s.heap.objs.size + 1)) { s with heap := (s.heap.push { cls := .type "slice", data := .fields #[.none, .none, .int (-1) t] }).push { cls := .type "list", data := .seq vs.reverse.toArray } }
 have E1 : SR N c (s.heap.push { cls := .type "slice", data := .fields #[.none, .none, .int (-1) t] }) := S.ext fun _ _ e => Heap.get?_push_of_some _ e
 have := vp_push (s := { s with heap := s.heap.push { cls := .type "slice", data := .fields #[.none, .none, .int (-1) t] } }) (m := false) (tk := s.toks) (n := 0) (Q := Q) E1 r.reverse ⟨by rw [List.length_reverse]; exact hz, h⟩
 rw [Heap.size_push] at this
 exact VPost.trans (s₁ := { s with heap := s.heap.push { cls := .type "slice", data := .fields #[.none, .none, .int (-1) t] } }) (Evo.ext fun _ _ e => Heap.get?_push_of_some _ e) rfl rfl this
theorem krel_find {I : Addr → Option Obj} {k : Int} {d : PV} : ∀ {kv : List (Int × Value)} {kvs : List (Int × PV)}, KRel N I kv kvs → (kvs.find? (·.1 == k)).map (·.2) = some d → ∃ v, valueAt kv k = some v ∧ VRel N I v d
 | _, _, .nil, h => by cases h
 | _, _, .cons (k := k') (v := v) (d := d') (es := es) x y, h => by
  unfold valueAt
  rw [List.find?_cons] at h ⊢
  by_cases q : k' = k
  ·subst q
   simp only [beq_self_eq_true, Option.map_some, Option.some.injEq] at h
   subst h
   exact ⟨v, by simp, x⟩
  ·simp only [beq_eq_false_iff_ne.mpr q] at h
   obtain ⟨v', e, r⟩ := krel_find y h
   exact ⟨v', by simpa [q, valueAt] using e, r⟩
theorem krel_any {I : Addr → Option Obj} {k : Int} : ∀ {kv : List (Int × Value)} {kvs : List (Int × PV)}, KRel N I kv kvs → kv.any (fun e => e.1 = k) = kvs.any (·.1 == k)
 | _, _, .nil => rfl
 | _, _, .cons (k := k') x y => by
  rw [List.any_cons, List.any_cons, krel_any y]
  congr 1
theorem krel_length {I : Addr → Option Obj} : ∀ {kv : List (Int × Value)} {kvs : List (Int × PV)}, KRel N I kv kvs → kv.length = kvs.length
 | _, _, .nil => rfl
 | _, _, .cons x y => by simp [krel_length y]
theorem krel_append {I : Addr → Option Obj} : ∀ {kv kv' : List (Int × Value)} {kvs kvs' : List (Int × PV)}, KRel N I kv kvs → KRel N I kv' kvs' → KRel N I (kv ++ kv') (kvs ++ kvs')
 | _, _, _, _, .nil, z => z
 | _, _, _, _, .cons x y, z => .cons x (krel_append y z)
theorem sub_sound {v w : Value} {a b : PV} (S : SR N c s.heap) (ha : VRel N c.I v a) (hb : VRel N c.I w b) (h : subA a b c.σ Q) : WV N A (getItem v w) c s Q := by
 have lists : ∀ {k : Int} {t : Tok} {p : Addr} {vs : List Value} {l : List PV}, s.heap.IsList p vs.toArray → VRelL N c.I vs l → l.length ≤ big → (∃ d, getI l k = some d ∧ Q d c.σ) → WV N A (getItem (.ref p) (.int k t)) c s Q := by
  intro k t p vs l hp r hz ⟨d, hd, hq⟩
  have hz' : l.length ≤ 16777216 := hz
  have hl := r.length
  unfold getI at hd
  split at hd
  ·rename_i hk
   split at hd
   ·cases hd
   ·rename_i hk'
    obtain ⟨y, hy, ry⟩ := r.getElem hd
    exact wpAny_getItem_list_neg hp hk (by rw [List.size_toArray]; omega) (by omega) (by rw [List.size_toArray, hl]; simpa using hy) (vp_here S ry hq)
  ·rename_i hk
   obtain ⟨y, hy, ry⟩ := r.getElem hd
   have hlt : k.toNat < vs.length := (List.getElem?_eq_some_iff.mp hy).1
   exact wpAny_getItem_list hp (by omega) (by omega) (by simpa using hy) (vp_here S ry hq)
 unfold subA at h
 split at h
 ·rename_i l k
  obtain ⟨d, h0, hd, hq⟩ := h
  cases hb
  obtain ⟨p, vs, rfl, hp, r, hz⟩ := tup_at S ha
  obtain ⟨y, hy, ry⟩ := r.getElem hd
  have hz' : l.length ≤ 16777216 := hz
  have hl := r.length
  have hlt : k.toNat < vs.length := (List.getElem?_eq_some_iff.mp hy).1
  exact PyProof.Rows.getItem_tuple (j := k.toNat) hp (by omega) (by omega) (by unfold seqIndex?; rw [List.size_toArray]; simp; omega) (by simpa using hy) (vp_here S ry hq)
 ·rename_i p k
  cases ha; cases hb
  split at h
  ·rename_i kvs q
   obtain ⟨d, hd, hq⟩ := h
   obtain ⟨z, kv, hD, r⟩ := S.st p _ q
   obtain ⟨v, hv, rv⟩ := krel_find r hd
   exact wpAny_getItem_of (knd := intKind N.prog N.w) (k := k) (by simp [intKind, Value.isInt]) hD.mapOf hv (vp_here S rv hq)
  ·rename_i l q
   obtain ⟨o, vs, g, ho, r⟩ := S.st p _ q
   exact lists (isList_of g ho) r (r.length ▸ ho.1) h
  ·exact h.elim
 ·rename_i l k
  cases hb
  obtain ⟨p, vs, rfl, hp, r, hz⟩ := list_at S ha
  exact lists hp r hz h
 ·exact h.elim
def UPost (N : Nm) (c : Cfg) (s : Shared) (Q : Sto → Prop) (_ : Unit) (s' : Shared) : Prop :=
 ∃ c', SR N c' s'.heap ∧ Evo NoX c s.heap c' s'.heap ∧ Q c'.σ ∧ s'.gens = s.gens ∧ s'.os = s.os
theorem dict_set_sound {v w u : Value} {a : Nat} {k : Int} {d : PV} {kvs : List (Int × PV)} {Q : Sto → Prop} (S : SR N c s.heap) (ha : VRel N c.I v (.obj a)) (hb : VRel N c.I w (.int k)) (hd : VRel N c.I u d)
  (q : c.σ a = some (.dict kvs)) (hn : kvs.any (·.1 == k) = false) (hz : kvs.length < big) (h : Q (c.σ.set a (.dict (kvs ++ [(k, d)])))) :
  wpAny (model N.prog N.w) A (setItem v w u) (UPost N c s Q) NoE s := by
 cases ha; cases hb
 obtain ⟨z, kv, hD, r⟩ := S.st a _ q
 have hl := krel_length r
 refine wpAny_setItem_pairs (knd := intKind N.prog N.w) (k := k) (by simp [intKind, Value.isInt]) hD (fun h' hD' hs => ?_) (by rw [hl]; exact Nat.le_of_lt hz)
 have e : stored kv k u = kv ++ [(k, u)] := by
  unfold stored
  rw [krel_any r, hn]; rfl
 rw [e] at hD'
 obtain ⟨S', E'⟩ := S.putL (X := NoX) (x := .dict (kvs ++ [(k, d)])) hs q (fun _ _ z => by cases z) (fun _ _ z => by cases z) ⟨z, _, hD', krel_append r (.cons hd .nil)⟩
 exact ⟨_, S', E', h, rfl, rfl⟩
theorem setslice_h {l sl : Addr} {vs ws : List Value} {n m : Nat} {b : Addr} {i j : Int} {t t' : Tok} {Q : Unit → Shared → Prop} {E : Value → Shared → Prop} (hl : s.heap.get? l = some (listOf vs.toArray n)) (hb : s.heap.get? b = some (listOf ws.toArray m))
  (hs : s.heap.IsSliceOf sl (.int i t) (.int j t') .none) (h0 : 0 ≤ i) (hij : i ≤ j) (hj : j ≤ vs.length) (hne : l ≠ b) (hz : vs.length + ws.length ≤ sizeLine)
  (h : ∀ h' n', h'.get? l = some (listOf (vs.take i.toNat ++ ws ++ vs.drop j.toNat).toArray n') → Heap.SameBut l s.heap h' → Q () { s with heap := h' }) :
  wpAny (model N.prog N.w) A (setItem (.ref l) (.ref sl) (.ref b)) Q E s := by
 have hL : s.heap.IsList l vs.toArray := ⟨_, hl, rfl, n, rfl⟩
 obtain ⟨os, hos, hcs, hds⟩ := id hs
 have hTs : s.TypeIs (.ref sl) "slice" := ⟨os, hos, hcs⟩
 unfold setItem
 try with_reducible refine wpAny_holding ?_
 refine wpAny_bind (wpAny_sequenceKey hL.typeIs (by decide) ?_)
 refine wpAny_bind (wpAny_callSpecial?_slot (name := Str.ofString "__setitem__") hL.typeIs slot_list_setitem
  (wpAny_call_entry slot_list_setitem hL.typeIs entry_list_setitem ?_ (args_list_setitem _ _ _)))
 show wpAny _ _ (Builtin.List.listSubscript? (.ref sl) >>= _) _ _ s
 refine wpAny_bind ?_
 unfold Builtin.List.listSubscript?
 refine wpAny_bind (wpAny_specialOf hTs slice_no_index ?_)
 simp only [Option.isNone_none, if_true]
 refine wpAny_pure ?_
 show wpAny _ _ (typeOf (.ref sl) >>= _) _ _ s
 refine wpAny_bind (wpAny_typeOf hTs ?_)
 rw [if_neg (by decide)]
 rw [listSliceParts_eq]
 refine wpAny_bind (wpAny_bind (wpAny_field hos hds (x := .none) rfl (wpAny_bind (wpAny_listPart .none ?_))))
 rw [if_neg (by exact Bool.false_ne_true)]
 refine wpAny_bind (wpAny_field hos hds (x := .int i t) rfl (wpAny_bind (wpAny_listPart (.int i t) ?_)))
 refine wpAny_bind (wpAny_field hos hds (x := .int j t') rfl (wpAny_bind (wpAny_listPart (.int j t') (wpAny_pure ?_))))
 have hsame : Builtin.List.listSameRef (.ref l) (.ref b) = false := beq_eq_false_iff_ne.mpr hne
 have items : ∀ {a : Addr} {xs : List Value} {k : Nat} {R : Array Value → Shared → Prop}, s.heap.get? a = some (listOf xs.toArray k) → R xs.toArray s → wpAny (model N.prog N.w) A.in1 (Builtin.List.listItems (.ref a)) R E s := by
  intro a xs k R hx hr
  unfold Builtin.List.listItems
  exact wpAny_bind (wpAny_seqItems hx rfl (wpAny_pure hr))
 simp only [hsame, Bool.false_eq_true, if_false]
 unfold Builtin.List.listAllItems
 refine wpAny_bind (wpAny_bind (wpAny_typeOf (T := "list") ⟨_, hb, rfl⟩ ?_))
 rw [if_pos (by rfl)]
 refine items hb ?_
 refine wpAny_bind (items hl ?_)
 rw [sliceIndices_raw _ _ _ _ (by simp)]
 have e : sliceBounds (some i) (some j) none vs.toArray.size = (i, j, 1) := by
  rw [sliceBounds_plain, List.size_toArray]
  have h1 := clipAt_cast vs.length i
  have h2 := clipAt_cast vs.length j
  rw [if_neg (by omega)] at h1 h2
  show (((clipAt vs.length i : Nat) : Int), ((clipAt vs.length j : Nat) : Int), (1 : Int)) = _
  rw [h1, h2]
  congr 1
  ·omega
  ·congr 1; omega
 rw [e]
 refine wpAny_bind (wpAny_pure ?_)
 rw [if_pos (by rfl)]
 refine wpAny_bind (wpAny_rule ?_)
 have hz' : vs.length + ws.length ≤ 16777216 := hz
 rw [if_neg (by unfold Builtin.List.listTooLong; rw [List.size_toArray, List.size_toArray, sizeLine_eq]; exact fun q => by have := of_decide_eq_true q; omega)]
 refine wpAny_bind (wpAny_updateSeq (hz := by rw [List.size_toArray, sizeLine_eq]; omega) (_hz' := by rw [sizeLine_eq]; simp only [Array.size_append, Array.size_extract, List.size_toArray]; omega) hl rfl ?_)
 refine wpAny_bind (wpAny_letGo ?_)
 obtain ⟨n', e'⟩ := upd_seq hl (fun xs => xs.extract 0 i.toNat ++ ws.toArray ++ xs.extract (max i j).toNat)
 refine wpAny_pure ⟨.none, rfl, wpAny_pure (h _ n' ?_ (Heap.SameBut.update ..))⟩
 rw [e']
 congr 2
 rw [show max i j = j by omega]
 simp
 exact List.take_of_length_le (by simp)
theorem setslice_sound {v w y : Value} {a : Nat} {i j : Int} {t t' : Tok} {l m : List PV} {Q : Sto → Prop} (S : SR N c s.heap) (ha : VRel N c.I v (.obj a)) (hd : VRel N c.I y (.list m))
  (q : c.σ a = some (.list l)) (h0 : 0 ≤ i) (hij : i ≤ j) (hj : j ≤ l.length) (hz : l.length + m.length ≤ big) (h : Q (c.σ.set a (.list (l.take i.toNat ++ m ++ l.drop j.toNat)))) :
  wpAny (model N.prog N.w) A (setItem v (.ref s.heap.objs.size) y) (UPost N c s Q) NoE { s with heap := s.heap.push { cls := .type "slice", data := .fields #[.int i t, .int j t', .none] } } := by
 cases ha
 obtain ⟨o, vs, g, ⟨_, n, rfl⟩, r⟩ := S.st a _ q
 obtain ⟨b, ws, n2, rfl, g2, r2⟩ := list_exact S hd (l := m) rfl
 have hl := r.length
 have hl2 := r2.length
 have hk : ∀ b o, s.heap.get? b = some o → (s.heap.push { cls := .type "slice", data := .fields #[.int i t, .int j t', .none] }).get? b = some o := fun _ _ e => Heap.get?_push_of_some _ e
 have hne : a ≠ b := fun e => by
  subst e
  have : c.I a = none := S.ni a (.inl (by rw [q]; simp))
  cases hd with
  | list hi _ _ => rw [this] at hi; cases hi
 have S1 := S.ext hk
 refine setslice_h (t := t) (t' := t') (hk _ _ g) (hk _ _ g2) (Heap.IsSliceOf.new ..) h0 hij (by rw [hl]; exact hj) hne (by rw [hl, hl2]; exact hz) fun h' n' e hs => ?_
 have hlen : (vs.take i.toNat ++ ws ++ vs.drop j.toNat).length ≤ big := by
  simp only [List.length_append, List.length_take, List.length_drop]; omega
 obtain ⟨S', E'⟩ := S1.putL (X := NoX) (x := .list (l.take i.toNat ++ m ++ l.drop j.toNat)) hs q (fun _ _ z => by cases z) (fun _ _ z => by cases z) ⟨_, _, e, ⟨hlen, n', rfl⟩, ((r.take _).append r2).append (r.drop _)⟩
 exact ⟨_, S', (Evo.ext hk).trans E', h, rfl, rfl⟩
theorem len_sound {v : Value} {d : PV} (S : SR N c s.heap) (ha : VRel N c.I v d) (h : bltA .len [d] c.σ Q) : WV N A (call (.builtin "len") [v]) c s Q := by
 have lists : ∀ {l : List PV}, elems c.σ d = some l → Q (.int l.length) c.σ → WV N A (call (.builtin "len") [v]) c s Q := by
  intro l e hq
  obtain ⟨p, vs, rfl, hp, r, hz⟩ := elems_at S ha e
  have hz' : l.length ≤ 16777216 := hz
  have hl := r.length
  refine PyProof.Rows.len_list hp (by rw [List.size_toArray]; omega) (vp_here S ?_ hq)
  rw [List.size_toArray, hl]; exact .int _ _
 cases d with
 | tup l =>
  obtain ⟨p, vs, rfl, hp, r, hz⟩ := tup_at S ha
  have hz' : l.length ≤ 16777216 := hz
  have hl := r.length
  refine PyProof.Rows.len_tuple hp (by rw [List.size_toArray]; omega) (vp_here S ?_ h)
  rw [List.size_toArray, hl]; exact .int _ _
 | list l => exact lists (l := l) rfl h
 | obj a =>
  simp only [bltA] at h
  split at h
  ·rename_i l e; exact lists e h
  ·exact h.elim
 | _ => exact h.elim
theorem min_sound {v w : Value} {a b : PV} (K : AOk A) (S : SR N c s.heap) (ha : VRel N c.I v a) (hb : VRel N c.I w b) (h : bltA .min [a, b] c.σ Q) : WV N A (call (.builtin "min") [v, w]) c s Q := by
 cases a <;> cases b <;> simp only [bltA] at h <;> try exact h.elim
 cases ha; cases hb
 rename_i i j t u
 refine min_two_ints K.h fun h' tk hk => vp_ext S hk ?_ h
 split
 ·rw [show min i j = j by omega]; exact .int _ _
 ·rw [show min i j = i by omega]; exact .int _ _
theorem max_sound {v w : Value} {a b : PV} (K : AOk A) (S : SR N c s.heap) (ha : VRel N c.I v a) (hb : VRel N c.I w b) (h : bltA .max [a, b] c.σ Q) : WV N A (call (.builtin "max") [v, w]) c s Q := by
 cases a <;> cases b <;> simp only [bltA] at h <;> try exact h.elim
 cases ha; cases hb
 rename_i i j t u
 refine max_two_ints K.h fun h' tk hk => vp_ext S hk ?_ h
 split
 ·rw [show max i j = j by omega]; exact .int _ _
 ·rw [show max i j = i by omega]; exact .int _ _
theorem abs_sound {v : Value} {a : PV} (S : SR N c s.heap) (ha : VRel N c.I v a) (h : bltA .abs [a] c.σ Q) : WV N A (call (.builtin "abs") [v]) c s Q := by
 cases a <;> simp only [bltA] at h <;> try exact h.elim
 cases ha
 rename_i i t
 refine call_abs_int fun u tk => vp_here S ?_ h
 split
 ·rw [show ((i.natAbs : Nat) : Int) = -i by omega]; exact .int _ _
 ·rw [show ((i.natAbs : Nat) : Int) = i by omega]; exact .int _ _
theorem copy_sound {v : Value} {d : PV} (S : SR N c s.heap) (ha : VRel N c.I v d) (h : bltA .copy [d] c.σ Q) : WV N A (call (.type "list") [v]) c s Q := by
 simp only [bltA] at h
 split at h
 ·rename_i l e
  obtain ⟨a, vs, n, rfl, g, r⟩ := list_exact S ha e
  obtain ⟨_, _, z, _, _, hz⟩ := elems_at S ha e
  cases z
  refine call_list_seq (T := "list") a (.inl rfl) g rfl rfl (fun h' c' hk e' => ?_) (by rw [List.size_toArray, r.length]; exact hz)
  exact vp_alloc (m := false) S r ⟨hz, h⟩ hk (get_size_none _) e' ⟨c', rfl⟩
 ·exact h.elim
end Mine
end
section
namespace Mine
open PySem PySem.W PyProof.Rows PySem.Spec PyProof PySem.SeqAt
def slotStep (s : List (Str × Value)) (x : Str × Value) : List (Str × Value) := if (s.lookup x.1).isNone then s ++ [x] else s
theorem slot_loop (f : Str × Value → List (Str × Value) → Sem (ForInStep (List (Str × Value)))) (hf : ∀ x s, f x s = pure (.yield (slotStep s x))) : ∀ (l s : List (Str × Value)), forIn l s f = pure (l.foldl slotStep s)
 | [], s => by rw [List.forIn_nil]; rfl
 | x :: l, s => by rw [List.forIn_cons, hf, pure_bind]; exact slot_loop f hf l _
theorem lookup_some_iff (n : Str) : ∀ l : List (Str × Value), (l.lookup n).isSome = true ↔ n ∈ l.map (·.1)
 | [] => by simp
 | (m, v) :: l => by
  rw [List.lookup_cons]
  by_cases h : n = m
  ·subst h; simp
  ·rw [beq_eq_false_iff_ne.mpr h]; simp [h, lookup_some_iff n l]
theorem map_fst_zip : ∀ (a : List Str) (b : List Value), (a.zip b).map (·.1) = a.take b.length
 | [], b => by simp
 | _ :: _, [] => by simp
 | x :: a, y :: b => by simp [map_fst_zip a b]
theorem slot_found : ∀ (l s : List (Str × Value)), (∀ x ∈ l, x.1 ∈ s.map (·.1)) → l.foldl slotStep s = s
 | [], _, _ => rfl
 | x :: l, s, h => by
  have e : slotStep s x = s := by
   unfold slotStep
   have := (lookup_some_iff x.1 s).mpr (h x (List.mem_cons_self ..))
   rw [if_neg]; cases q : s.lookup x.1 <;> simp_all
  rw [List.foldl_cons, e]
  exact slot_found l s fun y hy => h y (List.mem_cons_of_mem _ hy)
theorem slot_fresh : ∀ (l s : List (Str × Value)), (l.map (·.1)).Nodup → (∀ x ∈ l, x.1 ∉ s.map (·.1)) → l.foldl slotStep s = s ++ l
 | [], s, _, _ => by simp
 | x :: l, s, hn, h => by
  have e : slotStep s x = s ++ [x] := by
   unfold slotStep
   have := mt (lookup_some_iff x.1 s).mp (h x (List.mem_cons_self ..))
   rw [if_pos]; cases q : s.lookup x.1 <;> simp_all
  rw [List.map_cons, List.nodup_cons] at hn
  rw [List.foldl_cons, e, slot_fresh l _ hn.2 fun y hy => by
   rw [List.map_append, List.mem_append]
   rintro (q | q)
   ·exact h y (List.mem_cons_of_mem _ hy) q
   ·simp at q
    exact hn.1 (q ▸ List.mem_map_of_mem hy)]
  simp
theorem filter_lookup : ∀ (ns : List Str) (vs : List Value) (s : List (Str × Value)), ns.Nodup → ns.length = vs.length → (∀ n ∈ ns, (s ++ ns.zip vs).lookup n = (ns.zip vs).lookup n) →
  ns.filterMap (fun n => ((s ++ ns.zip vs).lookup n).map (n, ·)) = ns.zip vs
 | [], _, _, _, _, _ => rfl
 | n :: ns, [], _, _, h, _ => by cases h
 | n :: ns, v :: vs, s, hn, h, hs => by
  rw [List.nodup_cons] at hn
  have e0 : (s ++ (n :: ns).zip (v :: vs)).lookup n = some v := by rw [hs n (List.mem_cons_self ..)]; simp
  rw [List.filterMap_cons, e0]
  have ih := filter_lookup ns vs (s ++ [(n, v)]) hn.2 (by simpa using h) (fun m hm => by
   have := hs m (List.mem_cons_of_mem _ hm)
   rw [List.zip_cons_cons] at this
   rw [List.append_assoc]
   show (s ++ (n, v) :: ns.zip vs).lookup m = _
   rw [this, List.lookup_cons, beq_eq_false_iff_ne.mpr (fun z : m = n => hn.1 (by rw [← z]; exact hm))])
  rw [List.append_assoc] at ih
  exact congrArg ((n, v) :: ·) ih
theorem slots_full {ns : List Str} {vals ds : List Value} (hn : ns.Nodup) (hl : vals.length ≤ ns.length) (hm : ds.length ≤ ns.length) (hk : ns.length ≤ vals.length + ds.length) :
  ((ns.drop (ns.length - ds.length)).zip ds).foldl slotStep (ns.zip vals) = ns.zip (vals ++ ds.drop (vals.length + ds.length - ns.length)) := by
 have e1 : ns.drop (ns.length - ds.length) = (ns.drop (ns.length - ds.length)).take (vals.length + ds.length - ns.length) ++ ns.drop vals.length := by
  conv => lhs; rw [← List.take_append_drop (vals.length + ds.length - ns.length) (ns.drop (ns.length - ds.length))]
  rw [List.drop_drop]
  congr 2; omega
 have e2 : ds = ds.take (vals.length + ds.length - ns.length) ++ ds.drop (vals.length + ds.length - ns.length) := (List.take_append_drop ..).symm
 have e3 : (ns.drop (ns.length - ds.length)).zip ds = ((ns.drop (ns.length - ds.length)).take (vals.length + ds.length - ns.length)).zip (ds.take (vals.length + ds.length - ns.length)) ++ (ns.drop vals.length).zip (ds.drop (vals.length + ds.length - ns.length)) :=
  (congr (congrArg List.zip e1) e2).trans (List.zip_append (by simp only [List.length_take, List.length_drop]; omega))
 have e4 : ns.zip vals = (ns.take vals.length).zip vals := by
  refine (congr (congrArg List.zip (List.take_append_drop vals.length ns).symm) (List.append_nil vals).symm).trans ((List.zip_append (by simp only [List.length_take]; omega)).trans ?_)
  rw [List.zip_nil_right, List.append_nil]
 have e5 : ns.zip (vals ++ ds.drop (vals.length + ds.length - ns.length)) = ns.zip vals ++ (ns.drop vals.length).zip (ds.drop (vals.length + ds.length - ns.length)) := by
  rw [e4]
  exact (congrArg (fun x => List.zip x _) (List.take_append_drop vals.length ns).symm).trans (List.zip_append (by simp only [List.length_take]; omega))
 rw [e3, List.foldl_append, slot_found _ (ns.zip vals), slot_fresh, ← e5]
 ·rw [map_fst_zip]
  exact (hn.sublist (List.drop_sublist ..)).sublist (List.take_sublist ..)
 ·intro x hx
  rw [map_fst_zip]
  have h1 : x.1 ∈ ns.drop vals.length := List.of_mem_zip hx |>.1
  intro h2
  have := List.take_append_drop vals.length ns ▸ hn
  exact (List.nodup_append.mp this).2.2 _ h2 _ h1 rfl
 ·intro x hx
  rw [map_fst_zip]
  have h1 := (List.of_mem_zip hx).1
  have e : (ns.drop (ns.length - ds.length)).take (vals.length + ds.length - ns.length) = (ns.take vals.length).drop (ns.length - ds.length) := by
   rw [List.drop_take]; congr 1; omega
  rw [e] at h1
  exact List.mem_of_mem_drop h1
theorem bind_eq {s : Shared} {fd : FuncData} {ns : List Str} {vals ds : List Value} (M : Model) (A : Around) (E : Value → Shared → Prop) (Q : List (Str × Value) → Shared → Prop)
   (h1 : fd.params.posonlyargs = []) (h2 : fd.params.args.map (·.arg) = ns) (h3 : fd.params.kwonlyargs = []) (h4 : fd.params.vararg = none) (h5 : fd.params.kwarg = none)
   (hd : ∀ R : Option (Array Value) → Shared → Prop, (∀ o, (o.getD #[]).toList = ds → R o s) → wpAny M A (seqItems? fd.defaults) R E s)
   (hn : ns.Nodup) (hl : vals.length ≤ ns.length) (hm : ds.length ≤ ns.length) (hk : ns.length ≤ vals.length + ds.length)
   (h : Q (ns.zip (vals ++ ds.drop (vals.length + ds.length - ns.length))) s) : wpAny M A (bindArgs fd ⟨vals, []⟩) Q E s := by
  unfold bindArgs
  simp only [h1, h2, h3, h4, h5, List.map_nil, List.nil_append, List.append_nil, List.forIn_nil, pure_bind]
  refine wpAny_bind (hd _ fun o ho => ?_)
  simp only [ho]
  rw [if_neg (by simp; omega)]
  have e0 : ds.length - ns.length = 0 := by omega
  simp only [e0, List.drop_zero]
  have e1 : List.filter (fun n => (List.lookup n (ns.zip vals)).isNone) (List.take (ns.length - ds.length) ns) = [] := by
    rw [List.filter_eq_nil_iff]
    intro n hn' q
    have : n ∈ (ns.zip vals).map (·.1) := by
      rw [map_fst_zip]
      have e : ns.take (ns.length - ds.length) = (ns.take vals.length).take (ns.length - ds.length) := by rw [List.take_take]; congr 1; omega
      rw [e] at hn'
      exact List.mem_of_mem_take hn'
    have := (lookup_some_iff n _).mpr this
    cases z : List.lookup n (ns.zip vals) <;> simp_all
  rw [e1]
  rw [slot_loop _ (fun x s => by unfold slotStep; split <;> rfl), slots_full hn hl hm hk]
  rw [if_neg (by simp)]
  refine wpAny_bind (wpAny_pure ?_)
  rw [if_neg (by simp)]
  refine wpAny_pure ?_
  have := filter_lookup ns (vals ++ ds.drop (vals.length + ds.length - ns.length)) [] hn (by simp; omega) (fun _ _ => rfl)
  rw [List.nil_append] at this
  rw [this]
  exact h
end Mine
end
section
namespace Mine
open PySem PySem.W PyProof.Rows PySem.Spec PyProof PySem.SeqAt
structure Prg where
 N : Nm
 K : Frag
 T : Tabs
 C0 : Ctx
 fnA : Nat → Addr
 mth : Nat → Str
 rank : Nat → Nat
def bltNames : List Str := ["len", "min", "max", "abs", "sorted", "list", "range", "enumerate", "zip"]
structure ClsOk (P : Prg) (c : Nat) : Prop where
 get : plainGet P.K (P.N.cls c) "" = true
 set : findIn P.K (.ref (P.N.cls c)) "__setattr__" = some (some (.builtin "object.__setattr__"))
 over : plainOver P.K (P.N.cls c) = true
 dict : hasDictIn P.K (P.N.cls c) = true
 makes : makesIn P.K (P.N.cls c) = true
 keep : keepIn P.K (.ref (P.N.cls c)) = true
 field : ∀ n, n < P.N.nattr → findIn P.K (.ref (P.N.cls c)) (P.N.attr n) = some none
structure PrgOk (P : Prg) : Prop where
 attrs : ∀ x i, idx P.C0.attrs x = some i → i < P.N.nattr ∧ P.N.attr i = x
 txts : ∀ x i, idx P.C0.txts x = some i → i < P.N.ntxt ∧ P.N.txt i = x
 meths : ∀ x i, idx P.C0.meths x = some i → P.mth i = x
 kin : P.K.In P.N.h0
 lim : P.N.h0.NoLimit
 b : ∃ mb, P.N.h0.Ns builtinsNs mb ∧ ∀ x : Str, x ≠ "__name__" → mb x = bootBuiltins x
 g : ∃ mg, P.N.h0.Ns mainGlobals mg
 globs : ∀ x i, idx P.C0.globs x = some i → ∃ v, nsIn P.K mainGlobals x = some (some v) ∧ VRel P.N P.N.h0.get? v (P.T.glob i)
 fns : ∀ x i, slotOf P.C0.fns x = some i → nsIn P.K mainGlobals x = some (some (.ref (P.fnA i))) ∧ keepIn P.K (.ref (P.fnA i)) = true
 clss : ∀ x i, idx P.C0.clss x = some i → nsIn P.K mainGlobals x = some (some (.ref (P.N.cls i)))
 blts : ∀ x, x ∈ bltNames → nsIn P.K mainGlobals x = some none
 cls : ∀ c, ClsOk P c
 meth : ∀ c n f, P.T.meth c n = some f → findIn P.K (.ref (P.N.cls c)) (P.mth n) = some (some (.ref (P.fnA f))) ∧ (∀ m, m < P.N.nattr → P.N.attr m ≠ P.mth n) ∧ typeIn P.K (.ref (P.fnA f)) = some (.type "function") ∧ keepIn P.K (.ref (P.fnA f)) = true
 init : ∀ c f, P.T.init c = some f → findIn P.K (.ref (P.N.cls c)) "__init__" = some (some (.ref (P.fnA f))) ∧ typeIn P.K (.ref (P.fnA f)) = some (.type "function")
variable {P : Prg} {c : Cfg} {s : Shared} {A : Around} {Q : KV}
theorem SR.kin {h : Heap} (F : PrgOk P) (S : SR P.N c h) : P.K.In h := fun a o e => S.fr a o (S.stat a o (F.kin a o e))
theorem SR.old {h : Heap} (S : SR P.N c h) : ∀ a o, P.N.h0.get? a = some o → h.get? a = some o := fun a o e => S.fr a o (S.stat a o e)
structure GEnv (env : Env) : Prop where
 fn : env.scope.kind = .function
 gl : env.globals = mainGlobals
 bi : env.builtins = builtinsNs
theorem glob_read {env : Env} {x : Str} {pos : Pos} {v : Value} {R : Value → Shared → Prop} {E : Value → Shared → Prop} (F : PrgOk P) (G : GEnv env) (S : SR P.N c s.heap) (hk : env.kindOf x = some .globalImplicit) (hx : (x == ("__debug__" : Str)) = false)
  (e : nsIn P.K mainGlobals x = some (some v)) (h : R v s) : wpAny (model P.N.prog P.N.w) A (eval (.Name x pos) env) R E s := by
 obtain ⟨mg, hg⟩ := F.g
 exact Calls.Name_function_global G.fn hk (Calls.loadGlobal_global (env := env) (by rw [G.gl]; exact hg.keeps S.old) (mg_of F.kin hg e) h) hx
theorem blt_read {env : Env} {x : Str} {pos : Pos} {v : Value} {R : Value → Shared → Prop} {E : Value → Shared → Prop} (F : PrgOk P) (G : GEnv env) (S : SR P.N c s.heap) (hk : env.kindOf x = some .globalImplicit) (hx : (x == ("__debug__" : Str)) = false)
  (hn : x ≠ "__name__") (e : nsIn P.K mainGlobals x = some none) (hv : bootBuiltins x = some v) (h : R v s) : wpAny (model P.N.prog P.N.w) A (eval (.Name x pos) env) R E s := by
 obtain ⟨mg, hg⟩ := F.g
 obtain ⟨mb, hb, hb'⟩ := F.b
 exact Calls.Name_function_global G.fn hk (Calls.loadGlobal_builtin (env := env) (by rw [G.gl]; exact hg.keeps S.old) (mg_none_of F.kin hg e) (by rw [G.bi]; exact hb.keeps S.old) ((hb' x hn).trans hv) h) hx
theorem inst_at {a : Nat} {C : Nat} {fs : List (Nat × PV)} (S : SR P.N c s.heap) (q : c.σ a = some (.inst C fs)) :
  ∃ es n, InstAt s.heap a (instObj (P.N.cls C) (c.D a)) (P.N.cls C) (some (dictOf es n)) ∧ s.heap.get? (c.D a) = some (dictOf es n) ∧ FRel P.N c.I es fs := by
 obtain ⟨e, es, n, e2, r⟩ := S.st a _ q
 exact ⟨es, n, ⟨e, rfl, rfl, e2⟩, e2, r⟩
theorem frel_noref {I : Addr → Option Obj} : ∀ {es : List DictEntry} {fs : List (Nat × PV)}, FRel P.N I es fs → es.any (·.refKey) = false
 | _, _, .nil => rfl
 | _, _, .cons hn x y => by rw [List.any_cons, frel_noref y]; rfl
theorem isStr_str (n m : Str) (t : Tok) : (Value.str m t).isStr n = (m == n) := rfl
theorem frel_get {I : Addr → Option Obj} {n : Nat} {d : PV} (hn : n < P.N.nattr) : ∀ {es : List DictEntry} {fs : List (Nat × PV)}, FRel P.N I es fs → getF fs n = some d → ∃ v, getL (P.N.attr n) es = some (some v) ∧ VRel P.N I v d
 | _, _, .nil, h => by cases h
 | _, _, .cons (n := m) (v := v) (es := es) hm x y, h => by
  unfold getF at h
  unfold getL
  rw [List.find?_cons] at h ⊢
  rw [isStr_str]
  by_cases q : m = n
  ·subst q
   simp only [beq_self_eq_true, Option.map_some, Option.some.injEq] at h ⊢
   subst h
   exact ⟨v, rfl, x⟩
  ·have : P.N.attr m ≠ P.N.attr n := fun z => q (P.N.attrInj m n hm hn z)
   simp only [beq_eq_false_iff_ne.mpr q, beq_eq_false_iff_ne.mpr this] at h ⊢
   obtain ⟨v', e, r⟩ := frel_get hn y h
   refine ⟨v', ?_, r⟩
   unfold getL at e
   split at e
   ·rename_i z; rw [z]; exact e
   ·split at e <;> cases e
theorem frel_miss {I : Addr → Option Obj} {x : Str} (hx : ∀ m, m < P.N.nattr → P.N.attr m ≠ x) : ∀ {es : List DictEntry} {fs : List (Nat × PV)}, FRel P.N I es fs → es.find? (·.key.isStr x) = none
 | _, _, .nil => rfl
 | _, _, .cons (n := m) hm z y => by
  rw [List.find?_cons, isStr_str, beq_eq_false_iff_ne.mpr (hx m hm)]
  exact frel_miss hx y
theorem vrel_handed {I : Addr → Option Obj} {v : Value} {d : PV} (h : VRel P.N I v d) : handedIn v = true := by cases h <;> rfl
theorem attr_sound {v : Value} {d : PV} {n : Nat} {expr : Bool} (F : PrgOk P) (hn : n < P.N.nattr) (S : SR P.N c s.heap) (ha : VRel P.N c.I v d) (h : attrA d n c.σ Q) :
  WV P.N A (getAttr v (P.N.attr n) expr) c s Q := by
 unfold attrA at h
 split at h
 ·rename_i a
  split at h
  ·rename_i C fs q
   cases ha
   obtain ⟨d, hd, hq⟩ := h
   obtain ⟨es, k, I, e, r⟩ := inst_at S q
   obtain ⟨v, hv, rv⟩ := frel_get hn r hd
   have O := F.cls C
   exact get_value (S.kin F) I (plainGet_of O.get).1 (findObj_own O.dict (O.field n hn) rfl hv) (vrel_handed rv) (vp_here S rv hq)
  ·exact h.elim
 ·exact h.elim
def putList (x : Str) (hs : Int) (k v : Value) (es : List DictEntry) : List DictEntry := match es.findIdx? (·.key.isStr x) with
 | some i => es.modify i fun e => { e with val := v }
 | none => es ++ [⟨hs, k, v⟩]
theorem put_name (x : Str) (hs : Int) (k v : Value) (es : List DictEntry) (n : Nat) : ∃ n', Obj.putName x hs k v (dictOf es n) = dictOf (putList x hs k v es) n' := by
 rw [Obj.putName_eq]
 unfold Obj.putNameByArray dictOf putList
 simp only [List.findIdx?_toArray]
 split
 ·rename_i z; exact ⟨n, by simp [z]⟩
 ·rename_i z; exact ⟨n + 1, by simp [z]⟩
theorem frel_put {I : Addr → Option Obj} {n : Nat} {v : Value} {d : PV} {t : Tok} (hn : n < P.N.nattr) (hv : VRel P.N I v d) : ∀ {es : List DictEntry} {fs : List (Nat × PV)}, FRel P.N I es fs →
  FRel P.N I (putList (P.N.attr n) (PyData.keyHash P.N.w.params (P.N.attr n)) (.str (P.N.attr n) t) v es) (setF fs n d)
 | _, _, .nil => .cons hn hv .nil
 | _, _, .cons (n := m) (t := t') (v := v') (es := es) hm x y => by
  have ih := frel_put (t := t) hn hv y
  unfold putList at ih ⊢
  rw [List.findIdx?_cons, isStr_str]
  by_cases q : m = n
  ·subst q
   simp only [beq_self_eq_true, if_true, setF]
   exact .cons hm hv y
  ·have : P.N.attr m ≠ P.N.attr n := fun z => q (P.N.attrInj m n hm hn z)
   simp only [beq_eq_false_iff_ne.mpr this, Bool.false_eq_true, if_false, setF, if_neg q]
   cases z : es.findIdx? (·.key.isStr (P.N.attr n)) with
   | none => rw [z] at ih; exact .cons hm x ih
   | some i => rw [z] at ih; exact .cons hm x ih
theorem frel_len {I : Addr → Option Obj} : ∀ {es : List DictEntry} {fs : List (Nat × PV)}, FRel P.N I es fs → es.length = fs.length
 | _, _, .nil => rfl
 | _, _, .cons _ _ y => by simp [frel_len y]
theorem setF_len (fs : List (Nat × PV)) (n : Nat) (v : PV) : (setF fs n v).length ≤ fs.length + 1 := by
 induction fs with
 | nil => simp [setF]
 | cons x r ih => obtain ⟨m, w⟩ := x; unfold setF; split <;> simp; omega
theorem setattr_sound {v : Value} {d : PV} {a C n : Nat} {fs : List (Nat × PV)} {R : Sto → Prop} (F : PrgOk P) (hn : n < P.N.nattr) (S : SR P.N c s.heap) (hd : VRel P.N c.I v d) (q : c.σ a = some (.inst C fs)) (hz : fs.length < 1000)
  (h : R (c.σ.set a (.inst C (setF fs n d)))) : wpAny (model P.N.prog P.N.w) A (setAttr (.ref a) (P.N.attr n) v) (UPost P.N c s R) NoE s := by
 obtain ⟨es, k, I, D, r⟩ := inst_at S q
 have O := F.cls C
 have X := S.kin F
 refine set_plain X I O.set ?_
 refine osa_open (s := { s with toks := s.toks + 1 }) (r := none) X I O.over (by unfold takerIn; rw [O.field n hn]; rfl) fun b => ?_
 obtain ⟨cd, hc, hd'⟩ := any_some O.dict
 obtain ⟨hx, hcl, hno, -⟩ := I
 refine wpAny_bind (wpAny_pure (wpAny_bind (wpAny_bind (wpAny_loadPart hx (wpAny_bind (looks_clsIn (h := s.heap) X hc _ _ _ _ (fun _ _ e => e) ?_))))))
 rw [hd']
 refine wpAny_pure (a := some (c.D a)) (wpAny_bind (wpAny_pure (wpAny_bind ?_)))
 unfold nsSet
 refine wpAny_bind (wpAny_bind (wpAny_askSetting (wpAny_pure (wpAny_bind (wpAny_mkText (wpAny_bind (wpAny_loadPart D ?_)))))))
 obtain ⟨k', e'⟩ := put_name (P.N.attr n) (PyData.keyHash P.N.w.params (P.N.attr n)) (.str (P.N.attr n) (s.toks + 1)) v es k
 have r' := frel_put (t := s.toks + 1) hn hd r
 have hl' := frel_len r'
 have hl := setF_len fs n d
 have c0 : (!es.toArray.any (·.key.isStr (P.N.attr n)) && es.toArray.any (·.refKey)) = false := by
  rw [List.any_toArray, List.any_toArray, frel_noref r, Bool.and_false]
 have D' : (s.heap.update (c.D a) (Obj.putName (P.N.attr n) (PyData.keyHash P.N.w.params (P.N.attr n)) (.str (P.N.attr n) (s.toks + 1)) v)).get? (c.D a) = some (dictOf (putList (P.N.attr n) (PyData.keyHash P.N.w.params (P.N.attr n)) (.str (P.N.attr n) (s.toks + 1)) v es) k') := by
  rw [← e']
  exact Heap.get?_update_self _ D (by rw [e']; rfl)
 dsimp only [dictOf]
 rw [aRefKeyMayBeTheName_at, c0]
 refine wpAny_updatePart D ?_
 refine wpAny_bind (wpAny_lookBehind D' (pastItsLine_dict (by rw [List.size_toArray, sizeLine_eq]; omega)) ?_)
 refine wpAny_pure ?_
 have hs : Heap.SameBut (c.D a) s.heap (s.heap.update (c.D a) (Obj.putName (P.N.attr n) (PyData.keyHash P.N.w.params (P.N.attr n)) (.str (P.N.attr n) (s.toks + 1)) v)) := Heap.SameBut.update ..
 have ne : a ≠ c.D a := fun z => by
  have := S.dj a C fs q
  rw [← z, q] at this; cases this
 obtain ⟨S', E'⟩ := S.putF (X := NoX) (C' := C) (fs' := setF fs n d) hs q ⟨(hs.2 a ne).trans hx, _, k', D', r'⟩
 exact ⟨_, S', E', h, rfl, rfl⟩
end Mine
end
section
namespace Mine
open PySem PySem.W PyProof.Rows PySem.Spec PyProof PySem.SeqAt
variable {P : Prg}
structure FOk (A : Around) (r : Nat) : Prop where
 h : A.handled = none
 d : A.depth + 3 * r < 990
 u : A.units + 100 * r ≤ 8900
structure COk (A : Around) (r : Nat) : Prop where
 h : A.handled = none
 d : A.depth + 3 * r < 992
 u : A.units + 100 * r ≤ 8960
theorem FOk.ok {A : Around} {r : Nat} (F : FOk A r) : AOk A := ⟨F.h, by have := F.u; omega⟩
def EPost (N : Nm) (C : Ctx) (env : Env) (c : Cfg) (s : Shared) (Q : KO) (f : Flow) (s' : Shared) : Prop :=
 ∃ c', SR N c' s'.heap ∧ Evo (Own env) c s.heap c' s'.heap ∧ s'.gens = s.gens ∧ s'.os = s.os ∧
  ((f = .next ∧ ∃ loc, LR N C env c' s'.heap loc ∧ Q (.next loc) c'.σ) ∨ ∃ v d, f = .ret v ∧ VRel N c'.I v d ∧ Q (.ret d) c'.σ)
abbrev WE (N : Nm) (A : Around) (C : Ctx) (env : Env) (t : Sem Flow) (c : Cfg) (s : Shared) (Q : KO) : Prop := wpAny (model N.prog N.w) A t (EPost N C env c s Q) NoE s
def below (P : Prg) (S : Spec) (r : Nat) : Spec := fun f vs σ Q => P.rank f < r ∧ S f vs σ Q
def fnCtx (C0 : Ctx) (fd : FuncData) : Ctx := { C0 with scope := fd.scope, slots := (fnSlots fd.params fd.scope).zipIdx, n := (fnSlots fd.params fd.scope).length }
def BodySound (P : Prg) (S : Spec) (f : Nat) (a : AFun) (fd : FuncData) (body : List Stmt) : Prop :=
 ∀ (A : Around) (env : Env) (c : Cfg) (s : Shared) (loc : List PV) (Q : KO), FOk A (P.rank f) → CtxOk (fnCtx P.C0 fd) env → GEnv env → SR P.N c s.heap → LR P.N (fnCtx P.C0 fd) env c s.heap loc →
  execsA P.T (below P S (P.rank f)) a.body loc c.σ Q → WE P.N A (fnCtx P.C0 fd) env (execs body env) c s Q
structure FnFact (P : Prg) (f : Nat) (a : AFun) (fd : FuncData) (body : List Stmt) (ds : List Value) : Prop where
 tab : P.T.fn f = some a
 obj : ∃ o, P.K.lookup (P.fnA f) = some o ∧ o.data = .func fd
 body : fd.body = .stmts body
 clo : fd.closure = []
 gl : fd.globals = mainGlobals
 bi : fd.builtins = builtinsNs
 kind : fd.scope.kind = .function
 co : fd.scope.isCoroutine = false
 gen : fd.scope.isGenerator = false
 code : codeIn P.K fd.code fd.qualname = true
 p1 : fd.params.posonlyargs = []
 p3 : fd.params.kwonlyargs = []
 p4 : fd.params.vararg = none
 p5 : fd.params.kwarg = none
 nargs : a.nargs = fd.params.args.length
 nvars : a.nvars = (fnSlots fd.params fd.scope).length
 dsv : (fd.defaults = .none ∧ ds = []) ∨ ∃ T o n, fd.defaults = .ref T ∧ P.K.lookup T = some o ∧ o.data = .seq ds.toArray n
 dv : ∀ I, VRelL P.N I ds a.dflts
 dl : ds.length ≤ fd.params.args.length
 nodup : (fd.scope.names.map (·.1)).Nodup
 snodup : (fnSlots fd.params fd.scope).Nodup
 kinds : ∀ x ∈ fd.params.args.map (·.arg), fd.scope.names.lookup x = some .local ∨ fd.scope.names.lookup x = some .cell
 free : ∀ x k, fd.scope.names.lookup x = some k → k ≠ .free ∧ (x == ("__debug__" : Str)) = false ∧ (x == ("__classdict__" : Str)) = false
theorem lookup_some_iff' {α : Type} (n : Str) : ∀ l : List (Str × α), (l.lookup n).isSome = true ↔ n ∈ l.map (·.1)
 | [] => by simp
 | (m, v) :: l => by
  rw [List.lookup_cons]
  by_cases h : n = m
  ·subst h; simp
  ·rw [beq_eq_false_iff_ne.mpr h]; simp [h, lookup_some_iff' n l]
theorem lookup_of_mem {α : Type} {l : List (Str × α)} (hn : (l.map (·.1)).Nodup) {x : Str} {a : α} (h : (x, a) ∈ l) : l.lookup x = some a := by
 induction l with
 | nil => cases h
 | cons p l ih =>
  obtain ⟨y, b⟩ := p
  rw [List.map_cons, List.nodup_cons] at hn
  rw [List.lookup_cons]
  rcases List.mem_cons.mp h with e | h
  ·cases e; simp
  ·have : x ≠ y := fun z => hn.1 (z ▸ List.mem_map_of_mem (f := (·.1)) h)
   rw [beq_eq_false_iff_ne.mpr this]
   exact ih hn.2 h
theorem slot_zip : ∀ (l : List Str) (n : Nat) (x : Str) (i : Nat), slotOf (l.zipIdx n) x = some i → n ≤ i ∧ l[i - n]? = some x
 | [], _, _, _, h => by cases h
 | y :: l, n, x, i, h => by
  rw [List.zipIdx_cons] at h
  unfold slotOf at h
  split at h
  ·rename_i e; cases h; subst e; simp
  ·obtain ⟨a, b⟩ := slot_zip l (n + 1) x i h
   refine ⟨by omega, ?_⟩
   rw [show i - n = (i - (n + 1)) + 1 by omega, List.getElem?_cons_succ]; exact b
theorem slot_zip0 {l : List Str} {x : Str} {i : Nat} (h : slotOf l.zipIdx x = some i) : l[i]? = some x := by
 have := (slot_zip l 0 x i h).2
 simpa using this
theorem cells_mem : ∀ (names : List (Str × NameKind)) (n : Nat) (acc : List (Str × Addr)) (x : Str), (x ∈ (cellsFrom n names acc).map (·.1) ↔ x ∈ acc.map (·.1) ∨ (x, NameKind.cell) ∈ names)
 | [], _, _, _ => by simp [cellsFrom]
 | (y, k) :: r, n, acc, x => by
  unfold cellsFrom
  split
  ·rename_i h
   have h' : k = .cell := by simpa using h
   subst h'
   rw [cells_mem r]
   simp only [List.map_cons, List.mem_cons, Prod.mk.injEq, and_true]
   constructor
   ·rintro ((h | h) | h) <;> simp [h]
   ·rintro (h | h | h) <;> simp [h]
  ·rename_i h
   have h' : k ≠ .cell := by simpa using h
   rw [cells_mem r]
   simp only [List.mem_cons, Prod.mk.injEq]
   constructor
   ·rintro (h | h) <;> simp [h]
   ·rintro (h | ⟨_, h⟩ | h)
    ·simp [h]
    ·exact absurd h.symm h'
    ·simp [h]
theorem cells_nodup : ∀ (names : List (Str × NameKind)) (n : Nat) (acc : List (Str × Addr)), (names.map (·.1)).Nodup → (acc.map (·.1)).Nodup → (∀ x, x ∈ acc.map (·.1) → x ∉ names.map (·.1)) → ((cellsFrom n names acc).map (·.1)).Nodup
 | [], _, _, _, h, _ => h
 | (y, k) :: r, n, acc, hn, ha, hd => by
  rw [List.map_cons, List.nodup_cons] at hn
  unfold cellsFrom
  split
  ·refine cells_nodup r _ _ hn.2 ?_ ?_
   ·rw [List.map_cons, List.nodup_cons]
    exact ⟨fun h => hd y h (by simp), ha⟩
   ·intro x hx hr
    rw [List.map_cons] at hx
    rcases List.mem_cons.mp hx with q | q
    ·exact hn.1 (q ▸ hr)
    ·exact hd x q (by rw [List.map_cons]; exact List.mem_cons_of_mem _ hr)
  ·refine cells_nodup r _ _ hn.2 ha fun x hx hr => hd x hx (by rw [List.map_cons]; exact List.mem_cons_of_mem _ hr)
theorem bindL_miss (kd : Str → Option NameKind) (x : Str) : ∀ (l : List (Str × Value)) (m : Str → Option Value), x ∉ l.map (·.1) → bindL kd l m x = m x
 | [], _, _ => rfl
 | (n, v) :: r, m, h => by
  rw [List.map_cons, List.mem_cons, not_or] at h
  unfold bindL
  rw [bindL_miss kd x r _ h.2]
  split
  ·show (if x = n then some v else m x) = m x
   rw [if_neg h.1]
  ·rfl
theorem bindC_miss (kd : Str → Option NameKind) (x : Str) : ∀ (l : List (Str × Value)) (m : Str → Option Value), x ∉ l.map (·.1) → bindC kd l m x = m x
 | [], _, _ => rfl
 | (n, v) :: r, m, h => by
  rw [List.map_cons, List.mem_cons, not_or] at h
  unfold bindC
  rw [bindC_miss kd x r _ h.2]
  split
  ·rfl
  ·show (if x = n then some v else m x) = m x
   rw [if_neg h.1]
theorem bindL_hit (kd : Str → Option NameKind) : ∀ (ns : List Str) (vs : List Value) (m : Str → Option Value) (i : Nat) (x : Str) (v : Value), ns.Nodup → ns[i]? = some x → vs[i]? = some v → kd x = some .local → bindL kd (ns.zip vs) m x = some v
 | [], _, _, _, _, _, _, h, _, _ => by simp at h
 | n :: ns, [], _, _, _, _, _, _, h, _ => by simp at h
 | n :: ns, w :: vs, m, 0, x, v, hn, h1, h2, hk => by
  simp at h1 h2; subst h1 h2
  rw [List.nodup_cons] at hn
  rw [List.zip_cons_cons]
  unfold bindL
  rw [bindL_miss kd n _ _ (fun h => hn.1 (by rw [map_fst_zip] at h; exact List.mem_of_mem_take h)), if_pos hk]
  simp
 | n :: ns, w :: vs, m, i + 1, x, v, hn, h1, h2, hk => by
  rw [List.nodup_cons] at hn
  rw [List.zip_cons_cons]
  exact bindL_hit kd ns vs _ i x v hn.2 (by simpa using h1) (by simpa using h2) hk
theorem bindC_hit (kd : Str → Option NameKind) : ∀ (ns : List Str) (vs : List Value) (m : Str → Option Value) (i : Nat) (x : Str) (v : Value), ns.Nodup → ns[i]? = some x → vs[i]? = some v → kd x ≠ some .local → bindC kd (ns.zip vs) m x = some v
 | [], _, _, _, _, _, _, h, _, _ => by simp at h
 | n :: ns, [], _, _, _, _, _, _, h, _ => by simp at h
 | n :: ns, w :: vs, m, 0, x, v, hn, h1, h2, hk => by
  simp at h1 h2; subst h1 h2
  rw [List.nodup_cons] at hn
  rw [List.zip_cons_cons]
  unfold bindC
  rw [bindC_miss kd n _ _ (fun h => hn.1 (by rw [map_fst_zip] at h; exact List.mem_of_mem_take h)), if_neg hk]
  simp
 | n :: ns, w :: vs, m, i + 1, x, v, hn, h1, h2, hk => by
  rw [List.nodup_cons] at hn
  rw [List.zip_cons_cons]
  exact bindC_hit kd ns vs _ i x v hn.2 (by simpa using h1) (by simpa using h2) hk
theorem slot_filter_nodup (a : Arguments) (sc : Scope) : fnSlots a sc = a.args.map (·.arg) ++ (sc.names.filter fun x => (x.2 == .local || x.2 == .cell) && !(a.args.map (·.arg)).contains x.1).map (·.1) := rfl
theorem enter {f : Nat} {a : AFun} {fd : FuncData} {body : List Stmt} {ds : List Value} {s s' : Shared} {c : Cfg} {full : List Value} {args : List PV} (H : FnFact P f a fd body ds) (S : SR P.N c s.heap)
  (hf : VRelL P.N c.I full args) (hl : args.length = a.nargs)
  (x : InCallC s (callEnvC fd s.heap.objs.size (P.fnA f)).locals (bindL (callEnvC fd s.heap.objs.size (P.fnA f)).kindOf ((fd.params.args.map (·.arg)).zip full) fun _ => none) (callEnvC fd s.heap.objs.size (P.fnA f)).cells
   (bindC (callEnvC fd s.heap.objs.size (P.fnA f)).kindOf ((fd.params.args.map (·.arg)).zip full) fun _ => none) s') :
  CtxOk (fnCtx P.C0 fd) (callEnvC fd s.heap.objs.size (P.fnA f)) ∧ GEnv (callEnvC fd s.heap.objs.size (P.fnA f)) ∧ SR P.N c s'.heap ∧
   LR P.N (fnCtx P.C0 fd) (callEnvC fd s.heap.objs.size (P.fnA f)) c s'.heap (args ++ List.replicate (a.nvars - a.nargs) .undef) ∧ (∀ b, Own (callEnvC fd s.heap.objs.size (P.fnA f)) b → s.heap.get? b = none) := by
 have hk : ∀ y, (callEnvC fd s.heap.objs.size (P.fnA f)).kindOf y = fd.scope.names.lookup y := fun y => rfl
 have hcn : ((cellsFrom (s.heap.objs.size + 1) fd.scope.names []).map (·.1)).Nodup := cells_nodup _ _ _ H.nodup List.nodup_nil (fun _ h => by cases h)
 have hcell : ∀ y, fd.scope.names.lookup y = some .cell → ∃ b, (callEnvC fd s.heap.objs.size (P.fnA f)).cells.lookup y = some b := fun y hy => by
  have := (cells_mem fd.scope.names (s.heap.objs.size + 1) [] y).mpr (.inr (mem_of_lookup hy))
  obtain ⟨⟨z, b⟩, hm, rfl⟩ := List.mem_map.mp this
  exact ⟨b, lookup_of_mem hcn hm⟩
 have fresh : ∀ b, Own (callEnvC fd s.heap.objs.size (P.fnA f)) b → s.heap.get? b = none := fun b o => by
  have ge : s.heap.objs.size ≤ b := by
   rcases o with rfl | ⟨y, hy⟩
   ·exact Nat.le_refl _
   ·exact Nat.le_of_lt (x.above y b hy)
  cases q : s.heap.get? b with
  | none => rfl
  | some o => exact absurd (Heap.lt_size q) (Nat.not_lt.mpr ge)
 have hfl := hf.length
 have hsl : (fnSlots fd.params fd.scope).length = fd.params.args.length + ((fd.scope.names.filter fun x => (x.2 == .local || x.2 == .cell) && !(fd.params.args.map (·.arg)).contains x.1).map (·.1)).length := by
  rw [slot_filter_nodup, List.length_append, List.length_map]
 have hna := H.nargs
 have hnv := H.nvars
 refine ⟨⟨H.kind, rfl, fun y z i hy hz => ?_, fun y i hy => ?_, x.apart, fun y b hy => Nat.ne_of_gt (x.above y b hy), fun y i _ hy => ?_, fun y k hy => (H.free y k hy).2⟩, ⟨H.kind, H.gl, H.bi⟩, S.ext x.toInCall.keep,
  ⟨⟨_, x.toInCall.ns⟩, fun y b hy => ⟨_, x.cell y b (lookup_of_mem hcn hy)⟩, ?_, fun y i v hy hv hu => ?_, fun b o => ?_⟩, fresh⟩
 ·have h1 := slot_zip0 hy
  have h2 := slot_zip0 hz
  rw [h1] at h2; exact Option.some.inj h2
 ·exact (List.getElem?_eq_some_iff.mp (slot_zip0 hy)).1
 ·rcases hy with hy | hy
  ·exact hcell y hy
  ·exact absurd rfl (H.free y _ hy).1
 ·rw [List.length_append, List.length_replicate]
  show _ = (fnSlots fd.params fd.scope).length
  omega
 ·obtain ⟨hs, hkind⟩ := loc_cases hy
  have h1 : (fnSlots fd.params fd.scope)[i]? = some y := slot_zip0 hs
  have hi : i < args.length := by
   refine Classical.byContradiction fun q => hu ?_
   rw [List.getElem?_append_right (by omega), List.getElem?_replicate] at hv
   split at hv <;> simp_all
  rw [List.getElem?_append_left hi] at hv
  have h2 : (fd.params.args.map (·.arg))[i]? = some y := by
   rw [slot_filter_nodup, List.getElem?_append_left (by rw [List.length_map]; omega)] at h1; exact h1
  obtain ⟨cv, hcv, r⟩ := hf.getElem hv
  have hnd : (fd.params.args.map (·.arg)).Nodup := by
   have := H.snodup
   rw [slot_filter_nodup] at this
   exact (List.nodup_append.mp this).1
  refine ⟨cv, ?_, r⟩
  rcases hkind with q | q | q
  ·exact .inl ⟨q, _, x.toInCall.ns, bindL_hit _ _ _ _ i y cv hnd h2 hcv q⟩
  ·obtain ⟨b, hb⟩ := hcell y q
   have hc := x.cell y b hb
   rw [bindC_hit _ _ _ _ i y cv hnd h2 hcv (by rw [hk, show fd.scope.names.lookup y = some .cell from q]; simp)] at hc
   exact .inr ⟨.inl q, b, hb, hc⟩
  ·exact absurd rfl (H.free y _ q).1
 ·exact ⟨S.not_foot (fresh b o), S.I_none (fresh b o)⟩
def RPost (N : Nm) (c : Cfg) (s : Shared) (Q : KV) (r : Result) (s' : Shared) : Prop := match r with
 | .ok (.ret v) => VPost N c s Q v s'
 | _ => False
theorem call_sound {Sp : Spec} {f : Nat} {a : AFun} {fd : FuncData} {body : List Stmt} {ds : List Value} {c : Cfg} {s : Shared} {A : Around} {Q : KV} {vs : List Value} {args : List PV} (F : PrgOk P) (H : FnFact P f a fd body ds) (B : BodySound P Sp f a fd body) (K : COk A (P.rank f + 1)) (S : SR P.N c s.heap)
  (hv : VRelL P.N c.I vs args) (hl : (fill P.T f args).length = a.nargs) (hb : execsA P.T (below P Sp (P.rank f)) a.body (fill P.T f args ++ List.replicate (a.nvars - a.nargs) .undef) c.σ fun o σ' => match o with
   | .next _ => Wk .none σ' Q
   | .ret v => Wk v σ' Q) :
  codeAny (model P.N.prog P.N.w) A (.call (.ref (P.fnA f)) ⟨vs, []⟩) (RPost P.N c s Q) s := by
 have X := S.kin F
 obtain ⟨o, ho, hd⟩ := H.obj
 have hfull : fill P.T f args = args ++ a.dflts.drop (args.length + a.dflts.length - a.nargs) := by unfold fill; rw [H.tab]
 have hdl := (H.dv c.I).length
 have hvl := hv.length
 have hdl2 := H.dl
 have hna := H.nargs
 have hlen : args.length + (a.dflts.length - (args.length + a.dflts.length - a.nargs)) = a.nargs := by rw [hfull, List.length_append, List.length_drop] at hl; exact hl
 have hff : VRelL P.N c.I (vs ++ ds.drop (vs.length + ds.length - (fd.params.args.map (·.arg)).length)) (fill P.T f args) := by
  rw [hfull, List.length_map, hvl, hdl, hna]
  exact hv.append ((H.dv c.I).drop _)
 have hnd : (fd.params.args.map (·.arg)).Nodup := by
  have := H.snodup
  rw [slot_filter_nodup] at this
  exact (List.nodup_append.mp this).1
 refine codeAny_call_function (by have := K.d; show A.depth < 1000; omega) (X _ _ ho) hd H.co H.gen H.body (codeRec_of X H.code) ?_
 refine bind_eq _ _ _ _ H.p1 rfl H.p3 H.p4 H.p5 (ds := ds) (fun R hR => ?_) hnd (by rw [List.length_map]; omega) (by rw [List.length_map]; exact hdl2) (by rw [List.length_map]; omega) ?_
 ·rcases H.dsv with ⟨e, rfl⟩ | ⟨T, oT, n, e, hT, hTd⟩
  ·rw [e]
   exact wpAny_of_eq (a := none) (by rfl) (hR _ rfl)
  ·rw [e]
   exact wpAny_seqItems (X _ _ hT) hTd (hR _ rfl)
 rw [H.clo]
 refine wpAny_newFunctionEnv_cells H.kind (fun y hy => ?_) fun env he s' x => ?_
 ·have hm : y.1 ∈ fd.params.args.map (·.arg) := (List.of_mem_zip hy).1
  rcases H.kinds _ hm with q | q
  ·exact .inl q
  ·refine .inr ⟨q, ?_⟩
   have := (cells_mem fd.scope.names (s.heap.objs.size + 1) [] y.1).mpr (.inr (mem_of_lookup q))
   exact (lookup_some_iff' _ _).mpr this
 have hee : env = callEnvC fd s.heap.objs.size (P.fnA f) := he
 subst hee
 obtain ⟨C1, G1, S1, L1, fr⟩ := enter H S hff hl x
 refine ⟨F.lim.keeps S1.old, codeAny_func ?_⟩
 obtain ⟨hs1, tk1, hs'⟩ := x.toInCall.same
 refine wpAny_mono (B (A.deeper _) _ c s' _ _ ⟨K.h, by show A.depth + 1 + 3 * P.rank f < _; have := K.d; omega, by show A.units + 3 + _ ≤ _; have := K.u; omega⟩ C1 G1 S1 L1 hb) (fun fl s2 h2 => ?_) fun _ _ e => e.elim
 obtain ⟨c2, S2, E2, hg, ho2, h2⟩ := h2
 have E02 : Evo NoX c s.heap c2 s2.heap := ((Evo.ext x.toInCall.keep).trans E2).fresh fr
 have fin : ∀ v d, VRel P.N c2.I v d → Wk d c2.σ Q → VPost P.N c s Q v s2 := fun v d hv' ⟨d', σ', hfz, hsub, hq⟩ => by
  obtain ⟨S3, E3⟩ := S2.frz (X := NoX) hsub
  exact ⟨_, d', S3, E02.trans E3, hfz.vrel S2 hsub hv', hq, hg.trans (by rw [hs']), ho2.trans (by rw [hs'])⟩
 rcases h2 with ⟨rfl, loc, L2, hq⟩ | ⟨v, d, rfl, hv', hq⟩
 ·exact fin _ _ .none hq
 ·exact fin _ _ hv' hq
end Mine
end
section
namespace Mine
open PySem PySem.W PyProof.Rows PySem.Spec PyProof PySem.SeqAt PySem.Calls
theorem insD_perm (k : Int) : ∀ l : List Int, (insD k l).Perm (k :: l)
 | [] => .refl _
 | x :: r => by
  unfold insD
  split
  ·exact .refl _
  ·exact ((insD_perm k r).cons x).trans (.swap ..)
theorem sortI_perm : ∀ l : List Int, (sortI l).Perm l
 | [] => .refl _
 | x :: r => (insD_perm x _).trans ((sortI_perm r).cons x)
theorem insD_sorted (k : Int) : ∀ l : List Int, l.Pairwise (· ≤ ·) → (insD k l).Pairwise (· ≤ ·)
 | [], _ => by simp [insD]
 | x :: r, h => by
  unfold insD
  rw [List.pairwise_cons] at h
  split
  ·rename_i q
   rw [List.pairwise_cons]
   refine ⟨fun y hy => ?_, by rw [List.pairwise_cons]; exact h⟩
   rcases List.mem_cons.mp hy with rfl | hy
   ·exact q
   ·exact Int.le_trans q (h.1 y hy)
  ·rename_i q
   rw [List.pairwise_cons]
   refine ⟨fun y hy => ?_, insD_sorted k r h.2⟩
   rcases List.mem_cons.mp ((insD_perm k r).mem_iff.mp hy) with rfl | hy
   ·omega
   ·exact h.1 y hy
theorem sortI_sorted : ∀ l : List Int, (sortI l).Pairwise (· ≤ ·)
 | [] => .nil
 | x :: r => insD_sorted x _ (sortI_sorted r)
variable {N : Nm} {c : Cfg} {s : Shared} {A : Around} {Q : KV}
theorem keys_ints : ∀ (vs : List Value) (kvs : List (Int × Value)), vs.length = kvs.length → (∀ (j : Nat) (v : Value), vs[j]? = some v → ∃ k x, kvs[j]? = some (k, x) ∧ (intKind N.prog N.w).is k v = true) → IntsAre vs (kvs.map (·.1))
 | [], [], _, _ => .nil
 | v :: vs, kv :: kvs, hl, h => by
  obtain ⟨k, x, e, hk⟩ := h 0 v rfl
  simp only [List.getElem?_cons_zero, Option.some.injEq] at e
  subst e
  obtain ⟨t, rfl⟩ := Value.isInt_shape hk
  exact .cons k t (keys_ints vs kvs (by simpa using hl) fun j u hu => by simpa using h (j + 1) u (by simpa using hu))
 | [], _ :: _, h, _ => by cases h
 | _ :: _, [], h, _ => by cases h
theorem krel_keys {I : Addr → Option Obj} : ∀ {kv : List (Int × Value)} {kvs : List (Int × PV)}, KRel N I kv kvs → kv.map (·.1) = kvs.map (·.1)
 | _, _, .nil => rfl
 | _, _, .cons x y => by simp [krel_keys y]
theorem ints_rel {I : Addr → Option Obj} : ∀ {vs : List Value} {ns : List Int}, IntsAre vs ns → VRelL N I vs (ns.map .int)
 | _, _, .nil => .nil
 | _, _, .cons n t h => .cons (.int n t) (ints_rel h)
theorem sorted_sound {v : Value} {d : PV} (K : AOk A) (S : SR N c s.heap) (ha : VRel N c.I v d) (h : bltA .sorted [d] c.σ Q) : WV N A (call (.builtin "sorted") [v]) c s Q := by
 cases d <;> simp only [bltA] at h <;> try exact h.elim
 rename_i a
 cases ha
 split at h
 ·rename_i kvs q
  obtain ⟨hlen, h⟩ := h
  obtain ⟨lo, kv, hD, r⟩ := S.st a _ q
  have hkl := krel_length r
  obtain ⟨ep, hat⟩ := hD.dictAt
  refine call_function_entry kind_sorted plain_sorted entry_sorted (args_sorted1 _) ?_
  unfold Builtin.«sorted»
  refine wpAny_bind (m := checkCount "sorted" 1 1 _) (wpAny_pure ?_)
  refine wpAny_bind (kdu_collect (A := A.in1) (kdl_dict (knd := intKind N.prog N.w) (kvs := kv) (ep := ep) lo) K.h hat (by rw [sizeLine_eq]; omega) fun h' tk acc hk hacc => ?_)
  have hl : acc.toList.length = kv.length := by rw [Array.length_toList]; exact hacc.1
  refine wpAny_bind (wpAny_newList ?_ (by rw [hl, sizeLine_eq]; omega))
  have hI : IntsAre acc.toList (kv.map (·.1)) := keys_ints (N := N) acc.toList kv hl (fun j v e => hacc.2 j v (by rw [← Array.getElem?_toList]; exact e))
  refine wpAny_bind (wpAny_holding ?_)
  have hD0 : (h'.push { cls := .type "list", data := .seq acc.toList.toArray }).get? h'.objs.size = some (seqObj "list" acc.toList.toArray 0) := Heap.get?_push_size _ rfl
  refine wpAny_call_entry PyProof.Rows.slot_list_sort ⟨_, hD0, rfl⟩ PyProof.Rows.entry_list_sort (list_sort_tree (n := 0) (vs := acc.toList) hD0 hI (by rw [hl]; omega) fun out ns' hI' hp hP => ⟨.none, rfl, ?_⟩) (PyProof.Rows.args_list_sort _)
  have hfr : s.heap.get? h'.objs.size = none := by
   cases q' : s.heap.get? h'.objs.size with
   | none => rfl
   | some o => exact absurd (Heap.lt_size (hk _ _ q')) (Nat.lt_irrefl _)
  have hns : ns' = sortI (kvs.map (·.1)) := by
   rw [← krel_keys r]
   exact lks_uniq (hp.trans (sortI_perm _).symm) hP (sortI_sorted _)
  subst hns
  have hol : out.toList.length = kvs.length := by
   rw [hI'.length, (sortI_perm _).length_eq, List.length_map]
  have k1 : ∀ b o, s.heap.get? b = some o → (sortedHeap (h'.push { cls := .type "list", data := .seq acc.toList.toArray }) h'.objs.size acc.toList out).get? b = some o := fun b o e => by
   have e1 := hk b o e
   have ne : b ≠ h'.objs.size := Nat.ne_of_lt (Heap.lt_size e1)
   have s1 : Heap.SameBut h'.objs.size (h'.push { cls := .type "list", data := .seq acc.toList.toArray }) ((h'.push { cls := .type "list", data := .seq acc.toList.toArray }).update h'.objs.size (Obj.mapSeq fun _ => #[])) := Heap.SameBut.update ..
   have e2 := (s1.2 b ne).trans (Heap.get?_push_of_some _ e1)
   have s2 : Heap.SameBut h'.objs.size _ (sortedHeap (h'.push { cls := .type "list", data := .seq acc.toList.toArray }) h'.objs.size acc.toList out) := Heap.SameBut.update ..
   exact (s2.2 b ne).trans (Heap.get?_push_of_some _ (Heap.get?_push_of_some _ e2))
  have e1 : ∃ n, (sortedHeap (h'.push { cls := .type "list", data := .seq acc.toList.toArray }) h'.objs.size acc.toList out).get? h'.objs.size = some (listOf out n) := by
   have a1 := get?_update_seq hD0 (fun _ => #[])
   have a2 := Heap.get?_push_of_some (seqObj "tuple" acc.toList.toArray 0) a1
   have a3 := Heap.get?_push_of_some (seqObj "list" #[] 0) a2
   exact ⟨_, get?_update_seq a3 (fun _ => out)⟩
  obtain ⟨n1, e1⟩ := e1
  refine wpAny_pure ⟨_, rfl, ?_⟩
  have hal : alloc false ((sortI (kvs.map (·.1))).map .int) c.σ Q := ⟨by rw [List.length_map, (sortI_perm _).length_eq, List.length_map]; show _ ≤ 16777216; omega, h⟩
  exact vp_alloc (m := false) (vs := out.toList) (l := (sortI (kvs.map (·.1))).map .int) S (ints_rel hI') hal k1 hfr e1 ⟨n1, by simp⟩
 ·exact h.elim
end Mine
end
section
namespace Mine
open PySem PySem.W PyProof.Rows PySem.Spec PyProof PySem.SeqAt
structure CSame (P : Prg) (C : Ctx) : Prop where
 fns : C.fns = P.C0.fns
 globs : C.globs = P.C0.globs
 clss : C.clss = P.C0.clss
 attrs : C.attrs = P.C0.attrs
 meths : C.meths = P.C0.meths
 txts : C.txts = P.C0.txts
structure XOk (P : Prg) (C : Ctx) (env : Env) (A : Around) (r : Nat) : Prop where
 same : CSame P C
 ctx : CtxOk C env
 g : GEnv env
 a : FOk A r
def CallsOk (P : Prg) (Sx : Spec) (r : Nat) : Prop := ∀ f A c s vs args Q, COk A r → SR P.N c s.heap → VRelL P.N c.I vs args → Sx f (fill P.T f args) c.σ Q →
 codeAny (model P.N.prog P.N.w) A (.call (.ref (P.fnA f)) ⟨vs, []⟩) (RPost P.N c s Q) s
section
variable {N : Nm} {A : Around} {c c' : Cfg} {s s' : Shared} {Q Q' : KV}
theorem WV.seq {t : Sem Value} {k : Value → Shared → Prop} (h : WV N A t c s Q) (hk : ∀ v s' c' d, SR N c' s'.heap → Evo NoX c s.heap c' s'.heap → VRel N c'.I v d → Q d c'.σ → s'.gens = s.gens → s'.os = s.os → k v s') :
  wpAny (model N.prog N.w) A t k NoE s := wpAny_mono h (fun v s' ⟨c', d, S, E, r, q, g, o⟩ => hk v s' c' d S E r q g o) (fun _ _ e => e)
theorem lift {t : Sem Value} (E : Evo NoX c s.heap c' s'.heap) (g : s'.gens = s.gens) (o : s'.os = s.os) (h : wpAny (model N.prog N.w) A t (VPost N c' s' Q) NoE s') : wpAny (model N.prog N.w) A t (VPost N c s Q) NoE s' :=
 wpAny_mono h (fun _ _ x => x.trans E g o) fun _ _ e => e
def BPost (N : Nm) (c : Cfg) (s : Shared) (R : Bool → Sto → Prop) (b : Bool) (s' : Shared) : Prop := ∃ c', SR N c' s'.heap ∧ Evo NoX c s.heap c' s'.heap ∧ R b c'.σ ∧ s'.gens = s.gens ∧ s'.os = s.os
def LPost (N : Nm) (c : Cfg) (s : Shared) (R : List PV → Sto → Prop) (vs : List Value) (s' : Shared) : Prop := ∃ c' ds, SR N c' s'.heap ∧ Evo NoX c s.heap c' s'.heap ∧ VRelL N c'.I vs ds ∧ R ds c'.σ ∧ s'.gens = s.gens ∧ s'.os = s.os
end
section
variable {P : Prg} {Sx : Spec} {r : Nat}
def EvalAt (P : Prg) (Sx : Spec) (r n : Nat) : Prop := ∀ C env m e me A c s loc Q, XOk P C env A r → compE n C m e = some me → SR P.N c s.heap → LR P.N C env c s.heap loc → evalA P.T Sx me loc c.σ Q → WV P.N A (eval e env) c s Q
def TestAt (P : Prg) (Sx : Spec) (r n : Nat) : Prop := ∀ C env m e me A c s loc R, XOk P C env A r → compE n C m e = some me → SR P.N c s.heap → LR P.N C env c s.heap loc → evalA P.T Sx me loc c.σ (fun v σ => ∃ b, v = .bool b ∧ R b σ) →
 wpAny (model P.N.prog P.N.w) A (isTrue e env (eval e env)) (BPost P.N c s R) NoE s
end
theorem tc_weight (a : Addr) (l : List Value) : (Code.builtin "type.__call__" ⟨.ref a :: l, []⟩).weight = 1 := by rfl
theorem tc_units (args : Args) : (Code.builtin "type.__call__" args).cUnits = 1 := by rfl
theorem FOk.c {A : Around} {r : Nat} (K : FOk A r) : COk A r := ⟨K.h, by have := K.d; omega, by have := K.u; omega⟩
theorem FOk.tc {A : Around} {r : Nat} (K : FOk A r) (a : Addr) (l : List Value) : COk (A.under (.builtin "type.__call__" ⟨.ref a :: l, []⟩)) r :=
 ⟨K.h, by show A.depth + (Code.builtin "type.__call__" ⟨.ref a :: l, []⟩).weight + 3 * r < 992; rw [tc_weight]; have := K.d; omega, by show A.units + (Code.builtin "type.__call__" ⟨.ref a :: l, []⟩).cUnits + 100 * r ≤ 8960; rw [tc_units]; have := K.u; omega⟩
section
variable {P : Prg} {Sx : Spec} {r n : Nat} {C : Ctx} {env : Env} {A : Around} {c : Cfg} {s : Shared} {loc : List PV} {Q : KV}
theorem compE_star {m : Bool} (x : Expr) (p : Pos) : compE n C m (.Starred x p) = none := by cases n <;> rfl
theorem compE_set {m : Bool} (l : List Expr) (k : Nat) (p : Pos) : compE n C m (.Set l k p) = none := by cases n <;> rfl
theorem not_behind {m : Bool} {e : Expr} {me : ME} (h : compE n C m e = some me) (op : CmpOp) : behindInMarks op e = false := by
 cases e <;> first | rfl | (rw [compE_set] at h; cases h)
theorem star_each {m : Bool} {e : Expr} {me : ME} {rest : List Expr} (h : compE n C m e = some me) : starEach (e :: rest) env = (false, eval e env) :: starEach rest env := by
 cases e <;> first | rfl | (rw [compE_star] at h; cases h)
theorem back_cons (pos : Pos) (t : Sem Value) (l : List (Bool × Sem Value)) : backTo pos ((false, t) :: l) = (false, t) :: backTo pos l := rfl
theorem no_star {pos : Pos} : ∀ {es : List Expr} {mes : List ME}, mapO (compE n C false) es = some mes → (backTo pos (starEach es env)).any (·.1) = false
 | [], _, _ => rfl
 | e :: es, mes, h => by
  unfold mapO at h
  split at h
  ·rename_i y ys h1 h2
   rw [star_each h1, back_cons, List.any_cons, no_star h2]; rfl
  ·cases h
theorem two (IH : EvalAt P Sx r n) (X : XOk P C env A r) (S : SR P.N c s.heap) (L : LR P.N C env c s.heap loc) {m1 m2 : Bool} {a b : Expr} {x y : ME} {K : PV → PV → Sto → Prop} {k : Value → Value → Shared → Prop} (hx : compE n C m1 a = some x) (hy : compE n C m2 b = some y)
  (h : evalA P.T Sx x loc c.σ fun va σ₁ => evalA P.T Sx y loc σ₁ fun vb σ₂ => K va vb σ₂)
  (hk : ∀ v w s' c' d e, SR P.N c' s'.heap → Evo NoX c s.heap c' s'.heap → VRel P.N c'.I v d → VRel P.N c'.I w e → K d e c'.σ → s'.gens = s.gens → s'.os = s.os → k v w s') :
  wpAny (model P.N.prog P.N.w) A (eval a env) (fun v s1 => wpAny (model P.N.prog P.N.w) A (eval b env) (fun w s2 => k v w s2) NoE s1) NoE s :=
 (IH C env m1 a x A c s loc _ X hx S L h).seq fun v s1 c1 d S1 E1 r1 q1 g1 o1 =>
  (IH C env m2 b y A c1 s1 loc _ X hy S1 (L.evo E1) q1).seq fun w s2 c2 e S2 E2 r2 q2 g2 o2 =>
   hk v w s2 c2 d e S2 (E1.trans E2) (r1.mono E2.inc) r2 q2 (g2.trans g1) (o2.trans o1)
theorem args_sound (IH : EvalAt P Sx r n) (X : XOk P C env A r) (pos : Pos) : ∀ (es : List Expr) (mes : List ME) (c : Cfg) (s : Shared) (R : List PV → Sto → Prop), mapO (compE n C false) es = some mes → SR P.N c s.heap → LR P.N C env c s.heap loc →
  evalsA P.T Sx mes loc c.σ R → wpAny (model P.N.prog P.N.w) A (spliced (backTo pos (starEach es env))) (LPost P.N c s R) NoE s
 | [], mes, c, s, R, h, S, L, q => by
  cases h
  simp only [evalsA] at q
  exact wpAny_pure ⟨c, [], S, Evo.refl _ _ _, .nil, q, rfl, rfl⟩
 | e :: es, mes, c, s, R, h, S, L, q => by
  unfold mapO at h
  split at h
  ·rename_i y ys h1 h2
   cases h
   simp only [evalsA] at q
   rw [star_each h1, back_cons]
   refine Calls.spliced_cons ((IH C env false e y A c s loc _ X h1 S L q).seq fun v s1 c1 d S1 E1 r1 q1 g1 o1 => ?_)
   refine wpAny_mono (args_sound IH X pos es ys c1 s1 _ h2 S1 (L.evo E1) q1) (fun vs s2 h => ?_) fun _ _ e => e
   obtain ⟨c2, ds, S2, E2, r2, q2, g2, o2⟩ := h
   exact ⟨c2, _, S2, E1.trans E2, .cons (r1.mono E2.inc) r2, q2, g2.trans g1, o2.trans o1⟩
  ·cases h
theorem eargs {f : Value} {pos : Pos} {es : List Expr} {mes : List ME} {K : Args → Shared → Prop} (h : mapO (compE n C false) es = some mes)
  (q : wpAny (model P.N.prog P.N.w) A (spliced (backTo pos (starEach es env))) (fun vs s' => K ⟨vs, []⟩ s') NoE s) : wpAny (model P.N.prog P.N.w) A (evalArgs f true (backTo pos (starEach es env)) []) K NoE s := by
 cases es with
 | nil =>
  unfold evalArgs
  show wpAny _ A (spliced [] >>= _) K NoE s
  refine wpAny_bind (wpAny_mono q (fun vs s' h' => ?_) fun _ _ x => x)
  refine wpAny_holding ?_
  exact wpAny_bind (wpAny_pure (wpAny_bind (wpAny_pure (wpAny_pure h'))))
 | cons e es =>
  unfold mapO at h
  split at h
  ·rename_i y ys h1 h2
   rw [star_each h1, back_cons] at q ⊢
   exact Calls.evalArgs_plain q
  ·cases h
end
end Mine
end
section
namespace Mine
open PySem PySem.W PyProof.Rows PySem.Spec PyProof PySem.SeqAt
section
variable {P : Prg} {Sx : Spec} {r n : Nat} {C : Ctx} {env : Env} {A : Around} {c : Cfg} {s : Shared} {loc : List PV} {Q : KV}
theorem XOk.kindG (X : XOk P C env A r) {x : Str} (h : C.isGlob x = true) : env.kindOf x = some .globalImplicit ∧ (x == ("__debug__" : Str)) = false := by
 have e : C.kind x = some .globalImplicit := by unfold Ctx.isGlob at h; exact beq_iff_eq.mp h
 exact ⟨(X.ctx.kind x).trans e, (X.ctx.names x _ e).1⟩
theorem wev_call {f : Str} {np pos : Pos} {args : List Expr} {mes : List ME} {i : Nat} (F : PrgOk P) (CS : CallsOk P Sx r) (IH : EvalAt P Sx r n) (X : XOk P C env A r) (S : SR P.N c s.heap) (L : LR P.N C env c s.heap loc)
  (hg : C.isGlob f = true) (hf : slotOf C.fns f = some i) (hm : mapO (compE n C false) args = some mes) (h : evalA P.T Sx (.call i mes) loc c.σ Q) : WV P.N A (eval (.Call (.Name f np) args [] pos) env) c s Q := by
 simp only [evalA] at h
 obtain ⟨k1, k2⟩ := X.kindG hg
 rw [X.same.fns] at hf
 obtain ⟨e1, e2⟩ := F.fns f i hf
 refine wpAny_Call_NameR (glob_read F X.g S k1 k2 e1 ?_)
 refine callWith_of (P := fun h => P.K.In h) (by rw [no_star hm]; rfl) (keeps_K e2) (eargs hm (wpAny_mono (args_sound IH X pos args mes c s _ hm S L h) (fun vs s1 h1 => ?_) fun _ _ e => e))
 obtain ⟨c1, ds, S1, E1, r1, q1, g1, o1⟩ := h1
 refine ⟨S1.kin F, lift E1 g1 o1 (wpAny_call (codeAny_mono (CS i A c1 s1 vs ds Q X.a.c S1 r1 q1) fun rr s2 z => ?_))⟩
 rcases rr with e | (v | _ | _ | _) <;> first | exact z | exact z.elim
theorem wev_new {f : Str} {np pos : Pos} {args : List Expr} {mes : List ME} {i : Nat} (F : PrgOk P) (CS : CallsOk P Sx r) (IH : EvalAt P Sx r n) (X : XOk P C env A r) (S : SR P.N c s.heap) (L : LR P.N C env c s.heap loc)
  (hg : C.isGlob f = true) (hf : idx C.clss f = some i) (hm : mapO (compE n C false) args = some mes) (h : evalA P.T Sx (.new i mes) loc c.σ Q) : WV P.N A (eval (.Call (.Name f np) args [] pos) env) c s Q := by
 simp only [evalA] at h
 obtain ⟨k1, k2⟩ := X.kindG hg
 rw [X.same.clss] at hf
 have e1 := F.clss f i hf
 have O := F.cls i
 refine wpAny_Call_NameR (glob_read F X.g S k1 k2 e1 ?_)
 refine callWith_of (P := fun h => P.K.In h) (by rw [no_star hm]; rfl) (keeps_K O.keep) (eargs hm (wpAny_mono (args_sound IH X pos args mes c s _ hm S L h) (fun vs s1 h1 => ?_) fun _ _ e => e))
 obtain ⟨c1, ds, S1, E1, r1, ⟨fi, hi, q1⟩, g1, o1⟩ := h1
 have Xk := S1.kin F
 obtain ⟨i1, i2⟩ := F.init i fi hi
 refine ⟨Xk, lift E1 g1 o1 (wpAny_call ?_)⟩
 have q2 := q1 (s1.heap.objs.size + 1) (S1.sto_none (by
  cases q : s1.heap.get? (s1.heap.objs.size + 1) with
  | none => rfl
  | some o => exact absurd (Heap.lt_size q) (Nat.not_lt.mpr (Nat.le_succ _))))
 obtain ⟨S2, E2⟩ := S1.instNew (X := NoX) (k := i)
 obtain ⟨hh, g, dr, t, os⟩ := s1
 refine make_core (makes_of Xk O.makes) (looks_findIn Xk i1) (fun self => bind_fn Xk self i2) (.inl rfl) ?_
 refine codeAny_mono (CS fi _ _ ⟨(hh.push emptyDict).push (instObj (P.N.cls i) hh.objs.size), g, dr, t, os⟩ (.ref (hh.objs.size + 1) :: vs) (.obj (hh.objs.size + 1) :: ds) _ (X.a.tc _ _) S2 (.cons (.obj _) (r1.mono E2.inc)) q2) fun rr s2 z => ?_
 rcases rr with e | (v | _ | _ | _) <;> first | exact z.elim | skip
 obtain ⟨c3, d, S3, E3, r3, ⟨rfl, q3⟩, g3, o3⟩ := z
 cases r3
 exact ⟨rfl, _, _, S3, E2.trans E3, .obj _, q3, g3, o3⟩
theorem superFree_base {o : Expr} {a : Str} {whole : Sem Value} {K : Value → Shared → Prop} (h : superFree o = true) (q : wpAny (model P.N.prog P.N.w) A whole K NoE s) : wpAny (model P.N.prog P.N.w) A (attributeBase o a env whole) K NoE s := by
 unfold attributeBase
 split
 ·rename_i id p pos
  have : (id != ("super" : Str)) = true := h
  simp only [this, Bool.true_or, if_true]
  exact q
 ·exact q
theorem wev_meth {o : Expr} {a : Str} {ap pos : Pos} {args : List Expr} {x : ME} {mes : List ME} {i : Nat} (F : PrgOk P) (CS : CallsOk P Sx r) (IH : EvalAt P Sx r n) (X : XOk P C env A r) (S : SR P.N c s.heap) (L : LR P.N C env c s.heap loc)
  (hline : (ap.endLine == pos.line) = true) (hb : superFree o = true) (hlen : args.length < 30) (ho : compE n C false o = some x) (hm : mapO (compE n C false) args = some mes) (hi : idx C.meths a = some i) (h : evalA P.T Sx (.meth x i mes) loc c.σ Q) :
  WV P.N A (eval (.Call (.Attribute o a ap) args [] pos) env) c s Q := by
 simp only [evalA] at h
 rw [X.same.meths] at hi
 rw [arm_eval_Call]
 refine wpAny_bind (superFree_base hb ((IH C env false o x A c s loc _ X ho S L h).seq fun v s1 c1 d S1 E1 r1 q1 g1 o1 => ?_))
 obtain ⟨p, cl, fs, f, rfl, q2, q3, q1⟩ := q1
 obtain ⟨es, k, I, D, rf⟩ := inst_at S1 q2
 cases r1
 have O := F.cls cl
 obtain ⟨m1, m2, m3, m4⟩ := F.meth cl i f q3
 rw [F.meths a i hi] at m1 m2
 have Xk := S1.kin F
 refine wpAny_bind (wpAny_standAt ?_)
 have few : methodCallForm (args.length + ([] : List Keyword).length) (backTo pos (starEach args env)) (backToKw pos (keywordEach [] env)) = true := by
  have ns := no_star (env := env) (pos := pos) hm
  unfold methodCallForm
  have e1 : (backTo pos (starEach args env)).all (!·.1) = true := by
   rw [List.all_eq_not_any_not]; simp only [Bool.not_not]; rw [ns]; rfl
  rw [e1]
  show (true && true && decide (args.length + 0 + 0 < 30)) = true
  simp; omega
 unfold methodCall
 rw [few]
 refine wpAny_bind (wpAny_holding ?_)
 unfold calleeOf
 rw [if_pos rfl]
 refine method_fn Xk I (plainGet_of O.get).1 (plainGet_of O.get).2 m1 m3 ?_ ?_
 ·show (lookIn a (dictOf es k)).map _ = _
  rw [lookIn_dict]
  unfold getL
  rw [frel_miss m2 rf, frel_noref rf]
  rfl
 ·refine wpAny_bind ?_
  unfold methodCallPos
  rw [hline]
  refine wpAny_pure ?_
  refine callWith_of (P := fun h => P.K.In h) (by rw [no_star hm]; rfl) (keeps_K m4) (eargs hm (wpAny_mono (args_sound IH X pos args mes c1 s1 _ hm S1 (L.evo E1) q1) (fun vs s2 h2 => ?_) fun _ _ e => e))
  obtain ⟨c2, ds, S2, E2, r2, q2, g2, o2⟩ := h2
  refine ⟨S2.kin F, lift (E1.trans E2) (g2.trans g1) (o2.trans o1) (wpAny_call (codeAny_mono (CS f A c2 s2 (.ref p :: vs) (.obj p :: ds) Q X.a.c S2 (.cons (.obj p) r2) q2) fun rr s3 z => ?_))⟩
  rcases rr with e | (v | _ | _ | _) <;> first | exact z | exact z.elim
theorem lmeth {o : Expr} {a : Str} {ap pos : Pos} {e : Expr} {x y : ME} {id : String} {K : PV → PV → Sto → Prop} (IH : EvalAt P Sx r n) (X : XOk P C env A r) (S : SR P.N c s.heap) (L : LR P.N C env c s.heap loc)
  (hline : (ap.endLine == pos.line) = true) (hb : superFree o = true) (ho : compE n C false o = some x) (he : compE n C false e = some y) (slot : Slot "list" a id) (hty : typeOf (.builtin id) = pure (.type "method_descriptor"))
  (h : evalA P.T Sx x loc c.σ fun v σ₁ => (elems σ₁ v).isSome = true ∧ evalA P.T Sx y loc σ₁ fun w σ₂ => K v w σ₂)
  (hk : ∀ v w c' s' d e, SR P.N c' s'.heap → VRel P.N c'.I v d → VRel P.N c'.I w e → K d e c'.σ → WV P.N A (call (.builtin id) [v, w]) c' s' Q) :
  WV P.N A (eval (.Call (.Attribute o a ap) [e] [] pos) env) c s Q := by
 have hm : mapO (compE n C false) [e] = some [y] := by unfold mapO mapO; rw [he]
 rw [arm_eval_Call]
 refine wpAny_bind (superFree_base hb ((IH C env false o x A c s loc _ X ho S L h).seq fun v s1 c1 d S1 E1 r1 q1 g1 o1 => ?_))
 obtain ⟨q0, q1⟩ := q1
 obtain ⟨l, hl⟩ := Option.isSome_iff_exists.mp q0
 obtain ⟨p, vs, k, rfl, g, rv⟩ := list_exact S1 r1 hl
 refine wpAny_bind (wpAny_standAt ?_)
 unfold methodCall
 refine wpAny_bind (wpAny_holding ?_)
 have few : methodCallForm ([e].length + ([] : List Keyword).length) (backTo pos (starEach [e] env)) (backToKw pos (keywordEach [] env)) = true := by
  rw [star_each he]; rfl
 rw [few]
 unfold calleeOf
 rw [if_pos rfl]
 refine getMethod_builtin ⟨_, g, rfl⟩ PySem.F.plainAttrs_list slot hty (fun b hb => ?_) ?_
 ·cases hb; exact ⟨_, g, rfl⟩
 ·refine wpAny_bind ?_
  unfold methodCallPos
  rw [hline]
  refine wpAny_pure ?_
  refine Calls.callWith_builtin (no_star hm) (eargs hm ?_)
  rw [star_each he]
  refine Calls.spliced_cons ((IH C env false e y A c1 s1 loc _ X he S1 (L.evo E1) q1).seq fun w s2 c2 d2 S2 E2 r2 q2 g2 o2 => Calls.spliced_nil ?_)
  exact lift (E1.trans E2) (g2.trans g1) (o2.trans o1) (hk _ _ c2 s2 _ _ S2 (r1.mono E2.inc) r2 q2)
theorem wev_append {o : Expr} {ap pos : Pos} {e : Expr} {x y : ME} (IH : EvalAt P Sx r n) (X : XOk P C env A r) (S : SR P.N c s.heap) (L : LR P.N C env c s.heap loc)
  (hline : (ap.endLine == pos.line) = true) (hb : superFree o = true) (ho : compE n C false o = some x) (he : compE n C false e = some y) (h : evalA P.T Sx (.append x y) loc c.σ Q) :
  WV P.N A (eval (.Call (.Attribute o "append" ap) [e] [] pos) env) c s Q := by
 simp only [evalA] at h
 exact lmeth IH X S L hline hb ho he PySem.F.slot_list_append PySem.F.type_list_append h fun v w c' s' d e S' rv rw' q => append_sound S' rv rw' q
theorem wev_extend {o : Expr} {ap pos : Pos} {e : Expr} {x y : ME} (IH : EvalAt P Sx r n) (X : XOk P C env A r) (S : SR P.N c s.heap) (L : LR P.N C env c s.heap loc)
  (hline : (ap.endLine == pos.line) = true) (hb : superFree o = true) (ho : compE n C false o = some x) (he : compE n C false e = some y) (h : evalA P.T Sx (.extend x y) loc c.σ Q) :
  WV P.N A (eval (.Call (.Attribute o "extend" ap) [e] [] pos) env) c s Q := by
 simp only [evalA] at h
 exact lmeth IH X S L hline hb ho he PySem.F.slot_list_extend PySem.F.type_list_extend h fun v w c' s' d e S' rv rw' q => extend_sound S' rv rw' q
theorem wev_pop {o : Expr} {ap pos : Pos} {e : Expr} {x y : ME} (IH : EvalAt P Sx r n) (X : XOk P C env A r) (S : SR P.N c s.heap) (L : LR P.N C env c s.heap loc)
  (hline : (ap.endLine == pos.line) = true) (hb : superFree o = true) (ho : compE n C false o = some x) (he : compE n C false e = some y) (h : evalA P.T Sx (.pop x y) loc c.σ Q) :
  WV P.N A (eval (.Call (.Attribute o "pop" ap) [e] [] pos) env) c s Q := by
 simp only [evalA] at h
 exact lmeth IH X S L hline hb ho he PySem.F.slot_list_pop PySem.F.type_list_pop h fun v w c' s' d e S' rv rw' q => pop_sound S' rv rw' q
theorem blt_one {f : Str} {np pos : Pos} {e : Expr} {y : ME} {id : String} {K : PV → Sto → Prop} (F : PrgOk P) (IH : EvalAt P Sx r n) (X : XOk P C env A r) (S : SR P.N c s.heap) (L : LR P.N C env c s.heap loc)
  (hg : C.isGlob f = true) (hf : f ∈ bltNames) (hv : bootBuiltins f = some (.builtin id)) (hn : f ≠ "__name__") (he : compE n C false e = some y) (h : evalA P.T Sx y loc c.σ K)
  (hk : ∀ v c' s' d, SR P.N c' s'.heap → VRel P.N c'.I v d → K d c'.σ → WV P.N A (call (.builtin id) [v]) c' s' Q) : WV P.N A (eval (.Call (.Name f np) [e] [] pos) env) c s Q := by
 have hm : mapO (compE n C false) [e] = some [y] := by unfold mapO mapO; rw [he]
 obtain ⟨k1, k2⟩ := X.kindG hg
 refine wpAny_Call_NameR (blt_read F X.g S k1 k2 hn (F.blts f hf) hv ?_)
 refine Calls.callWith_builtin (no_star hm) (eargs hm ?_)
 rw [star_each he]
 exact Calls.spliced_cons ((IH C env false e y A c s loc _ X he S L h).seq fun w s2 c2 d2 S2 E2 r2 q2 g2 o2 => Calls.spliced_nil (lift E2 g2 o2 (hk _ c2 s2 _ S2 r2 q2)))
theorem blt_two {f : Str} {np pos : Pos} {e e' : Expr} {y y' : ME} {id : String} {K : PV → PV → Sto → Prop} (F : PrgOk P) (IH : EvalAt P Sx r n) (X : XOk P C env A r) (S : SR P.N c s.heap) (L : LR P.N C env c s.heap loc)
  (hg : C.isGlob f = true) (hf : f ∈ bltNames) (hv : bootBuiltins f = some (.builtin id)) (hn : f ≠ "__name__") (he : compE n C false e = some y) (he' : compE n C false e' = some y') (h : evalA P.T Sx y loc c.σ fun a σ₁ => evalA P.T Sx y' loc σ₁ fun b σ₂ => K a b σ₂)
  (hk : ∀ v w c' s' d d', SR P.N c' s'.heap → VRel P.N c'.I v d → VRel P.N c'.I w d' → K d d' c'.σ → WV P.N A (call (.builtin id) [v, w]) c' s' Q) : WV P.N A (eval (.Call (.Name f np) [e, e'] [] pos) env) c s Q := by
 have hm : mapO (compE n C false) [e, e'] = some [y, y'] := by unfold mapO mapO mapO; rw [he, he']
 obtain ⟨k1, k2⟩ := X.kindG hg
 refine wpAny_Call_NameR (blt_read F X.g S k1 k2 hn (F.blts f hf) hv ?_)
 refine Calls.callWith_builtin (no_star hm) (eargs hm ?_)
 rw [star_each he, back_cons, star_each he']
 refine Calls.spliced_cons (wpAny_mono (two IH X S L he he' h (k := fun v w s2 => wpAny (model P.N.prog P.N.w) A (call (.builtin id) [v, w]) (VPost P.N c s Q) NoE s2) fun v w s2 c2 d e S2 E2 r2 r2' q2 g2 o2 => lift E2 g2 o2 (hk v w c2 s2 d e S2 r2 r2' q2)) (fun v s1 h1 => ?_) fun _ _ e => e)
 exact Calls.spliced_cons (wpAny_mono h1 (fun w s2 h2 => Calls.spliced_nil h2) fun _ _ e => e)
theorem ev_copy {np pos : Pos} {e : Expr} {y : ME} (F : PrgOk P) (IH : EvalAt P Sx r n) (X : XOk P C env A r) (S : SR P.N c s.heap) (L : LR P.N C env c s.heap loc)
  (hg : C.isGlob "list" = true) (he : compE n C false e = some y) (h : evalA P.T Sx y loc c.σ fun v σ => bltA .copy [v] σ Q) : WV P.N A (eval (.Call (.Name "list" np) [e] [] pos) env) c s Q := by
 have hm : mapO (compE n C false) [e] = some [y] := by unfold mapO mapO; rw [he]
 obtain ⟨k1, k2⟩ := X.kindG hg
 refine wpAny_Call_NameR (blt_read (v := .type "list") F X.g S k1 k2 (by decide) (F.blts "list" (by decide)) (by decide +kernel) ?_)
 refine PySem.callWith_type (no_star hm) (eargs hm ?_)
 rw [star_each he]
 exact Calls.spliced_cons ((IH C env false e y A c s loc _ X he S L h).seq fun w s2 c2 d2 S2 E2 r2 q2 g2 o2 => Calls.spliced_nil (lift E2 g2 o2 (copy_sound S2 r2 q2)))
end
end Mine
end
section
namespace Mine
open PySem PySem.W PyProof.Rows PySem.Spec PyProof PySem.SeqAt
section
variable {P : Prg} {Sx : Spec} {r n : Nat} {C : Ctx} {env : Env} {A : Around} {c : Cfg} {s : Shared} {loc : List PV} {Q : KV}
theorem wev_attr {o : Expr} {a : Str} {pos : Pos} {x : ME} {i : Nat} (F : PrgOk P) (IH : EvalAt P Sx r n) (X : XOk P C env A r) (S : SR P.N c s.heap) (L : LR P.N C env c s.heap loc)
  (hb : superFree o = true) (ho : compE n C false o = some x) (hi : idx C.attrs a = some i) (h : evalA P.T Sx (.attr x i) loc c.σ Q) : WV P.N A (eval (.Attribute o a pos) env) c s Q := by
 simp only [evalA] at h
 rw [X.same.attrs] at hi
 obtain ⟨hn, rfl⟩ := F.attrs a i hi
 rw [arm_eval_Attribute]
 refine wpAny_bind (superFree_base hb ((IH C env false o x A c s loc _ X ho S L h).seq fun v s1 c1 d S1 E1 r1 q1 g1 o1 => ?_))
 refine wpAny_bind (wpAny_standAt (wpAny_bind (wpAny_holding (wpAny_mono (lift E1 g1 o1 (attr_sound F hn S1 r1 q1)) (fun v' s2 h2 => ?_) fun _ _ e => e))))
 exact wpAny_bind (wpAny_letTemporaryGo (wpAny_pure h2))
theorem gip {v : Value} {T id : String} {K : Bool → Shared → Prop} (hT : s.TypeIs v T) (hl : typeLookup (.type T) "__getitem__" = pure (some (.builtin id))) (h : K false s) : wpAny (model P.N.prog P.N.w) A (getitemInPython v) K NoE s := by
 rw [getitemInPython_of_ne hT.not_modules]
 refine wpAny_bind (wpAny_specialOf hT hl ?_)
 exact wpAny_pure h
theorem gip_list {a : Addr} {vs : Array Value} {K : Bool → Shared → Prop} (hp : s.heap.IsList a vs) (h : K false s) : wpAny (model P.N.prog P.N.w) A (getitemInPython (.ref a)) K NoE s := gip hp.typeIs list_getitem_lookup h
theorem gip_sub {v : Value} {d e : PV} {K : Bool → Shared → Prop} (S : SR P.N c s.heap) (hv : VRel P.N c.I v d) (h : subA d e c.σ Q) (hK : K false s) : wpAny (model P.N.prog P.N.w) A (getitemInPython v) K NoE s := by
 unfold subA at h
 split at h
 ·obtain ⟨p, vs, rfl, hp, _⟩ := tup_at S hv
  exact gip hp.typeIs PySem.F.slot_tuple_getitem.lookup hK
 ·rename_i a k
  cases hv
  split at h
  ·rename_i kvs q
   obtain ⟨z, kv, hD, r⟩ := S.st a _ q
   exact gip hD.typeIs slot_dict_getitem.lookup hK
  ·rename_i l q
   obtain ⟨o, vs, g, ho, _⟩ := S.st a _ q
   exact gip_list (isList_of g ho) hK
  ·exact h.elim
 ·obtain ⟨p, vs, rfl, hp, _⟩ := list_at S hv
  exact gip_list hp hK
 ·exact h.elim
theorem sub_tail {value slice : Expr} {pos : Pos} {v w : Value} {K : Value → Shared → Prop} (h : subscripted slice false v w = operate [v, w] (getItem v w) ∨ subscripted slice false v w = operate [w, v] (getItem v w))
  (hg : ∀ R : Bool → Shared → Prop, R false s → wpAny (model P.N.prog P.N.w) A (getitemInPython v) R NoE s) (q : wpAny (model P.N.prog P.N.w) A (getItem v w) K NoE s) :
  wpAny (model P.N.prog P.N.w) A (do standAt pos; let r ← subscripted slice (← getitemInPython v) v w; letTemporaryGo value v r; pure r) K NoE s := by
 refine wpAny_bind (wpAny_standAt (wpAny_bind (hg _ (wpAny_bind ?_))))
 have q' : ∀ ops, wpAny (model P.N.prog P.N.w) A (operate ops (getItem v w)) (fun r s' => wpAny (model P.N.prog P.N.w) A (letTemporaryGo value v r >>= fun _ => pure r) K NoE s') NoE s := fun ops =>
  wpAny_operating (wpAny_mono q (fun r s2 h2 => wpAny_bind (wpAny_letTemporaryGo (wpAny_pure h2))) fun _ _ e => e)
 rcases h with h | h <;> rw [h] <;> exact q' _
theorem sub_form (slice : Expr) (v w : Value) : subscripted slice false v w = operate [v, w] (getItem v w) ∨ subscripted slice false v w = operate [w, v] (getItem v w) := by
 unfold subscripted
 split
 ·exact .inr rfl
 ·rename_i h; cases h
 ·exact .inl rfl
theorem wev_sub {o i : Expr} {pos : Pos} {x y : ME} (IH : EvalAt P Sx r n) (X : XOk P C env A r) (S : SR P.N c s.heap) (L : LR P.N C env c s.heap loc)
  (ho : compE n C false o = some x) (hi : compE n C false i = some y) (h : evalA P.T Sx (.sub x y) loc c.σ Q) : WV P.N A (eval (.Subscript o i pos) env) c s Q := by
 simp only [evalA] at h
 rw [arm_eval_Subscript]
 refine wpAny_bind (wpAny_mono (two IH X S L ho hi h (k := fun v w s2 => wpAny (model P.N.prog P.N.w) A (do standAt pos; let r ← subscripted i (← getitemInPython v) v w; letTemporaryGo o v r; pure r) (VPost P.N c s Q) NoE s2)
  fun v w s2 c2 d e S2 E2 r2 r2' q2 g2 o2 => ?_) (fun v s1 h1 => wpAny_bind (wpAny_holding h1)) fun _ _ e => e)
 exact sub_tail (sub_form _ _ _) (fun R hR => gip_sub S2 r2 q2 hR) (lift E2 g2 o2 (sub_sound S2 r2 r2' q2))
def cPart (n : Nat) (C : Ctx) (x : Option Expr) : Option (Option ME) := match x with | some l => (compE n C false l).map some | none => some none
theorem part_sound (IH : EvalAt P Sx r n) (X : XOk P C env A r) (S : SR P.N c s.heap) (L : LR P.N C env c s.heap loc) {lo : Option Expr} {mlo : Option ME} {K : Option PV → Sto → Prop} {k : Value → Shared → Prop} (hl : cPart n C lo = some mlo)
  (h : evalOA P.T Sx mlo loc c.σ K) (hk : ∀ v s' c' d, SR P.N c' s'.heap → Evo NoX c s.heap c' s'.heap → PRel P.N c'.I v d → K d c'.σ → s'.gens = s.gens → s'.os = s.os → k v s') :
  wpAny (model P.N.prog P.N.w) A (evalPart lo env) k NoE s := by
 cases lo with
 | none =>
  cases hl
  simp only [evalOA] at h
  exact wpAny_pure (hk _ _ c none S (Evo.refl _ _ _) rfl h rfl rfl)
 | some e =>
  obtain ⟨y, hy, rfl⟩ := Option.map_eq_some_iff.mp hl
  simp only [evalOA] at h
  exact (IH C env false e y A c s loc _ X hy S L h).seq fun v s1 c1 d S1 E1 r1 q1 g1 o1 => hk v s1 c1 (some d) S1 E1 r1 q1 g1 o1
theorem sliceA_elems {e : PV} {lo hi : Option PV} {σ : Sto} (h : sliceA e lo hi σ Q) : ∃ l, elems σ e = some l := by
 unfold sliceA at h
 split at h
 ·rename_i l q; exact ⟨l, q⟩
 ·exact h.elim
theorem gip_elems {v : Value} {d : PV} {l : List PV} {s' : Shared} {K : Bool → Shared → Prop} (S : SR P.N c s.heap) (hv : VRel P.N c.I v d) (h : elems c.σ d = some l) (hk : ∀ b o, s.heap.get? b = some o → s'.heap.get? b = some o) (hK : K false s') :
  wpAny (model P.N.prog P.N.w) A (getitemInPython v) K NoE s' := by
 obtain ⟨p, vs, k, rfl, g, _⟩ := list_exact S hv h
 exact gip (s := s') (T := "list") ⟨_, hk _ _ g, rfl⟩ list_getitem_lookup hK
theorem wev_slice {o : Expr} {lo hi : Option Expr} {p pos : Pos} {x : ME} {ml mh : Option ME} (IH : EvalAt P Sx r n) (X : XOk P C env A r) (S : SR P.N c s.heap) (L : LR P.N C env c s.heap loc)
  (ho : compE n C false o = some x) (hl : cPart n C lo = some ml) (hh : cPart n C hi = some mh) (h : evalA P.T Sx (.slice x ml mh) loc c.σ Q) : WV P.N A (eval (.Subscript o (.Slice lo hi none p) pos) env) c s Q := by
 simp only [evalA] at h
 rw [arm_eval_Subscript]
 refine wpAny_bind ((IH C env false o x A c s loc _ X ho S L h).seq fun v s1 c1 d S1 E1 r1 q1 g1 o1 => wpAny_bind (wpAny_holding (wpAny_Slice ?_)))
 refine part_sound IH X S1 (L.evo E1) hl q1 fun vl s2 c2 dl S2 E2 r2 q2 g2 o2 => ?_
 refine part_sound IH X S2 (L.evo (E1.trans E2)) hh q2 fun vh s3 c3 dh S3 E3 r3 q3 g3 o3 => ?_
 rw [evalPart_none]
 refine wpAny_pure ?_
 have r1' := r1.mono (E2.trans E3).inc
 obtain ⟨l, hel⟩ := sliceA_elems q3
 refine sub_tail (sub_form _ _ _) (fun R hR => gip_elems S3 r1' hel (fun b o e => Heap.get?_push_of_some _ e) hR) ?_
 exact wpAny_mono (slice_sound S3 r1' (r2.mono E3.inc) r3 q3) (fun _ _ z => z.trans ((E1.trans E2).trans E3) (g3.trans (g2.trans g1)) (o3.trans (o2.trans o1))) fun _ _ e => e
theorem minusOne {st : Expr} (h : isMinusOne st = true) : ∃ k p p', st = .UnaryOp .USub (.Constant (.int 1) k p) p' := by
 unfold isMinusOne at h
 split at h
 ·exact ⟨_, _, _, rfl⟩
 ·cases h
theorem wev_rev {o st : Expr} {p pos : Pos} {x : ME} (IH : EvalAt P Sx r n) (X : XOk P C env A r) (S : SR P.N c s.heap) (L : LR P.N C env c s.heap loc)
  (hs : isMinusOne st = true) (ho : compE n C false o = some x) (h : evalA P.T Sx (.rev x) loc c.σ Q) : WV P.N A (eval (.Subscript o (.Slice none none (some st) p) pos) env) c s Q := by
 simp only [evalA] at h
 obtain ⟨k, p1, p2, rfl⟩ := minusOne hs
 rw [arm_eval_Subscript]
 refine wpAny_bind ((IH C env false o x A c s loc _ X ho S L h).seq fun v s1 c1 d S1 E1 r1 q1 g1 o1 => wpAny_bind (wpAny_holding (wpAny_Slice ?_)))
 cases d <;> simp only at q1
 rename_i l
 rw [evalPart_none]
 refine wpAny_pure (wpAny_pure ?_)
 rw [evalPart_some]
 refine wpAny_UnaryOp (wpAny_Constant_int (PyProof.Rows.neg_int ?_))
 have S1' : SR P.N c1 ({ s1 with toks := s1.toks + 1 + 1 } : Shared).heap := S1
 refine sub_tail (sub_form _ _ _) (fun R hR => gip_elems S1 r1 (l := l) rfl (fun b o e => Heap.get?_push_of_some _ e) hR) ?_
 exact wpAny_mono (rev_sound (s := { s1 with toks := s1.toks + 1 + 1 }) S1' r1 q1) (fun _ _ z => z.trans (s₁ := { s1 with toks := s1.toks + 1 + 1 }) E1 g1 o1) fun _ _ e => e
theorem wev_bin {a b : Expr} {op : Operator} {o : BOp} {m : Bool} {pos : Pos} {x y : ME} (IH : EvalAt P Sx r n) (X : XOk P C env A r) (S : SR P.N c s.heap) (L : LR P.N C env c s.heap loc)
  (ho : opOf op = some o) (ha : compE n C false a = some x) (hb : compE n C false b = some y) (h : evalA P.T Sx (.bin m o x y) loc c.σ Q) : WV P.N A (eval (.BinOp a op b pos) env) c s Q := by
 simp only [evalA] at h
 exact wpAny_BinOp (two IH X S L ha hb h fun v w s2 c2 d e S2 E2 r2 r2' q2 g2 o2 => lift E2 g2 o2 (bin_sound S2 r2 r2' ho q2))
theorem CPost.vp {b : Bool} {c' : Cfg} {s' s'' : Shared} {v : Value} (S : SR P.N c' s'.heap) (E : Evo NoX c s.heap c' s'.heap) (g : s'.gens = s.gens) (o : s'.os = s.os) (h : CPost b s' v s'') : v = .bool b ∧ SR P.N c' s''.heap ∧ Evo NoX c s.heap c' s''.heap ∧ s''.gens = s.gens ∧ s''.os = s.os :=
 ⟨h.1, S.ext h.2.1, E.trans (Evo.ext h.2.1), h.2.2.1.trans g, h.2.2.2.trans o⟩
theorem wev_cmp {a b : Expr} {op : CmpOp} {o : COp} {pos : Pos} {x y : ME} (IH : EvalAt P Sx r n) (X : XOk P C env A r) (S : SR P.N c s.heap) (L : LR P.N C env c s.heap loc)
  (ho : cmpOf op = some o) (ha : compE n C false a = some x) (hb : compE n C false b = some y) (h : evalA P.T Sx (.cmp o x y) loc c.σ Q) : WV P.N A (eval (.Compare a [op] [b] pos) env) c s Q := by
 simp only [evalA] at h
 refine wpAny_Compare1 (two IH X S L ha hb h fun v w s2 c2 d e S2 E2 r2 r2' q2 g2 o2 => ?_) (not_behind hb op)
 obtain ⟨b, q3, q4⟩ := q2
 refine wpAny_mono (cmp_sound X.a.ok S2 r2 r2' ho q3) (fun u s3 z => ?_) fun _ _ e => e
 obtain ⟨rfl, S3, E3, g3, o3⟩ := z.vp S2 E2 g2 o2
 exact ⟨c2, _, S3, E3, .bool _, q4, g3, o3⟩
theorem ts_cmp {a b : Expr} {op : CmpOp} {o : COp} {pos : Pos} {x y : ME} {R : Bool → Sto → Prop} {whole : Sem Value} (IH : EvalAt P Sx r n) (X : XOk P C env A r) (S : SR P.N c s.heap) (L : LR P.N C env c s.heap loc)
  (ho : cmpOf op = some o) (ha : compE n C false a = some x) (hb : compE n C false b = some y) (h : evalA P.T Sx (.cmp o x y) loc c.σ fun v σ => ∃ b, v = .bool b ∧ R b σ) : wpAny (model P.N.prog P.N.w) A (isTrue (.Compare a [op] [b] pos) env whole) (BPost P.N c s R) NoE s := by
 simp only [evalA] at h
 refine wpAny_isTrue_Compare1 (two IH X S L ha hb h fun v w s2 c2 d e S2 E2 r2 r2' q2 g2 o2 => ?_) (not_behind hb op)
 obtain ⟨b, q3, b', q4, q5⟩ := q2
 cases q4
 refine wpAny_mono (cmp_sound X.a.ok S2 r2 r2' ho q3) (fun u s3 z => ?_) fun _ _ e => e
 obtain ⟨rfl, S3, E3, g3, o3⟩ := z.vp S2 E2 g2 o2
 exact wpAny_truthy_bool ⟨c2, S3, E3, q5, g3, o3⟩
theorem last_marks {b e : Expr} {y z : ME} (hb : compE n C false b = some y) (he : compE n C false e = some z) (op1 op2 : CmpOp) : lastMarks [op1, op2] [b, e] = false := by
 show behindInMarks op2 e = false
 exact not_behind he op2
theorem wev_cmp2 {a b e : Expr} {op1 op2 : CmpOp} {p1 p2 : COp} {pos : Pos} {x y z : ME} (IH : EvalAt P Sx r n) (X : XOk P C env A r) (S : SR P.N c s.heap) (L : LR P.N C env c s.heap loc)
  (h1 : cmpOf op1 = some p1) (h2 : cmpOf op2 = some p2) (ha : compE n C false a = some x) (hb : compE n C false b = some y) (he : compE n C false e = some z) (h : evalA P.T Sx (.cmp2 p1 p2 x y z) loc c.σ Q) :
  WV P.N A (eval (.Compare a [op1, op2] [b, e] pos) env) c s Q := by
 simp only [evalA] at h
 refine Compare_chain ?_ (last_marks hb he op1 op2)
 refine wpAny_mono (two IH X S L ha hb h (k := fun v w s2 => wpAny (model P.N.prog P.N.w) A (compareOp op1 v w) (fun u s3 => wpAny (model P.N.prog P.N.w) A (truthy u) (fun t s4 => if t then wpAny (model P.N.prog P.N.w) A (compareChain pos w [op2] [eval e env]) (VPost P.N c s Q) NoE s4 else VPost P.N c s Q u s4) NoE s3) NoE s2)
  fun v w s2 c2 d d' S2 E2 r2 r2' q2 g2 o2 => ?_) (fun v s1 h1 => chain_link h1) fun _ _ e => e
 obtain ⟨t, q3, q4⟩ := q2
 refine wpAny_mono (cmp_sound X.a.ok S2 r2 r2' h1 q3) (fun u s3 z => ?_) fun _ _ e => e
 obtain ⟨rfl, S3, E3, g3, o3⟩ := z.vp S2 E2 g2 o2
 refine wpAny_truthy_bool ?_
 cases t with
 | false => exact ⟨c2, _, S3, E3, .bool _, q4, g3, o3⟩
 | true =>
  refine chain_last ((IH C env false e _ A c2 s3 loc _ X he S3 (L.evo E3) q4).seq fun w' s4 c4 d4 S4 E4 r4 q5 g4 o4 => ?_)
  obtain ⟨t', q6, q7⟩ := q5
  refine wpAny_mono (cmp_sound X.a.ok S4 (r2'.mono E4.inc) r4 h2 q6) (fun u s5 z => ?_) fun _ _ e => e
  obtain ⟨rfl, S5, E5, g5, o5⟩ := z.vp S4 (E3.trans E4) (g4.trans g3) (o4.trans o3)
  exact ⟨c4, _, S5, E5, .bool _, q7, g5, o5⟩
theorem ts_cmp2 {a b e : Expr} {op1 op2 : CmpOp} {p1 p2 : COp} {pos : Pos} {x y z : ME} {R : Bool → Sto → Prop} {whole : Sem Value} (IH : EvalAt P Sx r n) (X : XOk P C env A r) (S : SR P.N c s.heap) (L : LR P.N C env c s.heap loc)
  (h1 : cmpOf op1 = some p1) (h2 : cmpOf op2 = some p2) (ha : compE n C false a = some x) (hb : compE n C false b = some y) (he : compE n C false e = some z) (h : evalA P.T Sx (.cmp2 p1 p2 x y z) loc c.σ fun v σ => ∃ b, v = .bool b ∧ R b σ) :
  wpAny (model P.N.prog P.N.w) A (isTrue (.Compare a [op1, op2] [b, e] pos) env whole) (BPost P.N c s R) NoE s := by
 simp only [evalA] at h
 refine isTrue_chain ?_ (last_marks hb he op1 op2)
 refine wpAny_mono (two IH X S L ha hb h (k := fun v w s2 => wpAny (model P.N.prog P.N.w) A (compareOp op1 v w) (fun u s3 => wpAny (model P.N.prog P.N.w) A (truthy u) (fun t s4 => if t then wpAny (model P.N.prog P.N.w) A (testChain pos w [op2] [eval e env]) (BPost P.N c s R) NoE s4 else BPost P.N c s R false s4) NoE s3) NoE s2)
  fun v w s2 c2 d d' S2 E2 r2 r2' q2 g2 o2 => ?_) (fun v s1 h1 => test_link h1) fun _ _ e => e
 obtain ⟨t, q3, q4⟩ := q2
 refine wpAny_mono (cmp_sound X.a.ok S2 r2 r2' h1 q3) (fun u s3 z => ?_) fun _ _ e => e
 obtain ⟨rfl, S3, E3, g3, o3⟩ := z.vp S2 E2 g2 o2
 refine wpAny_truthy_bool ?_
 cases t with
 | false =>
  obtain ⟨b, q8, q9⟩ := q4
  cases q8
  exact ⟨c2, S3, E3, q9, g3, o3⟩
 | true =>
  refine test_last ((IH C env false e _ A c2 s3 loc _ X he S3 (L.evo E3) q4).seq fun w' s4 c4 d4 S4 E4 r4 q5 g4 o4 => ?_)
  obtain ⟨t', q6, t2, q7, q8⟩ := q5
  cases q7
  refine wpAny_mono (cmp_sound X.a.ok S4 (r2'.mono E4.inc) r4 h2 q6) (fun u s5 z => ?_) fun _ _ e => e
  obtain ⟨rfl, S5, E5, g5, o5⟩ := z.vp S4 (E3.trans E4) (g4.trans g3) (o4.trans o3)
  exact wpAny_truthy_bool ⟨c4, S5, E5, q8, g5, o5⟩
theorem BPost.trans {N : Nm} {c1 : Cfg} {s1 s' : Shared} {R : Bool → Sto → Prop} {b : Bool} (E : Evo NoX c s.heap c1 s1.heap) (g : s1.gens = s.gens) (o : s1.os = s.os) (h : BPost N c1 s1 R b s') : BPost N c s R b s' :=
 let ⟨c', S, E', q, g', o'⟩ := h; ⟨c', S, E.trans E', q, g'.trans g, o'.trans o⟩
abbrev IsB (R : Bool → Sto → Prop) : KV := fun v σ => ∃ b, v = .bool b ∧ R b σ
theorem ts_and {a : Expr} {rest : List Expr} {x y : ME} {R : Bool → Sto → Prop} (IT : TestAt P Sx r n) (X : XOk P C env A r) (S : SR P.N c s.heap) (L : LR P.N C env c s.heap loc) (ha : compE n C false a = some x) (h : evalA P.T Sx (.and x y) loc c.σ (IsB R))
  (hk : ∀ c' s', SR P.N c' s'.heap → LR P.N C env c' s'.heap loc → evalA P.T Sx y loc c'.σ (IsB R) → wpAny (model P.N.prog P.N.w) A (allTrue .And rest env) (BPost P.N c' s' R) NoE s') :
  wpAny (model P.N.prog P.N.w) A (allTrue .And (a :: rest) env) (BPost P.N c s R) NoE s := by
 simp only [evalA] at h
 refine wpAny_allTrue_And_cons (wpAny_mono (IT C env false a x A c s loc (fun b σ => if b = true then evalA P.T Sx y loc σ (IsB R) else IsB R (.bool false) σ) X ha S L h) (fun b s1 h1 => ?_) fun _ _ e => e)
 obtain ⟨c1, S1, E1, q1, g1, o1⟩ := h1
 cases b with
 | false => obtain ⟨b, e, q⟩ := q1; cases e; exact ⟨c1, S1, E1, q, g1, o1⟩
 | true => exact wpAny_mono (hk c1 s1 S1 (L.evo E1) q1) (fun _ _ z => z.trans E1 g1 o1) fun _ _ e => e
theorem ts_or {a : Expr} {rest : List Expr} {x y : ME} {R : Bool → Sto → Prop} (IT : TestAt P Sx r n) (X : XOk P C env A r) (S : SR P.N c s.heap) (L : LR P.N C env c s.heap loc) (ha : compE n C false a = some x) (h : evalA P.T Sx (.or x y) loc c.σ (IsB R))
  (hk : ∀ c' s', SR P.N c' s'.heap → LR P.N C env c' s'.heap loc → evalA P.T Sx y loc c'.σ (IsB R) → wpAny (model P.N.prog P.N.w) A (allTrue .Or rest env) (BPost P.N c' s' R) NoE s') :
  wpAny (model P.N.prog P.N.w) A (allTrue .Or (a :: rest) env) (BPost P.N c s R) NoE s := by
 simp only [evalA] at h
 refine wpAny_allTrue_Or_cons (wpAny_mono (IT C env false a x A c s loc (fun b σ => if b = true then IsB R (.bool true) σ else evalA P.T Sx y loc σ (IsB R)) X ha S L h) (fun b s1 h1 => ?_) fun _ _ e => e)
 obtain ⟨c1, S1, E1, q1, g1, o1⟩ := h1
 cases b with
 | true => obtain ⟨b, e, q⟩ := q1; cases e; exact ⟨c1, S1, E1, q, g1, o1⟩
 | false => exact wpAny_mono (hk c1 s1 S1 (L.evo E1) q1) (fun _ _ z => z.trans E1 g1 o1) fun _ _ e => e
theorem ts_and1 {a : Expr} {x : ME} {R : Bool → Sto → Prop} (IT : TestAt P Sx r n) (X : XOk P C env A r) (S : SR P.N c s.heap) (L : LR P.N C env c s.heap loc) (ha : compE n C false a = some x) (h : evalA P.T Sx x loc c.σ (IsB R)) :
  wpAny (model P.N.prog P.N.w) A (allTrue .And [a] env) (BPost P.N c s R) NoE s := by
 refine wpAny_allTrue_And_cons (wpAny_mono (IT C env false a x A c s loc R X ha S L h) (fun b s1 h1 => ?_) fun _ _ e => e)
 cases b with
 | false => exact h1
 | true => exact wpAny_allTrue_And_nil h1
theorem ts_or1 {a : Expr} {x : ME} {R : Bool → Sto → Prop} (IT : TestAt P Sx r n) (X : XOk P C env A r) (S : SR P.N c s.heap) (L : LR P.N C env c s.heap loc) (ha : compE n C false a = some x) (h : evalA P.T Sx x loc c.σ (IsB R)) :
  wpAny (model P.N.prog P.N.w) A (allTrue .Or [a] env) (BPost P.N c s R) NoE s := by
 refine wpAny_allTrue_Or_cons (wpAny_mono (IT C env false a x A c s loc R X ha S L h) (fun b s1 h1 => ?_) fun _ _ e => e)
 cases b with
 | true => exact h1
 | false => exact wpAny_allTrue_Or_nil h1
theorem bo_step {op : BoolOp} {pos : Pos} {t u : Sem Value} {rest : List (Sem Value)} {K : Value → Shared → Prop} (h : wpAny (model P.N.prog P.N.w) A t (fun v s1 => ∃ b, v = .bool b ∧ match op, b with | .And, false | .Or, true => K v s1 | _, _ => wpAny (model P.N.prog P.N.w) A (boolOp pos op (u :: rest)) K NoE s1) NoE s) :
  wpAny (model P.N.prog P.N.w) A (boolOp pos op (t :: u :: rest)) K NoE s := by
 unfold boolOp
 refine wpAny_bind (wpAny_mono h (fun v s1 h1 => wpAny_bind (wpAny_standAt (wpAny_bind (wpAny_holding ?_)))) fun _ _ e => e)
 obtain ⟨b, rfl, h1⟩ := h1
 refine wpAny_truthy_bool ?_
 cases op <;> cases b <;> first | exact wpAny_pure h1 | exact h1
theorem wev_and {a : Expr} {pos : Pos} {u : Sem Value} {rest : List (Sem Value)} {x y : ME} (IH : EvalAt P Sx r n) (X : XOk P C env A r) (S : SR P.N c s.heap) (L : LR P.N C env c s.heap loc) (ha : compE n C false a = some x) (h : evalA P.T Sx (.and x y) loc c.σ Q)
  (hk : ∀ c' s', SR P.N c' s'.heap → LR P.N C env c' s'.heap loc → evalA P.T Sx y loc c'.σ Q → wpAny (model P.N.prog P.N.w) A (boolOp pos .And (u :: rest)) (VPost P.N c' s' Q) NoE s') :
  wpAny (model P.N.prog P.N.w) A (boolOp pos .And (eval a env :: u :: rest)) (VPost P.N c s Q) NoE s := by
 simp only [evalA] at h
 refine bo_step ((IH C env false a x A c s loc _ X ha S L h).seq fun v s1 c1 d S1 E1 r1 q1 g1 o1 => ?_)
 obtain ⟨b, rfl, q1⟩ := q1
 cases r1
 cases b with
 | false => exact ⟨_, rfl, c1, _, S1, E1, .bool _, q1, g1, o1⟩
 | true => exact ⟨_, rfl, lift E1 g1 o1 (hk c1 s1 S1 (L.evo E1) q1)⟩
theorem wev_or {a : Expr} {pos : Pos} {u : Sem Value} {rest : List (Sem Value)} {x y : ME} (IH : EvalAt P Sx r n) (X : XOk P C env A r) (S : SR P.N c s.heap) (L : LR P.N C env c s.heap loc) (ha : compE n C false a = some x) (h : evalA P.T Sx (.or x y) loc c.σ Q)
  (hk : ∀ c' s', SR P.N c' s'.heap → LR P.N C env c' s'.heap loc → evalA P.T Sx y loc c'.σ Q → wpAny (model P.N.prog P.N.w) A (boolOp pos .Or (u :: rest)) (VPost P.N c' s' Q) NoE s') :
  wpAny (model P.N.prog P.N.w) A (boolOp pos .Or (eval a env :: u :: rest)) (VPost P.N c s Q) NoE s := by
 simp only [evalA] at h
 refine bo_step ((IH C env false a x A c s loc _ X ha S L h).seq fun v s1 c1 d S1 E1 r1 q1 g1 o1 => ?_)
 obtain ⟨b, rfl, q1⟩ := q1
 cases r1
 cases b with
 | true => exact ⟨_, rfl, c1, _, S1, E1, .bool _, q1, g1, o1⟩
 | false => exact ⟨_, rfl, lift E1 g1 o1 (hk c1 s1 S1 (L.evo E1) q1)⟩
theorem bo_one {op : BoolOp} {pos : Pos} {a : Expr} {x : ME} (IH : EvalAt P Sx r n) (X : XOk P C env A r) (S : SR P.N c s.heap) (L : LR P.N C env c s.heap loc) (ha : compE n C false a = some x) (h : evalA P.T Sx x loc c.σ Q) :
  wpAny (model P.N.prog P.N.w) A (boolOp pos op [eval a env]) (VPost P.N c s Q) NoE s := by
 unfold boolOp
 exact IH C env false a x A c s loc _ X ha S L h
theorem wev_not {a : Expr} {pos : Pos} {x : ME} (IH : EvalAt P Sx r n) (X : XOk P C env A r) (S : SR P.N c s.heap) (L : LR P.N C env c s.heap loc) (ha : compE n C false a = some x) (h : evalA P.T Sx (.not x) loc c.σ Q) :
  WV P.N A (eval (.UnaryOp .Not a pos) env) c s Q := by
 simp only [evalA] at h
 refine wpAny_UnaryOp ((IH C env false a x A c s loc _ X ha S L h).seq fun v s1 c1 d S1 E1 r1 q1 g1 o1 => not_value ?_)
 obtain ⟨b, rfl, q1⟩ := q1
 cases r1
 exact wpAny_truthy_bool ⟨c1, _, S1, E1, .bool _, q1, g1, o1⟩
theorem ts_not {a : Expr} {pos : Pos} {x : ME} {R : Bool → Sto → Prop} {whole : Sem Value} (IT : TestAt P Sx r n) (X : XOk P C env A r) (S : SR P.N c s.heap) (L : LR P.N C env c s.heap loc) (ha : compE n C false a = some x) (h : evalA P.T Sx (.not x) loc c.σ (IsB R)) :
  wpAny (model P.N.prog P.N.w) A (isTrue (.UnaryOp .Not a pos) env whole) (BPost P.N c s R) NoE s := by
 simp only [evalA] at h
 refine wpAny_isTrue_Not (wpAny_mono (IT C env false a x A c s loc (fun b σ => IsB R (.bool (!b)) σ) X ha S L h) (fun b s1 h1 => ?_) fun _ _ e => e)
 obtain ⟨c1, S1, E1, ⟨b', e, q⟩, g1, o1⟩ := h1
 cases e
 exact ⟨c1, S1, E1, q, g1, o1⟩
theorem wev_ite {t a b : Expr} {pos : Pos} {x y z : ME} {m : Bool} (IH : EvalAt P Sx r n) (IT : TestAt P Sx r n) (X : XOk P C env A r) (S : SR P.N c s.heap) (L : LR P.N C env c s.heap loc) (ht : compE n C false t = some x) (ha : compE n C m a = some y) (hb : compE n C m b = some z) (h : evalA P.T Sx (.ite x y z) loc c.σ Q) :
  WV P.N A (eval (.IfExp t a b pos) env) c s Q := by
 simp only [evalA] at h
 refine wpAny_IfExp (wpAny_mono (IT C env false t x A c s loc (fun b σ => if b = true then evalA P.T Sx y loc σ Q else evalA P.T Sx z loc σ Q) X ht S L h) (fun v s1 h1 => ?_) fun _ _ e => e)
 obtain ⟨c1, S1, E1, q1, g1, o1⟩ := h1
 cases v with
 | true => exact lift E1 g1 o1 (IH C env m a y A c1 s1 loc _ X ha S1 (L.evo E1) q1)
 | false => exact lift E1 g1 o1 (IH C env m b z A c1 s1 loc _ X hb S1 (L.evo E1) q1)
theorem ts_ite {t a b : Expr} {pos : Pos} {x y z : ME} {m : Bool} {R : Bool → Sto → Prop} {whole : Sem Value} (IT : TestAt P Sx r n) (X : XOk P C env A r) (S : SR P.N c s.heap) (L : LR P.N C env c s.heap loc) (ht : compE n C false t = some x) (ha : compE n C m a = some y) (hb : compE n C m b = some z) (h : evalA P.T Sx (.ite x y z) loc c.σ (IsB R)) :
  wpAny (model P.N.prog P.N.w) A (isTrue (.IfExp t a b pos) env whole) (BPost P.N c s R) NoE s := by
 simp only [evalA] at h
 rw [arm_isTrue_IfExp]
 refine wpAny_bind (wpAny_mono (IT C env false t x A c s loc (fun b σ => if b = true then evalA P.T Sx y loc σ (IsB R) else evalA P.T Sx z loc σ (IsB R)) X ht S L h) (fun v s1 h1 => ?_) fun _ _ e => e)
 obtain ⟨c1, S1, E1, q1, g1, o1⟩ := h1
 cases v with
 | true => exact wpAny_mono (IT C env m a y A c1 s1 loc _ X ha S1 (L.evo E1) q1) (fun _ _ z => z.trans E1 g1 o1) fun _ _ e => e
 | false => exact wpAny_mono (IT C env m b z A c1 s1 loc _ X hb S1 (L.evo E1) q1) (fun _ _ z => z.trans E1 g1 o1) fun _ _ e => e
theorem wev_list {es : List Expr} {pos : Pos} {mes : List ME} {m : Bool} (IH : EvalAt P Sx r n) (X : XOk P C env A r) (S : SR P.N c s.heap) (L : LR P.N C env c s.heap loc) (hm : mapO (compE n C false) es = some mes) (h : evalA P.T Sx (.list m mes) loc c.σ Q) :
  WV P.N A (eval (.List es pos) env) c s Q := by
 simp only [evalA] at h
 refine wpAny_List (wpAny_mono (args_sound IH X pos es mes c s _ hm S L h) (fun vs s1 h1 => ?_) fun _ _ e => e)
 obtain ⟨c1, ds, S1, E1, r1, q1, g1, o1⟩ := h1
 exact ⟨by rw [r1.length]; exact q1.1, (vp_push (tk := s1.toks) (n := 0) S1 r1 q1).trans E1 g1 o1⟩
theorem wev_tup {es : List Expr} {k : Nat} {pos : Pos} {mes : List ME} (IH : EvalAt P Sx r n) (X : XOk P C env A r) (S : SR P.N c s.heap) (L : LR P.N C env c s.heap loc) (hm : mapO (compE n C false) es = some mes) (h : evalA P.T Sx (.tup mes) loc c.σ Q) :
  WV P.N A (eval (.Tuple es k pos) env) c s Q := by
 simp only [evalA] at h
 refine wpAny_Tuple (wpAny_mono (args_sound IH X pos es mes c s _ hm S L h) (fun vs s1 h1 => ?_) fun _ _ e => e)
 obtain ⟨c1, ds, S1, E1, r1, ⟨q1, q2⟩, g1, o1⟩ := h1
 refine ⟨by rw [r1.length]; exact q1, ?_⟩
 obtain ⟨S', E'⟩ := S1.freezeNew (X := NoX) (o := { cls := .type "tuple", data := .seq vs.toArray }) (fun _ _ e => Heap.get?_push_of_some _ e) (get_size_none _) (Heap.get?_push_size _ rfl)
 exact ⟨_, .tup ds, S', E1.trans E', .tup (by show (if _ = _ then some _ else _) = some _; rw [if_pos rfl]) ⟨by rw [r1.length]; exact q1, rfl, 0, rfl⟩ (r1.mono E'.inc), q2, g1, o1⟩
theorem fresh_sys (F : PrgOk P) (S : SR P.N c s.heap) : (s.heap.objs.size == sysModules) = false := by
 obtain ⟨mg, o, es, ep, e, _⟩ := F.g
 have := Heap.lt_size (S.old _ _ e)
 have h3 : (3 : Nat) < s.heap.objs.size := this
 rw [beq_eq_false_iff_ne]
 intro z
 have z' : s.heap.objs.size = 1 := z
 omega
theorem wev_edict {pos : Pos} (F : PrgOk P) (S : SR P.N c s.heap) (h : evalA P.T Sx .edict loc c.σ Q) : WV P.N A (eval (.Dict [] [] pos) env) c s Q := by
 simp only [evalA] at h
 refine wpAny_Dict_empty ?_
 obtain ⟨S', E'⟩ := S.putNew (X := NoX) (x := .dict []) (a := s.heap.objs.size) (h' := s.heap.push { cls := .type "dict", data := .dict #[] }) (fun _ _ e => Heap.get?_push_of_some _ e) (get_size_none _) (fun _ _ z => by cases z)
  ⟨fresh_sys F S, [], Heap.DictOf.new _, .nil⟩
 exact ⟨_, _, S', E', .obj _, h _ (S.sto_none (get_size_none _)), rfl, rfl⟩
end
end Mine
end
section
namespace Mine
open PySem PySem.W PyProof.Rows PySem.Spec PyProof PySem.SeqAt
variable {N : Nm} {c c0 c' : Cfg} {h h0 h' : Heap} {W X Z : Addr → Prop} {A : Around} {s : Shared}
structure Stp (W : Addr → Prop) (c : Cfg) (h : Heap) (c2 : Cfg) (h2 : Heap) : Prop where
 hk : ∀ b o, ¬W b → h.get? b = some o → h2.get? b = some o
 inc : ∀ a o, c.I a = some o → c2.I a = some o
 inew : ∀ b o, c2.I b = some o → c.I b = some o ∨ h.get? b = none
 sig : c2.σ = c.σ
 D : c2.D = c.D
theorem Stp.foot {c2 : Cfg} {h2 : Heap} (t : Stp W c h c2 h2) {b : Addr} : Foot c2 b ↔ Foot c b := by unfold Foot; rw [t.sig, t.D]
theorem Evo.stp {c2 : Cfg} {h2 : Heap} (E : Evo Z c0 h0 c h) (t : Stp W c h c2 h2) (fr : ∀ b, W b → h0.get? b = none) : Evo Z c0 h0 c2 h2 where
 inc := fun a o e => t.inc a o (E.inc a o e)
 keep := fun b o e nf nx => t.hk b o (fun w => by rw [fr b w] at e; cases e) (E.keep b o e nf nx)
 live := fun b e => by
  by_cases w : W b
  ·exact fr b w
  ·refine E.live b ?_
   cases q : h.get? b with
   | none => rfl
   | some o => rw [t.hk b o w q] at e; cases e
 foot := fun b f => E.foot b (t.foot.mp f)
 inew := fun b o e => (t.inew b o e).elim (fun z => E.inew b o z) fun z => .inr (.inr (E.live b z))
theorem SR.kept (S : SR N c h) (hk : ∀ b o, ¬W b → h.get? b = some o → h'.get? b = some o) (hW : ∀ b, W b → ¬Foot c b ∧ c.I b = none) : SR N c h' :=
 ⟨fun a o e => hk a o (fun w => by rw [(hW a w).2] at e; cases e) (S.fr a o e), fun a x e => (S.st a x e).lift (fun _ _ e => e) rfl fun b o hb e' => hk b o (fun q => (hW b q).1 (by
   rcases hb with rfl | ⟨rfl, C, fs, rfl⟩
   ·exact .inl (by rw [e]; simp)
   ·exact .inr ⟨a, C, fs, e, rfl⟩)) e', S.ni, S.dj, S.dd, S.stat⟩
theorem LR.stp {C : Ctx} {env : Env} {loc : List PV} {c2 : Cfg} {h2 : Heap} (L : LR N C env c h loc) (t : Stp W c h c2 h2) (hO : ∀ b, Own env b → ¬W b) : LR N C env c2 h2 loc where
  ns := let ⟨m, o, es, ep, e, r⟩ := L.ns; ⟨m, o, es, ep, t.hk _ _ (hO _ (.inl rfl)) e, r⟩
  cells := fun x a hx => let ⟨v, o, e, r⟩ := L.cells x a hx; ⟨v, o, t.hk _ _ (hO _ (.inr ⟨x, hx⟩)) e, r⟩
  len := L.len
  vars := fun x i v hl hv hu => by
    obtain ⟨cv, hcv, r⟩ := L.vars x i v hl hv hu
    refine ⟨cv, ?_, r.mono t.inc⟩
    rcases hcv with ⟨k, m, ⟨o, es, ep, e, r⟩, hm⟩ | ⟨k, a, ha, o, e, r⟩
    · exact .inl ⟨k, m, ⟨o, es, ep, t.hk _ _ (hO _ (.inl rfl)) e, r⟩, hm⟩
    · exact .inr ⟨k, a, ha, o, t.hk _ _ (hO _ (.inr ⟨x, mem_of_lookup ha⟩)) e, r⟩
  off := fun b o => by
    obtain ⟨nf, ni⟩ := L.off b o
    refine ⟨fun f => nf (t.foot.mp f), ?_⟩
    obtain ⟨x, e⟩ := L.own_some o
    cases q : c2.I b with
    | none => rfl
    | some y => rcases t.inew b y q with z | z
                · rw [ni] at z; cases z
                · rw [z] at e; cases e
inductive ItRel (N : Nm) (c : Cfg) (h : Heap) (W : Addr → Prop) : Addr → Bool → (Sto → Prop) → List PV → Prop
 | fro {it l : Addr} {i : Nat} {o : Obj} {vs : List Value} {items : List PV} (w : ∀ b, W b ↔ b = it) (hi : h.IsListIter it l i) (ho : c.I l = some o) (hl : isListO o vs) (r : VRelL N c.I (vs.drop i) items) : ItRel N c h W it false (fun _ => True) items
 | liv {it a : Addr} {i : Nat} {l : List PV} (w : ∀ b, W b ↔ b = it) (hi : h.IsListIter it a i) (q : c.σ a = some (.list l)) : ItRel N c h W it false (fun σ' => σ' a = some (.list l)) (l.drop i)
 | rng {it : Addr} {i k : Nat} (w : ∀ b, W b ↔ b = it) (hi : IsRangeIter h it (i : Int) (k : Int) 1) : ItRel N c h W it false (fun _ => True) ((List.range' i k).map fun j => .int (j : Nat))
 | enu {e it l : Addr} {i : Nat} {o : Obj} {vs : List Value} {items : List PV} {old : Value} (w : ∀ b, W b ↔ b = e ∨ b = it) (ne : e ≠ it) (he : IsEnum h e it i old) (hi : h.IsListIter it l i) (ho : c.I l = some o) (hl : isListO o vs) (r : VRelL N c.I (vs.drop i) items) :
   ItRel N c h W e true (fun _ => True) ((items.zipIdx i).map fun p => .tup [.int (p.2 : Nat), p.1])
 | zip {z TI TO i1 i2 l1 l2 : Addr} {i j : Nat} {o o' : Obj} {vs ws : List Value} {xs ys : List PV} {a b : Value} (w : ∀ b, W b ↔ b = z ∨ b = TI ∨ b = TO ∨ b = i1 ∨ b = i2) (D : ZipApart z TI TO i1 i2 l1 l2) (hz : IsZip h z TI TO .none) (hTI : IsPair h TI (.ref i1) (.ref i2)) (hTO : IsPair h TO a b)
   (h1 : h.IsListIter i1 l1 i) (h2 : h.IsListIter i2 l2 j) (ho : c.I l1 = some o) (hl : isListO o vs) (r : VRelL N c.I (vs.drop i) xs) (ho' : c.I l2 = some o') (hl' : isListO o' ws) (r' : VRelL N c.I (ws.drop j) ys) :
   ItRel N c h W z true (fun _ => True) ((xs.zip ys).map fun p => .tup [p.1, p.2])
theorem ItRel.live {it : Addr} {b : Bool} {K : Sto → Prop} {items : List PV} (I : ItRel N c h W it b K items) : ∀ b, W b → ∃ o, h.get? b = some o := by
 intro b wb
 cases I with
 | fro w hi _ _ _ => obtain rfl := (w b).mp wb; obtain ⟨o, e, _⟩ := hi; exact ⟨o, e⟩
 | liv w hi _ => obtain rfl := (w b).mp wb; obtain ⟨o, e, _⟩ := hi; exact ⟨o, e⟩
 | rng w hi => obtain rfl := (w b).mp wb; exact ⟨_, hi⟩
 | enu w ne he hi _ _ _ =>
  rcases (w b).mp wb with rfl | rfl
  ·exact ⟨_, he⟩
  ·obtain ⟨o, e, _⟩ := hi; exact ⟨o, e⟩
 | zip w D hz hTI hTO h1 h2 _ _ _ _ _ _ =>
  rcases (w b).mp wb with rfl | rfl | rfl | rfl | rfl
  ·exact ⟨_, hz⟩
  ·exact ⟨_, hTI⟩
  ·exact ⟨_, hTO⟩
  ·obtain ⟨o, e, _⟩ := h1; exact ⟨o, e⟩
  ·obtain ⟨o, e, _⟩ := h2; exact ⟨o, e⟩
theorem ItRel.evo {it : Addr} {b : Bool} {K : Sto → Prop} {items : List PV} (I : ItRel N c h W it b K items) (E : Evo X c h c' h') (hW : ∀ b, W b → ¬Foot c b ∧ ¬X b) (hs : K c'.σ) : ItRel N c' h' W it b K items := by
 have k : ∀ b o, W b → h.get? b = some o → h'.get? b = some o := fun b o w e => E.keep b o e (hW b w).1 (hW b w).2
 have kl : ∀ {i l n}, W i → h.IsListIter i l n → h'.IsListIter i l n := fun w ⟨o, e, r⟩ => ⟨o, k _ _ w e, r⟩
 cases I with
 | fro w hi ho hl r => exact .fro w (kl ((w _).mpr rfl) hi) (E.inc _ _ ho) hl (r.mono E.inc)
 | liv w hi q => exact .liv w (kl ((w _).mpr rfl) hi) hs
 | rng w hi => exact .rng w (k _ _ ((w _).mpr rfl) hi)
 | enu w ne he hi ho hl r => exact .enu w ne (k _ _ ((w _).mpr (.inl rfl)) he) (kl ((w _).mpr (.inr rfl)) hi) (E.inc _ _ ho) hl (r.mono E.inc)
 | zip w D hz hTI hTO h1 h2 ho hl r ho' hl' r' =>
  exact .zip w D (k _ _ ((w _).mpr (.inl rfl)) hz) (k _ _ ((w _).mpr (.inr (.inl rfl))) hTI) (k _ _ ((w _).mpr (.inr (.inr (.inl rfl)))) hTO) (kl ((w _).mpr (.inr (.inr (.inr (.inl rfl))))) h1) (kl ((w _).mpr (.inr (.inr (.inr (.inr rfl))))) h2)
   (E.inc _ _ ho) hl (r.mono E.inc) (E.inc _ _ ho') hl' (r'.mono E.inc)
theorem SR.addAt {a : Addr} {o : Obj} (S : SR N c h) (nf : ¬Foot c a) (ni : c.I a = none) (e : h.get? a = some o) : SR N (c.addI a o) h := by
 have inc : ∀ b o', c.I b = some o' → (c.addI a o).I b = some o' := fun b o' q => by
  show (if b = a then _ else _) = _
  rw [if_neg]; exact q
  rintro rfl; rw [ni] at q; cases q
 refine ⟨fun b o' q => ?_, fun b x q => (S.st b x q).lift inc rfl fun _ _ _ e => e, fun b f => ?_, S.dj, S.dd, fun b o' q => inc _ _ (S.stat b o' q)⟩
 ·have q' : (if b = a then some o else c.I b) = some o' := q
  split at q'
  ·rename_i z; cases q'; rw [z]; exact e
  ·exact S.fr b o' q'
 ·show (if b = a then some o else c.I b) = none
  rw [if_neg (fun z => nf (by rw [← z]; exact f))]; exact S.ni b f
theorem Stp.here (hk : ∀ b o, ¬W b → h.get? b = some o → h'.get? b = some o) : Stp W c h c h' := ⟨hk, fun _ _ e => e, fun _ _ e => .inl e, rfl, rfl⟩
theorem Stp.add {a : Addr} {o : Obj} (S : SR N c h) (hk : ∀ b o, ¬W b → h.get? b = some o → h'.get? b = some o) (hn : h.get? a = none) : Stp W c h (c.addI a o) h' where
 hk := hk
 inc := fun b o' q => by
  show (if b = a then _ else _) = _
  rw [if_neg]; exact q
  intro z; rw [z, S.I_none hn] at q; cases q
 inew := fun b o' q => by
  have q' : (if b = a then some o else c.I b) = some o' := q
  split at q'
  ·rename_i z; exact .inr (by rw [z]; exact hn)
  ·exact .inl q'
 sig := rfl
 D := rfl
theorem letGo_range {E : Value → Shared → Prop} {target : Expr} {I : Addr} {a b d : Int} {v : Value} {Q' : Unit → Shared → Prop} (hit : IsRangeIter s.heap I a b d) (q : Q' () s) :
    wpAny (model N.prog N.w) A (letOwnedTupleGo target (.ref I) v) Q' E s := by
  unfold letOwnedTupleGo
  cases target <;> first
    | exact wpAny_pure q
    | (cases v <;> first
        | exact wpAny_pure q
        | (refine wpAny_bind (wpAny_load hit ?_)
           exact wpAny_pure q))
def NPost (N : Nm) (A : Around) (W : Addr → Prop) (target : Expr) (it : Addr) (b : Bool) (K : Sto → Prop) (items : List PV) (c : Cfg) (s : Shared) (E : Value → Shared → Prop) (r : Option Value) (s1 : Shared) : Prop := match r with
 | none => items = [] ∧ SR N c s1.heap ∧ Stp W c s.heap c s1.heap ∧ s1.gens = s.gens ∧ s1.os = s.os
 | some v => ∃ x rest, items = x :: rest ∧ wpAny (model N.prog N.w) A (letOwnedTupleGo target (.ref it) v) (fun _ s2 => ∃ c2, SR N c2 s2.heap ∧ Stp W c s.heap c2 s2.heap ∧ VRel N c2.I v x ∧ ItRel N c2 s2.heap W it b K rest ∧ s2.gens = s.gens ∧ s2.os = s.os) E s1
theorem vdrop {I : Addr → Option Obj} {vs : List Value} {i : Nat} {items : List PV} (r : VRelL N I (vs.drop i) items) : (items = [] ∧ vs.toArray[i]? = none) ∨ ∃ v x rest, items = x :: rest ∧ vs.toArray[i]? = some v ∧ VRel N I v x ∧ VRelL N I (vs.drop (i + 1)) rest := by
 have hl := r.length
 rw [List.length_drop] at hl
 by_cases q : i < vs.length
 ·right
  have e : vs.drop i = vs[i] :: vs.drop (i + 1) := List.drop_eq_getElem_cons q
  rw [e] at r
  cases r with
  | cons x y => exact ⟨_, _, _, rfl, by simp [q], x, y⟩
 ·left
  exact ⟨List.eq_nil_of_length_eq_zero (by omega), by simp; omega⟩
theorem next_sound {target : Expr} {it : Addr} {b : Bool} {K : Sto → Prop} {items : List PV} {E E' : Value → Shared → Prop} (hh : A.handled = none) (S : SR N c s.heap) (I : ItRel N c s.heap W it b K items) (hW : ∀ b, W b → ¬Foot c b ∧ c.I b = none) (hb : b = true → isTup target = true) :
  wpAny (model N.prog N.w) A (pyNext (.ref it)) (NPost N A W target it b K items c s E') E s := by
 have one : ∀ {h' : Heap}, (∀ b, W b ↔ b = it) → Heap.ExtBut it s.heap h' → ∀ b o, ¬W b → s.heap.get? b = some o → h'.get? b = some o := fun w hs b o nw e => hs b o (fun z => nw ((w b).mpr z)) e
 cases I with
 | fro w hi ho hl r =>
  have hL := isList_of (S.fr _ _ ho) hl
  rcases vdrop r with ⟨rfl, e⟩ | ⟨v, x, rest, rfl, e, rx, rr⟩
  ·exact wpAny_pyNext_list_end hh hi hL e fun h' hs => ⟨rfl, S.kept (one w hs) hW, Stp.here (one w hs), rfl, rfl⟩
  ·refine wpAny_pyNext_list_item hi hL e fun h' hi' hs => ⟨x, rest, rfl, letGo_listiter hi' ?_⟩
   exact ⟨c, S.kept (one w hs.extBut) hW, Stp.here (one w hs.extBut), rx, .fro w hi' ho hl rr, rfl, rfl⟩
 | liv w hi q =>
  rename_i a i l
  obtain ⟨o, vs, g, hl, r⟩ := S.st a _ q
  have hL := isList_of g hl
  rcases vdrop (r.drop i) with ⟨en, e⟩ | ⟨v, x, rest, en, e, rx, rr⟩
  ·exact wpAny_pyNext_list_end hh hi hL e fun h' hs => ⟨en, S.kept (one w hs) hW, Stp.here (one w hs), rfl, rfl⟩
  ·refine wpAny_pyNext_list_item hi hL e fun h' hi' hs => ⟨x, rest, en, letGo_listiter hi' ?_⟩
   have er : rest = l.drop (i + 1) := by rw [← List.tail_drop, en]; rfl
   rw [er]
   exact ⟨c, S.kept (one w hs.extBut) hW, Stp.here (one w hs.extBut), rx, .liv w hi' q, rfl, rfl⟩
 | rng w hi =>
  rename_i i k
  cases k with
  | zero => exact wpAny_pyNext_range_end hh hi (by simp) fun h' hs => ⟨rfl, S.kept (one w hs) hW, Stp.here (one w hs), rfl, rfl⟩
  | succ k =>
   refine wpAny_pyNext_range_item hi (by omega) fun h' hi' hs => ⟨_, _, rfl, letGo_range hi' ?_⟩
   refine ⟨c, S.kept (one w hs.extBut) hW, Stp.here (one w hs.extBut), .int _ _, .rng w ?_, rfl, rfl⟩
   have e1 : ((i : Int) + 1) = ((i + 1 : Nat) : Int) := by omega
   have e2 : (((k + 1 : Nat) : Int) - 1) = (k : Int) := by omega
   rw [e1, e2] at hi'
   exact hi'
 | enu w ne he hi ho hl r =>
  rename_i it' l i o vs its old
  have hL := isList_of (S.fr _ _ ho) hl
  have hk2 : ∀ {h' : Heap}, (∀ b o, b ≠ it → b ≠ it' → s.heap.get? b = some o → h'.get? b = some o) → ∀ b o, ¬W b → s.heap.get? b = some o → h'.get? b = some o := fun hs b o nw e => hs b o (fun z => nw ((w b).mpr (.inl z))) (fun z => nw ((w b).mpr (.inr z))) e
  rcases vdrop r with ⟨rfl, e⟩ | ⟨v, x, rest, rfl, e, rx, rr⟩
  ·exact wpAny_pyNext_enum_end hh he hi hL e fun h' hs => ⟨rfl, S.kept (hk2 fun b o _ n2 e => hs b o n2 e) hW, Stp.here (hk2 fun b o _ n2 e => hs b o n2 e), rfl, rfl⟩
  ·refine wpAny_pyNext_enum_item he hi hL e ne fun h' he' hi' hT hsz hs => ⟨_, _, rfl, ?_⟩
   cases target <;> first | (cases hb rfl) | skip
   refine wpAny_letOwnedTupleGo_enum he' fun h2 he2 hs2 => ?_
   have hn := get_size_none s.heap
   have nT : s.heap.objs.size ≠ it := fun z => by rw [z, he] at hn; cases hn
   have nT' : s.heap.objs.size ≠ it' := fun z => by obtain ⟨o, e, _⟩ := hi; rw [z, e] at hn; cases hn
   have hk : ∀ b o, ¬W b → s.heap.get? b = some o → h2.get? b = some o := fun b o nw e => (hs2.2 b (fun z => nw ((w b).mpr (.inl z)))).trans (hk2 hs b o nw e)
   have hT2 := (hs2.2 _ nT).trans hT
   have S2 := (S.kept hk hW).addAt (S.not_foot hn) (S.I_none hn) hT2
   have ST := Stp.add (W := W) (o := { cls := .type "tuple", data := .seq #[.int i s.toks, v] }) S hk hn
   refine ⟨_, S2, ST, .tup (vs := [.int i s.toks, v]) (by show (if _ = _ then some _ else _) = some _; rw [if_pos rfl]) ⟨Nat.le_of_lt (by show 2 < 16777216; decide), rfl, 0, rfl⟩ (.cons (.int _ _) (.cons (rx.mono ST.inc) .nil)), ?_, rfl, rfl⟩
   exact .enu w ne he2 (by obtain ⟨o, e, q⟩ := hi'; exact ⟨o, (hs2.2 _ ne.symm).trans e, q⟩) (ST.inc _ _ ho) hl (rr.mono ST.inc)
 | zip w D hz hTI hTO h1 h2 ho hl r ho' hl' r' =>
  rename_i TI TO i1 i2 l1 l2 i j o o' vs ws xs ys a b
  have hL := isList_of (S.fr _ _ ho) hl
  have hL' := isList_of (S.fr _ _ ho') hl'
  have hk2 : ∀ {h' : Heap}, (∀ b o, b ≠ it → b ≠ TO → b ≠ i1 → b ≠ i2 → s.heap.get? b = some o → h'.get? b = some o) → ∀ b o, ¬W b → s.heap.get? b = some o → h'.get? b = some o := fun hs b o nw e =>
   hs b o (fun z => nw ((w b).mpr (.inl z))) (fun z => nw ((w b).mpr (.inr (.inr (.inl z))))) (fun z => nw ((w b).mpr (.inr (.inr (.inr (.inl z)))))) (fun z => nw ((w b).mpr (.inr (.inr (.inr (.inr z)))))) e
  rcases vdrop r with ⟨rfl, e⟩ | ⟨v, x, rest, rfl, e, rx, rr⟩
  ·exact wpAny_pyNext_zip_end hh D hz hTI hTO h1 h2 hL hL' (.inl e) fun h' hs => ⟨rfl, S.kept (hk2 hs) hW, Stp.here (hk2 hs), rfl, rfl⟩
  rcases vdrop r' with ⟨rfl, e'⟩ | ⟨v', x', rest', rfl, e', rx', rr'⟩
  ·exact wpAny_pyNext_zip_end hh D hz hTI hTO h1 h2 hL hL' (.inr e') fun h' hs => ⟨rfl, S.kept (hk2 hs) hW, Stp.here (hk2 hs), rfl, rfl⟩
  refine wpAny_pyNext_zip_item D hz hTI hTO h1 h2 hL hL' e e' fun h' hz' hTO' h1' h2' hT hsz hs => ⟨_, _, rfl, ?_⟩
  cases target <;> first | (cases hb rfl) | skip
  refine wpAny_letOwnedTupleGo_zip hz' fun h3 hz3 hs3 => ?_
  have hn := get_size_none s.heap
  have nT : s.heap.objs.size ≠ it := fun z => by rw [z, hz] at hn; cases hn
  have hk : ∀ b o, ¬W b → s.heap.get? b = some o → h3.get? b = some o := fun b o nw e => (hs3.2 b (fun z => nw ((w b).mpr (.inl z)))).trans (hk2 hs b o nw e)
  have hT2 := (hs3.2 _ nT).trans hT
  have S2 := (S.kept hk hW).addAt (S.not_foot hn) (S.I_none hn) hT2
  have ST := Stp.add (W := W) (o := { cls := .type "tuple", data := .seq #[v, v'] }) S hk hn
  refine ⟨_, S2, ST, .tup (vs := [v, v']) (by show (if _ = _ then some _ else _) = some _; rw [if_pos rfl]) ⟨Nat.le_of_lt (by show 2 < 16777216; decide), rfl, 0, rfl⟩ (.cons (rx.mono ST.inc) (.cons (rx'.mono ST.inc) .nil)), ?_, rfl, rfl⟩
  have li : ∀ {i l n}, i ≠ it → h'.IsListIter i l n → h3.IsListIter i l n := fun q ⟨o, e, r⟩ => ⟨o, (hs3.2 _ q).trans e, r⟩
  have hTI3 : IsPair h3 TI (.ref i1) (.ref i2) := (hs3.2 _ D.TIz).trans (hs _ _ D.TIz D.TITO D.TIi1 D.TIi2 hTI)
  exact .zip w D hz3 hTI3 ((hs3.2 _ D.TOz).trans hTO') (li D.i1z h1') (li D.i2z h2') (ST.inc _ _ ho) hl (rr.mono ST.inc) (ST.inc _ _ ho') hl' (rr'.mono ST.inc)
theorem compIt_cases {E : Expr → Option ME} {C : Ctx} {it : Expr} {mi : MI} (h : compIt E C it = some mi) :
  (∃ f p x pos y, it = .Call (.Name f p) [x] [] pos ∧ C.isGlob f = true ∧ f = "range" ∧ E x = some y ∧ mi = .range y) ∨
  (∃ f p x pos y, it = .Call (.Name f p) [x] [] pos ∧ C.isGlob f = true ∧ f = "enumerate" ∧ E x = some y ∧ mi = .enum y) ∨
  (∃ f p x x' pos y y', it = .Call (.Name f p) [x, x'] [] pos ∧ C.isGlob f = true ∧ f = "zip" ∧ E x = some y ∧ E x' = some y' ∧ mi = .zip y y') ∨
  ∃ y, E it = some y ∧ mi = .expr y := by
 unfold compIt at h
 split at h
 ·split at h
  ·rename_i f p x pos q
   obtain ⟨y, hy, rfl⟩ := Option.map_eq_some_iff.mp h
   exact .inl ⟨_, _, _, _, _, rfl, q.1, q.2, hy, rfl⟩
  ·split at h
   ·rename_i q
    obtain ⟨y, hy, rfl⟩ := Option.map_eq_some_iff.mp h
    exact .inr (.inl ⟨_, _, _, _, _, rfl, q.1, q.2, hy, rfl⟩)
   ·obtain ⟨y, hy, rfl⟩ := Option.map_eq_some_iff.mp h
    exact .inr (.inr (.inr ⟨y, hy, rfl⟩))
 ·split at h
  ·rename_i q
   split at h
   ·rename_i h1 h2
    cases h
    exact .inr (.inr (.inl ⟨_, _, _, _, _, _, _, rfl, q.1, q.2, h1, h2, rfl⟩))
   ·cases h
  ·obtain ⟨y, hy, rfl⟩ := Option.map_eq_some_iff.mp h
   exact .inr (.inr (.inr ⟨y, hy, rfl⟩))
 ·obtain ⟨y, hy, rfl⟩ := Option.map_eq_some_iff.mp h
  exact .inr (.inr (.inr ⟨y, hy, rfl⟩))
section
variable {P : Prg} {Sx : Spec} {r n : Nat} {C : Ctx} {env : Env} {c : Cfg} {loc : List PV}
theorem keep1 (h : Heap) (x : Obj) : ∀ b o, h.get? b = some o → (h.push x).get? b = some o := fun _ _ e => Heap.get?_push_of_some _ e
theorem keep2 (h : Heap) (x y : Obj) : ∀ b o, h.get? b = some o → ((h.push x).push y).get? b = some o := fun _ _ e => Heap.get?_push_of_some _ (Heap.get?_push_of_some _ e)
def IPost (N : Nm) (b : Bool) (c : Cfg) (s : Shared) (Q : List PV → (Sto → Prop) → Sto → Prop) (iv : Value) (s2 : Shared) : Prop :=
 ∃ itA W K items c2, iv = .ref itA ∧ SR N c2 s2.heap ∧ Evo NoX c s.heap c2 s2.heap ∧ ItRel N c2 s2.heap W itA b K items ∧ (∀ b, W b → s.heap.get? b = none ∧ ¬Foot c2 b ∧ c2.I b = none) ∧ items.length ≤ big ∧ Q items K c2.σ ∧ s2.gens = s.gens ∧ s2.os = s.os
theorem wfresh {s1 : Shared} {c1 : Cfg} (S1 : SR P.N c1 s1.heap) (E1 : Evo NoX c s.heap c1 s1.heap) {b : Addr} (hb : s1.heap.objs.size ≤ b) : s.heap.get? b = none ∧ ¬Foot c1 b ∧ c1.I b = none := by
 have e : s1.heap.get? b = none := by
  cases q : s1.heap.get? b with
  | none => rfl
  | some o => exact absurd (Heap.lt_size q) (Nat.not_lt.mpr hb)
 exact ⟨E1.live b e, S1.not_foot e, S1.I_none e⟩
theorem iter_sound {it : Expr} {mi : MI} {Q : List PV → (Sto → Prop) → Sto → Prop} (F : PrgOk P) (IH : EvalAt P Sx r n) (X : XOk P C env A r) (S : SR P.N c s.heap) (L : LR P.N C env c s.heap loc) (hi : compIt (compE n C false) C it = some mi) (h : evalIA P.T Sx mi loc c.σ Q) :
  wpAny (model P.N.prog P.N.w) A (eval it env) (fun xv s1 => wpAny (model P.N.prog P.N.w) A (pyIter xv) (IPost P.N (tupOnly mi) c s Q) NoE s1) NoE s := by
 rcases compIt_cases hi with ⟨f, p, x, pos, y, rfl, hg, rfl, hy, rfl⟩ | ⟨f, p, x, pos, y, rfl, hg, rfl, hy, rfl⟩ | ⟨f, p, x, x', pos, y, y', rfl, hg, rfl, hy, hy', rfl⟩ | ⟨y, hy, rfl⟩
 ·-- range
  simp only [evalIA] at h
  have hm : mapO (compE n C false) [x] = some [y] := by unfold mapO mapO; rw [hy]
  obtain ⟨k1, k2⟩ := X.kindG hg
  refine wpAny_Call_NameR (blt_read (v := .type "range") F X.g S k1 k2 (by decide) (F.blts "range" (by decide)) (by decide +kernel) ?_)
  refine PySem.callWith_type (no_star hm) (eargs hm ?_)
  rw [star_each hy]
  refine Calls.spliced_cons ((IH C env false x y A c s loc _ X hy S L h).seq fun v s1 c1 d S1 E1 r1 q1 g1 o1 => Calls.spliced_nil ?_)
  cases d <;> simp only at q1 <;> try exact q1.elim
  rename_i m
  obtain ⟨b1, b2, q1⟩ := q1
  cases r1
  rename_i t
  refine call_range_1 ?_
  have hr : IsRange ({ s1 with heap := s1.heap.push { cls := .type "range", data := .fields #[.int 0 s1.toks, .int m t, .int 1 (s1.toks + 1)] }, toks := s1.toks + 1 + 1 } : Shared).heap s1.heap.objs.size 0 m 1 _ _ _ := IsRange.new ..
  refine wpAny_pyIter_range hr (small_one (by decide) (by decide) (by omega) (by omega)) ?_
  have hsz : Builtin.Range.rangeSize 0 m 1 = ((m.toNat : Nat) : Int) := by rw [rangeSize_one]; split <;> omega
  refine ⟨_, fun b => b = s1.heap.objs.size + 1, _, _, c1, by rw [Heap.size_push], S1.ext (keep2 _ _ _), E1.trans (Evo.ext (keep2 _ _ _)), .rng (i := 0) (k := m.toNat) (fun b => Iff.rfl) ?_, fun b hb => wfresh S1 E1 (by rw [hb]; exact Nat.le_succ _), ?_, ?_, g1, o1⟩
  ·rw [← hsz]
   have := Heap.get?_push_size (s1.heap.push { cls := .type "range", data := .fields #[.int 0 s1.toks, .int m t, .int 1 (s1.toks + 1)] }) (o := { cls := .type "range_iterator", data := .fields #[rawInt 0, rawInt (Builtin.Range.rangeSize 0 m 1), rawInt 1] }) rfl
   rw [Heap.size_push] at this
   exact this
  ·rw [List.length_map, List.length_range']; show _ ≤ 16777216; omega
  ·rw [← List.range_eq_range']; exact q1
 ·-- enumerate
  simp only [evalIA] at h
  have hm : mapO (compE n C false) [x] = some [y] := by unfold mapO mapO; rw [hy]
  obtain ⟨k1, k2⟩ := X.kindG hg
  refine wpAny_Call_NameR (blt_read (v := .type "enumerate") F X.g S k1 k2 (by decide) (F.blts "enumerate" (by decide)) (by decide +kernel) ?_)
  refine PySem.callWith_type (no_star hm) (eargs hm ?_)
  rw [star_each hy]
  refine Calls.spliced_cons ((IH C env false x y A c s loc _ X hy S L h).seq fun v s1 c1 d S1 E1 r1 q1 g1 o1 => Calls.spliced_nil ?_)
  cases d <;> simp only at q1 <;> try exact q1.elim
  rename_i l
  cases r1 with
  | list hi ho rr =>
  rename_i a o vs
  obtain ⟨hz, k, rfl⟩ := ho
  refine call_enumerate_1 (n := k) (S1.fr _ _ hi) fun h' he hit hsz hk => ?_
  refine wpAny_pyIter_enum he ?_
  refine ⟨_, fun b => b = s1.heap.objs.size + 1 ∨ b = s1.heap.objs.size, _, _, c1, rfl, S1.ext hk, E1.trans (Evo.ext hk), .enu (i := 0) (fun b => Iff.rfl) (Nat.succ_ne_self _) he hit hi ⟨hz, k, rfl⟩ rr, fun b hb => wfresh S1 E1 (by
   rcases hb with rfl | rfl
   ·exact Nat.le_succ _
   ·exact Nat.le_refl _), by rw [List.length_map, List.length_zipIdx, ← rr.length]; exact hz, q1, g1, o1⟩
 ·-- zip
  simp only [evalIA] at h
  have hm : mapO (compE n C false) [x, x'] = some [y, y'] := by unfold mapO mapO mapO; rw [hy, hy']
  obtain ⟨k1, k2⟩ := X.kindG hg
  refine wpAny_Call_NameR (blt_read (v := .type "zip") F X.g S k1 k2 (by decide) (F.blts "zip" (by decide)) (by decide +kernel) ?_)
  refine PySem.callWith_type (no_star hm) (eargs hm ?_)
  rw [star_each hy, back_cons, star_each hy']
  refine Calls.spliced_cons (wpAny_mono (two IH X S L hy hy' h (k := fun v w s2 => wpAny (model P.N.prog P.N.w) A (call (.type "zip") [v, w]) (fun xv s1 => wpAny (model P.N.prog P.N.w) A (pyIter xv) (IPost P.N true c s Q) NoE s1) NoE s2) fun v w s1 c1 d e S1 E1 r1 r1' q1 g1 o1 => ?_) (fun v s1 h1 => ?_) fun _ _ e => e)
  ·cases d <;> cases e <;> simp only at q1 <;> try exact q1.elim
   rename_i l l'
   cases r1 with
   | list hi ho rr =>
   cases r1' with
   | list hi' ho' rr' =>
   rename_i a o vs a' o' vs'
   have L1 := isList_of (S1.fr _ _ hi) ho
   have L2 := isList_of (S1.fr _ _ hi') ho'
   refine call_zip_2 L1 L2 fun h' hz hTI hTO h1 h2 hsz hk => ?_
   refine wpAny_pyIter_zip hz ?_
   have la : a < s1.heap.objs.size := Heap.lt_size (S1.fr _ _ hi)
   have la' : a' < s1.heap.objs.size := Heap.lt_size (S1.fr _ _ hi')
   have ne : ∀ {x y k : Nat}, x < y → x ≠ y + k := fun h => Nat.ne_of_lt (Nat.lt_of_lt_of_le h (Nat.le_add_right _ _))
   have D : ZipApart (s1.heap.objs.size + 4) (s1.heap.objs.size + 2) (s1.heap.objs.size + 3) s1.heap.objs.size (s1.heap.objs.size + 1) a a' := by
    constructor <;> first | exact ne la | exact ne la' | exact ne (k := 0) la | exact ne (k := 0) la' | (intro z; have z' : (_ : Nat) = _ := z; omega)
   refine ⟨_, fun b => b = s1.heap.objs.size + 4 ∨ b = s1.heap.objs.size + 2 ∨ b = s1.heap.objs.size + 3 ∨ b = s1.heap.objs.size ∨ b = s1.heap.objs.size + 1, _, _, c1, rfl, S1.ext hk, E1.trans (Evo.ext hk), .zip (i := 0) (j := 0) (fun b => Iff.rfl) D hz hTI hTO h1 h2 hi ho rr hi' ho' rr', fun b hb => wfresh S1 E1 (by
    rcases hb with rfl | rfl | rfl | rfl | rfl
    ·exact Nat.le_add_right _ _
    ·exact Nat.le_add_right _ _
    ·exact Nat.le_add_right _ _
    ·exact Nat.le_refl _
    ·exact Nat.le_add_right _ _), by rw [List.length_map, List.length_zip, ← rr.length]; exact Nat.le_trans (Nat.min_le_left _ _) ho.1, q1, g1, o1⟩
  ·exact Calls.spliced_cons (wpAny_mono h1 (fun w s2 h2 => Calls.spliced_nil h2) fun _ _ e => e)
 ·simp only [evalIA] at h
  refine (IH C env false it y A c s loc _ X hy S L h).seq fun v s1 c1 d S1 E1 r1 q1 g1 o1 => ?_
  unfold itemsA at q1
  split at q1
  ·cases r1 with
   | list hi ho rr =>
   rename_i a o vs
   refine wpAny_pyIter_list (isList_of (S1.fr _ _ hi) ho) ?_
   exact ⟨_, fun b => b = s1.heap.objs.size, _, _, c1, rfl, S1.ext (keep1 _ _), E1.trans (Evo.ext (keep1 _ _)), .fro (i := 0) (fun b => Iff.rfl) ⟨_, Heap.get?_push_size _ rfl, rfl, rfl⟩ hi ho rr, fun b hb => wfresh S1 E1 (by rw [hb]; exact Nat.le_refl _), by rw [← rr.length]; exact ho.1, q1, g1, o1⟩
  ·rename_i a
   cases r1
   split at q1
   ·rename_i l q
    obtain ⟨o, vs, g, hl, r⟩ := S1.st a _ q
    refine wpAny_pyIter_list (isList_of g hl) ?_
    exact ⟨_, fun b => b = s1.heap.objs.size, _, _, c1, rfl, S1.ext (keep1 _ _), E1.trans (Evo.ext (keep1 _ _)), .liv (i := 0) (fun b => Iff.rfl) ⟨_, Heap.get?_push_size _ rfl, rfl, rfl⟩ q, fun b hb => wfresh S1 E1 (by rw [hb]; exact Nat.le_refl _), by rw [List.drop_zero, ← r.length]; exact hl.1, q1, g1, o1⟩
   ·exact q1.elim
  ·exact q1.elim
end
end Mine
end
section
namespace Mine
open PySem PySem.W PyProof.Rows PySem.Spec PyProof PySem.SeqAt
def APost (N : Nm) (C : Ctx) (env : Env) (X : Addr → Prop) (c : Cfg) (s : Shared) (loc : List PV) (_ : Unit) (s' : Shared) : Prop :=
 SR N c s'.heap ∧ Evo X c s.heap c s'.heap ∧ LR N C env c s'.heap loc ∧ s'.gens = s.gens ∧ s'.os = s.os
variable {N : Nm} {C : Ctx} {env : Env} {A : Around} {c : Cfg} {s : Shared} {loc loc' : List PV} {X : Addr → Prop} {l : Bool}
theorem compT_star {n : Nat} (x : Expr) (p : Pos) : compT l n C (.Starred x p) = none := by cases n <;> rfl
theorem assignEach_cons {n : Nat} {t : Expr} {tg : Tgt} {rest : List Expr} (h : compT l n C t = some tg) : assignEach (t :: rest) env = (false, assign t env) :: assignEach rest env := by
 cases t <;> first | rfl | (rw [compT_star] at h; cases h)
theorem assignEach_all {n : Nat} : ∀ {ts : List Expr} {tgs : List Tgt}, mapO (compT l n C) ts = some tgs → (assignEach ts env).length = tgs.length ∧ (assignEach ts env).findIdx? (·.1) = none
 | [], _, h => by cases h; exact ⟨rfl, rfl⟩
 | t :: ts, tgs, h => by
  unfold mapO at h
  split at h
  ·rename_i y ys e1 e2
   cases h
   obtain ⟨a, b⟩ := assignEach_all e2
   rw [assignEach_cons e1]
   refine ⟨by simp [a], ?_⟩
   rw [List.findIdx?_cons, b]; rfl
  ·cases h
theorem APost.trans {s1 s2 : Shared} {l2 : List PV} (E : Evo X c s.heap c s1.heap) (g : s1.gens = s.gens) (o : s1.os = s.os) (h : APost N C env X c s1 l2 () s2) : APost N C env X c s l2 () s2 :=
 ⟨h.1, E.trans h.2.1, h.2.2.1, h.2.2.2.1.trans g, h.2.2.2.2.trans o⟩
theorem assign_sound (hh : A.handled = none) (K : CtxOk C env) (h1 : X env.locals) (h2 : l = false → ∀ x a, C.kind x = some .cell → env.cells.lookup x = some a → X a) : ∀ (n : Nat) (t : Expr) (tg : Tgt) (v : Value) (d : PV) (loc loc' : List PV) (s : Shared), compT l n C t = some tg → bindT tg d loc = some loc' → SR N c s.heap → LR N C env c s.heap loc → VRel N c.I v d →
  wpAny (model N.prog N.w) A (assign t env v) (APost N C env X c s loc') NoE s
 | 0, t, tg, v, d, loc, loc', s, h, _, _, _, _ => by cases h
 | n + 1, t, tg, v, d, loc, loc', s, h, hb, S, L, hv => by
  unfold compT at h
  split at h
  ·rename_i x pos
   split at h
   ·rename_i hk
    obtain ⟨i, hi, rfl⟩ := Option.map_eq_some_iff.mp h
    have hb' : (if i < loc.length then some (loc.set i d) else none) = some loc' := by simpa [bindT] using hb
    split at hb' <;> cases hb'
    exact wpAny_assign_Name (L.store K S hi (.inl ⟨hk, h1⟩) hv fun h' tk S' E' L' => ⟨S', E', L', rfl, rfl⟩)
   ·rename_i hk
    split at h
    ·cases h
    rename_i hf
    obtain ⟨i, hi, rfl⟩ := Option.map_eq_some_iff.mp h
    have hb' : (if i < loc.length then some (loc.set i d) else none) = some loc' := by simpa [bindT] using hb
    split at hb' <;> cases hb'
    exact wpAny_assign_Name (L.store K S hi (.inr ⟨hk, fun a => h2 (by simpa using hf) x a hk⟩) hv fun h' tk S' E' L' => ⟨S', E', L', rfl, rfl⟩)
   ·cases h
  ·rename_i es k pos
   obtain ⟨tgs, hm, rfl⟩ := Option.map_eq_some_iff.mp h
   cases d <;> simp only [bindT, reduceCtorEq] at hb
   rename_i ds
   obtain ⟨p, vs, rfl, hp, r, hz⟩ := tup_at S hv
   obtain ⟨a1, a2⟩ := assignEach_all (env := env) hm
   have all : ∀ (ts : List Expr) (tgs : List Tgt) (vs : List Value) (ds : List PV) (loc loc' : List PV) (s : Shared), mapO (compT l n C) ts = some tgs → bindTs tgs ds loc = some loc' → SR N c s.heap → LR N C env c s.heap loc → VRelL N c.I vs ds →
     wpAny (model N.prog N.w) A (assignInOrder ((assignEach ts env).map (·.2)) vs) (APost N C env X c s loc') NoE s ∧ tgs.length = ds.length := by
    intro ts
    induction ts with
    | nil =>
     intro tgs vs ds loc loc' s h hb S L r
     cases h
     cases ds with
     | nil =>
      cases r
      cases hb
      exact ⟨wpAny_pure ⟨S, Evo.refl _ _ _, L, rfl, rfl⟩, rfl⟩
     | cons _ _ => simp [bindTs] at hb
    | cons t ts ih =>
     intro tgs vs ds loc loc' s h hb S L r
     unfold mapO at h
     split at h
     ·rename_i y ys e1 e2
      cases h
      cases r with
      | nil => simp [bindTs] at hb
      | cons x r =>
       rename_i v d vs ds
       simp only [bindTs] at hb
       split at hb
       ·rename_i l1 hl1
        rw [assignEach_cons e1]
        have lens : ys.length = ds.length := by
         clear ih
         have : ∀ (ys : List Tgt) (ds : List PV) (l l' : List PV), bindTs ys ds l = some l' → ys.length = ds.length := by
          intro ys
          induction ys with
          | nil => intro ds l l' h; cases ds <;> simp [bindTs] at h ⊢
          | cons y ys ih =>
           intro ds l l' h
           cases ds with
           | nil => simp [bindTs] at h
           | cons d ds =>
            simp only [bindTs] at h
            split at h
            ·simp [ih _ _ _ h]
            ·cases h
         exact this _ _ _ _ hb
        refine ⟨?_, by simp [lens]⟩
        show wpAny _ A (holding vs (assign t env v) >>= fun _ => assignInOrder ((assignEach ts env).map (·.2)) vs) _ _ s
        refine wpAny_bind (wpAny_holding (wpAny_mono (assign_sound hh K h1 h2 n t y v d loc l1 s e1 hl1 S L x) (fun _ s1 h1' => ?_) fun _ _ e => e))
        obtain ⟨S1, E1, L1, g1, o1⟩ := h1'
        exact wpAny_mono (ih ys vs ds l1 loc' s1 e2 hb S1 L1 r).1 (fun _ _ z => z.trans E1 g1 o1) fun _ _ e => e
       ·cases hb
     ·cases h
   have hlen := (all es tgs vs ds loc loc' s hm hb S L r).2
   refine wpAny_assign_Tuple hh hp (by rw [a1, List.size_toArray, r.length, hlen]) a2 fun h' hs => ?_
   have hk : ∀ b o, s.heap.get? b = some o → h'.get? b = some o := fun b o e => hs b o (Nat.ne_of_lt (Heap.lt_size e)) e
   have E1 : Evo X c s.heap c h' := Evo.ext hk
   exact wpAny_mono (all es tgs vs ds loc loc' { s with heap := h' } hm hb (S.ext hk) (L.evo (Evo.ext hk)) r).1 (fun _ _ z => z.trans (s1 := { s with heap := h' }) E1 rfl rfl) fun _ _ e => e
  ·cases h
end Mine
end
section
namespace Mine
open PySem PySem.W PyProof.Rows PySem.Spec PyProof PySem.SeqAt
theorem slotOf_append (A B : List (Str × Nat)) (x : Str) : slotOf (A ++ B) x = (slotOf A x).or (slotOf B x) := by
 induction A with
 | nil => rfl
 | cons p A ih =>
  obtain ⟨y, i⟩ := p
  show (if y = x then some i else slotOf (A ++ B) x) = (if y = x then some i else slotOf A x).or (slotOf B x)
  split
  ·rfl
  ·exact ih
theorem lookup_relab (g : Str → NameKind → NameKind) : ∀ (l : List (Str × NameKind)) (x : Str), (l.map fun p => (p.1, g p.1 p.2)).lookup x = (l.lookup x).map (g x)
 | [], _ => rfl
 | (y, k) :: l, x => by
  rw [List.map_cons, List.lookup_cons, List.lookup_cons]
  by_cases h : x = y
  ·subst h; simp
  ·rw [beq_eq_false_iff_ne.mpr h]; exact lookup_relab g l x
def relK (C : Ctx) (n : Str) (k : NameKind) : NameKind := if (k == .free && C.scope.kind == .function && C.kind n == some .cell) then .cell else k
theorem relab_names (C : Ctx) (sc : Scope) : (C.relab sc).names = sc.names.map fun p => (p.1, relK C p.1 p.2) := by
 show sc.names.map _ = _
 apply List.map_congr_left
 rintro ⟨n, k⟩ _
 show (if _ then _ else _) = (n, relK C n k)
 unfold relK
 split <;> rfl
theorem inner_kind (C : Ctx) (sc : Scope) (x : Str) : (C.inner sc).kind x = (sc.names.lookup x).map (relK C x) := by
 show (C.relab sc).names.lookup x = _
 rw [relab_names]; exact lookup_relab _ _ _
def cloL (cells : List (Str × Addr)) : List (Str × NameKind) → List (Str × Addr) → List (Str × Addr)
 | [], acc => acc
 | (n, k) :: r, acc => cloL cells r (if k == .free then (match cells.lookup n with | some a => (n, a) :: acc | none => acc) else acc)
theorem closure_eq {sc : Scope} {env : Env} (hf : ∀ x ∈ sc.names, x.2 = .free → ∃ a, env.cells.lookup x.1 = some a) : closureFor sc env = pure (cloL env.cells sc.names []) := by
 unfold closureFor
 have : ∀ (names : List (Str × NameKind)) (acc : List (Str × Addr)), (∀ x ∈ names, x.2 = .free → ∃ a, env.cells.lookup x.1 = some a) →
   (forIn names acc fun x r => match x with | (name, kind) => if kind == .free then do pure (ForInStep.yield ((name, ← cellOf env name) :: r)) else pure (ForInStep.yield r) : Sem _) = pure (cloL env.cells names acc) := by
  intro names
  induction names with
  | nil => intro acc _; rfl
  | cons p r ih =>
   intro acc h
   obtain ⟨n, k⟩ := p
   rw [List.forIn_cons]
   unfold cloL
   by_cases hk : k = .free
   ·subst hk
    obtain ⟨a, ha⟩ := h (n, .free) (List.mem_cons_self ..) rfl
    have : cellOf env n = pure a := by unfold cellOf; rw [show env.cells.lookup n = some a from ha]
    simp only [beq_self_eq_true, if_true, this, pure_bind]
    rw [show env.cells.lookup n = some a from ha]
    exact ih _ fun x hx => h x (List.mem_cons_of_mem _ hx)
   ·have hk' : (k == NameKind.free) = false := beq_eq_false_iff_ne.mpr hk
    simp only [hk', Bool.false_eq_true, if_false, pure_bind]
    exact ih _ fun x hx => h x (List.mem_cons_of_mem _ hx)
 have q := this sc.names [] hf
 simp only [bind_pure]
 exact q
theorem clo_mem {cells : List (Str × Addr)} : ∀ (names : List (Str × NameKind)) (acc : List (Str × Addr)) (x : Str) (a : Addr), (x, a) ∈ cloL cells names acc → (x, a) ∈ acc ∨ ((x, NameKind.free) ∈ names ∧ cells.lookup x = some a)
 | [], _, _, _, h => .inl h
 | (n, k) :: r, acc, x, a, h => by
  unfold cloL at h
  have ih := clo_mem r _ x a h
  clear h
  rcases ih with g | g
  ·by_cases hk : k = .free
   ·subst hk
    simp only [beq_self_eq_true, if_true] at g
    cases hc : cells.lookup n with
    | none => rw [hc] at g; exact .inl g
    | some b =>
     rw [hc] at g
     rcases List.mem_cons.mp g with e | g
     ·cases e; exact .inr ⟨List.mem_cons_self .., hc⟩
     ·exact .inl g
   ·rw [if_neg (by simpa using hk)] at g; exact .inl g
  ·exact .inr ⟨List.mem_cons_of_mem _ g.1, g.2⟩
theorem clo_sub {cells : List (Str × Addr)} : ∀ (names : List (Str × NameKind)) (acc : List (Str × Addr)) (p : Str × Addr), p ∈ acc → p ∈ cloL cells names acc
 | [], _, _, h => h
 | (n, k) :: r, acc, p, h => by
  unfold cloL
  refine clo_sub r _ p ?_
  split
  ·split
   ·exact List.mem_cons_of_mem _ h
   ·exact h
  ·exact h
theorem clo_hit {cells : List (Str × Addr)} {x : Str} {a : Addr} (ha : cells.lookup x = some a) : ∀ (names : List (Str × NameKind)) (acc : List (Str × Addr)), (x, NameKind.free) ∈ names → (x, a) ∈ cloL cells names acc
 | [], _, h => by cases h
 | (n, k) :: r, acc, h => by
  unfold cloL
  rcases List.mem_cons.mp h with e | h
  ·cases e
   refine clo_sub r _ _ ?_
   simp [ha]
  ·exact clo_hit ha r _ h
theorem clo_nodup {cells : List (Str × Addr)} : ∀ (names : List (Str × NameKind)) (acc : List (Str × Addr)), (names.map (·.1)).Nodup → (acc.map (·.1)).Nodup → (∀ x, x ∈ acc.map (·.1) → x ∉ names.map (·.1)) → ((cloL cells names acc).map (·.1)).Nodup
 | [], _, _, h, _ => h
 | (y, k) :: r, acc, hn, ha, hd => by
  rw [List.map_cons, List.nodup_cons] at hn
  unfold cloL
  have old : ((cloL cells r acc).map (·.1)).Nodup := clo_nodup r _ hn.2 ha fun x hx hr => hd x hx (by rw [List.map_cons]; exact List.mem_cons_of_mem _ hr)
  split
  ·split
   ·refine clo_nodup r _ hn.2 ?_ ?_
    ·rw [List.map_cons, List.nodup_cons]
     exact ⟨fun h => hd y h (by simp), ha⟩
    ·intro x hx hr
     rw [List.map_cons] at hx
     rcases List.mem_cons.mp hx with q | q
     ·exact hn.1 (q ▸ hr)
     ·exact hd x q (by rw [List.map_cons]; exact List.mem_cons_of_mem _ hr)
   ·exact old
  ·exact old
theorem pairwise_of_nodup {α β : Type} : ∀ {l : List (α × β)}, (l.map (·.1)).Nodup → (∀ p ∈ l, ∀ q ∈ l, p.2 = q.2 → p.1 = q.1) → l.Pairwise fun x y => x.2 ≠ y.2
 | [], _, _ => .nil
 | p :: l, hn, h => by
  rw [List.map_cons, List.nodup_cons] at hn
  rw [List.pairwise_cons]
  refine ⟨fun q hq e => hn.1 ?_, pairwise_of_nodup hn.2 fun a ha b hb => h a (List.mem_cons_of_mem _ ha) b (List.mem_cons_of_mem _ hb)⟩
  rw [h p (List.mem_cons_self ..) q (List.mem_cons_of_mem _ hq) e]
  exact List.mem_map_of_mem hq
theorem nodupB_spec : ∀ {l : List Str}, nodupB l = true → l.Nodup
 | [], _ => List.nodup_nil
 | x :: r, h => by
  unfold nodupB at h
  rw [Bool.and_eq_true] at h
  rw [List.nodup_cons]
  refine ⟨fun hx => ?_, nodupB_spec h.2⟩
  have := h.1
  rw [Bool.not_eq_true', List.contains_eq_mem] at this
  simp [hx] at this
structure CompFact (C : Ctx) (sc : Scope) : Prop where
 kind : sc.kind = .function
 nocell : ∀ x k, (x, k) ∈ sc.names → k ≠ .cell
 dbg : ∀ x k, (x, k) ∈ sc.names → (x == ("__debug__" : Str)) = false ∧ (x == ("__classdict__" : Str)) = false
 free : ∀ x, (x, NameKind.free) ∈ sc.names → ∃ i, C.loc x = some i ∧ (C.kind x = some .cell ∨ C.kind x = some .free)
 nodup : (sc.names.map (·.1)).Nodup
 zero : slotOf C.slots ".0" = none
theorem compFact {C : Ctx} {sc : Scope} (h : compOk C sc = true) : CompFact C sc := by
 unfold compOk at h
 simp only [Bool.and_eq_true, List.all_eq_true] at h
 obtain ⟨⟨⟨h1, h2⟩, h3⟩, h4⟩ := h
 refine ⟨beq_iff_eq.mp h1, fun x k hx => ?_, fun x k hx => ?_, fun x hx => ?_, nodupB_spec h3, by simpa using h4⟩
 ·have := (h2 _ hx).1.1.1; simpa using this
 ·have a := (h2 _ hx).1.1.2; have b := (h2 _ hx).1.2
  exact ⟨by simpa using a, by simpa using b⟩
 ·have := (h2 _ hx).2
  simp only [bne_self_eq_false, Bool.false_or, Bool.and_eq_true, Bool.or_eq_true, beq_iff_eq] at this
  obtain ⟨i, hi⟩ := Option.isSome_iff_exists.mp this.1
  refine ⟨i, ?_, this.2⟩
  unfold Ctx.loc
  rcases this.2 with q | q <;> rw [q] <;> exact hi
theorem inner_env {C : Ctx} {env : Env} (K : CtxOk C env) (sc : Scope) : relabel sc env = C.relab sc := by
 unfold relabel Ctx.relab Ctx.kind Env.kindOf
 rw [K.sc]
theorem clo_lookup {env : Env} {sc : Scope} (hn : (sc.names.map (·.1)).Nodup) {x : Str} {a : Addr} (hx : (x, NameKind.free) ∈ sc.names) (ha : env.cells.lookup x = some a) : (cloL env.cells sc.names []).lookup x = some a :=
 lookup_of_mem (clo_nodup _ [] hn (by simp) (fun _ h => by cases h)) (clo_hit ha _ _ hx)
theorem clo_env {cells : List (Str × Addr)} {names : List (Str × NameKind)} {x : Str} {a : Addr} (h : (x, a) ∈ cloL cells names []) : (x, NameKind.free) ∈ names ∧ cells.lookup x = some a := by
 rcases clo_mem names [] x a h with h | h
 ·cases h
 ·exact h
theorem slots_local {C : Ctx} {sc : Scope} {x : Str} {i : Nat} (h : slotOf (compSlots sc C.n) x = some i) : C.n ≤ i ∧ i < C.n + (compSlots sc C.n).length ∧ (x, NameKind.local) ∈ sc.names ∧ ∀ y, slotOf (compSlots sc C.n) y = some i → y = x := by
 obtain ⟨h1, h2⟩ := slot_zip _ _ _ _ h
 refine ⟨h1, ?_, ?_, fun y hy => ?_⟩
 ·have := (List.getElem?_eq_some_iff.mp h2).1
  unfold compSlots
  rw [List.length_zipIdx]
  omega
 ·obtain ⟨⟨z, k⟩, hz, rfl⟩ := List.mem_map.mp (List.mem_of_getElem? h2)
  obtain ⟨hz, hp⟩ := List.mem_filter.mp hz
  simp only [Bool.and_eq_true, beq_iff_eq] at hp
  rw [← hp.1]; exact hz
 ·have := (slot_zip _ _ _ _ hy).2
  rw [h2] at this
  exact (Option.some.inj this).symm
theorem inner_ctx {C : Ctx} {env : Env} {sc : Scope} {La : Addr} (K : CtxOk C env) (Fc : CompFact C sc) (hLa : ∀ x a, (x, a) ∈ env.cells → a ≠ La) : CtxOk (C.inner sc) (compEnvC sc (cloL env.cells sc.names []) La env) where
 fn := Fc.kind
 sc := inner_env K sc
 inj := fun x y i hx hy => by
  have hx' : (slotOf (compSlots sc C.n) x).or (slotOf C.slots x) = some i := by rw [← slotOf_append]; exact hx
  have hy' : (slotOf (compSlots sc C.n) y).or (slotOf C.slots y) = some i := by rw [← slotOf_append]; exact hy
  cases ex : slotOf (compSlots sc C.n) x with
  | some j =>
   rw [ex] at hx'; cases hx'
   obtain ⟨a1, a2, a3, a4⟩ := slots_local ex
   cases ey : slotOf (compSlots sc C.n) y with
   | some j' => rw [ey] at hy'; cases hy'; exact (a4 y ey).symm
   | none => rw [ey] at hy'; have := K.lt y i hy'; omega
  | none =>
   rw [ex] at hx'
   cases ey : slotOf (compSlots sc C.n) y with
   | some j' => rw [ey] at hy'; cases hy'; have := (slots_local ey).1; have := K.lt x i hx'; omega
   | none => rw [ey] at hy'; exact K.inj x y i hx' hy'
 lt := fun x i hx => by
  have hx' : (slotOf (compSlots sc C.n) x).or (slotOf C.slots x) = some i := by rw [← slotOf_append]; exact hx
  show i < C.n + (compSlots sc C.n).length
  cases ex : slotOf (compSlots sc C.n) x with
  | some j => rw [ex] at hx'; cases hx'; exact (slots_local ex).2.1
  | none => rw [ex] at hx'; have := K.lt x i hx'; omega
 apart := pairwise_of_nodup (clo_nodup _ [] Fc.nodup (by simp) (fun _ h => by cases h)) fun p hp q hq e => by
  have h1 := (clo_env (x := p.1) (a := p.2) hp).2
  have h2 := (clo_env (x := q.1) (a := q.2) hq).2
  exact name_of_addr K.apart (mem_of_lookup h1) (by rw [e]; exact mem_of_lookup h2)
 off := fun x a h => hLa x a (mem_of_lookup (clo_env h).2)
 cell := fun x i _ hk => by
  rw [inner_kind] at hk
  have : (x, NameKind.free) ∈ sc.names := by
   cases hl : sc.names.lookup x with
   | none => rw [hl] at hk; rcases hk with h | h <;> cases h
   | some k =>
    rw [hl] at hk
    have hm := mem_of_lookup hl
    have hc := Fc.nocell x k hm
    by_cases hf : k = .free
    ·subst hf; exact hm
    ·have : relK C x k = k := by unfold relK; rw [if_neg (by simp [hf])]
     simp only [Option.map_some, this, Option.some.injEq] at hk
     rcases hk with h | h
     ·exact absurd h hc
     ·exact absurd h hf
  obtain ⟨j, hj, hkk⟩ := Fc.free x this
  obtain ⟨a, ha⟩ := K.cell x j (loc_cases hj).1 hkk
  exact ⟨a, clo_lookup Fc.nodup this ha⟩
 names := fun x k hk => by
  rw [inner_kind] at hk
  obtain ⟨k', hk', -⟩ := Option.map_eq_some_iff.mp hk
  exact Fc.dbg x k' (mem_of_lookup hk')
theorem slot_of_mem : ∀ (l : List Str) (n : Nat) (x : Str), x ∈ l → ∃ i, slotOf (l.zipIdx n) x = some i
 | [], _, _, h => by cases h
 | y :: l, n, x, h => by
  rw [List.zipIdx_cons]
  unfold slotOf
  by_cases e : y = x
  ·rw [if_pos e]; exact ⟨_, rfl⟩
  ·rw [if_neg e]
   rcases List.mem_cons.mp h with q | q
   ·exact absurd q.symm e
   ·exact slot_of_mem l (n + 1) x q
theorem inner_loc {C : Ctx} {env : Env} {sc : Scope} (K : CtxOk C env) (Fc : CompFact C sc) {x : Str} {i : Nat} (h : (C.inner sc).loc x = some i) (hi : i < C.n) : (x, NameKind.free) ∈ sc.names ∧ C.loc x = some i := by
 obtain ⟨hs, hk⟩ := loc_cases h
 have hs' : (slotOf (compSlots sc C.n) x).or (slotOf C.slots x) = some i := by rw [← slotOf_append]; exact hs
 cases ex : slotOf (compSlots sc C.n) x with
 | some j => rw [ex] at hs'; cases hs'; have := (slots_local ex).1; omega
 | none =>
  rw [ex] at hs'
  have key : (x, NameKind.free) ∈ sc.names ∨ (x, NameKind.local) ∈ sc.names := by
   rw [inner_kind] at hk
   cases hl : sc.names.lookup x with
   | none => rw [hl] at hk; rcases hk with h | h | h <;> cases h
   | some k =>
    rw [hl] at hk
    have hm := mem_of_lookup hl
    have hc := Fc.nocell x k hm
    cases k with
    | free => exact .inl hm
    | «local» => exact .inr hm
    | cell => exact absurd rfl hc
    | _ => simp [relK] at hk
  rcases key with key | key
  ·obtain ⟨j, hj, hkk⟩ := Fc.free x key
   have := (loc_cases hj).1
   have hs'' : slotOf C.slots x = some i := hs'
   rw [hs''] at this
   cases this
   exact ⟨key, hj⟩
  ·exfalso
   have hz : x ≠ ".0" := fun z => by
    have hs'' : slotOf C.slots x = some i := hs'
    rw [z, Fc.zero] at hs''; cases hs''
   have hm : x ∈ (sc.names.filter fun x => x.2 == .local && x.1 != (".0" : Str)).map (·.1) :=
    List.mem_map.mpr ⟨(x, .local), List.mem_filter.mpr ⟨key, by simp [hz]⟩, rfl⟩
   obtain ⟨j, hj⟩ := slot_of_mem _ C.n x hm
   have : slotOf (compSlots sc C.n) x = some j := hj
   rw [ex] at this; cases this
theorem inner_LR {N : Nm} {C : Ctx} {env : Env} {sc : Scope} {La : Addr} {c : Cfg} {h h' : Heap} {loc : List PV} {m : Str → Option Value} (K : CtxOk C env) (Fc : CompFact C sc) (L : LR N C env c h loc) (hns : h'.Ns La m) (hk : ∀ b o, h.get? b = some o → h'.get? b = some o)
  (hLa : ¬Foot c La ∧ c.I La = none) (ex : List PV) (hex : ex.length = (compSlots sc C.n).length) (hu : ∀ (i : Nat) (v : PV), ex[i]? = some v → v = .undef) : LR N (C.inner sc) (compEnvC sc (cloL env.cells sc.names []) La env) c h' (loc ++ ex) where
 ns := ⟨m, hns⟩
 cells := fun x a hx => by
  obtain ⟨v, o, e, r⟩ := L.cells x a (mem_of_lookup (clo_env hx).2)
  exact ⟨v, o, hk _ _ e, r⟩
 len := by
  rw [List.length_append, L.len, hex]
  rfl
 vars := fun x i v hl hv hvu => by
  by_cases hi : i < C.n
  ·obtain ⟨hf, hl'⟩ := inner_loc K Fc hl hi
   rw [List.getElem?_append_left (by rw [L.len]; exact hi)] at hv
   obtain ⟨j, hj, hkk⟩ := Fc.free x hf
   rw [hl'] at hj; cases hj
   obtain ⟨cv, hcv, r⟩ := L.vars x i v hl' hv hvu
   refine ⟨cv, ?_, r⟩
   rcases hcv with ⟨k, _⟩ | ⟨k, a, ha, o, e, q⟩
   ·rw [K.kind x] at k
    rcases hkk with z | z <;> rw [z] at k <;> cases k
   ·refine .inr ⟨?_, a, clo_lookup Fc.nodup hf ha, o, hk _ _ e, q⟩
    show (relabel sc env).names.lookup x = _ ∨ (relabel sc env).names.lookup x = _
    rw [inner_env K sc, relab_names, lookup_relab, lookup_of_mem Fc.nodup hf]
    show some (relK C x .free) = _ ∨ some (relK C x .free) = _
    unfold relK
    split <;> simp
  ·rw [List.getElem?_append_right (by rw [L.len]; omega)] at hv
   exact absurd (hu _ _ hv) hvu
 off := fun b o => by
  rcases o with rfl | ⟨x, hx⟩
  ·exact hLa
  ·exact L.off b (.inr ⟨x, mem_of_lookup (clo_env hx).2⟩)
section
variable {P : Prg} {A : Around} {s : Shared}
theorem compLoop_gen {elt target iter : Expr} {ifs : List Expr} {scope : Scope} {pos : Pos} {it acc : Value} {env : Env} {R : Result → Shared → Prop} (I : Nat → Shared → Prop)
  (turn : ∀ n s, I n s → wpAny (model P.N.prog P.N.w) A (pyNext it) (fun r s₁ => match r with
   | none => R (.ok .next) s₁
   | some v => wpAny (model P.N.prog P.N.w) A (letOwnedTupleGo target it v) (fun _ s₁' => wpAny (model P.N.prog P.N.w) A (assign target env v) (fun _ s₂ =>
     wpAny (model P.N.prog P.N.w) A (forIn ifs true fun c r => if r = true then do let ok ← isTrue c env (eval c env); pure (ForInStep.yield ok) else pure (ForInStep.yield r)) (fun ok s₃ =>
      if ok = true then wpAny (model P.N.prog P.N.w) A (eval elt env) (fun x s₄ =>
       wpAny (model P.N.prog P.N.w) A (call (.builtin "list.append") [acc, x]) (fun _ s₅ => ∃ m, m < n ∧ I m s₅) NoE s₄) NoE s₃
      else ∃ m, m < n ∧ I m s₃) NoE s₂) NoE s₁') NoE s₁) NoE s)
  (n : Nat) (h : I n s) : codeAny (model P.N.prog P.N.w) A (.compLoop (.ListComp elt [⟨target, iter, ifs, 0⟩] scope pos) 0 it acc env) R s := by
 refine codeAny_loop rfl I (fun n s hI => ?_) n h
 show wpAny _ A ((compTurn (.ListComp elt [⟨target, iter, ifs, 0⟩] scope pos) 0 it acc env).onRaise (fun x => do noteFrame x env; theTreesLotGoes x)) _ _ s
 refine wpAny_noted ?_
 rw [compTurn_list]
 refine wpAny_bind (wpAny_standAt (wpAny_bind (wpAny_mono (turn n s hI) (fun r s₁ h₁ => ?_) fun _ _ e => e.elim)))
 cases r with
 | none => exact wpAny_pure h₁
 | some v =>
  refine wpAny_bind (wpAny_mono h₁ (fun _ s₁' h₁' => ?_) fun _ _ e => e.elim)
  refine wpAny_bind (wpAny_mono h₁' (fun _ s₂ h₂ => wpAny_bind (wpAny_mono h₂ (fun ok s₃ h₃ => ?_) fun _ _ e => e.elim)) fun _ _ e => e.elim)
  cases ok with
  | false => exact wpAny_pure ⟨rfl, h₃⟩
  | true =>
   exact wpAny_bind (wpAny_bind (wpAny_mono h₃ (fun x s₄ h₄ => wpAny_bind (wpAny_mono h₄ (fun _ s₅ h₅ => wpAny_pure (wpAny_pure ⟨rfl, h₅⟩)) fun _ _ e => e.elim)) fun _ _ e => e.elim))
end
end Mine
end
section
namespace Mine
open PySem PySem.W PyProof.Rows PySem.Spec PyProof PySem.SeqAt
theorem Evo.addFresh {Z : Addr → Prop} {c0 c : Cfg} {h0 h : Heap} {a : Addr} {o : Obj} (E : Evo Z c0 h0 c h) (ni : c.I a = none) (hn : h0.get? a = none) : Evo Z c0 h0 (c.addI a o) h where
 inc := fun b o' e => by
  show (if b = a then some o else c.I b) = some o'
  have := E.inc b o' e
  rw [if_neg]; exact this
  intro z; rw [z, ni] at this; cases this
 keep := E.keep
 live := E.live
 foot := E.foot
 inew := fun b o' q => by
  have q' : (if b = a then some o else c.I b) = some o' := q
  split at q'
  ·rename_i z; exact .inr (.inr (by rw [z]; exact hn))
  ·exact E.inew b o' q'
theorem addI_inc {c : Cfg} {a : Addr} {o : Obj} (ni : c.I a = none) : ∀ b o', c.I b = some o' → (c.addI a o).I b = some o' := fun b o' e => by
 show (if b = a then some o else c.I b) = some o'
 rw [if_neg]; exact e
 intro z; rw [z, ni] at e; cases e
theorem SR.putAt {N : Nm} {c : Cfg} {h : Heap} {a : Addr} {l : List PV} (S : SR N c h) (nf : ¬Foot c a) (ni : c.I a = none) (e : ObjAt N c.I c.D h a (.list l)) : SR N (c.put a (.list l)) h := by
 have old : ∀ a' C fs, (c.put a (.list l)).σ a' = some (.inst C fs) → c.σ a' = some (.inst C fs) := fun a' C fs q => by
  have q' : (if a' = a then some (AObj.list l) else c.σ a') = some (.inst C fs) := q
  split at q'
  ·cases q'
  ·exact q'
 refine ⟨S.fr, fun b y q => ?_, fun b f => ?_, fun a' C fs q => ?_, fun a' C fs a'' C' fs' q q' => S.dd a' C fs a'' C' fs' (old _ _ _ q) (old _ _ _ q'), S.stat⟩
 ·have q' : (if b = a then some (AObj.list l) else c.σ b) = some y := q
  split at q'
  ·rename_i z; cases q'; subst z; exact e
  ·exact S.st b y q'
 ·by_cases z : b = a
  ·subst z; exact ni
  ·refine S.ni b ?_
   rcases f with f | ⟨a', C, fs, q, rfl⟩
   ·exact .inl (by simpa [Cfg.put, Sto.set, z] using f)
   ·exact .inr ⟨a', C, fs, old _ _ _ q, rfl⟩
 ·show (if c.D a' = a then some (AObj.list l) else c.σ (c.D a')) = none
  rw [if_neg]; exact S.dj a' C fs (old _ _ _ q)
  intro z; exact nf (.inr ⟨a', C, fs, old _ _ _ q, z⟩)
theorem Evo.putFresh {Z : Addr → Prop} {c0 c : Cfg} {h0 h : Heap} {a : Addr} {l : List PV} (E : Evo Z c0 h0 c h) (hn : h0.get? a = none) : Evo Z c0 h0 (c.put a (.list l)) h where
 inc := E.inc
 keep := E.keep
 live := E.live
 foot := fun b f => by
  by_cases z : b = a
  ·exact .inr (by rw [z]; exact hn)
  ·refine E.foot b ?_
   rcases f with f | ⟨a', C, fs, q, rfl⟩
   ·exact .inl (by simpa [Cfg.put, Sto.set, z] using f)
   ·have q' : (if a' = a then some (AObj.list l) else c.σ a') = some (.inst C fs) := q
    split at q'
    ·cases q'
    ·exact .inr ⟨a', C, fs, q', rfl⟩
 inew := E.inew
section
variable {P : Prg} {Sx : Spec} {r n : Nat} {C : Ctx} {env : Env} {A : Around} {c : Cfg} {s : Shared} {loc : List PV} {Q : KV}
theorem tests_false {cs : List Expr} {K : Bool → Shared → Prop} (h : K false s) : wpAny (model P.N.prog P.N.w) A (forIn cs false fun c r => if r = true then do let ok ← isTrue c env (eval c env); pure (ForInStep.yield ok) else pure (ForInStep.yield r)) K NoE s := by
 induction cs with
 | nil => rw [List.forIn_nil]; exact wpAny_pure h
 | cons c cs ih => rw [List.forIn_cons]; exact wpAny_bind (wpAny_pure ih)
theorem conds_sound (IT : TestAt P Sx r n) (X : XOk P C env A r) : ∀ (ifs : List Expr) (cs : List ME) (c : Cfg) (s : Shared) (R : Bool → Sto → Prop), mapO (compE n C false) ifs = some cs → SR P.N c s.heap → LR P.N C env c s.heap loc → condsA P.T Sx cs loc c.σ R →
  wpAny (model P.N.prog P.N.w) A (forIn ifs true fun c r => if r = true then do let ok ← isTrue c env (eval c env); pure (ForInStep.yield ok) else pure (ForInStep.yield r)) (BPost P.N c s R) NoE s
 | [], cs, c, s, R, h, S, L, q => by
  cases h
  simp only [condsA] at q
  rw [List.forIn_nil]
  exact wpAny_pure ⟨c, S, Evo.refl _ _ _, q, rfl, rfl⟩
 | e :: ifs, cs, c, s, R, h, S, L, q => by
  unfold mapO at h
  split at h
  ·rename_i y ys h1 h2
   cases h
   simp only [condsA] at q
   rw [List.forIn_cons]
   refine wpAny_bind (wpAny_bind (wpAny_mono (IT C env false e y A c s loc (fun b σ => if b = true then condsA P.T Sx ys loc σ R else R false σ) X h1 S L q) (fun b s1 hb => wpAny_pure ?_) fun _ _ e => e))
   obtain ⟨c1, S1, E1, q1, g1, o1⟩ := hb
   cases b with
   | false => exact tests_false ⟨c1, S1, E1, q1, g1, o1⟩
   | true => exact wpAny_mono (conds_sound IT X ifs ys c1 s1 R h2 S1 (L.evo E1) q1) (fun _ _ z => z.trans E1 g1 o1) fun _ _ e => e
  ·cases h
theorem foot_back {c c' : Cfg} {h h' : Heap} {X : Addr → Prop} (E : Evo X c h c' h') {b : Addr} (nf : ¬Foot c b) (ni : c.I b = none) (e : ∃ o, h.get? b = some o) : ¬Foot c' b ∧ c'.I b = none := by
  obtain ⟨o, e⟩ := e
  refine ⟨fun f => (E.foot b f).elim nf fun z => (by rw [z] at e; cases e), ?_⟩
  cases q : c'.I b with
  | none => rfl
  | some y => rcases E.inew b y q with z | z | z
              · rw [ni] at z; cases z
              · exact absurd z nf
              · rw [z] at e; cases e
theorem ItRel.watch {N : Nm} {c : Cfg} {h : Heap} {W : Addr → Prop} {it : Addr} {b : Bool} {K : Sto → Prop} {items : List PV} (I : ItRel N c h W it b K items) : K c.σ := by
 cases I with
 | fro => trivial
 | liv _ _ q => exact q
 | rng => trivial
 | enu => trivial
 | zip => trivial
theorem iter_self {N : Nm} {A : Around} {c : Cfg} {s : Shared} {W : Addr → Prop} {it : Addr} {b : Bool} {K : Sto → Prop} {items : List PV} {R : Value → Shared → Prop} {E : Value → Shared → Prop} (I : ItRel N c s.heap W it b K items) (h : R (.ref it) s) :
  wpAny (model N.prog N.w) A (pyIter (.ref it)) R E s := by
 cases I with
 | fro w hi _ _ _ => exact wpAny_pyIter_listiter hi h
 | liv w hi _ => exact wpAny_pyIter_listiter hi h
 | rng w hi => exact wpAny_pyIter_rangeiter hi h
 | enu w ne he _ _ _ _ => exact wpAny_pyIter_enum he h
 | zip w D hz _ _ _ _ _ _ _ _ _ _ => exact wpAny_pyIter_zip hz h
theorem inner_same {sc : Scope} (X : CSame P C) : CSame P (C.inner sc) := ⟨X.fns, X.globs, X.clss, X.attrs, X.meths, X.txts⟩
structure Turn (P : Prg) (Sx : Spec) (C : Ctx) (env : Env) (W : Addr → Prop) (itA D La : Addr) (b : Bool) (K : Sto → Prop) (c : Cfg) (s : Shared) (loc : List PV) (m : Bool) (body : PV → Sto → (List PV → Sto → Prop) → Prop) (Q : KV)
  (c' : Cfg) (rest acc : List PV) (vs : List Value) (kk : Nat) (s' : Shared) : Prop where
 S : SR P.N c' s'.heap
 E : Evo NoX c s.heap c' s'.heap
 I : ItRel P.N c' s'.heap W itA b K rest
 w : ∀ x, W x → ¬Foot c' x ∧ c'.I x = none
 d : s'.heap.get? D = some (listOf vs.toArray kk)
 r : VRelL P.N c'.I vs acc
 dn : ¬Foot c' D ∧ c'.I D = none
 L : LR P.N C env c' s'.heap loc
 la : ∃ mm, s'.heap.Ns La mm
 lan : ¬Foot c' La ∧ c'.I La = none
 len : acc.length + rest.length ≤ big
 q : eachA body K rest acc c'.σ fun l σ => alloc m l σ Q
 g : s'.gens = s.gens
 o : s'.os = s.os
theorem comp_core {use : Option (Value → Sem Unit)} {Q' : Value → Shared → Prop} {p0 : Pos} {elt t it : Expr} {ifs : List Expr} {sc : Scope} {pos : Pos} {e' : ME} {t' : Tgt} {mi : MI} {cs : List ME} {m : Bool} (F : PrgOk P) (IH : EvalAt P Sx r n) (IT : TestAt P Sx r n) (X : XOk P C env A r) (S : SR P.N c s.heap) (L : LR P.N C env c s.heap loc)
  (hok : compOk C sc = true) (ht : compT true n (C.inner sc) t = some t') (he : compE n (C.inner sc) false elt = some e') (hcs : mapO (compE n (C.inner sc) false) ifs = some cs) (hi : compIt (compE n C false) C it = some mi) (htup : tupOnly mi = true → isTup t = true)
  (h : evalA P.T Sx (.comp m (compSlots sc C.n).length e' t' mi cs) loc c.σ Q)
  (fin0 : ∀ (acc : Value) (La : Addr) (c6 : Cfg) (s6 : Shared) (d : PV), SR P.N c6 s6.heap → Evo NoX c s.heap c6 s6.heap → VRel P.N c6.I acc d → Q d c6.σ → s6.gens = s.gens → s6.os = s.os → (∃ m, s6.heap.Ns La m) → ¬Foot c6 La ∧ c6.I La = none → s.heap.get? La = none →
   compPost (model P.N.prog P.N.w) A NoE use Q' acc La (.ok .next) s6) :
  wpAny (model P.N.prog P.N.w) A (comprehension (.ListComp elt [⟨t, it, ifs, 0⟩] sc pos) sc env p0 (newList []) false (eval it env) use) Q' NoE s := by
 simp only [evalA] at h
 have Fc := compFact hok
 have hset : ∀ x, foldedSetIterable it env x = pure x := fun x => by
  cases it <;> first | rfl | (exfalso; simp [compIt, compE_set] at hi)
 refine wpAny_comprehension_free rfl hset (closure_eq (env := env) fun x hx hf => ?_) Fc.kind (fun x hx hl => ?_) ?_
 ·obtain ⟨y, k⟩ := x
  simp only at hf; subst hf
  obtain ⟨i, hi', hk⟩ := Fc.free y hx
  exact X.ctx.cell y i (loc_cases hi').1 hk
 ·obtain ⟨y, k⟩ := x
  simp only at hl; subst hl
  exact lookup_of_mem Fc.nodup hx
 refine wpAny_mono (iter_sound F IH X S L hi h) (fun xv s1 h1 => wpAny_mono h1 (fun iv s2 h2 => ?_) fun _ _ e => e) fun _ _ e => e
 obtain ⟨itA, W, K, items, c2, rfl, S2, E2, I2, w2, lenI, q2, g2, o2⟩ := h2
 refine wpAny_newObj_type (wpAny_newFunctionEnv (fun x hx => Fc.nocell x.1 x.2 hx) (by intro y hy; simp at hy) (fun h₁ hns₁ hsb₁ => ?_) Fc.kind)
 dsimp only at hns₁ hsb₁ ⊢
 generalize hH2 : s2.heap.push { cls := .type "list", dict := none, data := .seq ([] : List Value).toArray } = H2 at hns₁ hsb₁ ⊢
 have hC : H2.objs.size = s2.heap.objs.size + 1 := by rw [← hH2, Heap.size_push]
 have hDC : s2.heap.objs.size ≠ H2.objs.size := by rw [hC]; exact Nat.ne_of_lt (Nat.lt_succ_self _)
 have old : ∀ b o, s2.heap.get? b = some o → h₁.get? b = some o := fun b o e => hsb₁.extBut b o (by rw [hC]; exact Nat.ne_of_lt (Nat.lt_succ_of_lt (Heap.lt_size e))) (Heap.get?_push_of_some _ (hH2 ▸ Heap.get?_push_of_some _ e))
 have hacc : h₁.get? s2.heap.objs.size = some (listOf ([] : List Value).toArray 0) := hsb₁.extBut _ _ hDC (Heap.get?_push_of_some _ (hH2 ▸ Heap.get?_push_size _ rfl))
 obtain ⟨fD, nD, iD⟩ := wfresh S2 E2 (Nat.le_refl s2.heap.objs.size)
 obtain ⟨fL, nL, iL⟩ := wfresh S2 E2 (b := H2.objs.size) (by rw [hC]; exact Nat.le_succ _)
 have eD2 : s2.heap.get? s2.heap.objs.size = none := get_size_none _
 have eL2 : s2.heap.get? H2.objs.size = none := by
  cases q : s2.heap.get? H2.objs.size with
  | none => rfl
  | some o => have := Heap.lt_size q; rw [hC] at this; exact absurd this (Nat.not_lt.mpr (Nat.le_succ _))
 have nWD : ¬W s2.heap.objs.size := fun w => by obtain ⟨o, e⟩ := I2.live _ w; rw [eD2] at e; cases e
 have nWL : ¬W H2.objs.size := fun w => by obtain ⟨o, e⟩ := I2.live _ w; rw [eL2] at e; cases e
 have ownOld : ∀ b, Own env b → ∃ o, s.heap.get? b = some o := fun b o => L.own_some o
 have ctx := inner_ctx (La := H2.objs.size) X.ctx Fc (fun x a ha z => by
  obtain ⟨o, e⟩ := ownOld a (.inr ⟨x, ha⟩); rw [z, fL] at e; cases e)
 have X' : XOk P (C.inner sc) (compEnvC sc (cloL env.cells sc.names []) H2.objs.size env) A r := ⟨inner_same X.same, ctx, ⟨Fc.kind, X.g.gl, X.g.bi⟩, X.a⟩
 have hh := X.a.h
 have loop : codeAny (model P.N.prog P.N.w) A (.compLoop (.ListComp elt [⟨t, it, ifs, 0⟩] sc pos) 0 (.ref itA) (.ref s2.heap.objs.size) (compEnvC sc (cloL env.cells sc.names []) H2.objs.size env))
   (compPost (model P.N.prog P.N.w) A NoE use Q' (.ref s2.heap.objs.size) H2.objs.size) { s2 with heap := h₁, toks := s2.toks + ([] : List (Str × Value)).length } := by
  refine compLoop_gen (fun k s' => ∃ c' rest acc vs kk, rest.length = k ∧ Turn P Sx C env W itA s2.heap.objs.size H2.objs.size (tupOnly mi) K c s loc m (fun x σ' R => bindA t' x (loc ++ List.replicate (compSlots sc C.n).length .undef) fun loc' =>
    condsA P.T Sx cs loc' σ' fun ok σ₂ => if ok then evalA P.T Sx e' loc' σ₂ fun v σ₃ => R [v] σ₃ else R [] σ₂) Q c' rest acc vs kk s') (fun k s' hJ => ?_) items.length
   ⟨c2, items, [], [], 0, rfl, S2.ext old, E2.trans (Evo.ext old), I2.evo (X := NoX) (Evo.ext old) (fun b w => ⟨(w2 b w).2.1, id⟩) ?_, fun b w => (w2 b w).2, hacc, .nil, ⟨nD, iD⟩, (L.evo E2).evo (Evo.ext old), ⟨_, hns₁⟩, ⟨nL, iL⟩, by simpa using lenI, q2, g2, o2⟩
  ·-- one turn
   obtain ⟨c', rest, acc, vs, kk, hlen, T⟩ := hJ
   refine wpAny_mono (next_sound (target := t) (E' := NoE) hh T.S T.I T.w htup) (fun rv s1 h1 => ?_) fun _ _ e => e
   cases rv with
   | none =>
    obtain ⟨rfl, S1, st, g1, o1⟩ := h1
    obtain ⟨mm, hmm⟩ := T.la
    have nsW : s1.heap.Ns H2.objs.size mm := let ⟨o, es, ep, e, r⟩ := hmm; ⟨o, es, ep, st.hk _ _ nWL e, r⟩
    have d1 := st.hk _ _ nWD T.d
    have E1 := T.E.stp st (fun b w => (w2 b w).1)
    have q := T.q
    simp only [eachA] at q
    cases m with
    | false =>
     have S4 := S1.addAt T.dn.1 T.dn.2 d1
     refine fin0 _ _ _ s1 _ S4 (E1.addFresh T.dn.2 fD) (.list (by show (if _ = _ then some _ else _) = some _; rw [if_pos rfl]) ⟨by rw [T.r.length]; exact q.1, kk, rfl⟩ (T.r.mono ?_)) q.2 (g1.trans T.g) (o1.trans T.o) ⟨mm, nsW⟩ ⟨T.lan.1, ?_⟩ fL
     ·exact addI_inc T.dn.2
     ·show (if _ = _ then some _ else _) = none
      rw [if_neg (fun z => hDC z.symm)]; exact T.lan.2
    | true =>
     have S4 := S1.putAt (l := acc) T.dn.1 T.dn.2 ⟨_, vs, d1, ⟨by rw [T.r.length]; exact q.1, kk, rfl⟩, T.r⟩
     have hσ : c'.σ s2.heap.objs.size = none := by
      cases z : c'.σ s2.heap.objs.size with
      | none => rfl
      | some _ => exact absurd (.inl (by rw [z]; simp)) T.dn.1
     refine fin0 _ _ _ s1 _ S4 (E1.putFresh fD) (.obj _) (q.2 _ hσ) (g1.trans T.g) (o1.trans T.o) ⟨mm, nsW⟩ ⟨fun f => ?_, T.lan.2⟩ fL
     refine T.lan.1 ?_
     rcases f with f | ⟨a', C', fs, q', z⟩
     ·exact .inl (by
       have : (if H2.objs.size = s2.heap.objs.size then some (AObj.list acc) else c'.σ H2.objs.size) ≠ none := f
       rw [if_neg (fun z => hDC z.symm)] at this; exact this)
     ·have q'' : (if a' = s2.heap.objs.size then some (AObj.list acc) else c'.σ a') = some (.inst C' fs) := q'
      split at q''
      ·cases q''
      ·exact .inr ⟨a', C', fs, q'', z⟩
   | some v =>
    obtain ⟨x, rest', rfl, h1⟩ := h1
    refine wpAny_mono h1 (fun _ s2' h2 => ?_) fun _ _ e => e
    obtain ⟨c3, S3, st, rx, I3, g3, o3⟩ := h2
    have E3 : Evo NoX c s.heap c3 s2'.heap := T.E.stp st (fun b w => (w2 b w).1)
    have L3 := T.L.stp st (fun b o w => by obtain ⟨z, e⟩ := ownOld b o; rw [(w2 b w).1] at e; cases e)
    obtain ⟨mm, hmm⟩ := T.la
    have ns3 : s2'.heap.Ns H2.objs.size mm := let ⟨o, es, ep, e, r⟩ := hmm; ⟨o, es, ep, st.hk _ _ nWL e, r⟩
    have q := T.q
    simp only [eachA] at q
    rw [← st.sig] at q
    obtain ⟨l1, hl1, q⟩ := q
    have lan3 : ¬Foot c3 H2.objs.size ∧ c3.I H2.objs.size = none := by
     refine ⟨fun f => T.lan.1 (st.foot.mp f), ?_⟩
     cases z : c3.I H2.objs.size with
     | none => rfl
     | some y =>
      rcases st.inew _ _ z with z' | z'
      ·rw [T.lan.2] at z'; cases z'
      ·obtain ⟨o, _, _, e, _⟩ := hmm; rw [e] at z'; cases z'
    have dn3 : ¬Foot c3 s2.heap.objs.size ∧ c3.I s2.heap.objs.size = none := by
     refine ⟨fun f => T.dn.1 (st.foot.mp f), ?_⟩
     cases z : c3.I s2.heap.objs.size with
     | none => rfl
     | some y =>
      rcases st.inew _ _ z with z' | z'
      ·rw [T.dn.2] at z'; cases z'
      ·rw [T.d] at z'; cases z'
    have d3 := st.hk _ _ nWD T.d
    have LI := inner_LR X.ctx Fc L3 ns3 (fun _ _ e => e) lan3 (List.replicate (compSlots sc C.n).length .undef) (by simp) (fun i v e => by rw [List.getElem?_replicate] at e; split at e <;> simp_all)
    refine wpAny_mono (assign_sound (l := true) (X := fun b => b = H2.objs.size) hh ctx rfl (fun z => by cases z) n t t' v x _ l1 s2' ht hl1 S3 LI rx) (fun _ s4 h4 => ?_) fun _ _ e => e
    obtain ⟨S4, E4, L4, g4, o4⟩ := h4
    refine wpAny_mono (conds_sound IT X' ifs cs c3 s4 _ hcs S4 L4 q) (fun ok s5 h5 => ?_) fun _ _ e => e
    obtain ⟨c5, S5, E5, q5, g5, o5⟩ := h5
    have fin : ∀ (c6 : Cfg) (s6 : Shared) (acc' : List PV) (vs' : List Value) (kk' : Nat), SR P.N c6 s6.heap → Evo (fun b => b = H2.objs.size ∨ b = s2.heap.objs.size) c3 s2'.heap c6 s6.heap → s6.heap.get? s2.heap.objs.size = some (listOf vs'.toArray kk') → VRelL P.N c6.I vs' acc' →
      (∃ mm, s6.heap.Ns H2.objs.size mm) → acc'.length + rest'.length ≤ big → K c6.σ → eachA (fun x σ' R => bindA t' x (loc ++ List.replicate (compSlots sc C.n).length .undef) fun loc' => condsA P.T Sx cs loc' σ' fun ok σ₂ => if ok then evalA P.T Sx e' loc' σ₂ fun v σ₃ => R [v] σ₃ else R [] σ₂) K rest' acc' c6.σ (fun l σ => alloc m l σ Q) →
      s6.gens = s2'.gens → s6.os = s2'.os → ∃ mm, mm < k ∧ ∃ c' rest acc vs kk, rest.length = mm ∧ Turn P Sx C env W itA s2.heap.objs.size H2.objs.size (tupOnly mi) K c s loc m (fun x σ' R => bindA t' x (loc ++ List.replicate (compSlots sc C.n).length .undef) fun loc' => condsA P.T Sx cs loc' σ' fun ok σ₂ => if ok then evalA P.T Sx e' loc' σ₂ fun v σ₃ => R [v] σ₃ else R [] σ₂) Q c' rest acc vs kk s6 := by
     intro c6 s6 acc' vs' kk' S6 E6 d6 r6 ns6 len6 k6 q6 g6 o6
     have nY : ∀ b, W b → ¬(b = H2.objs.size ∨ b = s2.heap.objs.size) := fun b w z => by
      rcases z with rfl | rfl
      ·exact nWL w
      ·exact nWD w
     have nO : ∀ b, Own env b → ¬(b = H2.objs.size ∨ b = s2.heap.objs.size) := fun b o z => by
      obtain ⟨y, e⟩ := ownOld b o
      rcases z with rfl | rfl
      ·rw [fL] at e; cases e
      ·rw [fD] at e; cases e
     have w3 : ∀ b, W b → ¬Foot c3 b ∧ c3.I b = none := fun b w => by
      obtain ⟨nf, ni⟩ := T.w b w
      refine ⟨fun f => nf (st.foot.mp f), ?_⟩
      cases z : c3.I b with
      | none => rfl
      | some y =>
       rcases st.inew _ _ z with z' | z'
       ·rw [ni] at z'; cases z'
       ·obtain ⟨o, e⟩ := T.I.live b w; rw [e] at z'; cases z'
     refine ⟨rest'.length, by rw [← hlen]; exact Nat.lt_succ_self _, c6, rest', acc', vs', kk', rfl, S6, ((E3.weaken fun _ z => z.elim).trans E6).fresh (fun b z => by rcases z with rfl | rfl <;> assumption), I3.evo E6 (fun b w => ⟨(w3 b w).1, nY b w⟩) k6,
      fun b w => foot_back E6 (w3 b w).1 (w3 b w).2 (I3.live b w), d6, r6, foot_back E6 dn3.1 dn3.2 ⟨_, d3⟩, L3.evoX E6 nO, ns6, foot_back E6 lan3.1 lan3.2 (let ⟨o, _, _, e, _⟩ := ns3; ⟨o, e⟩), len6, q6, g6.trans (g3.trans T.g), o6.trans (o3.trans T.o)⟩
    have hle := T.len
    rw [List.length_cons] at hle
    have E45 : Evo (fun b => b = H2.objs.size ∨ b = s2.heap.objs.size) c3 s2'.heap c5 s5.heap := (E4.weaken fun _ z => .inl z).trans (E5.weaken fun _ z => z.elim)
    have d5 : s5.heap.get? s2.heap.objs.size = some (listOf vs.toArray kk) := E5.keep _ _ (E4.keep _ _ d3 dn3.1 hDC) dn3.1 id
    have r5 : VRelL P.N c5.I vs acc := (T.r.mono st.inc).mono E5.inc
    have L5 := L4.evo E5
    cases ok with
    | false =>
     refine fin c5 s5 acc vs kk S5 E45 d5 r5 L5.ns (by omega) q5.1 ?_ (g5.trans g4) (o5.trans o4)
     have := q5.2; rw [List.append_nil] at this; exact this
    | true =>
     refine (IH _ _ false elt e' A c5 s5 l1 _ X' he S5 L5 q5).seq fun v6 s6 c6 dv S6 E6 r6 q6 g6 o6 => ?_
     have dn5 := foot_back E45 dn3.1 dn3.2 ⟨_, d3⟩
     have d6 : s6.heap.get? s2.heap.objs.size = some (listOf vs.toArray kk) := E6.keep _ _ d5 dn5.1 id
     have dn6 := foot_back E6 dn5.1 dn5.2 ⟨_, d5⟩
     have L6 := L5.evo E6
     refine append_at d6 (fun h' hs ho' => ?_) (by rw [List.size_toArray, T.r.length, sizeLine_eq]; have : acc.length + (rest'.length + 1) ≤ 16777216 := hle; omega)
     rw [List.push_toArray] at ho'
     have S7 : SR P.N c6 h' := S6.touch hs.extBut dn6.1 dn6.2
     have E7 : Evo (fun b => b = H2.objs.size ∨ b = s2.heap.objs.size) c3 s2'.heap c6 h' := (E45.trans (E6.weaken fun _ z => z.elim)).touch hs.extBut ⟨_, ho'⟩ (.inr (.inr rfl))
     obtain ⟨mm7, o7, es7, ep7, e7, q7⟩ := L6.ns
     refine fin c6 { s6 with heap := h' } (acc ++ [dv]) (vs ++ [v6]) (kk + 1) S7 E7 ho' ((r5.mono E6.inc).append (.cons r6 .nil)) ⟨mm7, o7, es7, ep7, (hs.2 _ hDC.symm).trans e7, q7⟩ (by rw [List.length_append]; simp; omega) q6.1 q6.2 (g6.trans (g5.trans g4)) (o6.trans (o5.trans o4))
  ·exact I2.watch
 exact codeAny_compStart_list loop (iter_self (c := c2) (s := { s2 with heap := h₁, toks := s2.toks + ([] : List (Str × Value)).length }) (I2.evo (X := NoX) (Evo.ext old) (fun b w => ⟨(w2 b w).2.1, id⟩) I2.watch) loop)
theorem comp_sound {elt t it : Expr} {ifs : List Expr} {sc : Scope} {pos : Pos} {e' : ME} {t' : Tgt} {mi : MI} {cs : List ME} {m : Bool} (F : PrgOk P) (IH : EvalAt P Sx r n) (IT : TestAt P Sx r n) (X : XOk P C env A r) (S : SR P.N c s.heap) (L : LR P.N C env c s.heap loc)
  (hok : compOk C sc = true) (ht : compT true n (C.inner sc) t = some t') (he : compE n (C.inner sc) false elt = some e') (hcs : mapO (compE n (C.inner sc) false) ifs = some cs) (hi : compIt (compE n C false) C it = some mi) (htup : tupOnly mi = true → isTup t = true)
  (h : evalA P.T Sx (.comp m (compSlots sc C.n).length e' t' mi cs) loc c.σ Q) : WV P.N A (eval (.ListComp elt [⟨t, it, ifs, 0⟩] sc pos) env) c s Q := by
 rw [eval_ListComp]
 refine comp_core (use := none) F IH IT X S L hok ht he hcs hi htup h fun acc La c6 s6 d S6 E6 r6 q6 g6 o6 ⟨mm, ns⟩ ln fL => ⟨mm, ns, fun h' hs => ?_⟩
 exact ⟨c6, d, S6.kept (W := fun b => b = La) (fun b o nb e => (hs.2 b nb).trans e) (fun b hb => by rw [hb]; exact ln), E6.stp (W := fun b => b = La) (Stp.here fun b o nb e => (hs.2 b nb).trans e) (fun b hb => by rw [hb]; exact fL), r6, q6, g6, o6⟩
end
end Mine
end
section
namespace Mine
open PySem PySem.W PyProof.Rows PySem.Spec PyProof PySem.SeqAt
section
variable {P : Prg} {Sx : Spec} {r : Nat}
theorem bltOf_cases {f : Str} {n : Nat} {b : Blt} (h : bltOf f n = some b) : (f = "len" ∧ n = 1 ∧ b = .len) ∨ (f = "min" ∧ n = 2 ∧ b = .min) ∨ (f = "max" ∧ n = 2 ∧ b = .max) ∨ (f = "abs" ∧ n = 1 ∧ b = .abs) ∨ (f = "sorted" ∧ n = 1 ∧ b = .sorted) ∨ (f = "list" ∧ n = 1 ∧ b = .copy) := by
 unfold bltOf at h
 repeat' split at h
 all_goals first | (cases h; done) | skip
 all_goals (rename_i q; cases h; obtain ⟨rfl, rfl⟩ := q; simp)
theorem mapO_length {α β : Type} {f : α → Option β} : ∀ {l : List α} {m : List β}, mapO f l = some m → m.length = l.length
 | [], _, h => by cases h; rfl
 | x :: l, m, h => by
  unfold mapO at h
  split at h
  ·rename_i y ys h1 h2; cases h; simp [mapO_length h2]
  ·cases h
theorem mapO_one {α β : Type} {f : α → Option β} {l : List α} {m : List β} (h : mapO f l = some m) (hm : m.length = 1) : ∃ x y, l = [x] ∧ m = [y] ∧ f x = some y := by
 have hl := mapO_length h
 obtain ⟨y, rfl⟩ := List.length_eq_one_iff.mp hm
 obtain ⟨x, rfl⟩ := List.length_eq_one_iff.mp (hl.symm.trans hm)
 unfold mapO mapO at h
 split at h
 ·rename_i a b h1 h2; cases h; exact ⟨x, y, rfl, rfl, h1⟩
 ·cases h
theorem mapO_two {α β : Type} {f : α → Option β} {l : List α} {m : List β} (h : mapO f l = some m) (hm : m.length = 2) : ∃ x x' y y', l = [x, x'] ∧ m = [y, y'] ∧ f x = some y ∧ f x' = some y' := by
 have hl := mapO_length h
 cases l with
 | nil => rw [hm] at hl; cases hl
 | cons x l =>
  unfold mapO at h
  split at h
  ·rename_i a b h1 h2
   cases h
   obtain ⟨x', y', e1, e2, h3⟩ := mapO_one h2 (by simpa using hm)
   subst e1 e2
   exact ⟨x, x', _, _, rfl, rfl, h1, h3⟩
  ·cases h
theorem eval_step {n : Nat} (F : PrgOk P) (CS : CallsOk P Sx r) (IH : EvalAt P Sx r n) (IT : TestAt P Sx r n) : EvalAt P Sx r (n + 1) := by
 intro C env m e me A c s loc Q X hc S L h
 unfold compE at hc
 dsimp only at hc
 split at hc
 ·cases hc; simp only [evalA] at h; exact wpAny_Constant_int (vp_here S (.int _ _) h)
 ·cases hc; simp only [evalA] at h; exact wpAny_Constant_bool (vp_here S (.bool _) h)
 ·cases hc; simp only [evalA] at h; exact wpAny_Constant_none (vp_here S .none h)
 ·obtain ⟨i, hi, rfl⟩ := Option.map_eq_some_iff.mp hc
  simp only [evalA] at h
  rw [X.same.txts] at hi
  obtain ⟨hn, rfl⟩ := F.txts _ i hi
  exact wpAny_Constant_str (vp_here S (.str i _ hn) h)
 ·rename_i x pos
  split at hc
  ·rename_i i hi
   cases hc
   simp only [evalA] at h
   obtain ⟨v, hv, hq⟩ := h
   have hu : v ≠ .undef := fun z => by subst z; exact hq
   have hq' : Q v c.σ := by cases v <;> first | exact hq | exact absurd rfl hu
   exact L.read X.ctx hi hv hu fun w hw => vp_here S hw hq'
  ·split at hc
   ·rename_i hg
    obtain ⟨g, hi, rfl⟩ := Option.map_eq_some_iff.mp hc
    simp only [evalA] at h
    rw [X.same.globs] at hi
    obtain ⟨k1, k2⟩ := X.kindG hg
    obtain ⟨v, hv, hr⟩ := F.globs x g hi
    exact glob_read F X.g S k1 k2 hv (vp_here S (hr.mono fun a o e => S.stat a o e) h)
   ·cases hc
 ·split at hc
  ·rename_i h1 h2 h3; cases hc; exact wev_bin IH X S L h1 h2 h3 h
  ·cases hc
 ·split at hc
  ·rename_i h1 h2 h3; cases hc; exact wev_cmp IH X S L h1 h2 h3 h
  ·cases hc
 ·split at hc
  ·rename_i h1 h2 h3 h4 h5; cases hc; exact wev_cmp2 IH X S L h1 h2 h3 h4 h5 h
  ·cases hc
 ·split at hc
  ·rename_i h1 h2; cases hc
   exact wev_and IH X S L h1 h fun c' s' S' L' q => bo_one IH X S' L' h2 q
  ·cases hc
 ·split at hc
  ·rename_i h1 h2 h3; cases hc
   exact wev_and IH X S L h1 h fun c' s' S' L' q => wev_and IH X S' L' h2 q fun c'' s'' S'' L'' q' => bo_one IH X S'' L'' h3 q'
  ·cases hc
 ·split at hc
  ·rename_i h1 h2; cases hc
   exact wev_or IH X S L h1 h fun c' s' S' L' q => bo_one IH X S' L' h2 q
  ·cases hc
 ·split at hc
  ·rename_i h1 h2 h3; cases hc
   exact wev_or IH X S L h1 h fun c' s' S' L' q => wev_or IH X S' L' h2 q fun c'' s'' S'' L'' q' => bo_one IH X S'' L'' h3 q'
  ·cases hc
 ·obtain ⟨x, hx, rfl⟩ := Option.map_eq_some_iff.mp hc
  exact wev_not IH X S L hx h
 ·cases hc; simp only [evalA] at h
  exact wpAny_UnaryOp (wpAny_Constant_int (PyProof.Rows.neg_int (vp_here S (.int _ _) h)))
 ·split at hc
  ·rename_i h1 h2 h3; cases hc; exact wev_ite IH IT X S L h1 h2 h3 h
  ·cases hc
 ·obtain ⟨mes, hm, rfl⟩ := Option.map_eq_some_iff.mp hc
  exact wev_list IH X S L hm h
 ·obtain ⟨mes, hm, rfl⟩ := Option.map_eq_some_iff.mp hc
  exact wev_tup IH X S L hm h
 ·cases hc; exact wev_edict F S h
 ·split at hc
  ·rename_i hb
   split at hc
   ·rename_i h1 h2; cases hc; exact wev_attr F IH X S L hb h1 h2 h
   ·cases hc
  ·cases hc
 ·split at hc
  ·rename_i hs
   obtain ⟨x, hx, rfl⟩ := Option.map_eq_some_iff.mp hc
   exact wev_rev IH X S L hs hx h
  ·cases hc
 ·split at hc
  ·rename_i h1 h2 h3; cases hc; exact wev_slice IH X S L h1 h2 h3 h
  ·cases hc
 ·split at hc
  ·rename_i h1 h2; cases hc; exact wev_sub IH X S L h1 h2 h
  ·cases hc
 ·-- call by name
  split at hc
  ·cases hc
  rename_i mes hm
  split at hc
  rotate_left
  ·cases hc
  rename_i hg
  split at hc
  ·rename_i i hi; cases hc; exact wev_call F CS IH X S L hg hi hm h
  split at hc
  ·rename_i i hi; cases hc; exact wev_new F CS IH X S L hg hi hm h
  obtain ⟨b, hb, rfl⟩ := Option.map_eq_some_iff.mp hc
  simp only [evalA] at h
  rcases bltOf_cases hb with ⟨rfl, hn, rfl⟩ | ⟨rfl, hn, rfl⟩ | ⟨rfl, hn, rfl⟩ | ⟨rfl, hn, rfl⟩ | ⟨rfl, hn, rfl⟩ | ⟨rfl, hn, rfl⟩
  ·obtain ⟨x, y, rfl, rfl, hx⟩ := mapO_one hm hn
   simp only [evalsA] at h
   exact blt_one F IH X S L hg (by decide) (by decide +kernel) (by decide) hx h fun v c' s' d S' rv q => len_sound S' rv q
  ·obtain ⟨x, x', y, y', rfl, rfl, hx, hx'⟩ := mapO_two hm hn
   simp only [evalsA] at h
   exact blt_two F IH X S L hg (by decide) (by decide +kernel) (by decide) hx hx' h fun v w c' s' d d' S' rv rw' q => min_sound X.a.ok S' rv rw' q
  ·obtain ⟨x, x', y, y', rfl, rfl, hx, hx'⟩ := mapO_two hm hn
   simp only [evalsA] at h
   exact blt_two F IH X S L hg (by decide) (by decide +kernel) (by decide) hx hx' h fun v w c' s' d d' S' rv rw' q => max_sound X.a.ok S' rv rw' q
  ·obtain ⟨x, y, rfl, rfl, hx⟩ := mapO_one hm hn
   simp only [evalsA] at h
   exact blt_one F IH X S L hg (by decide) (by decide +kernel) (by decide) hx h fun v c' s' d S' rv q => abs_sound S' rv q
  ·obtain ⟨x, y, rfl, rfl, hx⟩ := mapO_one hm hn
   simp only [evalsA] at h
   exact blt_one F IH X S L hg (by decide) (by decide +kernel) (by decide) hx h fun v c' s' d S' rv q => sorted_sound X.a.ok S' rv q
  ·obtain ⟨x, y, rfl, rfl, hx⟩ := mapO_one hm hn
   simp only [evalsA] at h
   exact ev_copy F IH X S L hg hx h
 ·-- method call
  split at hc
  rotate_left
  ·cases hc
  rename_i hcond
  simp only [Bool.and_eq_true, decide_eq_true_eq] at hcond
  obtain ⟨⟨hl, hb⟩, hlen⟩ := hcond
  split at hc
  rotate_left
  ·cases hc
  rename_i h1 h2
  split at hc
  ·rename_i ha; subst ha
   split at hc
   ·cases hc
    obtain ⟨x, y, rfl, e, hx⟩ := mapO_one h2 rfl
    cases e
    exact wev_append IH X S L hl hb h1 hx h
   ·cases hc
  split at hc
  ·rename_i ha; subst ha
   split at hc
   ·cases hc
    obtain ⟨x, y, rfl, e, hx⟩ := mapO_one h2 rfl
    cases e
    exact wev_extend IH X S L hl hb h1 hx h
   ·cases hc
  split at hc
  ·rename_i ha; subst ha
   split at hc
   ·cases hc
    obtain ⟨x, y, rfl, e, hx⟩ := mapO_one h2 rfl
    cases e
    exact wev_pop IH X S L hl hb h1 hx h
   ·cases hc
  obtain ⟨i, hi, rfl⟩ := Option.map_eq_some_iff.mp hc
  exact wev_meth F CS IH X S L hl hb hlen h1 h2 hi h
 ·-- comprehension
  split at hc
  rotate_left
  ·cases hc
  rename_i hok
  split at hc
  rotate_left
  ·cases hc
  rename_i h1 h2 h3 h4
  split at hc
  ·cases hc
  rename_i htup
  cases hc
  exact comp_sound F IH IT X S L hok h1 h2 h3 h4 (fun z => by cases q : isTup _ <;> simp_all) h
 ·cases hc
theorem test_step {n : Nat} (EV : EvalAt P Sx r (n + 1)) (IH : EvalAt P Sx r n) (IT : TestAt P Sx r n) : TestAt P Sx r (n + 1) := by
 intro C env m e me A c s loc R X hc S L h
 have dflt : isTrue e env (eval e env) = (do let v ← eval e env; standAt e.pos; holding [v] (truthy v)) → wpAny (model P.N.prog P.N.w) A (isTrue e env (eval e env)) (BPost P.N c s R) NoE s := fun he =>
  wpAny_isTrue_value (he := he) ((EV C env m e me A c s loc _ X hc S L h).seq fun v s1 c1 d S1 E1 r1 q1 g1 o1 => by
   obtain ⟨b, rfl, q⟩ := q1
   cases r1
   exact wpAny_truthy_bool ⟨c1, S1, E1, q, g1, o1⟩)
 cases e with
 | BoolOp op vals pos =>
  rw [arm_isTrue_BoolOp]
  unfold compE at hc
  dsimp only at hc
  split at hc <;> try cases hc
  all_goals (rename_i heq; cases heq)
  ·split at hc
   ·rename_i h1 h2; cases hc
    exact ts_and IT X S L h1 h fun c' s' S' L' q => ts_and1 IT X S' L' h2 q
   ·cases hc
  ·split at hc
   ·rename_i h1 h2 h3; cases hc
    exact ts_and IT X S L h1 h fun c' s' S' L' q => ts_and IT X S' L' h2 q fun c'' s'' S'' L'' q' => ts_and1 IT X S'' L'' h3 q'
   ·cases hc
  ·split at hc
   ·rename_i h1 h2; cases hc
    exact ts_or IT X S L h1 h fun c' s' S' L' q => ts_or1 IT X S' L' h2 q
   ·cases hc
  ·split at hc
   ·rename_i h1 h2 h3; cases hc
    exact ts_or IT X S L h1 h fun c' s' S' L' q => ts_or IT X S' L' h2 q fun c'' s'' S'' L'' q' => ts_or1 IT X S'' L'' h3 q'
   ·cases hc
 | UnaryOp op x pos =>
  cases op with
  | Not =>
   unfold compE at hc
   dsimp only at hc
   obtain ⟨y, hy, rfl⟩ := Option.map_eq_some_iff.mp hc
   exact ts_not IT X S L hy h
  | _ => exact dflt rfl
 | IfExp t a b pos =>
  unfold compE at hc
  dsimp only at hc
  split at hc
  ·rename_i h1 h2 h3; cases hc; exact ts_ite IT X S L h1 h2 h3 h
  ·cases hc
 | Compare a ops bs pos =>
  unfold compE at hc
  dsimp only at hc
  split at hc <;> try cases hc
  all_goals (rename_i heq; cases heq)
  ·split at hc
   ·rename_i h1 h2 h3; cases hc; exact ts_cmp IH X S L h1 h2 h3 h
   ·cases hc
  ·split at hc
   ·rename_i h1 h2 h3 h4 h5; cases hc; exact ts_cmp2 IH X S L h1 h2 h3 h4 h5 h
   ·cases hc
 | _ => exact dflt rfl
theorem eval_all (F : PrgOk P) (CS : CallsOk P Sx r) : ∀ n, EvalAt P Sx r n ∧ TestAt P Sx r n
 | 0 => ⟨fun _ _ _ _ _ _ _ _ _ _ _ hc => by simp [compE] at hc, fun _ _ _ _ _ _ _ _ _ _ _ hc => by simp [compE] at hc⟩
 | n + 1 => by
  obtain ⟨a, b⟩ := eval_all F CS n
  have e := eval_step F CS a b
  exact ⟨e, test_step e a b⟩
end
end Mine
end
section
namespace Mine
open PySem PySem.W PyProof.Rows PySem.Spec PyProof PySem.SeqAt
section
variable {P : Prg} {Sx : Spec} {r n : Nat} {C : Ctx} {env : Env} {A : Around} {c : Cfg} {s : Shared} {loc : List PV} {Q : KO}
def ExecAt (P : Prg) (Sx : Spec) (r n : Nat) : Prop := ∀ C env st ms A c s loc Q, XOk P C env A r → compS n C st = some ms → SR P.N c s.heap → LR P.N C env c s.heap loc → execA P.T Sx ms loc c.σ Q → WE P.N A C env (exec st env) c s Q
theorem EPost.trans {X : Addr → Prop} {c1 : Cfg} {s1 s' : Shared} {f : Flow} (E : Evo X c s.heap c1 s1.heap) (hX : ∀ b, X b → Own env b) (g : s1.gens = s.gens) (o : s1.os = s.os) (h : EPost P.N C env c1 s1 Q f s') : EPost P.N C env c s Q f s' :=
 let ⟨c', S, E', g', o', q⟩ := h; ⟨c', S, (E.weaken hX).trans E', g'.trans g, o'.trans o, q⟩
theorem execs_sound (EX : ExecAt P Sx r n) (X : XOk P C env A r) : ∀ (b : List Stmt) (mb : List MS) (c : Cfg) (s : Shared) (loc : List PV) (Q : KO), mapO (compS n C) b = some mb → SR P.N c s.heap → LR P.N C env c s.heap loc → execsA P.T Sx mb loc c.σ Q → WE P.N A C env (execs b env) c s Q
 | [], mb, c, s, loc, Q, h, S, L, q => by
  cases h
  simp only [execsA] at q
  exact wpAny_execs_nil ⟨c, S, Evo.refl _ _ _, rfl, rfl, .inl ⟨rfl, loc, L, q⟩⟩
 | st :: b, mb, c, s, loc, Q, h, S, L, q => by
  unfold mapO at h
  split at h
  ·rename_i y ys h1 h2
   cases h
   simp only [execsA] at q
   refine wpAny_execs_cons (wpAny_mono (EX C env st y A c s loc _ X h1 S L q) (fun f s1 hf => ?_) fun _ _ e => e)
   obtain ⟨c1, S1, E1, g1, o1, ⟨rfl, l1, L1, q1⟩ | ⟨v, d, rfl, hv, q1⟩⟩ := hf
   ·exact wpAny_mono (execs_sound EX X b ys c1 s1 l1 Q h2 S1 L1 q1) (fun _ _ z => z.trans E1 (fun _ h => h) g1 o1) fun _ _ e => e
   ·exact ⟨c1, S1, E1, g1, o1, .inr ⟨v, d, rfl, hv, q1⟩⟩
  ·cases h
theorem st_ret {e : Expr} {pos : Pos} {x : ME} (IH : EvalAt P Sx r n) (X : XOk P C env A r) (S : SR P.N c s.heap) (L : LR P.N C env c s.heap loc) (he : compE n C false e = some x) (h : execA P.T Sx (.ret x) loc c.σ Q) : WE P.N A C env (exec (.Return (some e) pos) env) c s Q := by
 simp only [execA] at h
 exact wpAny_Return_some ((IH C env false e x A c s loc _ X he S L h).seq fun v s1 c1 d S1 E1 r1 q1 g1 o1 => ⟨c1, S1, E1.weaken fun _ z => z.elim, g1, o1, .inr ⟨v, d, rfl, r1, q1⟩⟩)
theorem st_expr {e : Expr} {pos : Pos} {x : ME} (IH : EvalAt P Sx r n) (X : XOk P C env A r) (S : SR P.N c s.heap) (L : LR P.N C env c s.heap loc) (hc : isComp e = false) (he : compE n C false e = some x) (h : execA P.T Sx (.expr x) loc c.σ Q) : WE P.N A C env (exec (.Expr e pos) env) c s Q := by
 simp only [execA] at h
 refine wpAny_Expr_any ((IH C env false e x A c s loc _ X he S L h).seq fun v s1 c1 d S1 E1 r1 q1 g1 o1 => ⟨c1, S1, E1.weaken fun _ z => z.elim, g1, o1, .inl ⟨rfl, loc, L.evo E1, q1⟩⟩) ?_ ?_
 ·unfold interactive; rw [X.ctx.fn]; rfl
 ·cases e <;> first | rfl | (cases hc)
theorem st_if {e : Expr} {a b : List Stmt} {pos : Pos} {x : ME} {ma mb : List MS} (IT : TestAt P Sx r n) (EX : ExecAt P Sx r n) (X : XOk P C env A r) (S : SR P.N c s.heap) (L : LR P.N C env c s.heap loc) (he : compE n C false e = some x) (ha : mapO (compS n C) a = some ma) (hb : mapO (compS n C) b = some mb)
  (h : execA P.T Sx (.ite x ma mb) loc c.σ Q) : WE P.N A C env (exec (.If e a b pos) env) c s Q := by
 simp only [execA] at h
 refine wpAny_If (wpAny_mono (IT C env false e x A c s loc (fun b σ => if b = true then execsA P.T Sx ma loc σ Q else execsA P.T Sx mb loc σ Q) X he S L h) (fun t s1 ht => ?_) fun _ _ e => e)
 obtain ⟨c1, S1, E1, q1, g1, o1⟩ := ht
 cases t with
 | true => exact wpAny_mono (execs_sound EX X a ma c1 s1 loc Q ha S1 (L.evo E1) q1) (fun _ _ z => z.trans E1 (fun _ z => z.elim) g1 o1) fun _ _ e => e
 | false => exact wpAny_mono (execs_sound EX X b mb c1 s1 loc Q hb S1 (L.evo E1) q1) (fun _ _ z => z.trans E1 (fun _ z => z.elim) g1 o1) fun _ _ e => e
theorem st_while {e : Expr} {b : List Stmt} {pos : Pos} {x : ME} {mb : List MS} (IT : TestAt P Sx r n) (EX : ExecAt P Sx r n) (X : XOk P C env A r) (S : SR P.N c s.heap) (L : LR P.N C env c s.heap loc) (he : compE n C false e = some x) (hb : mapO (compS n C) b = some mb)
  (h : execA P.T Sx (.while x mb) loc c.σ Q) : WE P.N A C env (exec (.While e b [] pos) env) c s Q := by
 simp only [execA, whileA] at h
 obtain ⟨I, ⟨n0, h0⟩, turn⟩ := h
 refine wpAny_While (codeAny_whileLoop (fun k s' => ∃ c' l, SR P.N c' s'.heap ∧ Evo (Own env) c s.heap c' s'.heap ∧ LR P.N C env c' s'.heap l ∧ s'.gens = s.gens ∧ s'.os = s.os ∧ I k l c'.σ) (fun k s' hI => ?_) n0 ⟨c, loc, S, Evo.refl _ _ _, L, rfl, rfl, h0⟩)
 obtain ⟨c', l, S', E', L', g', o', i'⟩ := hI
 have q := turn k l c'.σ i'
 refine wpAny_mono (IT C env false e x A c' s' l _ X he S' L' q) (fun t s1 ht => ?_) fun _ _ e => e.elim
 obtain ⟨c1, S1, E1, q1, g1, o1⟩ := ht
 have E01 := E'.trans (E1.weaken (Y := Own env) fun _ z => z.elim)
 cases t with
 | true =>
  refine wpAny_mono (execs_sound EX X b mb c1 s1 l _ hb S1 (L'.evo E1) q1) (fun f s2 hf => ?_) fun _ _ e => e.elim
  obtain ⟨c2, S2, E2, g2, o2, ⟨rfl, l2, L2, m, hm, q2⟩ | ⟨v, d, rfl, hv, q2⟩⟩ := hf
  ·exact ⟨m, hm, c2, l2, S2, E01.trans E2, L2, g2.trans (g1.trans g'), o2.trans (o1.trans o'), q2⟩
  ·exact ⟨c2, S2, E01.trans E2, g2.trans (g1.trans g'), o2.trans (o1.trans o'), .inr ⟨v, d, rfl, hv, q2⟩⟩
 | false => exact wpAny_execs_nil ⟨c1, S1, E01, g1.trans g', o1.trans o', .inl ⟨rfl, l, L'.evo E1, q1⟩⟩
theorem st_for {t it : Expr} {b : List Stmt} {pos : Pos} {tg : Tgt} {mi : MI} {mb : List MS} (F : PrgOk P) (IH : EvalAt P Sx r n) (EX : ExecAt P Sx r n) (X : XOk P C env A r) (S : SR P.N c s.heap) (L : LR P.N C env c s.heap loc) (ht : compT false n C t = some tg) (hi : compI n C it = some mi) (hb : mapO (compS n C) b = some mb)
  (htup : tupOnly mi = true → isTup t = true) (h : execA P.T Sx (.for tg mi mb) loc c.σ Q) : WE P.N A C env (exec (.For t it b [] pos) env) c s Q := by
 simp only [execA] at h
 have hi' : compIt (compE n C false) C it = some mi := hi
 have hset : ∀ x, foldedSetIterable it env x = pure x := fun x => by
  cases it <;> first | rfl | (exfalso; simp [compIt, compE_set] at hi')
 have hh := X.a.h
 refine wpAny_For (wpAny_mono (iter_sound F IH X S L hi' h) (fun xv s1 h1 => wpAny_mono h1 (fun iv s2 h2 => ?_) fun _ _ e => e) fun _ _ e => e) hset
 obtain ⟨itA, W, K, items, c2, rfl, S2, E2, I2, w2, lenI, q2, g2, o2⟩ := h2
 have ownOld : ∀ b, Own env b → ∃ o, s.heap.get? b = some o := fun b o => L.own_some o
 have nWO : ∀ b, Own env b → ¬W b := fun b o w => by obtain ⟨y, e⟩ := ownOld b o; rw [(w2 b w).1] at e; cases e
 refine codeAny_forLoop_any (fun k s' => ∃ c' l rest, rest.length = k ∧ SR P.N c' s'.heap ∧ Evo (Own env) c s.heap c' s'.heap ∧ LR P.N C env c' s'.heap l ∧ ItRel P.N c' s'.heap W itA (tupOnly mi) K rest ∧ (∀ x, W x → ¬Foot c' x ∧ c'.I x = none) ∧
  forA (fun loc σ R => execsA P.T Sx mb loc σ R) tg K rest l c'.σ Q ∧ s'.gens = s.gens ∧ s'.os = s.os) (fun k s' hJ => ?_) items.length
  ⟨c2, loc, items, rfl, S2, E2.weaken fun _ z => z.elim, L.evo E2, I2, fun b w => (w2 b w).2, q2, g2, o2⟩
 obtain ⟨c', l, rest, hlen, S', E', L', I', w', q', g', o'⟩ := hJ
 refine wpAny_mono (next_sound (target := t) (E' := notedBy (model P.N.prog P.N.w) A env fun e s' => match (Except.error e : Result) with | .ok f => EPost P.N C env c s Q f s' | .error e => cameBackBy (model P.N.prog P.N.w) A env NoE e s') hh S' I' w' htup) (fun rv s1 h1 => ?_) fun _ _ e => e
 cases rv with
 | none =>
  obtain ⟨rfl, S1, st, g1, o1⟩ := h1
  simp only [forA] at q'
  exact wpAny_execs_nil ⟨c', S1, E'.stp st (fun b w => (w2 b w).1), g1.trans g', o1.trans o', .inl ⟨rfl, l, L'.stp st nWO, q'⟩⟩
 | some v =>
  obtain ⟨x, rest', rfl, h1⟩ := h1
  refine wpAny_mono h1 (fun _ s2' h2 => ?_) fun _ _ e => e
  obtain ⟨c3, S3, st, rx, I3, g3, o3⟩ := h2
  simp only [forA] at q'
  rw [← st.sig] at q'
  obtain ⟨l1, hl1, q'⟩ := q'
  have E3 := E'.stp st (fun b w => (w2 b w).1)
  have w3 : ∀ b, W b → ¬Foot c3 b ∧ c3.I b = none := fun b w => by
   obtain ⟨nf, ni⟩ := w' b w
   refine ⟨fun f => nf (st.foot.mp f), ?_⟩
   cases z : c3.I b with
   | none => rfl
   | some y =>
    rcases st.inew _ _ z with z' | z'
    ·rw [ni] at z'; cases z'
    ·obtain ⟨o, e⟩ := I'.live b w; rw [e] at z'; cases z'
  refine wpAny_mono (assign_sound (l := false) (X := Own env) hh X.ctx (.inl rfl) (fun _ x a _ ha => .inr ⟨x, mem_of_lookup ha⟩) n t tg v x l l1 s2' ht hl1 S3 (L'.stp st nWO) rx) (fun _ s4 h4 => ?_) fun _ _ e => e.elim
  obtain ⟨S4, E4, L4, g4, o4⟩ := h4
  refine wpAny_mono (execs_sound EX X b mb c3 s4 l1 _ hb S4 L4 q') (fun f s5 hf => ?_) fun _ _ e => e.elim
  obtain ⟨c5, S5, E5, g5, o5, hf⟩ := hf
  have E35 := E4.trans E5
  rcases hf with ⟨rfl, l5, L5, k5, q5⟩ | ⟨v5, d5, rfl, hv5, q5⟩
  ·exact ⟨rest'.length, by rw [← hlen]; exact Nat.lt_succ_self _, c5, l5, rest', rfl, S5, E3.trans E35, L5, I3.evo E35 (fun b w => ⟨(w3 b w).1, fun o => nWO b o w⟩) k5, fun b w => foot_back E35 (w3 b w).1 (w3 b w).2 (I3.live b w), q5,
    g5.trans (g4.trans (g3.trans g')), o5.trans (o4.trans (o3.trans o'))⟩
  ·exact ⟨c5, S5, E3.trans E35, g5.trans (g4.trans (g3.trans g')), o5.trans (o4.trans (o3.trans o')), .inr ⟨v5, d5, rfl, hv5, q5⟩⟩
end
end Mine
end
section
namespace Mine
open PySem PySem.W PyProof.Rows PySem.Spec PyProof PySem.SeqAt
section
variable {P : Prg} {Sx : Spec} {r n : Nat} {C : Ctx} {env : Env} {A : Around} {c : Cfg} {s : Shared} {loc : List PV} {Q : KO}
theorem UPost.ep {c1 : Cfg} {s1 s2 : Shared} {R : Sto → Prop} (L : LR P.N C env c s.heap loc) (E : Evo NoX c s.heap c1 s1.heap) (g : s1.gens = s.gens) (o : s1.os = s.os) (h : UPost P.N c1 s1 R () s2) (hq : ∀ σ, R σ → Q (.next loc) σ) : EPost P.N C env c s Q .next s2 :=
 let ⟨c2, S2, E2, q, g2, o2⟩ := h; ⟨c2, S2, (E.trans E2).weaken fun _ z => z.elim, g2.trans g, o2.trans o, .inl ⟨rfl, loc, L.evo (E.trans E2), hq _ q⟩⟩
theorem st_setattr {o v : Expr} {a : Str} {p pos : Pos} {x y : ME} {m : Bool} {i : Nat} (F : PrgOk P) (IH : EvalAt P Sx r n) (X : XOk P C env A r) (S : SR P.N c s.heap) (L : LR P.N C env c s.heap loc) (hv : compE n C m v = some x) (ho : compE n C false o = some y) (hi : idx C.attrs a = some i)
  (h : execA P.T Sx (.setattr y i x) loc c.σ Q) : WE P.N A C env (exec (.Assign [.Attribute o a p] v pos) env) c s Q := by
 simp only [execA] at h
 rw [X.same.attrs] at hi
 obtain ⟨hn, rfl⟩ := F.attrs a i hi
 refine wpAny_Assign_stores ?_ (by cases v <;> rfl) (by cases v <;> rfl)
 refine wpAny_mono (two IH X S L hv ho h (k := fun vv ov s2 => wpAny (model P.N.prog P.N.w) A (setAttr ov (P.N.attr i) vv) (fun _ => EPost P.N C env c s Q .next) NoE s2) fun vv ov s2 c2 d e S2 E2 r2 r2' q2 g2 o2 => ?_) (fun vv s1 h1 => ?_) fun _ _ e => e
 ·obtain ⟨b, cl, fs, rfl, q3, hz, q4⟩ := q2
  cases r2'
  exact wpAny_mono (setattr_sound (R := fun σ => Q (.next loc) σ) F hn S2 r2 q3 hz q4) (fun _ s3 z => z.ep L E2 g2 o2 fun _ z => z) fun _ _ e => e
 ·show wpAny _ A (do let ov ← holding [vv] (eval o env); standAt p.atName; holding [vv, ov] (setAttr ov (P.N.attr i) vv); release [vv, ov] []) _ _ s1
  exact wpAny_bind (wpAny_holding (wpAny_mono h1 (fun ov s2 h2 => wpAny_bind (wpAny_standAt (wpAny_bind (wpAny_holding (wpAny_mono h2 (fun _ s3 h3 => wpAny_release' h3) fun _ _ e => e))))) fun _ _ e => e))
theorem st_setitem {o i v : Expr} {p pos : Pos} {x y z : ME} (IH : EvalAt P Sx r n) (X : XOk P C env A r) (S : SR P.N c s.heap) (L : LR P.N C env c s.heap loc) (hv : compE n C false v = some x) (ho : compE n C false o = some y) (hi : compE n C false i = some z)
  (h : execA P.T Sx (.setitem y z x) loc c.σ Q) : WE P.N A C env (exec (.Assign [.Subscript o i p] v pos) env) c s Q := by
 simp only [execA] at h
 refine wpAny_Assign_stores ?_ (by cases v <;> rfl) (by cases v <;> rfl)
 refine wpAny_mono (two IH X S L hv ho h (k := fun vv ov s2 => wpAny (model P.N.prog P.N.w) A (eval i env) (fun iv s3 => wpAny (model P.N.prog P.N.w) A (setItem ov iv vv) (fun _ => EPost P.N C env c s Q .next) NoE s3) NoE s2) fun vv ov s2 c2 d e S2 E2 r2 r2' q2 g2 o2 => ?_) (fun vv s1 h1 => ?_) fun _ _ e => e
 ·refine (IH C env false i z A c2 s2 loc _ X hi S2 (L.evo E2) q2).seq fun iv s3 c3 f S3 E3 r3 q3 g3 o3 => ?_
  obtain ⟨b, kvs, k, rfl, rfl, q4, hn, hz, q5⟩ := q3
  exact wpAny_mono (dict_set_sound (Q := fun σ => Q (.next loc) σ) S3 (r2'.mono E3.inc) r3 (r2.mono E3.inc) q4 hn hz q5) (fun _ s4 z => z.ep L (E2.trans E3) (g3.trans g2) (o3.trans o2) fun _ z => z) fun _ _ e => e
 ·show wpAny _ A (assign (.Subscript o i p) env vv) _ _ s1
  unfold assign
  exact wpAny_bind (wpAny_holding (wpAny_mono h1 (fun ov s2 h2 => wpAny_bind (wpAny_holding (wpAny_mono h2 (fun iv s3 h3 => wpAny_bind (wpAny_standAt (wpAny_bind (wpAny_holding (wpAny_mono h3 (fun _ s4 h4 => wpAny_release' h4) fun _ _ e => e))))) fun _ _ e => e))) fun _ _ e => e))
theorem st_setslice {o lo hi v : Expr} {p p' pos : Pos} {x y zl zh : ME} (IH : EvalAt P Sx r n) (X : XOk P C env A r) (S : SR P.N c s.heap) (L : LR P.N C env c s.heap loc) (hv : compE n C false v = some x) (ho : compE n C false o = some y) (hl : compE n C false lo = some zl) (hh : compE n C false hi = some zh)
  (h : execA P.T Sx (.setslice y zl zh x) loc c.σ Q) : WE P.N A C env (exec (.Assign [.Subscript o (.Slice (some lo) (some hi) none p') p] v pos) env) c s Q := by
 simp only [execA] at h
 refine wpAny_Assign_stores ?_ (by cases v <;> rfl) (by cases v <;> rfl)
 refine wpAny_mono (two IH X S L hv ho h (k := fun vv ov s2 => wpAny (model P.N.prog P.N.w) A (eval (.Slice (some lo) (some hi) none p') env) (fun iv s3 => wpAny (model P.N.prog P.N.w) A (setItem ov iv vv) (fun _ => EPost P.N C env c s Q .next) NoE s3) NoE s2) fun vv ov s2 c2 d e S2 E2 r2 r2' q2 g2 o2 => ?_) (fun vv s1 h1 => ?_) fun _ _ e => e
 ·refine wpAny_Slice ?_
  rw [evalPart_some, evalPart_some]
  refine two IH X S2 (L.evo E2) hl hh q2 fun vl vh s3 c3 dl dh S3 E3 r3 r3' q3 g3 o3 => ?_
  obtain ⟨b, l, ys, i, j, rfl, rfl, rfl, rfl, q4, h0, hij, hj, hz, q5⟩ := q3
  rw [evalPart_none]
  refine wpAny_pure ?_
  cases r3; cases r3'
  exact wpAny_mono (setslice_sound (w := .none) (Q := fun σ => Q (.next loc) σ) S3 (r2'.mono E3.inc) (r2.mono E3.inc) q4 h0 hij hj hz q5) (fun _ s4 z => z.ep L (E2.trans E3) (g3.trans g2) (o3.trans o2) fun _ z => z) fun _ _ e => e
 ·show wpAny _ A (do let ov ← holding [vv] (eval o env); let iv ← holding [vv, ov] (eval (.Slice (some lo) (some hi) none p') env); standAt p; holding [vv, ov, iv] (setItem ov iv vv); release [iv, vv, ov] []) _ _ s1
  exact wpAny_bind (wpAny_holding (wpAny_mono h1 (fun ov s2 h2 => wpAny_bind (wpAny_holding (wpAny_mono h2 (fun iv s3 h3 => wpAny_bind (wpAny_standAt (wpAny_bind (wpAny_holding (wpAny_mono h3 (fun _ s4 h4 => wpAny_release' h4) fun _ _ e => e))))) fun _ _ e => e))) fun _ _ e => e))
theorem swaps_pure (v t : Expr) (line : Nat) : ∃ b, swapsWith v (some t) line env = pure b := by
 cases v <;> first
  | exact ⟨false, rfl⟩
  | (cases t <;> first | exact ⟨_, rfl⟩ | exact ⟨false, rfl⟩)
theorem st_assign {t v : Expr} {pos : Pos} {tg : Tgt} {x : ME} {m : Bool} (IH : EvalAt P Sx r n) (X : XOk P C env A r) (S : SR P.N c s.heap) (L : LR P.N C env c s.heap loc) (hv : compE n C m v = some x) (ht : compT false n C t = some tg)
  (hs : swapsWith v (some t) pos.line env = pure false) (hw : swappedStores [t] v env = pure none) (h : execA P.T Sx (.assign tg x) loc c.σ Q) : WE P.N A C env (exec (.Assign [t] v pos) env) c s Q := by
 simp only [execA] at h
 refine wpAny_Assign_stores ?_ hs hw
 refine (IH C env m v x A c s loc _ X hv S L h).seq fun w s1 c1 d S1 E1 r1 q1 g1 o1 => ?_
 obtain ⟨loc', hl, q⟩ := q1
 have e : (assignEach [t] env).map (·.2) = [assign t env] := by rw [assignEach_cons ht]; rfl
 rw [e]
 show wpAny _ A (assign t env w) _ _ s1
 refine wpAny_mono (assign_sound (l := false) (X := Own env) X.a.h X.ctx (.inl rfl) (fun _ x a _ ha => .inr ⟨x, mem_of_lookup ha⟩) n t tg w d loc loc' s1 ht hl S1 (L.evo E1) r1) (fun _ s2 h2 => ?_) fun _ _ e => e
 obtain ⟨S2, E2, L2, g2, o2⟩ := h2
 exact ⟨c1, S2, (E1.weaken fun _ z => z.elim).trans E2, g2.trans g1, o2.trans o1, .inl ⟨rfl, loc', L2, q⟩⟩
theorem st_comp {elt tt it : Expr} {ifs : List Expr} {sc : Scope} {y : Str} {py pos cpos : Pos} {tg : Tgt} {e' : ME} {t' : Tgt} {mi : MI} {cs : List ME} {m : Bool} (F : PrgOk P) (IH : EvalAt P Sx r n) (IT : TestAt P Sx r n) (X : XOk P C env A r) (S : SR P.N c s.heap) (L : LR P.N C env c s.heap loc)
  (hok : compOk C sc = true) (ht : compT true n (C.inner sc) tt = some t') (he : compE n (C.inner sc) false elt = some e') (hcs : mapO (compE n (C.inner sc) false) ifs = some cs) (hi : compIt (compE n C false) C it = some mi) (htup : tupOnly mi = true → isTup tt = true)
  (hy : compT false (n + 1) C (.Name y py) = some tg) (hs : swapsWith (.ListComp elt [⟨tt, it, ifs, 0⟩] sc cpos) (some (.Name y py)) pos.line env = pure true)
  (h : execA P.T Sx (.assign tg (.comp m (compSlots sc C.n).length e' t' mi cs)) loc c.σ Q) : WE P.N A C env (exec (.Assign [.Name y py] (.ListComp elt [⟨tt, it, ifs, 0⟩] sc cpos) pos) env) c s Q := by
 simp only [execA] at h
 rw [exec_Assign_Name_used _ _ _ _ hs]
 refine wpAny_bind (wpAny_standAt (wpAny_bind ?_))
 show wpAny _ A (do let _ ← comprehension (.ListComp elt [⟨tt, it, ifs, 0⟩] sc cpos) sc env _ (newList []) false (eval it env) (some (assign (.Name y py) env))) _ _ s
 refine wpAny_bind (wpAny_mono (comp_core (use := some (assign (.Name y py) env)) (Q' := fun _ s' => EPost P.N C env c s Q .next s') F IH IT X S L hok ht he hcs hi htup h fun acc La c6 s6 d S6 E6 r6 q6 g6 o6 ⟨mm, ns⟩ ln fL => ?_) (fun _ s' hq => wpAny_pure (wpAny_pure hq)) fun _ _ e => e)
 obtain ⟨loc', hl, q⟩ := q6
 have nLO : ¬Own env La := fun o => by obtain ⟨z, e⟩ := L.own_some o; rw [fL] at e; cases e
 refine wpAny_mono (assign_sound (l := false) (X := Own env) X.a.h X.ctx (.inl rfl) (fun _ x a _ ha => .inr ⟨x, mem_of_lookup ha⟩) (n + 1) (.Name y py) tg acc d loc loc' s6 hy hl S6 (L.evo E6) r6) (fun _ s7 h7 => ?_) fun _ _ e => e
 obtain ⟨S7, E7, L7, g7, o7⟩ := h7
 obtain ⟨o, es, ep, e, rr⟩ := ns
 refine ⟨mm, ⟨o, es, ep, E7.keep _ _ e ln.1 nLO, rr⟩, fun h' hs' => ?_⟩
 have st : Stp (fun b => b = La) c6 s7.heap c6 h' := Stp.here fun b o nb e => (hs'.2 b nb).trans e
 exact ⟨c6, S7.kept (W := fun b => b = La) st.hk (fun b hb => by rw [hb]; exact ln), ((E6.weaken fun _ z => z.elim).trans E7).stp st (fun b hb => by rw [hb]; exact fL), g7.trans g6, o7.trans o6, .inl ⟨rfl, loc', L7.stp st (fun b ob hb => nLO (hb ▸ ob)), q⟩⟩
end
end Mine
end
section
namespace Mine
open PySem PySem.W PyProof.Rows PySem.Spec PyProof PySem.SeqAt
def swapNamesE (env : Env) (line : Nat) (ts : List Expr) : List Str := ts.filterMap fun
 | .Name id pos => if env.kindOf id == some .local && pos.line == line then some id else none
 | _ => none
theorem swapNamesE_eq {C : Ctx} {env : Env} (K : CtxOk C env) (line : Nat) (ts : List Expr) : swapNamesE env line ts = swapNames C line ts := by
 unfold swapNames swapNamesE
 congr 1
 funext e
 cases e <;> first | rfl | (simp only [K.kind])
theorem swap_eq {C : Ctx} {env : Env} (K : CtxOk C env) {ts vs : List Expr} {k k' : Nat} {p p' : Pos} {o : Option (List Str)} (h : swapFn C ts vs = some o) : swappedStores [.Tuple ts k p] (.Tuple vs k' p') env = pure o := by
 have hb : env.blockKind = .function := by unfold Env.blockKind; rw [K.fn]; rfl
 have e0 : swappedStores [.Tuple ts k p] (.Tuple vs k' p') env = (
   if (!(ts.length == 2 || ts.length == 3) || vs.length != ts.length || env.blockKind != .function) = true then pure none
   else if (vs.any isStar) = true then pure none
   else if ((swapNamesE env ((ts.head?.map (·.pos.line)).getD 0) ts).length != ts.length || (swapNamesE env ((ts.head?.map (·.pos.line)).getD 0) ts).eraseDups.length != (swapNamesE env ((ts.head?.map (·.pos.line)).getD 0) ts).length) = true then pure none
   else if vs.all (foldedForSure 8) = true then pure none
   else if vs.all (constantsAlone 8) = true then ((unsupported "assign.tuple-of-constant-expressions:order-of-the-stores" : Sem PUnit) >>= fun _ => pure (some (swapNamesE env ((ts.head?.map (·.pos.line)).getD 0) ts)))
   else pure (some (swapNamesE env ((ts.head?.map (·.pos.line)).getD 0) ts))) := by rfl
 rw [e0, swapNamesE_eq K, hb]
 unfold swapFn at h
 simp only [bne_self_eq_false, Bool.or_false]
 split at h
 ·rename_i q; cases h; rw [if_pos q]
 rename_i q; rw [if_neg q]
 split at h
 ·rename_i q; cases h; rw [if_pos q]
 rename_i q; rw [if_neg q]
 split at h
 ·rename_i q; cases h; rw [if_pos q]
 rename_i q; rw [if_neg q]
 split at h
 ·rename_i q; cases h; rw [if_pos q]
 rename_i q; rw [if_neg q]
 split at h
 ·cases h
 rename_i q; rw [if_neg q]
 cases h; rfl
section
variable {P : Prg} {Sx : Spec} {r n : Nat} {C : Ctx} {env : Env} {A : Around} {loc : List PV}
theorem args_soundM (IH : EvalAt P Sx r n) (X : XOk P C env A r) (pos : Pos) : ∀ (ts es : List Expr) (mes : List ME) (c : Cfg) (s : Shared) (R : List PV → Sto → Prop), compMs n C ts es = some mes → SR P.N c s.heap → LR P.N C env c s.heap loc →
  evalsA P.T Sx mes loc c.σ R → wpAny (model P.N.prog P.N.w) A (spliced (backTo pos (starEach es env))) (LPost P.N c s R) NoE s
 | [], [], mes, c, s, R, h, S, L, q => by
  cases h
  simp only [evalsA] at q
  exact wpAny_pure ⟨c, [], S, Evo.refl _ _ _, .nil, q, rfl, rfl⟩
 | [], _ :: _, _, _, _, _, h, _, _, _ => by simp [compMs] at h
 | _ :: _, [], _, _, _, _, h, _, _, _ => by simp [compMs] at h
 | t :: ts, e :: es, mes, c, s, R, h, S, L, q => by
  unfold compMs at h
  split at h
  ·rename_i y ys h1 h2
   cases h
   simp only [evalsA] at q
   rw [star_each h1, back_cons]
   refine Calls.spliced_cons ((IH C env _ e y A c s loc _ X h1 S L q).seq fun v s1 c1 d S1 E1 r1 q1 g1 o1 => ?_)
   refine wpAny_mono (args_soundM IH X pos ts es ys c1 s1 _ h2 S1 (L.evo E1) q1) (fun vs s2 h => ?_) fun _ _ e => e
   obtain ⟨c2, ds, S2, E2, r2, q2, g2, o2⟩ := h
   exact ⟨c2, _, S2, E1.trans E2, .cons (r1.mono E2.inc) r2, q2, g2.trans g1, o2.trans o1⟩
  ·cases h
theorem ev_tupM {ts es : List Expr} {k : Nat} {pos : Pos} {mes : List ME} {c : Cfg} {s : Shared} {Q : KV} (IH : EvalAt P Sx r n) (X : XOk P C env A r) (S : SR P.N c s.heap) (L : LR P.N C env c s.heap loc) (hm : compMs n C ts es = some mes) (h : evalA P.T Sx (.tup mes) loc c.σ Q) :
  WV P.N A (eval (.Tuple es k pos) env) c s Q := by
 simp only [evalA] at h
 refine wpAny_Tuple (wpAny_mono (args_soundM IH X pos ts es mes c s _ hm S L h) (fun vs s1 h1 => ?_) fun _ _ e => e)
 obtain ⟨c1, ds, S1, E1, r1, ⟨q1, q2⟩, g1, o1⟩ := h1
 refine ⟨by rw [r1.length]; exact q1, ?_⟩
 obtain ⟨S', E'⟩ := S1.freezeNew (X := NoX) (o := { cls := .type "tuple", data := .seq vs.toArray }) (fun _ _ e => Heap.get?_push_of_some _ e) (get_size_none _) (Heap.get?_push_size _ rfl)
 exact ⟨_, .tup ds, S', E1.trans E', .tup (by show (if _ = _ then some _ else _) = some _; rw [if_pos rfl]) ⟨by rw [r1.length]; exact q1, rfl, 0, rfl⟩ (r1.mono E'.inc), q2, g1, o1⟩
end
def setAll : List PV → List (Nat × PV) → List PV
 | l, [] => l
 | l, (i, v) :: r => setAll (l.set i v) r
theorem setAll_set : ∀ (r : List (Nat × PV)) (l : List PV) (i : Nat) (v : PV), (∀ p ∈ r, p.1 ≠ i) → setAll (l.set i v) r = (setAll l r).set i v
 | [], _, _, _, _ => rfl
 | (j, w) :: r, l, i, v, h => by
  have hj : j ≠ i := h (j, w) (List.mem_cons_self ..)
  show setAll ((l.set i v).set j w) r = (setAll (l.set j w) r).set i v
  rw [List.set_comm v w (Ne.symm hj)]
  exact setAll_set r _ i v fun p hp => h p (List.mem_cons_of_mem _ hp)
theorem setAll_append (l : List PV) (a b : List (Nat × PV)) : setAll l (a ++ b) = setAll (setAll l a) b := by
 induction a generalizing l with
 | nil => rfl
 | cons p a ih => obtain ⟨i, v⟩ := p; exact ih _
theorem setAll_rev : ∀ (r : List (Nat × PV)) (l : List PV), (r.map (·.1)).Nodup → setAll l r.reverse = setAll l r
 | [], _, _ => rfl
 | (i, v) :: r, l, h => by
  rw [List.map_cons, List.nodup_cons] at h
  rw [List.reverse_cons, setAll_append, setAll_rev r l h.2]
  show (setAll l r).set i v = setAll (l.set i v) r
  rw [setAll_set r l i v fun p hp e => h.1 (e ▸ List.mem_map_of_mem (f := (·.1)) hp)]
theorem stores_sound {N : Nm} {C : Ctx} {env : Env} {A : Around} {c : Cfg} (K : CtxOk C env) : ∀ (ps : List (Str × Nat)) (vs : List Value) (ds : List PV) (loc : List PV) (s : Shared), (∀ p ∈ ps, slotOf C.slots p.1 = some p.2 ∧ C.kind p.1 = some .local) → ps.length = ds.length → SR N c s.heap → LR N C env c s.heap loc → VRelL N c.I vs ds →
  wpAny (model N.prog N.w) A (assignInOrder (ps.map fun p => fun v => bindName env p.1 v) vs) (APost N C env (Own env) c s (setAll loc ((ps.map (·.2)).zip ds))) NoE s
 | [], vs, ds, loc, s, _, hl, S, L, r => by
  cases ds with
  | cons _ _ => cases hl
  | nil => cases r; exact wpAny_pure ⟨S, Evo.refl _ _ _, L, rfl, rfl⟩
 | (x, i) :: ps, vs, ds, loc, s, hp, hl, S, L, r => by
  cases r with
  | nil => cases hl
  | cons rx r =>
   rename_i v d vs ds
   obtain ⟨h1, h2⟩ := hp (x, i) (List.mem_cons_self ..)
   show wpAny _ A (holding vs (bindName env x v) >>= fun _ => assignInOrder (ps.map fun p => fun v => bindName env p.1 v) vs) _ _ s
   refine wpAny_bind (wpAny_holding (wpAny_bindName (L.store (X := Own env) K S h1 (.inl ⟨h2, .inl rfl⟩) rx fun h' tk S' E' L' => ?_)))
   exact wpAny_mono (stores_sound K ps vs ds (loc.set i d) { s with heap := h', toks := tk } (fun p hp' => hp p (List.mem_cons_of_mem _ hp')) (by simpa using hl) S' L' r) (fun _ _ z => z.trans (s1 := { s with heap := h', toks := tk }) E' rfl rfl) fun _ _ e => e
theorem swapNames_le (C : Ctx) (line : Nat) (ts : List Expr) : (swapNames C line ts).length ≤ ts.length := List.length_filterMap_le _ _
theorem swap_rel {C : Ctx} {n line : Nat} : ∀ (ts : List Expr) (tgs : List Tgt), (swapNames C line ts).length = ts.length → mapO (compT false n C) ts = some tgs →
  ∃ ps : List (Str × Nat), ps.map (·.1) = swapNames C line ts ∧ tgs = ps.map (fun p => Tgt.var p.2) ∧ ∀ p ∈ ps, slotOf C.slots p.1 = some p.2 ∧ C.kind p.1 = some .local
 | [], tgs, _, h => by cases h; exact ⟨[], rfl, rfl, fun _ h => by cases h⟩
 | t :: ts, tgs, hl, h => by
  unfold mapO at h
  split at h
  ·rename_i y ys h1 h2
   cases h
   have hle := swapNames_le C line ts
   have key : ∃ x pos, t = .Name x pos ∧ C.kind x = some .local ∧ swapNames C line (t :: ts) = x :: swapNames C line ts := by
    unfold swapNames at hl hle ⊢
    rw [List.filterMap_cons] at hl ⊢
    split at hl
    ·rw [List.length_cons] at hl; omega
    ·rename_i b hb
     cases t <;> simp only [reduceCtorEq] at hb
     rename_i nm pos
     split at hb
     ·rename_i q
      cases hb
      simp only [Bool.and_eq_true, beq_iff_eq] at q
      exact ⟨b, pos, rfl, q.1, rfl⟩
     ·cases hb
   obtain ⟨x, pos, rfl, hk, he⟩ := key
   rw [he] at hl
   obtain ⟨ps, e1, e2, e3⟩ := swap_rel ts ys (by simpa using hl) h2
   cases n with
   | zero => cases h1
   | succ n =>
    unfold compT at h1
    simp only [hk] at h1
    obtain ⟨i, hi, rfl⟩ := Option.map_eq_some_iff.mp h1
    refine ⟨(x, i) :: ps, by rw [he]; simp [e1], by simp [e2], fun p hp => ?_⟩
    rcases List.mem_cons.mp hp with rfl | hp
    ·exact ⟨hi, hk⟩
    ·exact e3 p hp
  ·cases h
theorem bindTs_vars : ∀ (ps : List Nat) (ds : List PV) (loc loc' : List PV), bindTs (ps.map Tgt.var) ds loc = some loc' → ps.length = ds.length ∧ loc' = setAll loc (ps.zip ds)
 | [], ds, loc, loc', h => by cases ds <;> simp [bindTs] at h; exact ⟨rfl, h.symm⟩
 | i :: ps, ds, loc, loc', h => by
  cases ds with
  | nil => simp [bindTs] at h
  | cons d ds =>
   rw [List.map_cons] at h
   simp only [bindTs] at h
   split at h
   ·rename_i l1 h1
    have h1' : (if i < loc.length then some (loc.set i d) else none) = some l1 := by simpa [bindT] using h1
    split at h1' <;> cases h1'
    obtain ⟨a, b⟩ := bindTs_vars ps ds _ loc' h
    exact ⟨by simp [a], b⟩
   ·cases h
section
variable {P : Prg} {Sx : Spec} {r n : Nat} {C : Ctx} {env : Env} {A : Around} {c : Cfg} {s : Shared} {loc : List PV} {Q : KO}
theorem st_tuple {ts es : List Expr} {k k' : Nat} {tp vp pos : Pos} {tg : Tgt} {xs : List ME} {o : Option (List Str)} (IH : EvalAt P Sx r n) (X : XOk P C env A r) (S : SR P.N c s.heap) (L : LR P.N C env c s.heap loc) (ht : compT false n C (.Tuple ts k tp) = some tg) (hv : compMs n C ts es = some xs)
  (hsw : swapFn C ts es = some o) (hnd : ∀ ns, o = some ns → nodupB ns = true ∧ (swapNames C ((ts.head?.map (·.pos.line)).getD 0) ts).length = ts.length ∧ ns = swapNames C ((ts.head?.map (·.pos.line)).getD 0) ts) (h : execA P.T Sx (.assign tg (.tup xs)) loc c.σ Q) : WE P.N A C env (exec (.Assign [.Tuple ts k tp] (.Tuple es k' vp) pos) env) c s Q := by
 simp only [execA] at h
 have hs : swapsWithSole [.Tuple ts k tp] (.Tuple es k' vp) pos.line env = pure false := rfl
 rw [arm_exec_Assign, hs]
 refine wpAny_bind (wpAny_standAt (wpAny_bind (wpAny_pure ?_)))
 rw [if_neg (by simp)]
 refine wpAny_bind ((ev_tupM IH X S L hv h).seq fun w s1 c1 d S1 E1 r1 q1 g1 o1 => ?_)
 obtain ⟨loc', hl, q⟩ := q1
 rw [swap_eq X.ctx hsw]
 refine wpAny_bind (wpAny_pure ?_)
 have L1 := L.evo E1
 cases o with
 | none =>
  have e : (assignEach [.Tuple ts k tp] env).map (·.2) = [assign (.Tuple ts k tp) env] := rfl
  rw [e]
  unfold assignStores assignAll
  dsimp only
  refine wpAny_bind (wpAny_mono (assign_sound (l := false) (X := Own env) X.a.h X.ctx (.inl rfl) (fun _ x a _ ha => .inr ⟨x, mem_of_lookup ha⟩) n (.Tuple ts k tp) tg w d loc loc' s1 ht hl S1 L1 r1) (fun _ s2 h2 => wpAny_pure ?_) fun _ _ e => e)
  obtain ⟨S2, E2, L2, g2, o2⟩ := h2
  exact ⟨c1, S2, (E1.weaken fun _ z => z.elim).trans E2, g2.trans g1, o2.trans o1, .inl ⟨rfl, loc', L2, q⟩⟩
 | some ns =>
  obtain ⟨hn, hlen, rfl⟩ := hnd _ rfl
  cases n with
  | zero => cases ht
  | succ n =>
   unfold compT at ht
   dsimp only at ht
   obtain ⟨tgs, hm, rfl⟩ := Option.map_eq_some_iff.mp ht
   obtain ⟨ps, e1, rfl, e3⟩ := swap_rel ts tgs hlen hm
   cases d <;> simp only [bindT, reduceCtorEq] at hl
   rename_i ds
   rw [show ps.map (fun p => Tgt.var p.2) = (ps.map (·.2)).map Tgt.var by simp] at hl
   obtain ⟨hl1, rfl⟩ := bindTs_vars _ _ _ _ hl
   rw [List.length_map] at hl1
   obtain ⟨p, vs, rfl, hp, rr, hz⟩ := tup_at S1 r1
   have hvl := rr.length
   rw [← e1]
   unfold assignStores
   dsimp only
   refine wpAny_bind (wpAny_rule (wpAny_bind ?_))
   have hlen2 : (ps.map (·.1)).length = vs.toArray.size := by rw [List.length_map, List.size_toArray]; omega
   rw [hlen2]
   refine wpAny_unpackItems_tuple X.a.h hp fun h' hs' => ?_
   have hk : ∀ b o, s1.heap.get? b = some o → h'.get? b = some o := fun b o e => hs' b o (Nat.ne_of_lt (Heap.lt_size e)) e
   have em : ((ps.map (·.1)).reverse.map fun n => bindName env n) = ps.reverse.map fun p => fun v => bindName env p.1 v := by
    rw [← List.map_reverse, List.map_map]; rfl
   rw [em]
   refine wpAny_bind (wpAny_mono (stores_sound X.ctx ps.reverse vs.reverse ds.reverse loc { s1 with heap := h' } (fun p hp => e3 p (List.mem_reverse.mp hp)) (by simp [hl1]) (S1.ext hk) (L1.evo (Evo.ext hk)) rr.reverse) (fun _ s2 h2 => wpAny_pure ?_) fun _ _ e => e)
   obtain ⟨S2, E2, L2, g2, o2⟩ := h2
   have inj : (ps.map (·.2)).Nodup := by
    have hn' : (ps.map (·.1)).Nodup := by rw [e1]; exact nodupB_spec hn
    have hp' : ps.Pairwise fun x y => x.2 ≠ y.2 := pairwise_of_nodup hn' fun a ha b hb e => X.ctx.inj a.1 b.1 a.2 (e3 a ha).1 (by rw [e]; exact (e3 b hb).1)
    exact List.pairwise_map.mpr hp'
   have er : setAll loc ((ps.reverse.map (·.2)).zip ds.reverse) = setAll loc ((ps.map (·.2)).zip ds) := by
    have ez : ∀ (a : List Nat) (b : List PV), a.length = b.length → a.reverse.zip b.reverse = (a.zip b).reverse := by
     intro a
     induction a with
     | nil => intro b hb; cases b <;> simp at hb ⊢
     | cons x a ih =>
      intro b hb
      cases b with
      | nil => simp at hb
      | cons y b =>
       have hb' : a.length = b.length := by simpa using hb
       rw [List.reverse_cons, List.reverse_cons, List.zip_append (by simp [hb']), ih b hb']
       simp
    rw [List.map_reverse, ez _ _ (by rw [List.length_map]; exact hl1)]
    exact setAll_rev _ _ (by rw [List.map_fst_zip (by rw [List.length_map]; omega)]; exact inj)
   rw [er] at L2
   exact ⟨c1, S2, ((E1.weaken fun _ z => z.elim).trans (Evo.ext hk)).trans E2, g2.trans g1, o2.trans o1, .inl ⟨rfl, _, L2, q⟩⟩
end
end Mine
end
section
namespace Mine
open PySem PySem.W PyProof.Rows PySem.Spec PyProof PySem.SeqAt
section
variable {P : Prg} {Sx : Spec} {r : Nat}
theorem compT_tup {ts : List Expr} {k : Nat} {p : Pos} {env : Env} {v : Expr} (h : (∀ es k' vp, v = .Tuple es k' vp → False)) : swappedStores [.Tuple ts k p] v env = pure none := by
 cases v <;> first | rfl | exact (h _ _ _ rfl).elim
theorem exec_step {n : Nat} (F : PrgOk P) (EV : ∀ n, EvalAt P Sx r n ∧ TestAt P Sx r n) (EX : ExecAt P Sx r n) : ExecAt P Sx r (n + 1) := by
 intro C env st ms A c s loc Q X hc S L h
 have IH := (EV n).1
 have IT := (EV n).2
 unfold compS at hc
 split at hc
 ·split at hc
  ·rename_i h1 h2 h3; cases hc; exact st_setattr F IH X S L h1 h2 h3 h
  ·cases hc
 ·split at hc
  ·rename_i h1 h2 h3 h4; cases hc; exact st_setslice IH X S L h1 h2 h3 h4 h
  ·cases hc
 ·split at hc
  ·rename_i h1 h2 h3; cases hc; exact st_setitem IH X S L h1 h2 h3 h
  ·cases hc
 ·rename_i ts k tp es k' vp pos
  split at hc
  ·cases hc
  rename_i hok
  split at hc
  ·rename_i h1 h2; cases hc
   cases hsw : swapFn C ts es with
   | none => simp [swapOk, hsw] at hok
   | some o =>
    refine st_tuple IH X S L h1 h2 hsw (fun ns e => ?_) h
    subst e
    refine ⟨by simpa [swapOk, hsw] using hok, ?_⟩
    unfold swapFn at hsw
    split at hsw
    ·cases hsw
    split at hsw
    ·cases hsw
    split at hsw
    ·cases hsw
    rename_i hq
    split at hsw
    ·cases hsw
    split at hsw
    ·cases hsw
    cases hsw
    simp only [Bool.or_eq_true, bne_iff_ne, not_or, ne_eq, Classical.not_not] at hq
    exact ⟨hq.1, rfl⟩
  ·cases hc
 ·rename_i t v pos hA hB hC hD
  split at hc
  rotate_left
  ·cases hc
  rename_i tg x h1 h2
  cases hc
  have hT : n ≠ 0 := fun z => by subst z; simp [compT] at h1
  obtain ⟨n', rfl⟩ := Nat.exists_eq_succ_of_ne_zero hT
  have h1' := h1
  unfold compT at h1'
  split at h1'
  ·rename_i y py
   obtain ⟨b, hb⟩ := swaps_pure (env := env) v (.Name y py) pos.line
   cases b with
   | false => exact st_assign IH X S L h2 h1 hb (by cases v <;> rfl) h
   | true =>
    have h2' := h2
    unfold compE at h2'
    dsimp only at h2'
    split at h2' 
    all_goals first
     | exact st_assign IH X S L h2 h1 rfl (by rfl) h
     | (cases h2'; done)
     | skip
    split at h2'
    rotate_left
    ·cases h2'
    rename_i hok
    split at h2'
    rotate_left
    ·cases h2'
    rename_i g1 g2 g3 g4
    split at h2'
    ·cases h2'
    rename_i htup
    cases h2'
    exact st_comp F (EV n').1 (EV n').2 X S L hok g1 g2 g3 g4 (fun z => by cases q : isTup _ <;> simp_all) h1 hb h
  ·rename_i ts k p
   exact st_assign IH X S L h2 h1 (by cases v <;> rfl) (compT_tup fun es k' vp e => hD ts k p es k' vp e rfl) h
  ·cases h1'
 ·split at hc
  ·cases hc
  rename_i hx
  obtain ⟨x, hx', rfl⟩ := Option.map_eq_some_iff.mp hc
  exact st_expr IH X S L (by simpa using hx) hx' h
 ·split at hc
  ·rename_i h1 h2 h3; cases hc; exact st_if IT EX X S L h1 h2 h3 h
  ·cases hc
 ·split at hc
  ·rename_i h1 h2; cases hc; exact st_while IT EX X S L h1 h2 h
  ·cases hc
 ·split at hc
  ·rename_i h1 h2 h3
   split at hc
   ·cases hc
   rename_i htup
   cases hc; exact st_for F IH EX X S L h1 h2 h3 (fun z => by cases q : isTup _ <;> simp_all) h
  ·cases hc
 ·obtain ⟨x, hx', rfl⟩ := Option.map_eq_some_iff.mp hc
  exact st_ret IH X S L hx' h
 ·cases hc
  simp only [execA, evalA] at h
  exact wpAny_Return_none ⟨c, S, Evo.refl _ _ _, rfl, rfl, .inr ⟨_, _, rfl, .none, h⟩⟩
 ·cases hc
  simp only [execA] at h
 ·cases hc
theorem exec_all (F : PrgOk P) (CS : CallsOk P Sx r) : ∀ n, ExecAt P Sx r n
 | 0 => fun _ _ _ _ _ _ _ _ _ _ hc => by simp [compS] at hc
 | n + 1 => exec_step F (eval_all F CS) (exec_all F CS n)
end
end Mine
end
section
namespace Mine
open PySem PySem.W PyProof.Rows PySem.Spec PyProof PySem.SeqAt
def Ctx.with (C : Ctx) (m : List Str) (d : Bool) : Ctx := { C with muts := m, deep := d }
section
variable {P : Prg} {S : Spec}
def FnBody (P : Prg) (S : Spec) (f : Nat) (a : AFun) (vs : List PV) (σ : Sto) (Q : KV) : Prop :=
 vs.length = a.nargs ∧ execsA P.T (below P S (P.rank f)) a.body (vs ++ List.replicate (a.nvars - a.nargs) .undef) σ fun o σ' => match o with
  | .next _ => Wk .none σ' Q
  | .ret v => Wk v σ' Q
def FnAll (P : Prg) (f : Nat) (a : AFun) : Prop := ∃ fd body ds m d, FnFact P f a fd body ds ∧ mapO (compS 40 ((fnCtx P.C0 fd).with m d)) body = some a.body
def Funs (P : Prg) (S : Spec) : Prop := ∀ f vs σ Q, S f vs σ Q → ∃ a, FnAll P f a ∧ FnBody P S f a vs σ Q
theorem CtxOk.with {C : Ctx} {env : Env} {m : List Str} {d : Bool} (h : CtxOk C env) : CtxOk (C.with m d) env := ⟨h.1, h.2, h.3, h.4, h.5, h.6, h.7, h.8⟩
theorem LR.with {N : Nm} {C : Ctx} {env : Env} {c : Cfg} {h : Heap} {loc : List PV} {m : List Str} {d : Bool} (x : LR N C env c h loc) : LR N (C.with m d) env c h loc := ⟨x.1, x.2, x.3, x.4, x.5⟩
theorem LR.without {N : Nm} {C : Ctx} {env : Env} {c : Cfg} {h : Heap} {loc : List PV} {m : List Str} {d : Bool} (x : LR N (C.with m d) env c h loc) : LR N C env c h loc := ⟨x.1, x.2, x.3, x.4, x.5⟩
theorem body_sound {f : Nat} {a : AFun} {fd : FuncData} {body : List Stmt} {m : List Str} {d : Bool} (F : PrgOk P) (CS : CallsOk P (below P S (P.rank f)) (P.rank f)) (hb : mapO (compS 40 ((fnCtx P.C0 fd).with m d)) body = some a.body) : BodySound P S f a fd body := by
 intro A env c s loc Q hA C G S' L h
 have X : XOk P ((fnCtx P.C0 fd).with m d) env A (P.rank f) := ⟨⟨rfl, rfl, rfl, rfl, rfl, rfl⟩, C.with, G, hA⟩
 refine wpAny_mono (execs_sound (exec_all F CS 40) X body a.body c s loc Q hb S' L.with h) (fun f s' ⟨c', h1, h2, h3, h4, h5⟩ => ⟨c', h1, h2, h3, h4, ?_⟩) fun _ _ e => e
 rcases h5 with ⟨e, loc, l, q⟩ | q
 ·exact .inl ⟨e, loc, l.without, q⟩
 ·exact .inr q
theorem calls_ok (F : PrgOk P) (H : Funs P S) : ∀ r, CallsOk P (below P S r) r := by
 intro r
 induction r using Nat.strongRecOn with
 | _ r ih =>
  intro f A c s vs args Q hA S' hv ⟨hr, h⟩
  obtain ⟨a, ⟨fd, body, ds, m, d, H1, H2⟩, hl, hb⟩ := H f _ _ _ h
  exact call_sound F H1 (body_sound F (ih _ hr) H2) ⟨hA.h, by have := hA.d; omega, by have := hA.u; omega⟩ S' hv hl hb
theorem run_call (F : PrgOk P) (H : Funs P S) {f : Nat} {A : Around} {c : Cfg} {s : Shared} {vs : List Value} {args : List PV} {Q : KV} (hA : COk A (P.rank f + 1)) (S' : SR P.N c s.heap) (hv : VRelL P.N c.I vs args) (h : S f (fill P.T f args) c.σ Q) :
  codeAny (model P.N.prog P.N.w) A (.call (.ref (P.fnA f)) ⟨vs, []⟩) (RPost P.N c s Q) s :=
 calls_ok F H (P.rank f + 1) f A c s vs args Q hA S' hv ⟨Nat.lt_succ_self _, h⟩
end
end Mine
end
section
namespace Mine
set_option maxRecDepth 10000
def b2 : List MS := [.ite (.attr (.var 0) 21) [.stuck] []]
def b3 : List MS := [.ite (.cmp .gt (.bin false .add (.meth (.var 0) 0 []) (.var 1)) (.glob 0)) [.stuck] []]
def b4 : List MS := [.assign (.tup [.var 3, .var 4]) (.tup [.blt .min [.var 1, .var 2], .blt .max [.var 1, .var 2]]), .ite (.or (.cmp .lt (.var 3) (.attr (.var 0) 17)) (.cmp .gt (.var 4) (.attr (.var 0) 18))) [.stuck] [], .ret (.tup [.var 3, .var 4])]
def b5 : List MS := [.for (.var 3) (.expr (.blt .copy [.attr (.var 0) 25])) [.expr (.meth (.var 3) 18 [.var 0, .var 1, .var 2])]]
def b6 : List MS := [.expr (.meth (.var 0) 17 [.bool true]), .for (.var 4) (.expr (.blt .copy [.attr (.var 0) 25])) [.expr (.meth (.var 4) 19 [.var 0, .var 1, .var 2, .var 3])]]
def b7 : List MS := [.ite (.cmp .isnot (.attr (.var 0) 26) (.none)) [.expr (.meth (.attr (.var 0) 26) 20 [.var 0, .var 1, .var 2])] [], .assign (.var 3) (.meth (.attr (.var 0) 14) 6 [.bin false .sub (.var 1) (.int 1), .bin false .sub (.var 2) (.int 1)]), .setattr (.var 0) 18 (.bin false .sub (.attr (.var 0) 18) (.bin false .sub (.var 2) (.var 1))), .ite (.cmp .gt (.attr (.var 0) 16) (.var 1)) [.setattr (.var 0) 16 (.blt .max [.var 1, .bin false .sub (.attr (.var 0) 16) (.bin false .sub (.var 2) (.var 1))])] [], .ret (.var 3)]
def b8 : List MS := [.ite (.cmp .isnot (.attr (.var 0) 26) (.none)) [.expr (.meth (.attr (.var 0) 26) 21 [.var 0, .var 1, .blt .len [.var 2]])] [], .expr (.meth (.attr (.var 0) 14) 5 [.bin false .sub (.var 1) (.int 1), .var 2]), .setattr (.var 0) 18 (.bin false .add (.attr (.var 0) 18) (.blt .len [.var 2])), .ite (.cmp .gt (.attr (.var 0) 16) (.var 1)) [.setattr (.var 0) 16 (.bin false .add (.attr (.var 0) 16) (.blt .len [.var 2]))] []]
def b9 : List MS := [.ite (.cmp .isnot (.attr (.var 0) 27) (.none)) [.expr (.meth (.attr (.var 0) 27) 22 [.bin false .sub (.var 1) (.int 1), .bin false .sub (.var 2) (.int 1)])] [], .ite (.cmp .isnot (.attr (.var 0) 28) (.none)) [.expr (.meth (.attr (.var 0) 28) 22 [.bin false .sub (.var 1) (.int 1), .bin false .sub (.var 2) (.int 1)])] []]
def b10 : List MS := [.ite (.cmp .isnot (.attr (.var 0) 27) (.none)) [.expr (.meth (.attr (.var 0) 27) 23 [.bin false .sub (.var 1) (.int 1), .var 2])] [], .ite (.cmp .isnot (.attr (.var 0) 28) (.none)) [.expr (.meth (.attr (.var 0) 28) 23 [.bin false .sub (.var 1) (.int 1), .var 2, .var 3])] []]
def b11 : List MS := [.expr (.call 2 [.var 0]), .expr (.call 4 [.var 0, .var 1, .var 1]), .ite (.cmp .eq (.blt .len [.var 2]) (.int 0)) [.ret (.none)] [], .expr (.call 3 [.var 0, .blt .len [.var 2]]), .expr (.call 5 [.var 0, .var 1, .var 1]), .expr (.call 8 [.var 0, .var 1, .var 2]), .ite (.var 4) [.setattr (.var 0) 16 (.bin false .add (.var 1) (.blt .len [.var 2]))] [], .expr (.meth (.attr (.var 0) 15) 10 [.var 1, .bin false .add (.var 1) (.blt .len [.var 2]), .var 3]), .expr (.call 10 [.var 0, .var 1, .blt .len [.var 2], .var 3]), .expr (.call 6 [.var 0, .var 1, .bin false .add (.var 1) (.blt .len [.var 2]), .int 0])]
def b12 : List MS := [.expr (.call 11 [.var 0, .var 1, .var 2, .var 3, .bool false])]
def b13 : List MS := [.expr (.call 11 [.var 0, .attr (.var 0) 16, .var 1, .var 2, .bool true])]
def b14 : List MS := [.expr (.call 2 [.var 0]), .assign (.tup [.var 3, .var 4]) (.call 4 [.var 0, .var 1, .var 2]), .ite (.cmp .eq (.var 3) (.var 4)) [.ret (.list false [])] [], .expr (.call 5 [.var 0, .var 3, .var 4]), .assign (.var 5) (.call 7 [.var 0, .var 3, .var 4]), .expr (.meth (.attr (.var 0) 15) 11 [.var 3, .var 4]), .expr (.call 9 [.var 0, .var 3, .var 4]), .expr (.call 6 [.var 0, .var 3, .var 3, .bin false .sub (.var 4) (.var 3)]), .ret (.var 5)]
def b15 : List MS := [.expr (.call 2 [.var 0]), .assign (.tup [.var 5, .var 6]) (.call 4 [.var 0, .var 1, .var 2]), .ite (.cmp .eq (.var 5) (.var 6)) [.expr (.call 12 [.var 0, .var 5, .var 3]), .ret (.list false [])] [], .ite (.cmp .eq (.blt .len [.var 3]) (.int 0)) [.ret (.call 14 [.var 0, .var 5, .var 6])] [], .expr (.call 3 [.var 0, .bin false .sub (.blt .len [.var 3]) (.bin false .sub (.var 6) (.var 5))]), .assign (.var 7) (.attr (.var 0) 16), .expr (.call 5 [.var 0, .var 5, .var 6]), .assign (.var 8) (.call 7 [.var 0, .var 5, .var 6]), .expr (.call 8 [.var 0, .var 5, .var 3]), .ite (.cmp .ge (.var 7) (.var 6)) [.setattr (.var 0) 16 (.bin false .sub (.bin false .add (.var 7) (.blt .len [.var 3])) (.bin false .sub (.var 6) (.var 5)))] [], .expr (.meth (.attr (.var 0) 15) 12 [.var 5, .var 6, .blt .len [.var 3]]), .expr (.call 10 [.var 0, .var 6, .blt .len [.var 3], .bool true]), .expr (.call 9 [.var 0, .var 5, .var 6]), .ite (.cmp .isnot (.var 4) (.none)) [.expr (.meth (.attr (.var 0) 27) 24 [.var 4])] [], .expr (.call 6 [.var 0, .var 5, .bin false .add (.var 5) (.blt .len [.var 3]), .bin false .sub (.var 6) (.var 5)]), .ret (.var 8)]
def b16 : List MS := [.ret (.or (.cmp .eq (.var 0) (.glob 1)) (.or (.cmp .eq (.var 0) (.glob 2)) (.cmp .eq (.var 0) (.glob 3))))]
def b17 : List MS := [.assign (.var 1) (.bin false .sub (.blt .len [.var 0]) (.int 1)), .while (.and (.cmp .ge (.var 1) (.int 0)) (.cmp .isin (.sub (.var 0) (.var 1)) (.glob 6))) [.assign (.var 1) (.bin false .sub (.var 1) (.int 1))], .ret (.and (.cmp .ge (.var 1) (.int 0)) (.cmp .isin (.sub (.var 0) (.var 1)) (.glob 5)))]
def b18 : List MS := [.ite (.not (.call 17 [.var 0])) [.ret (.int 1)] [], .ret (.ite (.or (.cmp .isin (.glob 3) (.var 1)) (.cmp .gt (.blt .len [.var 1]) (.int 1))) (.int 2) (.int 1))]
def b19 : List MS := [.assign (.var 1) (.list true []), .assign (.var 2) (.int 0), .while (.and (.cmp .lt (.var 2) (.blt .len [.var 0])) (.call 16 [.sub (.var 0) (.var 2)])) [.assign (.var 2) (.bin false .add (.var 2) (.int 1))], .while (.cmp .lt (.var 2) (.blt .len [.var 0])) [.assign (.var 3) (.var 2), .while (.and (.cmp .lt (.var 3) (.blt .len [.var 0])) (.not (.call 16 [.sub (.var 0) (.var 3)]))) [.assign (.var 3) (.bin false .add (.var 3) (.int 1))], .assign (.var 4) (.var 3), .while (.and (.cmp .lt (.var 4) (.blt .len [.var 0])) (.call 16 [.sub (.var 0) (.var 4)])) [.assign (.var 4) (.bin false .add (.var 4) (.int 1))], .expr (.append (.var 1) (.tup [.slice (.var 0) (some (.var 2)) (some (.var 3)), .call 18 [.slice (.var 0) (some (.var 2)) (some (.var 3)), .slice (.var 0) (some (.var 3)) (some (.var 4))]])), .assign (.var 2) (.var 4)], .ret (.var 1)]
def b20 : List MS := [.assign (.tup [.var 1, .var 2]) (.var 0), .ret (.or (.cmp .gt (.var 2) (.int 1)) (.cmp .ne (.sub (.var 1) (.bin false .sub (.blt .len [.var 1]) (.int 1))) (.glob 4)))]
def b21 : List MS := [.assign (.var 3) (.int 0), .assign (.var 4) (.var 1), .assign (.var 5) (.var 1), .while (.cmp .lt (.var 5) (.blt .len [.var 0])) [.assign (.tup [.var 6, .var 7]) (.sub (.var 0) (.var 5)), .assign (.var 3) (.bin false .add (.var 3) (.blt .len [.var 6])), .ite (.and (.cmp .gt (.var 3) (.var 2)) (.cmp .gt (.var 4) (.var 1))) [.ret (.var 4)] [], .assign (.var 5) (.bin false .add (.var 5) (.int 1)), .ite (.or (.cmp .eq (.var 5) (.blt .len [.var 0])) (.call 20 [.sub (.var 0) (.bin false .sub (.var 5) (.int 1))])) [.assign (.var 4) (.var 5), .ite (.cmp .gt (.var 3) (.var 2)) [.ret (.var 4)] []] [], .assign (.var 3) (.bin false .add (.var 3) (.var 7))], .ret (.blt .len [.var 0])]
def b22 : List MS := [.assign (.var 3) (.list true []), .assign (.var 4) (.int 0), .while (.cmp .lt (.var 4) (.blt .len [.var 0])) [.assign (.var 5) (.call 21 [.var 0, .var 4, .ite (.cmp .eq (.var 4) (.int 0)) (.var 1) (.var 2)]), .expr (.append (.var 3) (.slice (.var 0) (some (.var 4)) (some (.var 5)))), .assign (.var 4) (.var 5)], .ret (.var 3)]
def b23 : List MS := [.assign (.var 1) (.int 0), .for (.tup [.var 2, .var 3]) (.expr (.var 0)) [.assign (.var 1) (.bin false .add (.bin false .add (.var 1) (.blt .len [.var 2])) (.var 3))], .ret (.ite (.cmp .gt (.blt .len [.var 0]) (.int 0)) (.bin false .sub (.var 1) (.sub (.sub (.var 0) (.bin false .sub (.blt .len [.var 0]) (.int 1))) (.int 1))) (.int 0))]
def b24 : List MS := [.assign (.var 2) (.list true []), .for (.var 3) (.range (.blt .len [.var 0])) [.expr (.extend (.var 2) (.sub (.sub (.var 0) (.var 3)) (.int 0))), .ite (.cmp .lt (.var 3) (.bin false .sub (.blt .len [.var 0]) (.int 1))) [.expr (.extend (.var 2) (.bin false .mul (.list false [.glob 1]) (.sub (.var 1) (.var 3))))] []], .ret (.var 2)]
def b25 : List MS := [.ret (.comp false 2 (.var 2) (.tup [.var 1, .var 2]) (.expr (.var 0)) [])]
def b26 : List MS := [.assign (.var 2) (.call 25 [.var 0]), .assign (.var 3) (.bin false .sub (.blt .len [.var 0]) (.int 1)), .assign (.var 4) (.bin false .sub (.var 1) (.call 23 [.var 0])), .ite (.or (.cmp .lt (.var 3) (.int 1)) (.cmp .le (.var 4) (.int 0))) [.ret (.var 2)] [], .assign (.var 5) (.bin false .fdiv (.var 4) (.var 3)), .assign (.var 6) (.bin false .sub (.var 4) (.bin false .mul (.var 5) (.var 3))), .ret (.bin false .add (.comp false 1 (.bin false .add (.bin false .add (.sub (.var 2) (.var 7)) (.var 5)) (.ite (.cmp .ge (.var 7) (.bin false .sub (.var 3) (.var 6))) (.int 1) (.int 0))) (.var 7) (.range (.var 3)) []) (.slice (.var 2) (some (.var 3)) Option.none))]
def b27 : List MS := [.assign (.var 4) (.call 24 [.var 0, .call 25 [.var 0]]), .assign (.var 5) (.bin false .sub (.var 1) (.blt .len [.var 4])), .ite (.and (.cmp .eq (.var 2) (.str 1)) (.not (.var 3))) [.ret (.call 24 [.var 0, .call 26 [.var 0, .var 1]])] [], .ite (.or (.cmp .le (.var 5) (.int 0)) (.or (.cmp .eq (.var 2) (.str 0)) (.cmp .eq (.var 2) (.str 1)))) [.ret (.var 4)] [], .ite (.cmp .eq (.var 2) (.str 2)) [.ret (.bin false .add (.bin false .mul (.list false [.glob 1]) (.var 5)) (.var 4))] [], .ret (.bin false .add (.bin false .mul (.list false [.glob 1]) (.bin false .fdiv (.var 5) (.int 2))) (.var 4))]
def b28 : List MS := [.ret (.ite (.cmp .eq (.var 1) (.glob 7)) (.bin false .mul (.bin false .add (.bin false .fdiv (.var 0) (.var 2)) (.int 1)) (.var 2)) (.bin false .add (.var 0) (.int 1)))]
def b29 : List MS := [.assign (.var 3) (.int 0), .for (.var 4) (.expr (.slice (.var 0) Option.none (some (.var 1)))) [.assign (.var 3) (.call 28 [.var 3, .var 4, .var 2])], .ret (.var 3)]
def b30 : List MS := [.ret (.call 29 [.var 0, .blt .len [.var 0], .var 1])]
def b31 : List MS := [.setattr (.var 0) 0 (.var 1), .setattr (.var 0) 1 (.var 2), .setattr (.var 0) 2 (.var 3), .setattr (.var 0) 3 (.var 4)]
def b32 : List MS := [.assign (.var 1) (.list true [.list true []]), .for (.var 2) (.expr (.var 0)) [.ite (.cmp .eq (.var 2) (.glob 10)) [.expr (.append (.var 1) (.list true []))] [.expr (.append (.sub (.var 1) (.bin false .sub (.blt .len [.var 1]) (.int 1))) (.var 2))]], .ret (.var 1)]
def b33 : List MS := [.assign (.var 1) (.list true []), .for (.var 2) (.range (.blt .len [.var 0])) [.ite (.cmp .gt (.var 2) (.int 0)) [.expr (.append (.var 1) (.glob 10))] [], .expr (.extend (.var 1) (.sub (.var 0) (.var 2)))], .ret (.var 1)]
def b34 : List MS := [.assign (.var 2) (.int 0), .while (.and (.cmp .lt (.var 2) (.blt .len [.var 0])) (.or (.cmp .eq (.sub (.var 0) (.var 2)) (.glob 8)) (.or (.cmp .eq (.sub (.var 0) (.var 2)) (.glob 9)) (.cmp .isin (.sub (.var 0) (.var 2)) (.attr (.var 1) 2))))) [.assign (.var 2) (.bin false .add (.var 2) (.int 1))], .ret (.slice (.var 0) Option.none (some (.var 2)))]
def b35 : List MS := [.assign (.var 2) (.int 0), .while (.and (.cmp .lt (.var 2) (.blt .len [.var 0])) (.and (.cmp .lt (.var 2) (.blt .len [.var 1])) (.cmp .eq (.sub (.var 0) (.var 2)) (.sub (.var 1) (.var 2))))) [.assign (.var 2) (.bin false .add (.var 2) (.int 1))], .ret (.slice (.var 0) Option.none (some (.var 2)))]
def b36 : List MS := [.for (.var 1) (.expr (.var 0)) [.ite (.and (.cmp .ne (.var 1) (.glob 8)) (.cmp .ne (.var 1) (.glob 9))) [.ret (.bool false)] []], .ret (.bool true)]
def b37 : List MS := [.assign (.var 2) (.call 34 [.sub (.var 0) (.int 0), .var 1]), .ite (.cmp .eq (.blt .len [.var 0]) (.int 1)) [.ret (.tup [.var 2, .ite (.call 36 [.var 2]) (.var 2) (.list false [])])] [], .assign (.var 3) (.call 34 [.sub (.var 0) (.int 1), .var 1]), .for (.var 4) (.expr (.slice (.var 0) (some (.int 2)) Option.none)) [.assign (.var 3) (.call 35 [.var 3, .call 34 [.var 4, .var 1]])], .ret (.tup [.var 2, .var 3])]
def b38 : List MS := [.assign (.tup [.var 2, .var 3]) (.call 37 [.var 0, .var 1]), .assign (.var 4) (.slice (.sub (.var 0) (.int 0)) (some (.blt .len [.var 2])) Option.none), .for (.var 5) (.expr (.slice (.var 0) (some (.int 1)) Option.none)) [.assign (.var 4) (.bin false .add (.bin false .add (.var 4) (.list false [.glob 10])) (.slice (.var 5) (some (.blt .len [.var 3])) Option.none))], .assign (.var 6) (.bin false .sub (.attr (.var 1) 0) (.call 30 [.var 2, .attr (.var 1) 3])), .assign (.var 7) (.bin false .sub (.attr (.var 1) 0) (.call 30 [.var 3, .attr (.var 1) 3])), .assign (.var 8) (.list true []), .assign (.var 9) (.call 22 [.call 19 [.var 4], .var 6, .var 7]), .for (.var 10) (.range (.blt .len [.var 9])) [.assign (.var 11) (.ite (.cmp .eq (.var 10) (.int 0)) (.var 2) (.var 3)), .assign (.var 12) (.ite (.cmp .eq (.var 10) (.int 0)) (.var 6) (.var 7)), .expr (.append (.var 8) (.bin false .add (.var 11) (.call 27 [.sub (.var 9) (.var 10), .var 12, .attr (.var 1) 1, .cmp .eq (.var 10) (.bin false .sub (.blt .len [.var 9]) (.int 1))])))], .ret (.var 8)]
def b39 : List MS := [.assign (.var 2) (.list true []), .assign (.var 3) (.list true []), .for (.var 4) (.expr (.call 32 [.var 0])) [.ite (.cmp .eq (.blt .len [.call 34 [.var 4, .var 1]]) (.blt .len [.var 4])) [.ite (.cmp .gt (.blt .len [.var 3]) (.int 0)) [.expr (.extend (.var 2) (.call 38 [.var 3, .var 1])), .assign (.var 3) (.list true [])] [], .expr (.append (.var 2) (.var 4))] [.expr (.append (.var 3) (.var 4))]], .ite (.cmp .gt (.blt .len [.var 3]) (.int 0)) [.expr (.extend (.var 2) (.call 38 [.var 3, .var 1]))] [], .ret (.call 33 [.var 2])]
def b40 : List MS := [.assign (.var 2) (.var 1), .while (.and (.cmp .gt (.var 2) (.meth (.var 0) 13 [])) (.cmp .ne (.meth (.var 0) 15 [.bin false .sub (.var 2) (.int 1)]) (.glob 11))) [.assign (.var 2) (.bin false .sub (.var 2) (.int 1))], .ret (.var 2)]
def b41 : List MS := [.assign (.var 2) (.var 1), .while (.and (.cmp .lt (.var 2) (.meth (.var 0) 14 [])) (.cmp .ne (.meth (.var 0) 15 [.var 2]) (.glob 11))) [.assign (.var 2) (.bin false .add (.var 2) (.int 1))], .ret (.var 2)]
def b42 : List MS := [.assign (.var 1) (.list true []), .assign (.var 2) (.int 0), .while (.cmp .lt (.var 2) (.blt .len [.var 0])) [.assign (.var 3) (.var 2), .while (.and (.cmp .lt (.var 2) (.blt .len [.var 0])) (.cmp .notin (.sub (.var 0) (.var 2)) (.glob 12))) [.assign (.var 2) (.bin false .add (.var 2) (.int 1))], .ite (.cmp .gt (.var 2) (.var 3)) [.expr (.append (.var 1) (.tup [.var 3, .var 2]))] [.assign (.var 2) (.bin false .add (.var 2) (.int 1))]], .ret (.var 1)]
def b43 : List MS := [.assign (.var 2) (.list true []), .assign (.var 3) (.call 42 [.var 0]), .assign (.var 4) (.int 0), .for (.tup [.var 5, .var 6]) (.expr (.call 42 [.var 1])) [.assign (.var 7) (.var 4), .while (.and (.cmp .lt (.var 7) (.blt .min [.blt .len [.var 3], .bin false .add (.var 4) (.glob 13)])) (.cmp .ne (.slice (.var 0) (some (.sub (.sub (.var 3) (.var 7)) (.int 0))) (some (.sub (.sub (.var 3) (.var 7)) (.int 1)))) (.slice (.var 1) (some (.var 5)) (some (.var 6))))) [.assign (.var 7) (.bin false .add (.var 7) (.int 1))], .ite (.cmp .lt (.var 7) (.blt .min [.blt .len [.var 3], .bin false .add (.var 4) (.glob 13)])) [.expr (.append (.var 2) (.tup [.sub (.var 3) (.var 7), .tup [.var 5, .var 6]])), .assign (.var 4) (.bin false .add (.var 7) (.int 1))] []], .ret (.var 2)]
def b44 : List MS := [.assign (.var 4) (.int 0), .while (.and (.cmp .lt (.bin false .add (.var 0) (.var 4)) (.var 1)) (.and (.cmp .lt (.var 4) (.blt .len [.var 3])) (.cmp .eq (.sub (.var 2) (.bin false .add (.var 0) (.var 4))) (.sub (.var 3) (.var 4))))) [.assign (.var 4) (.bin false .add (.var 4) (.int 1))], .assign (.var 5) (.int 0), .while (.and (.cmp .lt (.bin false .add (.var 0) (.var 4)) (.bin false .sub (.var 1) (.var 5))) (.and (.cmp .lt (.var 4) (.bin false .sub (.blt .len [.var 3]) (.var 5))) (.cmp .eq (.sub (.var 2) (.bin false .sub (.bin false .sub (.var 1) (.var 5)) (.int 1))) (.sub (.var 3) (.bin false .sub (.bin false .sub (.blt .len [.var 3]) (.var 5)) (.int 1)))))) [.assign (.var 5) (.bin false .add (.var 5) (.int 1))], .ret (.tup [.bin false .add (.var 0) (.var 4), .bin false .sub (.var 1) (.var 5), .slice (.var 3) (some (.var 4)) (some (.bin false .sub (.blt .len [.var 3]) (.var 5)))])]
def b45 : List MS := [.assign (.var 2) (.list true []), .assign (.var 3) (.int 0), .assign (.var 4) (.int 0), .for (.tup [.tup [.var 5, .var 6], .tup [.var 7, .var 8]]) (.expr (.bin false .add (.call 43 [.var 0, .var 1]) (.list false [.tup [.tup [.blt .len [.var 0], .blt .len [.var 0]], .tup [.blt .len [.var 1], .blt .len [.var 1]]]]))) [.ite (.cmp .ne (.slice (.var 0) (some (.var 3)) (some (.var 5))) (.slice (.var 1) (some (.var 4)) (some (.var 7)))) [.expr (.append (.var 2) (.call 44 [.var 3, .var 5, .var 0, .slice (.var 1) (some (.var 4)) (some (.var 7))]))] [], .assign (.var 3) (.var 6), .assign (.var 4) (.var 8)], .ret (.var 2)]
def b46 : List MS := [.assign (.var 4) (.call 45 [.meth (.var 0) 2 [.var 1, .var 2], .var 3]), .for (.tup [.var 5, .var 6, .var 7]) (.expr (.rev (.var 4))) [.expr (.call 15 [.var 0, .bin false .add (.var 1) (.var 5), .bin false .add (.var 1) (.var 6), .var 7])], .ret (.cmp .gt (.blt .len [.var 4]) (.int 0))]
def b47 : List MS := [.assign (.tup [.var 4, .var 5]) (.call 4 [.var 0, .var 1, .var 2]), .assign (.var 4) (.call 40 [.var 0, .var 4]), .ret (.call 46 [.var 0, .var 4, .var 5, .call 39 [.meth (.var 0) 2 [.var 4, .var 5], .var 3]])]
def b48 : List MS := [.assign (.var 3) (.meth (.var 0) 2 [.call 40 [.var 0, .var 1], .call 41 [.var 0, .var 1]]), .ret (.cmp .eq (.blt .len [.call 34 [.var 3, .var 2]]) (.blt .len [.var 3]))]
def b49 : List MS := [.assign (.var 3) (.call 40 [.var 0, .var 1]), .while (.and (.cmp .lt (.var 3) (.attr (.var 0) 18)) (.call 48 [.var 0, .var 3, .var 2])) [.assign (.var 3) (.bin false .add (.call 41 [.var 0, .var 3]) (.int 1))], .ite (.or (.cmp .ge (.var 3) (.attr (.var 0) 18)) (.call 48 [.var 0, .var 3, .var 2])) [.ret (.tup [.var 1, .var 1])] [], .assign (.var 4) (.var 3), .while (.and (.cmp .gt (.var 4) (.attr (.var 0) 17)) (.not (.call 48 [.var 0, .bin false .sub (.var 4) (.int 1), .var 2]))) [.assign (.var 4) (.call 40 [.var 0, .bin false .sub (.var 4) (.int 1)])], .assign (.var 5) (.call 41 [.var 0, .var 3]), .while (.and (.cmp .lt (.var 5) (.attr (.var 0) 18)) (.not (.call 48 [.var 0, .bin false .add (.var 5) (.int 1), .var 2]))) [.assign (.var 5) (.call 41 [.var 0, .bin false .add (.var 5) (.int 1)])], .ret (.tup [.var 4, .var 5])]
def b50 : List MS := [.assign (.tup [.var 2, .var 3]) (.call 49 [.var 0, .attr (.var 0) 16, .var 1]), .ite (.cmp .eq (.var 2) (.var 3)) [.ret (.bool false)] [], .ret (.call 47 [.var 0, .var 2, .var 3, .var 1])]
def b51 : List MS := [.setattr (.var 0) 4 (.var 2), .setattr (.var 0) 5 (.bin true .add (.blt .copy [.var 1]) (.bin false .mul (.list false [.int 0]) (.var 2))), .setattr (.var 0) 6 (.blt .len [.var 1]), .setattr (.var 0) 7 (.bin false .add (.blt .len [.var 1]) (.var 2))]
def b52 : List MS := [.ret (.bin false .add (.bin false .sub (.blt .len [.attr (.var 0) 5]) (.attr (.var 0) 7)) (.attr (.var 0) 6))]
def b53 : List MS := [.ite (.cmp .lt (.var 1) (.attr (.var 0) 6)) [.ret (.sub (.attr (.var 0) 5) (.var 1))] [], .ret (.sub (.attr (.var 0) 5) (.bin false .add (.bin false .sub (.var 1) (.attr (.var 0) 6)) (.attr (.var 0) 7)))]
def b54 : List MS := [.assign (.var 3) (.bin false .sub (.attr (.var 0) 7) (.attr (.var 0) 6)), .ite (.cmp .le (.var 2) (.attr (.var 0) 6)) [.ret (.slice (.attr (.var 0) 5) (some (.var 1)) (some (.var 2)))] [], .ite (.cmp .ge (.var 1) (.attr (.var 0) 6)) [.ret (.slice (.attr (.var 0) 5) (some (.bin false .add (.var 1) (.var 3))) (some (.bin false .add (.var 2) (.var 3))))] [], .ret (.bin false .add (.slice (.attr (.var 0) 5) (some (.var 1)) (some (.attr (.var 0) 6))) (.slice (.attr (.var 0) 5) (some (.attr (.var 0) 7)) (some (.bin false .add (.var 2) (.var 3)))))]
def b55 : List MS := [.ite (.cmp .lt (.var 1) (.attr (.var 0) 6)) [.assign (.var 2) (.slice (.attr (.var 0) 5) (some (.var 1)) (some (.attr (.var 0) 6))), .setslice (.attr (.var 0) 5) (.bin false .sub (.attr (.var 0) 7) (.blt .len [.var 2])) (.attr (.var 0) 7) (.var 2), .setattr (.var 0) 7 (.bin false .sub (.attr (.var 0) 7) (.blt .len [.var 2]))] [.assign (.var 2) (.slice (.attr (.var 0) 5) (some (.attr (.var 0) 7)) (some (.bin false .sub (.bin false .add (.attr (.var 0) 7) (.var 1)) (.attr (.var 0) 6)))), .setslice (.attr (.var 0) 5) (.attr (.var 0) 6) (.bin false .add (.attr (.var 0) 6) (.blt .len [.var 2])) (.var 2), .setattr (.var 0) 7 (.bin false .add (.attr (.var 0) 7) (.blt .len [.var 2]))], .setattr (.var 0) 6 (.var 1)]
def b56 : List MS := [.assign (.var 2) (.bin false .sub (.var 1) (.bin false .sub (.attr (.var 0) 7) (.attr (.var 0) 6))), .ite (.cmp .gt (.var 2) (.int 0)) [.setslice (.attr (.var 0) 5) (.attr (.var 0) 7) (.attr (.var 0) 7) (.bin false .mul (.list false [.int 0]) (.bin false .add (.var 2) (.attr (.var 0) 4))), .setattr (.var 0) 7 (.bin false .add (.bin false .add (.attr (.var 0) 7) (.var 2)) (.attr (.var 0) 4))] []]
def b57 : List MS := [.expr (.meth (.var 0) 4 [.blt .len [.var 2]]), .expr (.meth (.var 0) 3 [.var 1]), .setslice (.attr (.var 0) 5) (.var 1) (.bin false .add (.var 1) (.blt .len [.var 2])) (.var 2), .setattr (.var 0) 6 (.bin false .add (.var 1) (.blt .len [.var 2]))]
def b58 : List MS := [.assign (.var 3) (.meth (.var 0) 2 [.var 1, .var 2]), .ite (.cmp .lt (.var 2) (.attr (.var 0) 6)) [.expr (.meth (.var 0) 3 [.var 2])] [], .ite (.cmp .gt (.var 1) (.attr (.var 0) 6)) [.expr (.meth (.var 0) 3 [.var 1])] [], .setattr (.var 0) 7 (.bin false .sub (.bin false .add (.attr (.var 0) 7) (.var 2)) (.attr (.var 0) 6)), .setattr (.var 0) 6 (.var 1), .ret (.var 3)]
def b59 : List MS := [.setitem (.attr (.var 0) 5) (.ite (.cmp .lt (.var 1) (.attr (.var 0) 6)) (.var 1) (.bin false .add (.bin false .sub (.var 1) (.attr (.var 0) 6)) (.attr (.var 0) 7))) (.var 2)]
def b65 : List MS := [.setattr (.var 0) 8 (.var 1), .setattr (.var 0) 9 (.var 2), .setattr (.var 0) 10 (.none), .setattr (.var 0) 11 (.int 0)]
def b69 : List MS := [.setattr (.var 0) 12 (.edict)]
def b70 : List MS := [.ret (.blt .sorted [.attr (.var 0) 12])]
def b71 : List MS := [.setitem (.attr (.var 0) 12) (.attr (.var 1) 8) (.var 1), .setattr (.var 1) 11 (.var 2)]
def b72 : List MS := [.ite (.cmp .isin (.attr (.var 1) 8) (.attr (.var 0) 12)) [.expr (.pop (.attr (.var 0) 12) (.attr (.var 1) 8))] []]
def b73 : List MS := [.assign (.var 3) (.list false []), .for (.var 4) (.expr (.meth (.var 0) 8 [])) [.ite (.cmp2 .le .le (.var 1) (.attr (.sub (.attr (.var 0) 12) (.var 4)) 11) (.var 2)) [.expr (.append (.var 3) (.sub (.attr (.var 0) 12) (.var 4)))] []], .ret (.var 3)]
def b74 : List MS := [.for (.var 4) (.expr (.meth (.var 0) 8 [])) [.assign (.var 5) (.sub (.attr (.var 0) 12) (.var 4)), .ite (.or (.cmp .gt (.attr (.var 5) 11) (.var 1)) (.and (.cmp .eq (.attr (.var 5) 11) (.var 1)) (.or (.var 3) (.attr (.var 5) 9)))) [.setattr (.var 5) 11 (.bin false .sub (.bin false .add (.attr (.var 5) 11) (.var 2)) (.var 1))] []]]
def b75 : List MS := [.for (.var 3) (.expr (.meth (.var 0) 8 [])) [.assign (.var 4) (.sub (.attr (.var 0) 12) (.var 3)), .ite (.cmp .gt (.attr (.var 4) 11) (.var 2)) [.setattr (.var 4) 11 (.bin false .sub (.attr (.var 4) 11) (.bin false .sub (.var 2) (.var 1)))] [.ite (.cmp .gt (.attr (.var 4) 11) (.var 1)) [.setattr (.var 4) 11 (.var 1)] []]]]
def b76 : List MS := [.for (.var 4) (.expr (.meth (.var 0) 8 [])) [.assign (.var 5) (.sub (.attr (.var 0) 12) (.var 4)), .ite (.cmp .ge (.attr (.var 5) 11) (.var 2)) [.setattr (.var 5) 11 (.bin false .sub (.bin false .add (.attr (.var 5) 11) (.var 3)) (.bin false .sub (.var 2) (.var 1)))] [.ite (.cmp .gt (.attr (.var 5) 11) (.var 1)) [.setattr (.var 5) 11 (.var 1)] []]]]
def b77 : List MS := [.setattr (.var 0) 8 (.var 1), .setattr (.var 0) 13 (.var 2), .setattr (.var 0) 14 (.new 1 [.list false [], .var 3]), .setattr (.var 0) 15 (.new 3 []), .setattr (.var 0) 16 (.int 1), .setattr (.var 0) 17 (.int 1), .setattr (.var 0) 18 (.int 1), .setattr (.var 0) 19 (.none), .setattr (.var 0) 20 (.bool true), .setattr (.var 0) 21 (.bool false), .setattr (.var 0) 22 (.int 1), .setattr (.var 0) 23 (.int 1), .setattr (.var 0) 24 (.int 1), .setattr (.var 0) 25 (.list false []), .setattr (.var 0) 26 (.none), .setattr (.var 0) 27 (.none), .setattr (.var 0) 28 (.none), .setattr (.var 0) 29 (.none), .setattr (.var 0) 30 (.none), .setattr (.var 0) 31 (.none)]
def b80 : List MS := [.ret (.attr (.var 0) 17)]
def b81 : List MS := [.ret (.attr (.var 0) 18)]
def b82 : List MS := [.ret (.meth (.attr (.var 0) 14) 0 [])]
def b83 : List MS := [.ite (.or (.cmp .lt (.var 1) (.attr (.var 0) 17)) (.cmp .ge (.var 1) (.attr (.var 0) 18))) [.ret (.int (-1))] [], .ret (.meth (.attr (.var 0) 14) 1 [.bin false .sub (.var 1) (.int 1)])]
def b84 : List MS := [.ret (.meth (.attr (.var 0) 14) 2 [.bin false .sub (.var 1) (.int 1), .bin false .sub (.var 2) (.int 1)])]
def b89 : List MS := [.setattr (.var 0) 22 (.bin false .add (.attr (.var 0) 22) (.int 1)), .ite (.var 1) [.setattr (.var 0) 23 (.attr (.var 0) 22)] []]
def b90 : List MS := [.ite (.and (.cmp .isnot (.attr (.var 0) 10) (.none)) (.cmp .isnot (.attr (.var 0) 10) (.var 1))) [.expr (.meth (.attr (.attr (.var 0) 10) 15) 9 [.var 0])] [], .setattr (.var 0) 10 (.var 1), .ite (.cmp .is (.var 1) (.none)) [.setattr (.var 0) 11 (.int 0)] [.expr (.meth (.attr (.var 1) 15) 7 [.var 0, .blt .min [.blt .max [.var 2, .int 1], .bin false .add (.meth (.var 1) 0 []) (.int 1)]])]]
def b91 : List MS := [.ret (.ite (.cmp .ne (.var 0) (.list false [])) (.bin false .mod (.pop (.var 0) (.int 0)) (.var 1)) (.int 0))]
def b92 : List MS := [.ret (.cmp .notin (.var 0) (.tup [.int 9, .int 10, .int 32]))]
def b93 : List MS := [.ret (.blt .len [.comp false 1 (.int 1) (.var 2) (.expr (.slice (.var 0) Option.none (some (.bin false .sub (.var 1) (.int 1))))) [.call 92 [.var 2]]])]
def b94 : List MS := [.ret (.and (.cmp2 .lt .le (.int 1) (.var 1) (.blt .len [.var 0])) (.and (.call 92 [.sub (.var 0) (.bin false .sub (.var 1) (.int 2))]) (.call 92 [.sub (.var 0) (.bin false .sub (.var 1) (.int 1))])))]
def b95 : List MS := [.for (.tup [.var 4, .var 5]) (.zip (.var 2) (.var 3)) [.ite (.cmp .ne (.call 93 [.var 0, .var 4]) (.call 93 [.var 1, .var 5])) [.ret (.bool false)] [], .ite (.and (.call 94 [.var 0, .var 4]) (.not (.call 94 [.var 1, .var 5]))) [.ret (.bool false)] []], .ret (.cmp .eq (.comp false 1 (.var 6) (.var 6) (.expr (.var 0)) [.call 92 [.var 6]]) (.comp false 1 (.var 6) (.var 6) (.expr (.var 1)) [.call 92 [.var 6]]))]
def b96 : List MS := [.assign (.tup [.var 1, .var 2]) (.tup [.comp true 1 (.blt .abs [.var 18]) (.var 18) (.expr (.slice (.var 0) Option.none (some (.int 60)))) [], .list false [.int 97, .int 98, .int 32, .int 10, .int 99, .int 97, .int 32, .int 46]]), .assign (.var 3) (.comp false 1 (.sub (.var 2) (.call 91 [.var 1, .int 8])) (.var 18) (.range (.bin false .add (.int 3) (.call 91 [.var 1, .int 30]))) []), .assign (.tup [.var 4, .var 5, .var 6]) (.tup [.new 4 [.int 1, .str 4], .bin false .add (.blt .len [.var 3]) (.int 1), .list true []]), .expr (.call 13 [.var 4, .var 3]), .assign (.var 7) (.comp false 1 (.bin false .add (.int 1) (.call 91 [.var 1, .var 5])) (.var 18) (.range (.int 4)) []), .for (.tup [.var 8, .var 9]) (.enum (.slice (.var 7) (some (.int 1)) Option.none)) [.expr (.append (.var 6) (.new 2 [.bin false .add (.var 8) (.int 1), .bool false])), .expr (.call 90 [.sub (.var 6) (.int (-1)), .var 4, .var 9])], .setattr (.var 4) 16 (.sub (.var 7) (.int 0)), .assign (.var 10) (.new 0 [.bin false .add (.int 2) (.call 91 [.var 1, .int 12]), .sub (.list false [.str 0, .str 1, .str 2, .str 3]) (.call 91 [.var 1, .int 4]), .list false [], .int 8]), .assign (.tup [.var 11, .var 12, .var 13]) (.tup [.bin false .add (.int 1) (.call 91 [.var 1, .var 5]), .bin false .add (.int 1) (.call 91 [.var 1, .var 5]), .cmp .eq (.call 91 [.var 1, .int 2]) (.int 1)]), .assign (.var 14) (.ite (.var 13) (.call 47 [.var 4, .var 11, .var 12, .var 10]) (.call 50 [.var 4, .var 10])), .assign (.var 15) (.meth (.var 4) 2 [.int 1, .bin false .add (.meth (.var 4) 0 []) (.int 1)]), .assign (.var 16) (.bin false .add (.list false [.attr (.var 4) 16]) (.comp false 1 (.attr (.var 18) 11) (.var 18) (.expr (.var 6)) [])), .ite (.or (.cmp .ne (.var 14) (.cmp .ne (.var 15) (.var 3))) (.not (.call 95 [.var 3, .var 15, .var 7, .var 16]))) [.ret (.bool false)] [], .ite (.or (.cmp .ne (.attr (.var 10) 1) (.str 0)) (.var 13)) [.ret (.bool true)] [], .assign (.var 17) (.attr (.var 4) 23), .ret (.and (.not (.call 50 [.var 4, .var 10])) (.cmp .eq (.attr (.var 4) 23) (.var 17)))]
def fnTab : Nat → Option AFun
 | 2 => some ⟨1, 1, [], b2⟩
 | 3 => some ⟨2, 2, [], b3⟩
 | 4 => some ⟨3, 5, [], b4⟩
 | 5 => some ⟨3, 4, [], b5⟩
 | 6 => some ⟨4, 5, [], b6⟩
 | 7 => some ⟨3, 4, [], b7⟩
 | 8 => some ⟨3, 3, [], b8⟩
 | 9 => some ⟨3, 3, [], b9⟩
 | 10 => some ⟨4, 4, [], b10⟩
 | 11 => some ⟨5, 5, [], b11⟩
 | 12 => some ⟨4, 4, [.bool false], b12⟩
 | 13 => some ⟨3, 3, [.bool false], b13⟩
 | 14 => some ⟨3, 6, [], b14⟩
 | 15 => some ⟨5, 9, [.none], b15⟩
 | 16 => some ⟨1, 1, [], b16⟩
 | 17 => some ⟨1, 2, [], b17⟩
 | 18 => some ⟨2, 2, [], b18⟩
 | 19 => some ⟨1, 5, [], b19⟩
 | 20 => some ⟨1, 3, [], b20⟩
 | 21 => some ⟨3, 8, [], b21⟩
 | 22 => some ⟨3, 6, [], b22⟩
 | 23 => some ⟨1, 4, [], b23⟩
 | 24 => some ⟨2, 4, [], b24⟩
 | 25 => some ⟨1, 1, [], b25⟩
 | 26 => some ⟨2, 7, [], b26⟩
 | 27 => some ⟨4, 6, [], b27⟩
 | 28 => some ⟨3, 3, [], b28⟩
 | 29 => some ⟨3, 5, [], b29⟩
 | 30 => some ⟨2, 2, [], b30⟩
 | 31 => some ⟨5, 5, [], b31⟩
 | 32 => some ⟨1, 3, [], b32⟩
 | 33 => some ⟨1, 3, [], b33⟩
 | 34 => some ⟨2, 3, [], b34⟩
 | 35 => some ⟨2, 3, [], b35⟩
 | 36 => some ⟨1, 2, [], b36⟩
 | 37 => some ⟨2, 5, [], b37⟩
 | 38 => some ⟨2, 13, [], b38⟩
 | 39 => some ⟨2, 5, [], b39⟩
 | 40 => some ⟨2, 3, [], b40⟩
 | 41 => some ⟨2, 3, [], b41⟩
 | 42 => some ⟨1, 4, [], b42⟩
 | 43 => some ⟨2, 8, [], b43⟩
 | 44 => some ⟨4, 6, [], b44⟩
 | 45 => some ⟨2, 9, [], b45⟩
 | 46 => some ⟨4, 8, [], b46⟩
 | 47 => some ⟨4, 6, [], b47⟩
 | 48 => some ⟨3, 4, [], b48⟩
 | 49 => some ⟨3, 6, [], b49⟩
 | 50 => some ⟨2, 4, [], b50⟩
 | 51 => some ⟨3, 3, [], b51⟩
 | 52 => some ⟨1, 1, [], b52⟩
 | 53 => some ⟨2, 2, [], b53⟩
 | 54 => some ⟨3, 4, [], b54⟩
 | 55 => some ⟨2, 3, [], b55⟩
 | 56 => some ⟨2, 3, [], b56⟩
 | 57 => some ⟨3, 3, [], b57⟩
 | 58 => some ⟨3, 4, [], b58⟩
 | 59 => some ⟨3, 3, [], b59⟩
 | 65 => some ⟨3, 3, [], b65⟩
 | 69 => some ⟨1, 1, [], b69⟩
 | 70 => some ⟨1, 1, [], b70⟩
 | 71 => some ⟨3, 3, [], b71⟩
 | 72 => some ⟨2, 2, [], b72⟩
 | 73 => some ⟨3, 5, [], b73⟩
 | 74 => some ⟨4, 6, [], b74⟩
 | 75 => some ⟨3, 5, [], b75⟩
 | 76 => some ⟨4, 6, [], b76⟩
 | 77 => some ⟨4, 4, [.int 8], b77⟩
 | 80 => some ⟨1, 1, [], b80⟩
 | 81 => some ⟨1, 1, [], b81⟩
 | 82 => some ⟨1, 1, [], b82⟩
 | 83 => some ⟨2, 2, [], b83⟩
 | 84 => some ⟨3, 3, [], b84⟩
 | 89 => some ⟨2, 2, [], b89⟩
 | 90 => some ⟨3, 3, [], b90⟩
 | 91 => some ⟨2, 2, [], b91⟩
 | 92 => some ⟨1, 1, [], b92⟩
 | 93 => some ⟨2, 2, [], b93⟩
 | 94 => some ⟨2, 2, [], b94⟩
 | 95 => some ⟨4, 6, [], b95⟩
 | 96 => some ⟨1, 18, [], b96⟩
 | _ => Option.none
def globTab : Nat → PV
 | 0 => .int 4194304 | 1 => .int 32 | 2 => .int 9 | 3 => .int 10 | 4 => .int 46 | 5 => .tup [.int 33, .int 46, .int 63] | 6 => .tup [.int 34, .int 39, .int 41, .int 93, .int 125]
 | 7 => .int 9 | 8 => .int 32 | 9 => .int 9 | 10 => .int 10 | 11 => .int 10 | 12 => .tup [.int 9, .int 10, .int 32] | 13 => .int 4 | _ => .none
def methTab : Nat → Nat → Option Nat
 | 1, 0 => some 52 -- GapText.size
 | 1, 1 => some 53 -- GapText.code
 | 1, 2 => some 54 -- GapText.codes
 | 1, 3 => some 55 -- GapText.move_gap
 | 1, 4 => some 56 -- GapText.widen_gap
 | 1, 5 => some 57 -- GapText.insert
 | 1, 6 => some 58 -- GapText.delete
 | 1, 7 => some 59 -- GapText.put
 | 3, 7 => some 71 -- Markers.put
 | 3, 8 => some 70 -- Markers.numbers
 | 3, 9 => some 72 -- Markers.drop
 | 3, 10 => some 74 -- Markers.inserted
 | 3, 11 => some 75 -- Markers.deleted
 | 3, 12 => some 76 -- Markers.replaced
 | 4, 0 => some 82 -- Buffer.size
 | 4, 2 => some 84 -- Buffer.codes
 | 4, 13 => some 80 -- Buffer.begin
 | 4, 14 => some 81 -- Buffer.end
 | 4, 15 => some 83 -- Buffer.code_at
 | 4, 16 => some 85 -- Buffer.goto
 | 4, 17 => some 89 -- Buffer.touch
 | _, _ => Option.none
def initTab : Nat → Option Nat
 | 0 => some 31
 | 1 => some 51
 | 2 => some 65
 | 3 => some 69
 | 4 => some 77
 | _ => Option.none
def theT : Tabs := ⟨fnTab, globTab, methTab, initTab⟩
end Mine
end
section
namespace Mine
open PySem
def z0 : Str := ⟨#[76,79,78,71,69,83,84]⟩
def z1 : Str := ⟨#[66,76,65,78,75,95,102,105,108,108,119,111,114,100,115]⟩
def z2 : Str := ⟨#[84,65,66,95,102,105,108,108,119,111,114,100,115]⟩
def z3 : Str := ⟨#[82,79,87,95,69,78,68,95,102,105,108,108,119,111,114,100,115]⟩
def z4 : Str := ⟨#[80,69,82,73,79,68]⟩
def z5 : Str := ⟨#[69,78,68,83]⟩
def z6 : Str := ⟨#[67,76,79,83,69,82,83]⟩
def z7 : Str := ⟨#[84,65,66,95,114,101,99,116,99,111,108,115]⟩
def z8 : Str := ⟨#[66,76,65,78,75,95,102,105,108,108,116,101,120,116]⟩
def z9 : Str := ⟨#[84,65,66,95,102,105,108,108,116,101,120,116]⟩
def z10 : Str := ⟨#[82,79,87,95,69,78,68,95,102,105,108,108,116,101,120,116]⟩
def z11 : Str := ⟨#[78,69,87,76,73,78,69]⟩
def z12 : Str := ⟨#[66,76,65,78,75,83]⟩
def z13 : Str := ⟨#[70,65,82,84,72,69,83,84]⟩
def z14 : Str := ⟨#[70,105,108,108,105,110,103]⟩
def z15 : Str := ⟨#[71,97,112,84,101,120,116]⟩
def z16 : Str := ⟨#[77,97,114,107,101,114]⟩
def z17 : Str := ⟨#[77,97,114,107,101,114,115]⟩
def z18 : Str := ⟨#[66,117,102,102,101,114]⟩
def z19 : Str := ⟨#[99,101,108,108,115]⟩
def z20 : Str := ⟨#[114,111,119,115]⟩
def z21 : Str := ⟨#[115,105,122,101]⟩
def z22 : Str := ⟨#[99,111,100,101]⟩
def z23 : Str := ⟨#[99,111,100,101,115]⟩
def z24 : Str := ⟨#[109,111,118,101,95,103,97,112]⟩
def z25 : Str := ⟨#[119,105,100,101,110,95,103,97,112]⟩
def z26 : Str := ⟨#[105,110,115,101,114,116]⟩
def z27 : Str := ⟨#[100,101,108,101,116,101]⟩
def z28 : Str := ⟨#[112,117,116]⟩
def z29 : Str := ⟨#[110,117,109,98,101,114,115]⟩
def z30 : Str := ⟨#[100,114,111,112]⟩
def z31 : Str := ⟨#[105,110,115,101,114,116,101,100]⟩
def z32 : Str := ⟨#[100,101,108,101,116,101,100]⟩
def z33 : Str := ⟨#[114,101,112,108,97,99,101,100]⟩
def z34 : Str := ⟨#[98,101,103,105,110]⟩
def z35 : Str := ⟨#[101,110,100]⟩
def z36 : Str := ⟨#[99,111,100,101,95,97,116]⟩
def z37 : Str := ⟨#[103,111,116,111]⟩
def z38 : Str := ⟨#[116,111,117,99,104]⟩
def z39 : Str := ⟨#[102,111,117,110,100]⟩
def z40 : Str := ⟨#[100,101,99,107]⟩
def z41 : Str := ⟨#[109,97,114,107,115]⟩
def z42 : Str := ⟨#[95,95,110,97,109,101,95,95]⟩
def z43 : Str := ⟨#[108,97,119,95,112,113,48,50,57,54,95,48,50]⟩
def z44 : Str := ⟨#[95,95,100,111,99,95,95]⟩
def z45 : Str := ⟨#[95,95,112,97,99,107,97,103,101,95,95]⟩
def z46 : Str := ⟨#[95,95,108,111,97,100,101,114,95,95]⟩
def z47 : Str := ⟨#[95,95,115,112,101,99,95,95]⟩
def z48 : Str := ⟨#[95,95,97,110,110,111,116,97,116,105,111,110,115,95,95]⟩
def z49 : Str := ⟨#[95,95,98,117,105,108,116,105,110,115,95,95]⟩
def z50 : Str := ⟨#[95,95,102,105,108,101,95,95]⟩
def z51 : Str := ⟨#[47,99,108,97,105,109,47,99,117,116,46,112,121]⟩
def z52 : Str := ⟨#[95,95,99,97,99,104,101,100,95,95]⟩
def z53 : Str := ⟨#[95,119,97,108,108]⟩
def z54 : Str := ⟨#[76,105,115,112,83,105,103,110,97,108]⟩
def z55 : Str := ⟨#[110,101,101,100,95,119,114,105,116,97,98,108,101]⟩
def z56 : Str := ⟨#[110,101,101,100,95,114,111,111,109]⟩
def z57 : Str := ⟨#[114,101,97,99,104,101,100]⟩
def z58 : Str := ⟨#[116,101,108,108,95,97,104,101,97,100]⟩
def z59 : Str := ⟨#[116,101,108,108,95,98,101,104,105,110,100]⟩
def z60 : Str := ⟨#[116,101,120,116,95,111,117,116]⟩
def z61 : Str := ⟨#[116,101,120,116,95,105,110]⟩
def z62 : Str := ⟨#[104,117,110,103,95,111,117,116]⟩
def z63 : Str := ⟨#[104,117,110,103,95,105,110]⟩
def z64 : Str := ⟨#[112,117,116,95,105,110]⟩
def z65 : Str := ⟨#[105,110,115,101,114,116,95,97,116]⟩
def z66 : Str := ⟨#[114,101,112,108,97,99,101]⟩
def z67 : Str := ⟨#[105,115,95,98,108,97,110,107]⟩
def z68 : Str := ⟨#[101,110,100,115,95,115,101,110,116,101,110,99,101]⟩
def z69 : Str := ⟨#[103,97,112,95,111,102]⟩
def z70 : Str := ⟨#[112,105,101,99,101,115,95,111,102]⟩
def z71 : Str := ⟨#[109,97,121,95,98,114,101,97,107]⟩
def z72 : Str := ⟨#[114,111,119,95,101,110,100]⟩
def z73 : Str := ⟨#[114,111,119,115,95,111,102]⟩
def z74 : Str := ⟨#[114,111,119,95,119,105,100,116,104]⟩
def z75 : Str := ⟨#[114,111,119,95,99,111,100,101,115]⟩
def z76 : Str := ⟨#[111,119,110,95,103,97,112,115]⟩
def z77 : Str := ⟨#[115,112,114,101,97,100,95,103,97,112,115]⟩
def z78 : Str := ⟨#[112,108,97,99,101,100,95,114,111,119]⟩
def z79 : Str := ⟨#[99,111,108,117,109,110,95,98,101,104,105,110,100]⟩
def z80 : Str := ⟨#[99,111,108,117,109,110,95,97,116]⟩
def z81 : Str := ⟨#[114,111,119,95,99,111,108,117,109,110,115]⟩
def z82 : Str := ⟨#[115,112,108,105,116,95,114,111,119,115]⟩
def z83 : Str := ⟨#[106,111,105,110,101,100,95,114,111,119,115]⟩
def z84 : Str := ⟨#[108,101,97,100,95,111,102]⟩
def z85 : Str := ⟨#[99,111,109,109,111,110,95,115,116,97,114,116]⟩
def z86 : Str := ⟨#[105,115,95,98,108,97,110,107,95,108,101,97,100]⟩
def z87 : Str := ⟨#[108,101,97,100,115,95,111,102]⟩
def z88 : Str := ⟨#[102,105,108,108,101,100,95,112,97,114,97,103,114,97,112,104]⟩
def z89 : Str := ⟨#[102,105,108,108,101,100,95,116,101,120,116]⟩
def z90 : Str := ⟨#[108,105,110,101,95,115,116,97,114,116]⟩
def z91 : Str := ⟨#[108,105,110,101,95,101,110,100]⟩
def z92 : Str := ⟨#[119,111,114,100,95,115,112,97,110,115]⟩
def z93 : Str := ⟨#[107,101,112,116,95,119,111,114,100,115]⟩
def z94 : Str := ⟨#[110,97,114,114,111,119,101,100]⟩
def z95 : Str := ⟨#[101,100,105,116,115,95,98,101,116,119,101,101,110]⟩
def z96 : Str := ⟨#[112,117,116,95,116,101,120,116]⟩
def z97 : Str := ⟨#[102,105,108,108,95,114,101,103,105,111,110]⟩
def z98 : Str := ⟨#[105,115,95,112,97,114,116,105,110,103]⟩
def z99 : Str := ⟨#[112,97,114,97,103,114,97,112,104,95,97,116]⟩
def z100 : Str := ⟨#[102,105,108,108,95,112,97,114,97,103,114,97,112,104]⟩
def z101 : Str := ⟨#[79,112,97,113,117,101]⟩
def z102 : Str := ⟨#[115,101,116,95,109,97,114,107,101,114]⟩
def z103 : Str := ⟨#[95,108,97,119,95,100,114,97,119]⟩
def z104 : Str := ⟨#[95,108,97,119,95,105,115,95,119,111,114,100]⟩
def z105 : Str := ⟨#[95,108,97,119,95,97,104,101,97,100]⟩
def z106 : Str := ⟨#[95,108,97,119,95,119,105,116,104,105,110]⟩
def z107 : Str := ⟨#[95,108,97,119,95,105,115,95,107,101,112,116]⟩
def z108 : Str := ⟨#[108,97,119]⟩
def z109 : Str := ⟨#[101,109,97,99,115,46,101,100,105,116,105,110,103]⟩
def z110 : Str := ⟨#[101,109,97,99,115,46,102,105,108,108,119,111,114,100,115]⟩
def z111 : Str := ⟨#[101,109,97,99,115,46,114,101,99,116,99,111,108,115]⟩
def z112 : Str := ⟨#[95,95,105,110,105,116,95,95]⟩
def z113 : Str := ⟨#[70,105,108,108,105,110,103,46,95,95,105,110,105,116,95,95]⟩
def z114 : Str := ⟨#[101,109,97,99,115,46,102,105,108,108,116,101,120,116]⟩
def z115 : Str := ⟨#[95,95,109,111,100,117,108,101,95,95]⟩
def z116 : Str := ⟨#[95,95,102,105,114,115,116,108,105,110,101,110,111,95,95]⟩
def z117 : Str := ⟨#[95,95,115,116,97,116,105,99,95,97,116,116,114,105,98,117,116,101,115,95,95]⟩
def z118 : Str := ⟨#[95,95,100,105,99,116,95,95]⟩
def z119 : Str := ⟨#[95,95,119,101,97,107,114,101,102,95,95]⟩
def z120 : Str := ⟨#[101,109,97,99,115,46,108,105,110,101,115]⟩
def z121 : Str := ⟨#[101,109,97,99,115,46,119,111,114,100,101,100,105,116,115]⟩
def z122 : Str := ⟨#[101,109,97,99,115,46,102,105,108,108]⟩
def z123 : Str := ⟨#[71,97,112,84,101,120,116,46,95,95,105,110,105,116,95,95]⟩
def z124 : Str := ⟨#[101,109,97,99,115,46,103,97,112]⟩
def z125 : Str := ⟨#[71,97,112,84,101,120,116,46,115,105,122,101]⟩
def z126 : Str := ⟨#[71,97,112,84,101,120,116,46,99,111,100,101]⟩
def z127 : Str := ⟨#[71,97,112,84,101,120,116,46,99,111,100,101,115]⟩
def z128 : Str := ⟨#[71,97,112,84,101,120,116,46,109,111,118,101,95,103,97,112]⟩
def z129 : Str := ⟨#[71,97,112,84,101,120,116,46,119,105,100,101,110,95,103,97,112]⟩
def z130 : Str := ⟨#[71,97,112,84,101,120,116,46,105,110,115,101,114,116]⟩
def z131 : Str := ⟨#[71,97,112,84,101,120,116,46,100,101,108,101,116,101]⟩
def z132 : Str := ⟨#[71,97,112,84,101,120,116,46,112,117,116]⟩
def z133 : Str := ⟨#[110,97,114,114,111,119,95,103,97,112]⟩
def z134 : Str := ⟨#[71,97,112,84,101,120,116,46,110,97,114,114,111,119,95,103,97,112]⟩
def z135 : Str := ⟨#[105,115,95,119,104,111,108,101]⟩
def z136 : Str := ⟨#[71,97,112,84,101,120,116,46,105,115,95,119,104,111,108,101]⟩
def z137 : Str := ⟨#[115,104,111,119,110]⟩
def z138 : Str := ⟨#[79,112,97,113,117,101,46,115,104,111,119,110]⟩
def z139 : Str := ⟨#[101,109,97,99,115,46,111,98,106,101,99,116,115]⟩
def z140 : Str := ⟨#[107,105,110,100]⟩
def z141 : Str := ⟨#[79,112,97,113,117,101,46,107,105,110,100]⟩
def z142 : Str := ⟨#[115,97,109,101,95,97,115]⟩
def z143 : Str := ⟨#[79,112,97,113,117,101,46,115,97,109,101,95,97,115]⟩
def z144 : Str := ⟨#[77,97,114,107,101,114,46,95,95,105,110,105,116,95,95]⟩
def z145 : Str := ⟨#[101,109,97,99,115,46,109,97,114,107,101,114,115]⟩
def z146 : Str := ⟨#[77,97,114,107,101,114,46,115,104,111,119,110]⟩
def z147 : Str := ⟨#[77,97,114,107,101,114,46,107,105,110,100]⟩
def z148 : Str := ⟨#[77,97,114,107,101,114,46,115,97,109,101,95,97,115]⟩
def z149 : Str := ⟨#[77,97,114,107,101,114,115,46,95,95,105,110,105,116,95,95]⟩
def z150 : Str := ⟨#[77,97,114,107,101,114,115,46,110,117,109,98,101,114,115]⟩
def z151 : Str := ⟨#[77,97,114,107,101,114,115,46,112,117,116]⟩
def z152 : Str := ⟨#[77,97,114,107,101,114,115,46,100,114,111,112]⟩
def z153 : Str := ⟨#[119,105,116,104,105,110]⟩
def z154 : Str := ⟨#[77,97,114,107,101,114,115,46,119,105,116,104,105,110]⟩
def z155 : Str := ⟨#[77,97,114,107,101,114,115,46,105,110,115,101,114,116,101,100]⟩
def z156 : Str := ⟨#[77,97,114,107,101,114,115,46,100,101,108,101,116,101,100]⟩
def z157 : Str := ⟨#[77,97,114,107,101,114,115,46,114,101,112,108,97,99,101,100]⟩
def z158 : Str := ⟨#[66,117,102,102,101,114,46,95,95,105,110,105,116,95,95]⟩
def z159 : Str := ⟨#[101,109,97,99,115,46,98,117,102,102,101,114]⟩
def z160 : Str := ⟨#[66,117,102,102,101,114,46,115,104,111,119,110]⟩
def z161 : Str := ⟨#[66,117,102,102,101,114,46,107,105,110,100]⟩
def z162 : Str := ⟨#[66,117,102,102,101,114,46,98,101,103,105,110]⟩
def z163 : Str := ⟨#[66,117,102,102,101,114,46,101,110,100]⟩
def z164 : Str := ⟨#[66,117,102,102,101,114,46,115,105,122,101]⟩
def z165 : Str := ⟨#[66,117,102,102,101,114,46,99,111,100,101,95,97,116]⟩
def z166 : Str := ⟨#[66,117,102,102,101,114,46,99,111,100,101,115]⟩
def z167 : Str := ⟨#[66,117,102,102,101,114,46,103,111,116,111]⟩
def z168 : Str := ⟨#[116,105,99,107]⟩
def z169 : Str := ⟨#[66,117,102,102,101,114,46,116,105,99,107]⟩
def z170 : Str := ⟨#[105,115,95,109,111,100,105,102,105,101,100]⟩
def z171 : Str := ⟨#[66,117,102,102,101,114,46,105,115,95,109,111,100,105,102,105,101,100]⟩
def z172 : Str := ⟨#[115,101,116,95,109,111,100,105,102,105,101,100]⟩
def z173 : Str := ⟨#[66,117,102,102,101,114,46,115,101,116,95,109,111,100,105,102,105,101,100]⟩
def z174 : Str := ⟨#[66,117,102,102,101,114,46,116,111,117,99,104]⟩
def globNames : List Str := [z0, z1, z2, z3, z4, z5, z6, z7, z8, z9, z10, z11, z12, z13]
def clsNames : List Str := [z14, z15, z16, z17, z18]
def attrNames : List Str := [⟨#[99,111,108,117,109,110]⟩, ⟨#[119,97,121]⟩, ⟨#[108,101,97,100,115]⟩, ⟨#[116,97,98]⟩, ⟨#[114,111,111,109]⟩, z19, ⟨#[103,97,112,95,115,116,97,114,116]⟩, ⟨#[103,97,112,95,101,110,100]⟩, ⟨#[110,117,109,98,101,114]⟩, ⟨#[97,100,118,97,110,99,101,115]⟩, ⟨#[98,117,102,102,101,114]⟩, ⟨#[112,111,115,105,116,105,111,110]⟩, z20, ⟨#[110,97,109,101]⟩, ⟨#[116,101,120,116]⟩, ⟨#[109,97,114,107,101,114,115]⟩, ⟨#[112,111,105,110,116]⟩, ⟨#[98,101,103,118]⟩, ⟨#[122,118]⟩, ⟨#[109,97,114,107]⟩, ⟨#[105,115,95,108,105,118,101]⟩, ⟨#[105,115,95,114,101,97,100,95,111,110,108,121]⟩, ⟨#[116,105,99,107,115]⟩, ⟨#[99,111,100,101,115,95,116,105,99,107,115]⟩, ⟨#[115,97,118,101,100,95,116,105,99,107,115]⟩, ⟨#[108,105,115,116,101,110,101,114,115]⟩, ⟨#[117,110,100,111]⟩, ⟨#[112,114,111,112,115]⟩, ⟨#[111,118,101,114,108,97,121,115]⟩, ⟨#[108,111,99,97,108,115]⟩, ⟨#[115,121,110,116,97,120]⟩, ⟨#[102,105,108,101]⟩]
def methNames : List Str := [z21, z22, z23, z24, z25, z26, z27, z28, z29, z30, z31, z32, z33, z34, z35, z36, z37, z38, ⟨#[98,101,102,111,114,101,95,99,104,97,110,103,101]⟩, ⟨#[97,102,116,101,114,95,99,104,97,110,103,101]⟩, ⟨#[116,101,120,116,95,103,111,101,115]⟩, ⟨#[116,101,120,116,95,99,111,109,101,115]⟩, ⟨#[116,101,120,116,95,103,111,110,101]⟩, ⟨#[116,101,120,116,95,99,97,109,101]⟩, ⟨#[112,117,116,95,114,111,119,115]⟩]
def txtNames : List Str := [⟨#[108,101,102,116]⟩, ⟨#[102,117,108,108]⟩, ⟨#[114,105,103,104,116]⟩, ⟨#[99,101,110,116,101,114]⟩, ⟨#[97]⟩, ⟨#[98,117,102,102,101,114,45,114,101,97,100,45,111,110,108,121]⟩, ⟨#[101,114,114,111,114]⟩, ⟨#[77,97,120,105,109,117,109,32,98,117,102,102,101,114,32,115,105,122,101,32,101,120,99,101,101,100,101,100]⟩, ⟨#[97,114,103,115,45,111,117,116,45,111,102,45,114,97,110,103,101]⟩]
def mutsOf : Nat → List Str
 | 19 => [⟨#[112,105,101,99,101,115]⟩]
 | 22 => [z20]
 | 24 => [z23]
 | 32 => [z20]
 | 33 => [z23]
 | 38 => [z39]
 | 39 => [z39, ⟨#[112,97,114,97,103,114,97,112,104]⟩]
 | 42 => [z39]
 | 43 => [z39]
 | 45 => [z39]
 | 100 => [z39]
 | 51 => [z19]
 | 96 => [z40, z41]
 | 103 => [z40, z41]
 | _ => []
def deepOf (i : Nat) : Bool := i == 32
end Mine
end
section
namespace Mine
open PySem PySem.W PyProof.Rows PySem.Spec PyProof PySem.SeqAt
structure Shape where
 fns : List (Str × Nat)
 fnA : List Addr
 clsA : List Addr
 rank : List Nat
 used : List Nat
theorem nodup_of : ∀ {l : List Str}, nodupB l = true → l.Nodup
 | [], _ => List.nodup_nil
 | x :: r, h => by
  unfold nodupB at h
  simp only [Bool.and_eq_true, Bool.not_eq_true', List.contains_eq_mem, decide_eq_false_iff_not] at h
  exact List.nodup_cons.mpr ⟨h.1, nodup_of h.2⟩
theorem getD_get {α : Type} (l : List α) (d : α) {i : Nat} (h : i < l.length) : l.getD i d = l[i] := by simp [List.getD, List.getElem?_eq_getElem h]
theorem getD_out {α : Type} (l : List α) (d : α) {i : Nat} (h : l.length ≤ i) : l.getD i d = d := by simp [List.getD, List.getElem?_eq_none h]
theorem getD_inj {l : List Str} (h : l.Nodup) (d : Str) (i j : Nat) (hi : i < l.length) (hj : j < l.length) (e : l.getD i d = l.getD j d) : i = j := by
 rw [getD_get _ _ hi, getD_get _ _ hj] at e
 exact (List.getElem_inj h).mp e
theorem idx_get : ∀ {l : List Str} {x : Str} {i : Nat}, idx l x = some i → i < l.length ∧ ∀ d, l.getD i d = x
 | [], _, _, h => by cases h
 | y :: l, x, i, h => by
  unfold idx at h
  split at h
  ·rename_i e; cases h; subst e; exact ⟨by simp, fun _ => rfl⟩
  ·obtain ⟨j, hj, rfl⟩ := Option.map_eq_some_iff.mp h
   obtain ⟨a, b⟩ := idx_get hj
   exact ⟨by simp; omega, fun d => by simpa using b d⟩
theorem slot_mem : ∀ {l : List (Str × Nat)} {x : Str} {i : Nat}, slotOf l x = some i → (x, i) ∈ l
 | [], _, _, h => by cases h
 | (y, j) :: l, x, i, h => by
  unfold slotOf at h
  split at h
  ·rename_i e; cases h; subst e; exact List.mem_cons_self
  ·exact List.mem_cons_of_mem _ (slot_mem h)
def ctx0 (D : Shape) : Ctx := { fns := D.fns, globs := globNames, clss := clsNames, attrs := attrNames, meths := methNames, txts := txtNames, muts := [], deep := false, scope := ⟨.function, [], false, false, []⟩, slots := [], n := 0 }
theorem attr_nodup : nodupB attrNames = true := by decide +kernel
theorem txt_nodup : nodupB txtNames = true := by decide +kernel
def nmOf (D : Shape) (h0 : Heap) (prog : Program) (w : World) : Nm where
 attr := fun i => attrNames.getD i ⟨#[]⟩
 cls := fun c => D.clsA.getD c (D.clsA.headD 0)
 txt := fun i => txtNames.getD i ⟨#[]⟩
 h0 := h0
 prog := prog
 w := w
 ntxt := 9
 nattr := 32
 txtInj := fun i j hi hj e => getD_inj (nodup_of txt_nodup) _ i j hi hj e
 attrInj := fun i j hi hj e => getD_inj (nodup_of attr_nodup) _ i j hi hj e
def prgOf (D : Shape) (K : Frag) (h0 : Heap) (prog : Program) (w : World) : Prg where
 N := nmOf D h0 prog w
 K := K
 T := theT
 C0 := ctx0 D
 fnA := fun i => D.fnA.getD i 0
 mth := fun i => methNames.getD i ⟨#[]⟩
 rank := fun i => D.rank.getD i 0
def isRef : Option (Option Value) → Addr → Bool
 | some (some (.ref a)), b => a == b
 | _, _ => false
def isBlt : Option (Option Value) → String → Bool
 | some (some (.builtin a)), b => a == b
 | _, _ => false
def isNo : Option (Option Value) → Bool
 | some none => true
 | _ => false
def isTy : Option Value → String → Bool
 | some (.type a), b => a == b
 | _, _ => false
theorem isRef_of {o : Option (Option Value)} {a : Addr} (h : isRef o a = true) : o = some (some (.ref a)) := by
 unfold isRef at h; split at h
 ·rw [beq_iff_eq] at h; subst h; rfl
 ·cases h
theorem isBl_of {o : Option (Option Value)} {a : String} (h : isBlt o a = true) : o = some (some (.builtin a)) := by
 unfold isBlt at h; split at h
 ·rw [beq_iff_eq] at h; subst h; rfl
 ·cases h
theorem isNo_of {o : Option (Option Value)} (h : isNo o = true) : o = some none := by
 unfold isNo at h; split at h
 ·rfl
 ·cases h
theorem isTy_of {o : Option Value} {a : String} (h : isTy o a = true) : o = some (.type a) := by
 unfold isTy at h; split at h
 ·rw [beq_iff_eq] at h; subst h; rfl
 ·cases h
def clsB (K : Frag) (a : Addr) : Bool :=
 plainGet K a "" && isBlt (findIn K (.ref a) "__setattr__") "object.__setattr__" && plainOver K a && hasDictIn K a && makesIn K a && keepIn K (.ref a) && attrNames.all fun n => isNo (findIn K (.ref a) n)
def globB (K : Frag) (v : Option (Option Value)) (d : PV) : Bool := match v, d with
 | some (some (.int i _)), .int j => i == j
 | some (some (.ref a)), .tup l => (match K.lookup a with
  | some ⟨.type "tuple", _, .seq xs _, _⟩ => l.length ≤ 5 && xs.size == l.length && (List.zip xs.toList l).all fun p => match p.1, p.2 with | .int i _, .int j => i == j | _, _ => false
  | _ => false)
 | _, _ => false
def methB (D : Shape) (K : Frag) (c n f : Nat) : Bool :=
 isRef (findIn K (.ref (D.clsA.getD c (D.clsA.headD 0))) (methNames.getD n ⟨#[]⟩)) (D.fnA.getD f 0) && !attrNames.contains (methNames.getD n ⟨#[]⟩) && isTy (typeIn K (.ref (D.fnA.getD f 0))) "function" && keepIn K (.ref (D.fnA.getD f 0))
def methAll : List (Nat × Nat × Nat) := [(1,0,52), (1,1,53), (1,2,54), (1,3,55), (1,4,56), (1,5,57), (1,6,58), (1,7,59), (3,7,71), (3,8,70), (3,9,72), (3,10,74), (3,11,75), (3,12,76), (4,0,82), (4,2,84), (4,13,80), (4,14,81), (4,15,83), (4,16,85), (4,17,89)]
def initAll : List (Nat × Nat) := [(0,31), (1,51), (2,65), (3,69), (4,77)]
theorem meth_mem {c n f : Nat} (h : methTab c n = some f) : (c, n, f) ∈ methAll := by
 unfold methTab at h
 split at h <;> first | (cases h; done) | (cases h; decide)
theorem init_mem {c f : Nat} (h : initTab c = some f) : (c, f) ∈ initAll := by
 unfold initTab at h
 split at h <;> first | (cases h; done) | (cases h; decide)
structure Checks (D : Shape) (K : Frag) : Prop where
 globs : (List.range 14).all (fun i => globB K (nsIn K mainGlobals (globNames.getD i ⟨#[]⟩)) (globTab i)) = true
 fns : D.fns.all (fun p => isRef (nsIn K mainGlobals p.1) (D.fnA.getD p.2 0) && keepIn K (.ref (D.fnA.getD p.2 0))) = true
 clss : (List.range 5).all (fun i => isRef (nsIn K mainGlobals (clsNames.getD i ⟨#[]⟩)) (D.clsA.getD i (D.clsA.headD 0))) = true
 blts : bltNames.all (fun x => isNo (nsIn K mainGlobals x)) = true
 cls : D.clsA.all (clsB K) = true ∧ clsB K (D.clsA.headD 0) = true
 meth : methAll.all (fun p => methB D K p.1 p.2.1 p.2.2) = true
 init : initAll.all (fun p => isRef (findIn K (.ref (D.clsA.getD p.1 (D.clsA.headD 0))) "__init__") (D.fnA.getD p.2 0) && isTy (typeIn K (.ref (D.fnA.getD p.2 0))) "function") = true
theorem globB_of {D : Shape} {K : Frag} {h0 : Heap} {prog : Program} {w : World} (kin : K.In h0) {v : Option (Option Value)} {d : PV} (h : globB K v d = true) : ∃ x, v = some (some x) ∧ VRel (nmOf D h0 prog w) h0.get? x d := by
 unfold globB at h
 split at h
 ·rw [beq_iff_eq] at h; subst h; exact ⟨_, rfl, .int _ _⟩
 ·rename_i a l
  refine ⟨_, rfl, ?_⟩
  split at h
  ·rename_i dct xs n sl e
   simp only [Bool.and_eq_true, decide_eq_true_eq, beq_iff_eq] at h
   obtain ⟨⟨h1, h2⟩, h3⟩ := h
   refine .tup (kin _ _ e) ⟨?_, rfl, n, by simp⟩ (vs := xs.toList) ?_
   ·show xs.toList.length ≤ 16777216
    have := Array.length_toList (xs := xs); omega
   ·rw [← Array.length_toList] at h2
    revert h2 h3
    generalize xs.toList = ys
    clear e h1
    induction ys generalizing l with
    | nil => intro _ h2; cases l with
     | nil => exact .nil
     | cons _ _ => cases h2
    | cons y ys ih =>
     intro h3 h2
     cases l with
     | nil => cases h2
     | cons z zs =>
      rw [List.zip_cons_cons, List.all_cons, Bool.and_eq_true] at h3
      refine .cons ?_ (ih _ h3.2 (by simpa using h2))
      have h3' := h3.1
      split at h3'
      ·rename_i e1 e2
       dsimp only at e1 e2
       subst e1 e2
       rw [beq_iff_eq] at h3'; subst h3'; exact .int _ _
      ·cases h3'
  ·cases h
 ·cases h
theorem clsB_of {D : Shape} {K : Frag} {h0 : Heap} {prog : Program} {w : World} {c : Nat} (h : clsB K (D.clsA.getD c (D.clsA.headD 0)) = true) : ClsOk (prgOf D K h0 prog w) c := by
 unfold clsB at h
 simp only [Bool.and_eq_true] at h
 obtain ⟨⟨⟨⟨⟨⟨h1, h2⟩, h3⟩, h4⟩, h5⟩, h6⟩, h7⟩ := h
 refine ⟨h1, isBl_of h2, h3, h4, h5, h6, fun n hn => ?_⟩
 rw [List.all_eq_true] at h7
 have hn' : n < attrNames.length := hn
 refine isNo_of (h7 _ ?_)
 show attrNames.getD n _ ∈ attrNames
 rw [getD_get _ _ hn']
 exact List.getElem_mem hn'
theorem prgOk_of {D : Shape} {K : Frag} {h0 : Heap} {prog : Program} {w : World} (X : Checks D K) (kin : K.In h0) (lim : h0.NoLimit) (b : ∃ mb, h0.Ns builtinsNs mb ∧ ∀ x : Str, x ≠ "__name__" → mb x = bootBuiltins x) (g : ∃ mg, h0.Ns mainGlobals mg) : PrgOk (prgOf D K h0 prog w) where
 attrs := fun x i h => ⟨(idx_get h).1, (idx_get h).2 _⟩
 txts := fun x i h => ⟨(idx_get h).1, (idx_get h).2 _⟩
 meths := fun x i h => (idx_get h).2 _
 kin := kin
 lim := lim
 b := b
 g := g
 globs := fun x i h => by
  have a := idx_get (l := globNames) h
  have := X.globs
  rw [List.all_eq_true] at this
  have := this i (List.mem_range.mpr a.1)
  rw [a.2] at this
  exact globB_of kin this
 fns := fun x i h => by
  have := X.fns
  rw [List.all_eq_true] at this
  have := this _ (slot_mem h)
  rw [Bool.and_eq_true] at this
  exact ⟨isRef_of this.1, this.2⟩
 clss := fun x i h => by
  have a := idx_get (l := clsNames) h
  have := X.clss
  rw [List.all_eq_true] at this
  have := this i (List.mem_range.mpr a.1)
  rw [a.2] at this
  exact isRef_of this
 blts := fun x h => by
  have := X.blts
  rw [List.all_eq_true] at this
  exact isNo_of (this x h)
 cls := fun c => by
  refine clsB_of ?_
  have := X.cls
  rw [List.all_eq_true] at this
  by_cases hc : c < D.clsA.length
  ·rw [getD_get _ _ hc]; exact this.1 _ (List.getElem_mem hc)
  ·rw [getD_out _ _ (by omega)]; exact this.2
 meth := fun c n f h => by
  have := X.meth
  rw [List.all_eq_true] at this
  have := this _ (meth_mem h)
  unfold methB at this
  simp only [Bool.and_eq_true, Bool.not_eq_true', List.contains_eq_mem, decide_eq_false_iff_not] at this
  obtain ⟨⟨⟨h1, h2⟩, h3⟩, h4⟩ := this
  refine ⟨isRef_of h1, fun m hm e => h2 ?_, isTy_of h3, h4⟩
  have hm' : m < attrNames.length := hm
  have e' : attrNames.getD m ⟨#[]⟩ = methNames.getD n ⟨#[]⟩ := e
  rw [← e', getD_get _ _ hm']
  exact List.getElem_mem hm'
 init := fun c f h => by
  have := X.init
  rw [List.all_eq_true] at this
  have := this _ (init_mem h)
  rw [Bool.and_eq_true] at this
  exact ⟨isRef_of this.1, isTy_of this.2⟩
def fdOf (K : Frag) (a : Addr) : Option FuncData := match K.lookup a with
 | some ⟨_, _, .func fd, _⟩ => some fd
 | _ => none
def bodyOf (fd : FuncData) : List Stmt := match fd.body with
 | .stmts b => b
 | _ => []
def isStm (fd : FuncData) : Bool := match fd.body with
 | .stmts _ => true
 | _ => false
def dsOf (K : Frag) (fd : FuncData) : Option (List Value) := match fd.defaults with
 | .none => some []
 | .ref T => (match K.lookup T with
  | some ⟨_, _, .seq xs _, _⟩ => some xs.toList
  | _ => none)
 | _ => none
def isV : Value → PV → Bool
 | .none, .none => true
 | .bool a, .bool b => a == b
 | .int i _, .int j => i == j
 | _, _ => false
def isVs : List Value → List PV → Bool
 | [], [] => true
 | v :: vs, d :: ds => isV v d && isVs vs ds
 | _, _ => false
theorem isV_of {N : Nm} {I : Addr → Option Obj} {v : Value} {d : PV} (h : isV v d = true) : VRel N I v d := by
 unfold isV at h; split at h
 ·exact .none
 ·rw [beq_iff_eq] at h; subst h; exact .bool _
 ·rw [beq_iff_eq] at h; subst h; exact .int _ _
 ·cases h
theorem isVs_of {N : Nm} {I : Addr → Option Obj} : ∀ {v : List Value} {d : List PV}, isVs v d = true → VRelL N I v d
 | [], [], _ => .nil
 | v :: vs, d :: ds, h => by
  unfold isVs at h; rw [Bool.and_eq_true] at h
  exact .cons (isV_of h.1) (isVs_of h.2)
 | [], _ :: _, h => by cases h
 | _ :: _, [], h => by cases h
def isLC (k : Option NameKind) : Bool := match k with
 | some .local | some .cell => true
 | _ => false
def fnB (K : Frag) (fd : FuncData) (a : AFun) : Bool :=
 isStm fd && fd.closure.isEmpty && fd.globals == mainGlobals && fd.builtins == builtinsNs && decide (fd.scope.kind = .function) && !fd.scope.isCoroutine && !fd.scope.isGenerator && codeIn K fd.code fd.qualname &&
 fd.params.posonlyargs.isEmpty && fd.params.kwonlyargs.isEmpty && fd.params.vararg.isNone && fd.params.kwarg.isNone && a.nargs == fd.params.args.length && a.nvars == (fnSlots fd.params fd.scope).length &&
 (match dsOf K fd with | some ds => isVs ds a.dflts && decide (ds.length ≤ fd.params.args.length) | none => false) && nodupB (fd.scope.names.map (·.1)) && nodupB (fnSlots fd.params fd.scope) &&
 (fd.params.args.map (·.arg)).all (fun x => isLC (fd.scope.names.lookup x)) && fd.scope.names.all fun p => decide (p.2 ≠ .free) && p.1 != ("__debug__" : Str) && p.1 != ("__classdict__" : Str)
theorem mem_of_lk {α : Type} {x : Str} {a : α} : ∀ {l : List (Str × α)}, l.lookup x = some a → (x, a) ∈ l
 | [], h => by cases h
 | (y, b) :: l, h => by
  rw [List.lookup_cons] at h
  by_cases e : x = y
  ·subst e; simp at h; subst h; exact List.mem_cons_self
  ·rw [beq_eq_false_iff_ne.mpr e] at h
   exact List.mem_cons_of_mem _ (mem_of_lk h)
theorem fnAll_of {P : Prg} {f : Nat} {a : AFun} {fd : FuncData} {m : List Str} {d : Bool} (ht : P.T.fn f = some a) (hf : fdOf P.K (P.fnA f) = some fd) (hb : fnB P.K fd a = true) (hc : mapO (compS 40 ((fnCtx P.C0 fd).with m d)) (bodyOf fd) = some a.body) : FnAll P f a := by
 unfold fnB at hb
 simp only [Bool.and_eq_true, List.isEmpty_iff, beq_iff_eq, decide_eq_true_eq, Bool.not_eq_true', Option.isNone_iff_eq_none] at hb
 obtain ⟨⟨⟨⟨⟨⟨⟨⟨⟨⟨⟨⟨⟨⟨⟨⟨⟨⟨h1, h2⟩, h3⟩, h4⟩, h5⟩, h6⟩, h7⟩, h8⟩, h9⟩, h10⟩, h11⟩, h12⟩, h13⟩, h14⟩, h15⟩, h16⟩, h17⟩, h18⟩, h19⟩ := hb
 split at h15
 rotate_left
 ·cases h15
 rename_i ds hds
 rw [Bool.and_eq_true, decide_eq_true_eq] at h15
 refine ⟨fd, bodyOf fd, ds, m, d, ?_, hc⟩
 refine ⟨ht, ?_, ?_, h2, h3, h4, h5, h6, h7, h8, h9, h10, h11, h12, h13, h14, ?_, fun I => isVs_of h15.1, h15.2, nodup_of h16, nodup_of h17, fun x hx => ?_, fun x k hx => ?_⟩
 ·unfold fdOf at hf
  split at hf
  ·rename_i e; cases hf; exact ⟨_, e, rfl⟩
  ·cases hf
 ·unfold isStm at h1
  split at h1
  ·rename_i b e; rw [e]; unfold bodyOf; rw [e]
  ·cases h1
 ·unfold dsOf at hds
  split at hds
  ·rename_i e; cases hds; exact .inl ⟨e, rfl⟩
  ·rename_i T e
   split at hds
   ·rename_i e2; cases hds; exact .inr ⟨_, _, _, e, e2, congrArg (Data.seq · _) (by simp)⟩
   ·cases hds
  ·cases hds
 ·rw [List.all_eq_true] at h18
  have := h18 x hx
  unfold isLC at this
  split at this
  ·rename_i e; exact .inl e
  ·rename_i e; exact .inr e
  ·cases this
 ·rw [List.all_eq_true] at h19
  have := h19 _ (mem_of_lk hx)
  simp only [Bool.and_eq_true, decide_eq_true_eq, bne_iff_ne, ne_eq] at this
  exact ⟨this.1.1, beq_eq_false_iff_ne.mpr this.1.2, beq_eq_false_iff_ne.mpr this.2⟩
structure FnChecks (D : Shape) (K : Frag) : Prop where
 ok : D.used.all (fun f => match fnTab f, fdOf K (D.fnA.getD f 0) with | some a, some fd => fnB K fd a | _, _ => false) = true
 comp : (D.used.map fun f => match fdOf K (D.fnA.getD f 0) with | some fd => mapO (compS 40 ((fnCtx (ctx0 D) fd).with (mutsOf f) (deepOf f))) (bodyOf fd) | none => none) = D.used.map fun f => (fnTab f).map (·.body)
theorem fnAll {D : Shape} {K : Frag} {h0 : Heap} {prog : Program} {w : World} (X : FnChecks D K) {f : Nat} (h : f ∈ D.used) : ∃ a, fnTab f = some a ∧ FnAll (prgOf D K h0 prog w) f a := by
 have h1 := X.ok
 rw [List.all_eq_true] at h1
 have h1 := h1 f h
 have h2 := List.map_inj_left.mp X.comp f h
 split at h1
 ·rename_i a fd e1 e2
  rw [e2, e1] at h2
  exact ⟨a, e1, fnAll_of (P := prgOf D K h0 prog w) e1 e2 h1 h2⟩
 ·cases h1
end Mine
end
section
open PySem PySem.W PyProof.Rows
set_option Elab.async false
namespace Mine
def runG (ok : Nat → Option Value → Thread → Bool) (st : (Code → Sem Fin) → Program → World → SharedT → Thread → Option (SharedT × Thread)) (den : (String → Option Builtin) → Code → Sem Fin)
  (tb : String → Option Builtin) (p : Program) (w : World) (n₀ : Nat) (ann : Option Value) : Nat → SharedT → Thread → Option SharedT
 | 0, _, _ => none
 | n + 1, s, t => match through t with
  | true => some s
  | false => match ok n₀ ann t with
   | false => none
   | true => match st (den tb) p w s t with
    | some (s', t') => runG ok st den tb p w n₀ ann n s' t'
    | none => none
theorem runG_spec {tb : String → Option Builtin} {p : Program} {w : World} {n₀ : Nat} {ann : Option Value} : ∀ {n : Nat} {s s' : SharedT} {t : Thread},
  runG stepOk stepT denote tb p w n₀ ann n s t = some s' → topRun tb p w n₀ ann n s.abs t = some s'.abs
 | 0, _, _, _, h => by cases h
 | n + 1, s, s', t, h => by
  unfold runG at h
  unfold topRun
  cases ht : through t with
  | true => rw [ht] at h; cases h; rfl
  | false =>
   rw [ht] at h
   cases hk : stepOk n₀ ann t with
   | false => rw [hk] at h; cases h
   | true =>
    rw [hk] at h
    cases hs : stepT (denote tb) p w s t with
    | none => rw [hs] at h; cases h
    | some r => obtain ⟨s₂, t₂⟩ := r; rw [hs] at h; rw [stepT_spec hs]; exact runG_spec h
noncomputable def S0 (w : World) (os : OsState) : SharedT :=
  { tree := .node (boot_o_0 w.params)
      (.node (boot_o_1 w.params) (.node (boot_o_3 w.params) (.node (boot_o_7 w.params) .nil .nil) .nil) (.node (boot_o_5 w.params) (.node (boot_o_9 w.params) .nil .nil) .nil))
      (.node (boot_o_2 w.params) (.node (boot_o_4 w.params) (.node (boot_o_8 w.params) .nil .nil) .nil) (.node (boot_o_6 w.params) (.node (boot_o_10 w.params) .nil .nil) .nil))
    n := 11, life := (boot_heap w.params).life, gens := #[], drawn := boot_drawn, toks := boot_toks, os := os }
theorem S0_abs (w : World) (os : OsState) : (S0 w os).abs = ⟨boot_heap w.params, #[], boot_drawn, boot_toks, os⟩ := by rfl
theorem leftO_of {p q : Program} {loose : List Str} {Xt : Shared → Bool} {α : Type} {Yf : Shared → α} {Ya : World → α} {N : Nat} {ann : Option Value}
    (open_ : ∀ w : World, (fencedOpening treeTable p w N).map (fun s => (s.heap, s.gens, s.drawn, s.toks)) = some (boot_heap w.params, #[], boot_drawn, boot_toks))
    (size : ∀ w : World, ((boot_heap w.params).isNs mainGlobals, (boot_heap w.params).nsMap mainGlobals "__annotations__", (boot_heap w.params).objs.size) = (true, ann, 11))
    (run : ∀ w : World, (fun os : OsState => (runG stepOk stepT denote treeTable p w 11 ann N (S0 w os) (topStub p)).map fun s =>
      ((staticsOk (importedModules p.main.body) (boot_heap w.params) s.abs.heap && namesBound p s.abs.heap && gensDone s.abs && laidKept (boot_heap w.params) s.abs.heap,
       openSeen q loose (importedModules p.main.body) Xt true s.abs), Yf s.abs)) = fun _ => some ((true, openGood q loose), Ya w)) : LeftO p q loose Xt Yf Ya N := fun w => by
  obtain ⟨⟨h, gs, d, k, os⟩, e, e'⟩ := Option.map_eq_some_iff.mp (open_ w)
  obtain ⟨rfl, rfl, rfl, rfl⟩ : h = boot_heap w.params ∧ gs = #[] ∧ d = boot_drawn ∧ k = boot_toks := by simpa using e'
  obtain ⟨z1, z2, z3⟩ : _ ∧ _ ∧ _ := by simpa only [Prod.mk.injEq] using size w
  obtain ⟨s, hs, hl⟩ := Option.map_eq_some_iff.mp (congrFun (run w) os)
  obtain ⟨⟨l1, l2⟩, l3⟩ : (_ ∧ _) ∧ _ := by simpa only [Prod.mk.injEq] using hl
  have r := runG_spec hs
  rw [S0_abs] at r
  have t : topFrom treeTable p w N ⟨boot_heap w.params, #[], boot_drawn, boot_toks, os⟩ = some s.abs := by
    unfold topFrom
    dsimp only
    rw [z1, z2, z3, r]
    show (match staticsOk (importedModules p.main.body) (boot_heap w.params) s.abs.heap && namesBound p s.abs.heap && gensDone s.abs && laidKept (boot_heap w.params) s.abs.heap with | true => _ | false => _) = _
    rw [l1]
  unfold openEnds
  rw [e]
  show (topFrom treeTable p w N _).map _ = _
  rw [t]
  exact congrArg some (Prod.ext l2 l3)
def fnO (sFn : String) (st : Stmt) (qual : Str) (pm : Value) (code : Addr) (dV : Value) : Obj := match st with
 | .FunctionDef name args body _ _ _ scope _ _ _ => ⟨.type sFn, none, .func { name, qualname := qual, params := args, body := .stmts body, scope, globals := mainGlobals, closure := [], defaults := dV, kwdefaults := .none, doc := .none, pyModule := pm, annotations := none, code := .ref code, closureTuple := .none, builtins := builtinsNs }, #[]⟩
 | _ => default
def nthS : List Stmt → Nat → Stmt
 | [], _ => .Pass ⟨0,0,0,0⟩
 | x :: _, 0 => x
 | _ :: r, n + 1 => nthS r n
def dropS : Nat → List Stmt → List Stmt
 | 0, l => l
 | _, [] => []
 | n + 1, _ :: r => dropS n r
def stmOf (p : Program) (i : Nat) : Stmt := nthS p.main.body i
def mthOf (p : Program) (i j : Nat) : Stmt := match stmOf p i with
 | .ClassDef _ _ _ body _ _ _ _ _ _ _ => nthS body j
 | s => s
def kE (P : Params) (n : Str) (i : Nat) (v : Value) : DictEntry := ⟨PyData.keyHash P n, .str n i, v⟩
def cO (s : String) (n : Str) (a : Nat) (q : Str) (b c : Nat) (i j k l m : Int) (r1 : Nat) (o : Int) (r2 r3 r4 r5 : Nat) (t u : Int) (d : Nat) : Obj := ⟨.type s, none, .fields #[.str n a, .str q b, .str z51 c, .int i 0, .int j 0, .int k 0, .int l 0, .int m 0, .ref r1, .bool true, .int o 0, .ref r2, .none, .ref r3, .ref r4, .ref r5, .int t 0, .int u 0, .str z51 d], #[]⟩
set_option maxRecDepth 100000 in
def KG (sCode sDict sType sObj sNew sTup sLd sFn : String) (stm : Nat → Stmt) (mth : Nat → Nat → Stmt) (P : Params) : Frag :=
 let fS (i : Nat) (q n : Str) (k a : Nat) (d : Value) : Obj := fnO sFn (stm i) q (.str n k) a d
 let fM (i j : Nat) (q n : Str) (k a : Nat) (d : Value) : Obj := fnO sFn (mth i j) q (.str n k) a d
 [
 (3, ⟨.type sDict, none, .dict #[kE P z42 165 (.str z43 1274), kE P z44 166 .none, kE P z45 167 .none, kE P z46 168 (.builtin sLd), kE P z47 169 .none, kE P z48 170 (.ref 6), kE P z49 171 (.ref 4), kE P z50 173 (.str z51 172), kE P z52 174 .none, kE P z53 193 (.ref 21), kE P z54 226 (.ref 38), kE P z0 232 (.int (4194304) 231), kE P z55 239 (.ref 48), kE P z56 247 (.ref 55), kE P z57 258 (.ref 62), kE P z58 268 (.ref 69), kE P z59 279 (.ref 76), kE P z60 289 (.ref 83), kE P z61 298 (.ref 90), kE P z62 307 (.ref 97), kE P z63 317 (.ref 104), kE P z64 328 (.ref 111), kE P z65 338 (.ref 119), kE P z26 347 (.ref 127), kE P z27 359 (.ref 134), kE P z66 374 (.ref 142), kE P z1 378 (.int (32) 377), kE P z2 380 (.int (9) 379), kE P z3 382 (.int (10) 381), kE P z4 384 (.int (46) 383), kE P z5 388 (.ref 143), kE P z6 394 (.ref 144), kE P z67 401 (.ref 151), kE P z68 409 (.ref 158), kE P z69 417 (.ref 165), kE P z70 428 (.ref 172), kE P z71 437 (.ref 179), kE P z72 451 (.ref 186), kE P z73 463 (.ref 193), kE P z74 473 (.ref 200), kE P z75 483 (.ref 207), kE P z76 489 (.ref 212), kE P z77 495 (.ref 217), kE P z78 507 (.ref 224), kE P z7 511 (.int (9) 510), kE P z79 520 (.ref 231), kE P z80 531 (.ref 238), kE P z81 539 (.ref 245), kE P z8 543 (.int (32) 542), kE P z9 545 (.int (9) 544), kE P z10 547 (.int (10) 546), kE P z14 582 (.ref 262), kE P z82 591 (.ref 273), kE P z83 600 (.ref 280), kE P z84 609 (.ref 287), kE P z85 618 (.ref 294), kE P z86 626 (.ref 301), kE P z87 637 (.ref 308), kE P z88 656 (.ref 315), kE P z89 667 (.ref 322), kE P z11 671 (.int (10) 670), kE P z90 680 (.ref 329), kE P z91 689 (.ref 336), kE P z12 695 (.ref 337), kE P z13 697 (.int (4) 696), kE P z92 707 (.ref 344), kE P z93 721 (.ref 351), kE P z94 733 (.ref 358), kE P z95 748 (.ref 365), kE P z96 764 (.ref 372), kE P z97 776 (.ref 379), kE P z98 786 (.ref 386), kE P z99 798 (.ref 393), kE P z100 808 (.ref 400), kE P z15 928 (.ref 487), kE P z101 972 (.ref 522), kE P z16 1025 (.ref 564), kE P z17 1123 (.ref 632), kE P z18 1262 (.ref 738), kE P z102 1273 (.ref 747), kE P z103 1283 (.ref 754), kE P z104 1290 (.ref 761), kE P z105 1296 (.ref 766), kE P z106 1304 (.ref 773), kE P z107 1310 (.ref 778), kE P z108 1316 (.ref 783)] 86, #[]⟩),
 (20, cO sCode z53 187 z53 188 189 1 1 0 0 3 15 181 16 17 18 19 191 1 192),
 (21, fnO sFn (stm 0) z53 (.str ⟨#[95,95,109,97,105,110,95,95]⟩ 164) 20 .none),
 (47, cO sCode z55 233 z55 234 235 12 1 0 0 3 42 181 43 44 45 46 237 12 238),
 (48, fS 5 z55 z109 227 47 .none),
 (54, cO sCode z56 240 z56 241 242 15 2 0 0 3 49 181 50 51 52 53 245 15 246),
 (55, fS 6 z56 z109 227 54 .none),
 (61, cO sCode z57 248 z57 249 250 18 3 0 0 3 56 181 57 58 59 60 256 18 257),
 (62, fS 7 z57 z109 227 61 .none),
 (68, cO sCode z58 259 z58 260 261 23 3 0 0 3 63 181 64 65 66 67 266 23 267),
 (69, fS 8 z58 z109 227 68 .none),
 (75, cO sCode z59 269 z59 270 271 26 4 0 0 3 70 181 71 72 73 74 277 26 278),
 (76, fS 9 z59 z109 227 75 .none),
 (82, cO sCode z60 280 z60 281 282 30 3 0 0 3 77 181 78 79 80 81 287 30 288),
 (83, fS 10 z60 z109 227 82 .none),
 (89, cO sCode z61 290 z61 291 292 38 3 0 0 3 84 181 85 86 87 88 296 38 297),
 (90, fS 11 z61 z109 227 89 .none),
 (96, cO sCode z62 299 z62 300 301 45 3 0 0 3 91 181 92 93 94 95 305 45 306),
 (97, fS 12 z62 z109 227 96 .none),
 (103, cO sCode z63 308 z63 309 310 50 4 0 0 3 98 181 99 100 101 102 315 50 316),
 (104, fS 13 z63 z109 227 103 .none),
 (110, cO sCode z64 318 z64 319 320 55 5 0 0 3 105 181 106 107 108 109 326 55 327),
 (111, fS 14 z64 z109 227 110 .none),
 (112, ⟨.type sTup, none, .seq #[.bool false] 0, #[]⟩),
 (118, cO sCode z65 329 z65 330 331 68 4 0 0 3 113 181 114 115 116 117 336 68 337),
 (119, fS 15 z65 z109 227 118 (.ref 112)),
 (120, ⟨.type sTup, none, .seq #[.bool false] 0, #[]⟩),
 (126, cO sCode z26 339 z26 340 341 70 3 0 0 3 121 181 122 123 124 125 345 70 346),
 (127, fS 16 z26 z109 227 126 (.ref 120)),
 (133, cO sCode z27 348 z27 349 350 72 3 0 0 3 128 181 129 130 131 132 357 72 358),
 (134, fS 17 z27 z109 227 133 .none),
 (135, ⟨.type sTup, none, .seq #[.none] 0, #[]⟩),
 (141, cO sCode z66 360 z66 361 362 83 5 0 0 3 136 181 137 138 139 140 372 83 373),
 (142, fS 18 z66 z109 227 141 (.ref 135)),
 (143, ⟨.type sTup, none, .seq #[.int (33) 385, .int (46) 386, .int (63) 387] 0, #[]⟩),
 (144, ⟨.type sTup, none, .seq #[.int (34) 389, .int (39) 390, .int (41) 391, .int (93) 392, .int (125) 393] 0, #[]⟩),
 (150, cO sCode z67 395 z67 396 397 112 1 0 0 3 145 181 146 147 148 149 399 112 400),
 (151, fS 26 z67 z110 375 150 .none),
 (157, cO sCode z68 402 z68 403 404 114 1 0 0 3 152 181 153 154 155 156 407 114 408),
 (158, fS 27 z68 z110 375 157 .none),
 (164, cO sCode z69 410 z69 411 412 119 2 0 0 3 159 181 160 161 162 163 415 119 416),
 (165, fS 28 z69 z110 375 164 .none),
 (171, cO sCode z70 418 z70 419 420 123 1 0 0 3 166 181 167 168 169 170 426 123 427),
 (172, fS 29 z70 z110 375 171 .none),
 (178, cO sCode z71 429 z71 430 431 138 1 0 0 3 173 181 174 175 176 177 435 138 436),
 (179, fS 30 z71 z110 375 178 .none),
 (185, cO sCode z72 438 z72 439 440 141 3 0 0 3 180 181 181 182 183 184 449 141 450),
 (186, fS 31 z72 z110 375 185 .none),
 (192, cO sCode z73 452 z73 453 454 157 3 0 0 3 187 181 188 189 190 191 461 157 462),
 (193, fS 32 z73 z110 375 192 .none),
 (199, cO sCode z74 464 z74 465 466 165 1 0 0 3 194 181 195 196 197 198 471 165 472),
 (200, fS 33 z74 z110 375 199 .none),
 (206, cO sCode z75 474 z75 475 476 170 2 0 0 3 201 181 202 203 204 205 481 170 482),
 (207, fS 34 z75 z110 375 206 .none),
 (211, ⟨.type sCode, none, .fields #[.str z76 484, .str z76 485, .str z51 486, .int (177) 0, .int (1) 0, .int (0) 0, .int (0) 0, .int (3) 0, .ref 208, .bool true, .int (181) 0, .ref 209, .none, .none, .none, .ref 210, .int (487) 0, .int (177) 0, .str z51 488], #[]⟩),
 (212, fS 35 z76 z110 375 211 .none),
 (216, ⟨.type sCode, none, .fields #[.str z77 490, .str z77 491, .str z51 492, .int (179) 0, .int (2) 0, .int (0) 0, .int (0) 0, .int (3) 0, .ref 213, .bool true, .int (181) 0, .ref 214, .none, .none, .none, .ref 215, .int (493) 0, .int (179) 0, .str z51 494], #[]⟩),
 (217, fS 36 z77 z110 375 216 .none),
 (223, cO sCode z78 496 z78 497 498 188 4 0 0 3 218 181 219 220 221 222 505 188 506),
 (224, fS 37 z78 z110 375 223 .none),
 (230, cO sCode z79 512 z79 513 514 200 3 0 0 3 225 181 226 227 228 229 518 200 519),
 (231, fS 40 z79 z111 508 230 .none),
 (237, cO sCode z80 521 z80 522 523 202 3 0 0 3 232 181 233 234 235 236 529 202 530),
 (238, fS 41 z80 z111 508 237 .none),
 (244, cO sCode z81 532 z81 533 534 207 2 0 0 3 239 181 240 241 242 243 537 207 538),
 (245, fS 42 z81 z111 508 244 .none),
 (258, cO sCode z112 560 z113 561 562 215 5 0 0 3 253 181 254 255 256 257 568 215 569),
 (259, fM 47 0 z113 z114 540 258 .none),
 (261, ⟨.type sDict, none, .dict #[kE P z115 555 (.str z114 540), kE P z116 559 (.int (213) 558), kE P z112 570 (.ref 259), kE P z117 575 (.ref 260), kE P z118 577 (.ref 263), kE P z119 579 (.ref 264), kE P z44 580 .none] 4, #[]⟩),
 (262, ⟨.type sType, none, .cls ⟨z14, [.type sObj], [.ref 262, .type sObj], 261, z14, true, [], [], false, none, false⟩, #[none, none, some (.str z14 548), some (.str z14 556), some (.builtin sNew), some (.bool true)]⟩),
 (272, cO sCode z82 583 z82 584 585 220 1 0 0 3 267 181 268 269 270 271 589 220 590),
 (273, fS 48 z82 z114 540 272 .none),
 (279, cO sCode z83 592 z83 593 594 228 1 0 0 3 274 181 275 276 277 278 598 228 599),
 (280, fS 49 z83 z114 540 279 .none),
 (286, cO sCode z84 601 z84 602 603 235 2 0 0 3 281 181 282 283 284 285 607 235 608),
 (287, fS 50 z84 z114 540 286 .none),
 (293, cO sCode z85 610 z85 611 612 240 2 0 0 3 288 181 289 290 291 292 616 240 617),
 (294, fS 51 z85 z114 540 293 .none),
 (300, cO sCode z86 619 z86 620 621 245 1 0 0 3 295 181 296 297 298 299 624 245 625),
 (301, fS 52 z86 z114 540 300 .none),
 (307, cO sCode z87 627 z87 628 629 250 2 0 0 3 302 181 303 304 305 306 635 250 636),
 (308, fS 53 z87 z114 540 307 .none),
 (314, cO sCode z88 638 z88 639 640 258 2 0 0 3 309 181 310 311 312 313 654 258 655),
 (315, fS 54 z88 z114 540 314 .none),
 (321, cO sCode z89 657 z89 658 659 272 2 0 0 3 316 181 317 318 319 320 665 272 666),
 (322, fS 55 z89 z114 540 321 .none),
 (328, cO sCode z90 672 z90 673 674 288 2 0 0 3 323 181 324 325 326 327 678 288 679),
 (329, fS 58 z90 z120 668 328 .none),
 (335, cO sCode z91 681 z91 682 683 293 2 0 0 3 330 181 331 332 333 334 687 293 688),
 (336, fS 59 z91 z120 668 335 .none),
 (337, ⟨.type sTup, none, .seq #[.int (9) 692, .int (10) 693, .int (32) 694] 0, #[]⟩),
 (343, cO sCode z92 698 z92 699 700 301 1 0 0 3 338 181 339 340 341 342 705 301 706),
 (344, fS 63 z92 z121 690 343 .none),
 (350, cO sCode z93 708 z93 709 710 313 2 0 0 3 345 181 346 347 348 349 719 313 720),
 (351, fS 64 z93 z121 690 350 .none),
 (357, cO sCode z94 722 z94 723 724 325 4 0 0 3 352 181 353 354 355 356 731 325 732),
 (358, fS 65 z94 z121 690 357 .none),
 (364, cO sCode z95 734 z95 735 736 333 2 0 0 3 359 181 360 361 362 363 746 333 747),
 (365, fS 66 z95 z121 690 364 .none),
 (371, cO sCode z96 751 z96 752 753 344 4 0 0 3 366 181 367 368 369 370 762 344 763),
 (372, fS 68 z96 z122 749 371 .none),
 (378, cO sCode z97 765 z97 766 767 349 4 0 0 3 373 181 374 375 376 377 774 349 775),
 (379, fS 69 z97 z122 749 378 .none),
 (385, cO sCode z98 777 z98 778 779 353 3 0 0 3 380 181 381 382 383 384 784 353 785),
 (386, fS 70 z98 z122 749 385 .none),
 (392, cO sCode z99 787 z99 788 789 356 3 0 0 3 387 181 388 389 390 391 796 356 797),
 (393, fS 71 z99 z122 749 392 .none),
 (399, cO sCode z100 799 z100 800 801 369 2 0 0 3 394 181 395 396 397 398 806 369 807),
 (400, fS 72 z100 z122 749 399 .none),
 (413, cO sCode z112 823 z123 824 825 377 3 0 0 3 408 181 409 410 411 412 829 377 830),
 (414, fM 74 0 z123 z124 809 413 .none),
 (420, cO sCode z21 832 z125 833 834 383 1 0 0 3 415 181 416 417 418 419 836 383 837),
 (421, fM 74 1 z125 z124 809 420 .none),
 (427, cO sCode z22 839 z126 840 841 386 2 0 0 3 422 181 423 424 425 426 844 386 845),
 (428, fM 74 2 z126 z124 809 427 .none),
 (434, cO sCode z23 847 z127 848 849 391 3 0 0 3 429 181 430 431 432 433 854 391 855),
 (435, fM 74 3 z127 z124 809 434 .none),
 (441, cO sCode z24 857 z128 858 859 399 2 0 0 3 436 181 437 438 439 440 863 399 864),
 (442, fM 74 4 z128 z124 809 441 .none),
 (448, cO sCode z25 866 z129 867 868 410 2 0 0 3 443 181 444 445 446 447 872 410 873),
 (449, fM 74 5 z129 z124 809 448 .none),
 (455, cO sCode z26 875 z130 876 877 416 3 0 0 3 450 181 451 452 453 454 881 416 882),
 (456, fM 74 6 z130 z124 809 455 .none),
 (462, cO sCode z27 884 z131 885 886 422 3 0 0 3 457 181 458 459 460 461 891 422 892),
 (463, fM 74 7 z131 z124 809 462 .none),
 (469, cO sCode z28 894 z132 895 896 432 3 0 0 3 464 181 465 466 467 468 900 432 901),
 (470, fM 74 8 z132 z124 809 469 .none),
 (476, cO sCode z133 903 z134 904 905 435 1 0 0 3 471 181 472 473 474 475 907 435 908),
 (477, fM 74 9 z134 z124 809 476 .none),
 (483, cO sCode z135 910 z136 911 912 438 1 0 0 3 478 181 479 480 481 482 914 438 915),
 (484, fM 74 10 z136 z124 809 483 .none),
 (486, ⟨.type sDict, none, .dict #[kE P z115 818 (.str z124 809), kE P z116 822 (.int (375) 821), kE P z112 831 (.ref 414), kE P z21 838 (.ref 421), kE P z22 846 (.ref 428), kE P z23 856 (.ref 435), kE P z24 865 (.ref 442), kE P z25 874 (.ref 449), kE P z26 883 (.ref 456), kE P z27 893 (.ref 463), kE P z28 902 (.ref 470), kE P z133 909 (.ref 477), kE P z135 916 (.ref 484), kE P z117 921 (.ref 485), kE P z118 923 (.ref 488), kE P z119 925 (.ref 489), kE P z44 926 .none] 4, #[]⟩),
 (487, ⟨.type sType, none, .cls ⟨z15, [.type sObj], [.ref 487, .type sObj], 486, z15, true, [], [], false, none, false⟩, #[none, none, some (.str z15 811), some (.str z15 819), some (.builtin sNew), some (.bool true)]⟩),
 (504, cO sCode z137 943 z138 944 945 443 1 0 0 3 499 181 500 501 502 503 947 443 948),
 (505, fM 76 0 z138 z139 929 504 .none),
 (511, cO sCode z140 950 z141 951 952 446 1 0 0 3 506 181 507 508 509 510 954 446 955),
 (512, fM 76 1 z141 z139 929 511 .none),
 (518, cO sCode z142 957 z143 958 959 449 2 0 0 3 513 181 514 515 516 517 962 449 963),
 (519, fM 76 2 z143 z139 929 518 .none),
 (521, ⟨.type sDict, none, .dict #[kE P z115 938 (.str z139 929), kE P z116 942 (.int (441) 941), kE P z137 949 (.ref 505), kE P z140 956 (.ref 512), kE P z142 964 (.ref 519), kE P z117 965 (.ref 520), kE P z118 967 (.ref 523), kE P z119 969 (.ref 524), kE P z44 970 .none] 4, #[]⟩),
 (522, ⟨.type sType, none, .cls ⟨z101, [.type sObj], [.ref 522, .type sObj], 521, z101, true, [], [.ref 564, .ref 738], false, none, false⟩, #[none, none, some (.str z101 931), some (.str z101 939), some (.builtin sNew), some (.bool true)]⟩),
 (539, cO sCode z112 987 z144 988 989 454 3 0 0 3 534 181 535 536 537 538 993 454 994),
 (540, fM 78 0 z144 z145 973 539 .none),
 (546, cO sCode z137 996 z146 997 998 460 1 0 0 3 541 181 542 543 544 545 1000 460 1001),
 (547, fM 78 1 z146 z145 973 546 .none),
 (553, cO sCode z140 1003 z147 1004 1005 463 1 0 0 3 548 181 549 550 551 552 1007 463 1008),
 (554, fM 78 2 z147 z145 973 553 .none),
 (560, cO sCode z142 1010 z148 1011 1012 466 2 0 0 3 555 181 556 557 558 559 1015 466 1016),
 (561, fM 78 3 z148 z145 973 560 .none),
 (563, ⟨.type sDict, none, .dict #[kE P z115 982 (.str z145 973), kE P z116 986 (.int (452) 985), kE P z112 995 (.ref 540), kE P z137 1002 (.ref 547), kE P z140 1009 (.ref 554), kE P z142 1017 (.ref 561), kE P z117 1022 (.ref 562), kE P z44 1023 .none] 2, #[]⟩),
 (564, ⟨.type sType, none, .cls ⟨z16, [.ref 522], [.ref 564, .ref 522, .type sObj], 563, z16, true, [], [], false, none, false⟩, #[some (.ref 527), none, some (.str z16 975), some (.str z16 983), some (.builtin sNew), some (.bool true)]⟩),
 (579, cO sCode z112 1038 z149 1039 1040 470 1 0 0 3 574 181 575 576 577 578 1042 470 1043),
 (580, fM 79 0 z149 z145 973 579 .none),
 (586, cO sCode z29 1045 z150 1046 1047 473 1 0 0 3 581 181 582 583 584 585 1049 473 1050),
 (587, fM 79 1 z150 z145 973 586 .none),
 (593, cO sCode z28 1052 z151 1053 1054 476 3 0 0 3 588 181 589 590 591 592 1058 476 1059),
 (594, fM 79 2 z151 z145 973 593 .none),
 (600, cO sCode z30 1061 z152 1062 1063 480 2 0 0 3 595 181 596 597 598 599 1066 480 1067),
 (601, fM 79 3 z152 z145 973 600 .none),
 (607, cO sCode z153 1069 z154 1070 1071 484 3 0 0 3 602 181 603 604 605 606 1077 484 1078),
 (608, fM 79 4 z154 z145 973 607 .none),
 (614, cO sCode z31 1080 z155 1081 1082 491 4 0 0 3 609 181 610 611 612 613 1089 491 1090),
 (615, fM 79 5 z155 z145 973 614 .none),
 (621, cO sCode z32 1092 z156 1093 1094 497 3 0 0 3 616 181 617 618 619 620 1100 497 1101),
 (622, fM 79 6 z156 z145 973 621 .none),
 (628, cO sCode z33 1103 z157 1104 1105 505 4 0 0 3 623 181 624 625 626 627 1112 505 1113),
 (629, fM 79 7 z157 z145 973 628 .none),
 (631, ⟨.type sDict, none, .dict #[kE P z115 1033 (.str z145 973), kE P z116 1037 (.int (468) 1036), kE P z112 1044 (.ref 580), kE P z29 1051 (.ref 587), kE P z28 1060 (.ref 594), kE P z30 1068 (.ref 601), kE P z153 1079 (.ref 608), kE P z31 1091 (.ref 615), kE P z32 1102 (.ref 622), kE P z33 1114 (.ref 629), kE P z117 1116 (.ref 630), kE P z118 1118 (.ref 633), kE P z119 1120 (.ref 634), kE P z44 1121 .none] 4, #[]⟩),
 (632, ⟨.type sType, none, .cls ⟨z17, [.type sObj], [.ref 632, .type sObj], 631, z17, true, [], [], false, none, false⟩, #[none, none, some (.str z17 1026), some (.str z17 1034), some (.builtin sNew), some (.bool true)]⟩),
 (644, ⟨.type sTup, none, .seq #[.int (8) 1138] 0, #[]⟩),
 (650, cO sCode z112 1139 z158 1140 1141 515 4 0 0 3 645 181 646 647 648 649 1146 515 1147),
 (651, fM 81 0 z158 z159 1124 650 (.ref 644)),
 (657, cO sCode z137 1149 z160 1150 1151 537 1 0 0 3 652 181 653 654 655 656 1153 537 1154),
 (658, fM 81 1 z160 z159 1124 657 .none),
 (664, cO sCode z140 1156 z161 1157 1158 540 1 0 0 3 659 181 660 661 662 663 1160 540 1161),
 (665, fM 81 2 z161 z159 1124 664 .none),
 (671, cO sCode z34 1163 z162 1164 1165 543 1 0 0 3 666 181 667 668 669 670 1167 543 1168),
 (672, fM 81 3 z162 z159 1124 671 .none),
 (678, cO sCode z35 1170 z163 1171 1172 546 1 0 0 3 673 181 674 675 676 677 1174 546 1175),
 (679, fM 81 4 z163 z159 1124 678 .none),
 (685, cO sCode z21 1177 z164 1178 1179 549 1 0 0 3 680 181 681 682 683 684 1181 549 1182),
 (686, fM 81 5 z164 z159 1124 685 .none),
 (692, cO sCode z36 1184 z165 1185 1186 552 2 0 0 3 687 181 688 689 690 691 1189 552 1190),
 (693, fM 81 6 z165 z159 1124 692 .none),
 (699, cO sCode z23 1192 z166 1193 1194 557 3 0 0 3 694 181 695 696 697 698 1198 557 1199),
 (700, fM 81 7 z166 z159 1124 699 .none),
 (706, cO sCode z37 1201 z167 1202 1203 560 2 0 0 3 701 181 702 703 704 705 1206 560 1207),
 (707, fM 81 8 z167 z159 1124 706 .none),
 (713, cO sCode z168 1209 z169 1210 1211 563 1 0 0 3 708 181 709 710 711 712 1213 563 1214),
 (714, fM 81 9 z169 z159 1124 713 .none),
 (720, cO sCode z170 1216 z171 1217 1218 566 1 0 0 3 715 181 716 717 718 719 1220 566 1221),
 (721, fM 81 10 z171 z159 1124 720 .none),
 (727, cO sCode z172 1223 z173 1224 1225 569 2 0 0 3 722 181 723 724 725 726 1228 569 1229),
 (728, fM 81 11 z173 z159 1124 727 .none),
 (734, cO sCode z38 1231 z174 1232 1233 572 2 0 0 3 729 181 730 731 732 733 1236 572 1237),
 (735, fM 81 12 z174 z159 1124 734 .none),
 (737, ⟨.type sDict, none, .dict #[kE P z115 1133 (.str z159 1124), kE P z116 1137 (.int (513) 1136), kE P z112 1148 (.ref 651), kE P z137 1155 (.ref 658), kE P z140 1162 (.ref 665), kE P z34 1169 (.ref 672), kE P z35 1176 (.ref 679), kE P z21 1183 (.ref 686), kE P z36 1191 (.ref 693), kE P z23 1200 (.ref 700), kE P z37 1208 (.ref 707), kE P z168 1215 (.ref 714), kE P z170 1222 (.ref 721), kE P z172 1230 (.ref 728), kE P z38 1238 (.ref 735), kE P z117 1259 (.ref 736), kE P z44 1260 .none] 2, #[]⟩),
 (738, ⟨.type sType, none, .cls ⟨z18, [.ref 522], [.ref 738, .ref 522, .type sObj], 737, z18, true, [], [], false, none, false⟩, #[some (.ref 637), none, some (.str z18 1126), some (.str z18 1134), some (.builtin sNew), some (.bool true)]⟩),
 (746, cO sCode z102 1265 z102 1266 1267 577 3 0 0 3 741 181 742 743 744 745 1271 577 1272),
 (747, fnO sFn (stm 83) z102 (.str ⟨#[101,109,97,99,115,46,112,108,97,99,105,110,103]⟩ 1263) 746 .none),
 (753, cO sCode z103 1276 z103 1277 1278 586 2 0 0 3 748 181 749 750 751 752 1281 586 1282),
 (754, fS 85 z103 z43 1274 753 .none),
 (760, cO sCode z104 1284 z104 1285 1286 588 1 0 0 3 755 181 756 757 758 759 1288 588 1289),
 (761, fS 86 z104 z43 1274 760 .none),
 (765, ⟨.type sCode, none, .fields #[.str z105 1291, .str z105 1292, .str z51 1293, .int (590) 0, .int (2) 0, .int (0) 0, .int (0) 0, .int (3) 0, .ref 762, .bool true, .int (181) 0, .ref 763, .none, .none, .none, .ref 764, .int (1294) 0, .int (590) 0, .str z51 1295], #[]⟩),
 (766, fS 87 z105 z43 1274 765 .none),
 (772, cO sCode z106 1297 z106 1298 1299 592 2 0 0 3 767 181 768 769 770 771 1302 592 1303),
 (773, fS 88 z106 z43 1274 772 .none),
 (777, ⟨.type sCode, none, .fields #[.str z107 1305, .str z107 1306, .str z51 1307, .int (594) 0, .int (4) 0, .int (0) 0, .int (0) 0, .int (3) 0, .ref 774, .bool true, .int (181) 0, .ref 775, .none, .none, .none, .ref 776, .int (1308) 0, .int (594) 0, .str z51 1309], #[]⟩),
 (778, fS 89 z107 z43 1274 777 .none),
 (782, ⟨.type sCode, none, .fields #[.str z108 1311, .str z108 1312, .str z51 1313, .int (601) 0, .int (1) 0, .int (0) 0, .int (0) 0, .int (3) 0, .ref 779, .bool true, .int (181) 0, .ref 780, .none, .none, .none, .ref 781, .int (1314) 0, .int (601) 0, .str z51 1315], #[]⟩),
 (783, fS 90 z108 z43 1274 782 .none)]
noncomputable def KOf (p : Program) (P : Params) : Frag := KG "code" "dict" "type" "object" "object.__new__" "tuple" "__main__.__loader__#opaque" "function" (stmOf p) (mthOf p) P
def qOf (p : Program) : Program := { p with main := { p.main with body := dropS 90 p.main.body } }
set_option maxRecDepth 100000 in
def loose : List Str := [z53, z54, z0, z55, z56, z57, z58, z59, z60, z61, z62, z63, z64, z65, z26, z27, z66, z1, z2, z3, z4, z5, z6, z67, z68, z69, z70, z71, z72, z73, z74, z75, z76, z77, z78, z7, z79, z80, z81, z8, z9, z10, z14, z82, z83, z84, z85, z86, z87, z88, z89, z11, z90, z91, z12, z13, z92, z93, z94, z95, z96, z97, z98, z99, z100, z15, z101, z16, z17, z18, z102, z103, z104, z105, z106, z107]
set_option maxRecDepth 100000 in
def addrs : List Addr := [3,20,21,47,48,54,55,61,62,68,69,75,76,82,83,89,90,96,97,103,104,110,111,112,118,119,120,126,127,133,134,135,141,142,143,144,150,151,157,158,164,165,171,172,178,179,185,186,192,193,199,200,206,207,211,212,216,217,223,224,230,231,237,238,244,245,258,259,261,262,272,273,279,280,286,287,293,294,300,301,307,308,314,315,321,322,328,329,335,336,337,343,344,350,351,357,358,364,365,371,372,378,379,385,386,392,393,399,400,413,414,420,421,427,428,434,435,441,442,448,449,455,456,462,463,469,470,476,477,483,484,486,487,504,505,511,512,518,519,521,522,539,540,546,547,553,554,560,561,563,564,579,580,586,587,593,594,600,601,607,608,614,615,621,622,628,629,631,632,644,650,651,657,658,664,665,671,672,678,679,685,686,692,693,699,700,706,707,713,714,720,721,727,728,734,735,737,738,746,747,753,754,760,761,765,766,772,773,777,778,782,783]
section
set_option maxRecDepth 100000
set_option maxHeartbeats 0
theorem said_to (h : PySem.Challenge.rw_pq0296_02.row.wellSaid = true → PySem.Challenge.rw_pq0296_02.row.Holds) : PySem.Challenge.rw_pq0296_02.Holds := by
 o_law
 exact h (by assumption)
noncomputable def pwT : Program := PySem.W.Fast.tw14648937471429873867
theorem pw_eq : PySem.Challenge.pw_pq0296_02 = pwT := PySem.W.Fast.te14648937471429873867
theorem head_quick : ∀ w : World, (fun os : OsState => (runG PySem.W.Fast.tw6613529449190102663 PySem.W.Fast.tw10156331382660048174 PySem.W.Fast.tw11892475500146522536 PySem.W.Fast.tw14364793385576792824 pwT w 11 (some (.ref 6)) 10000 (S0 w os) (topStub pwT)).map fun s =>
      ((staticsOk (PySem.W.Fast.tw5923862056798008813 pwT.main.body) (boot_heap w.params) s.abs.heap && namesBound pwT s.abs.heap && gensDone s.abs && laidKept (boot_heap w.params) s.abs.heap,
       PySem.W.Fast.tw4187177175401517315 (qOf pwT) loose (PySem.W.Fast.tw5923862056798008813 pwT.main.body) (fun _ => true) true s.abs), PySem.W.R.mapR s.abs.heap.get? addrs)) = fun _ => some ((true, openGood (qOf pwT) loose),
       PySem.W.R.mapR (fun p => some p.2) (KG PySem.W.SL.s5856160107412720595x4 PySem.W.SL.s14018661285674007319x4 PySem.W.SL.s17162191345867700912x4 PySem.W.SL.s2742458400755230247x6 PySem.W.SL.s11443829558043349243x14 PySem.W.SL.s2766695959194262286x5 PySem.W.SL.s7097527257260152453x26 PySem.W.SL.s7174869446012820540x8 (stmOf pwT) (mthOf pwT) w.params)) := by
  intro w; kernel_rfl
theorem head_run : ∀ w : World, (fun os : OsState => (runG stepOk stepT denote treeTable pwT w 11 (some (.ref 6)) 10000 (S0 w os) (topStub pwT)).map fun s =>
      ((staticsOk (importedModules pwT.main.body) (boot_heap w.params) s.abs.heap && namesBound pwT s.abs.heap && gensDone s.abs && laidKept (boot_heap w.params) s.abs.heap,
       openSeen (qOf pwT) loose (importedModules pwT.main.body) (fun _ => true) true s.abs), addrs.map s.abs.heap.get?)) = fun _ => some ((true, openGood (qOf pwT) loose), (KOf pwT w.params).map fun p => some p.2) := by
  intro w
  have h := head_quick w
  unfold KOf
  rw [← PySem.W.Fast.te6613529449190102663, ← PySem.W.Fast.te10156331382660048174, ← PySem.W.Fast.te11892475500146522536, ← PySem.W.Fast.te14364793385576792824, ← PySem.W.Fast.te5923862056798008813, ← PySem.W.Fast.te4187177175401517315,
    ← PySem.W.R.mapR_eq, ← PySem.W.SL.e5856160107412720595x4, ← PySem.W.SL.e14018661285674007319x4, ← PySem.W.SL.e17162191345867700912x4, ← PySem.W.SL.e2742458400755230247x6, ← PySem.W.SL.e11443829558043349243x14, ← PySem.W.SL.e2766695959194262286x5, ← PySem.W.SL.e7097527257260152453x26, ← PySem.W.SL.e7174869446012820540x8] at h
  exact h
theorem head_size : ∀ w : World, ((boot_heap w.params).isNs mainGlobals, (boot_heap w.params).nsMap mainGlobals "__annotations__", (boot_heap w.params).objs.size) = (true, some (.ref 6), 11) := by
 intro w
 rw [PySem.W.Fast.te8920871248978507458, show PySem.Str.ofString "__annotations__" = z48 from by decide +kernel]
 kernel_rfl
theorem K_addrs : ∀ P, addrs = (KOf pwT P).map (·.1) := fun P => by kernel_rfl
theorem left : LeftO pwT (qOf pwT) loose (fun _ => true) (fun s => addrs.map s.heap.get?) (fun w => (KOf pwT w.params).map fun p => some p.2) 10000 :=
 leftO_of (boot_open (by kernel_rfl) (by decide) (fun s => by kernel_rfl)) head_size head_run
end
end Mine
end
section
namespace Mine
open PySem PySem.W PyProof.Rows
set_option maxRecDepth 100000
set_option maxHeartbeats 0
def dat02 : Shape where
 fns := [(z55,2), (z56,3), (z57,4), (z58,5), (z59,6), (z60,7), (z61,8), (z62,9), (z63,10), (z64,11), (z65,12), (z26,13), (z27,14), (z66,15), (z67,16), (z68,17), (z69,18), (z70,19), (z71,20), (z72,21), (z73,22), (z74,23), (z75,24), (z76,25), (z77,26), (z78,27), (z79,28), (z80,29), (z81,30), (z82,32), (z83,33), (z84,34), (z85,35), (z86,36), (z87,37), (z88,38), (z89,39), (z90,40), (z91,41), (z92,42), (z93,43), (z94,44), (z95,45), (z96,46), (z97,47), (z98,48), (z99,49), (z100,50), (z102,90), (z103,91), (z104,92), (z105,93), (z106,94), (z107,95), (z108,96)]
 fnA := [21,0,48,55,62,69,76,83,90,97,104,111,119,127,134,142,151,158,165,172,179,186,193,200,207,212,217,224,231,238,245,259,273,280,287,294,301,308,315,322,329,336,344,351,358,365,372,379,386,393,400,414,421,428,435,442,449,456,463,470,477,484,505,512,519,540,547,554,561,580,587,594,601,608,615,622,629,651,658,665,672,679,686,693,700,707,714,721,728,735,747,754,761,766,773,778,783]
 clsA := [262,487,564,632,738]
 rank := [0,0,0,2,0,0,1,2,2,0,0,3,4,4,3,5,0,0,1,2,0,1,2,0,0,0,1,2,0,1,2,0,0,0,0,0,0,1,3,4,2,2,0,1,0,2,6,7,3,4,8,0,0,0,0,0,0,1,1,0,0,0,0,0,0,0,0,0,0,0,0,0,0,0,1,1,1,1,0,0,0,0,1,1,1,0,0,0,0,0,2,0,0,1,1,2,9]
 used := [2,3,4,5,6,7,8,9,10,11,12,13,14,15,16,17,18,19,20,21,22,23,24,25,26,27,28,29,30,31,32,33,34,35,36,37,38,39,40,41,42,43,44,45,46,47,48,49,50,51,52,53,54,55,56,57,58,65,69,70,71,72,74,75,76,77,80,81,82,83,84,89,90,91,92,93,94,95,96]
theorem checks02 (P : Params) : Checks dat02 (KOf pwT P) where
 globs := by kernel_rfl
 fns := by kernel_rfl
 clss := by kernel_rfl
 blts := by kernel_rfl
 cls := ⟨by kernel_rfl, by kernel_rfl⟩
 meth := by kernel_rfl
 init := by kernel_rfl
theorem fnChecks02 (P : Params) : FnChecks dat02 (KOf pwT P) where
 ok := by kernel_rfl
 comp := by kernel_rfl
end Mine
end
section
namespace Mine
open PySem PySem.W PyProof.Rows PySem.Spec PyProof PySem.SeqAt
theorem hasItems_int : ∀ {xs : List WData}, WShape.hasItems [] xs .int = true → ∃ is : List Int, xs = is.map .int
 | [], _ => ⟨[], rfl⟩
 | x :: xs, h => by
  unfold WShape.hasItems at h
  rw [Bool.and_eq_true] at h
  obtain ⟨is, rfl⟩ := hasItems_int h.2
  have h1 := h.1
  cases x <;> simp [WShape.has, WShape.arms] at h1
  exact ⟨_ :: is, rfl⟩
theorem pre_ints {args : List WData} {l : OpenLaw} (hm : l.most = some 63) (hb : l.bound = none) (h : l.row.toRowW.claim.pre args = true) : ∃ is : List Int, args = [.list (is.map .int)] ∧ is.length ≤ 63 := by
 have h' : (WShape.hasAll [] args [.list .int] && l.pre.holds [] { args := args }) = true := h
 rw [Bool.and_eq_true] at h'
 obtain ⟨h1, h2⟩ := h'
 cases args with
 | nil => simp [WShape.hasAll] at h1
 | cons x r =>
  cases r with
  | cons y r => simp [WShape.hasAll] at h1
  | nil =>
   unfold WShape.hasAll at h1
   rw [Bool.and_eq_true] at h1
   have h3 := h1.1
   cases x <;> simp [WShape.has, WShape.arms] at h3
   obtain ⟨is, rfl⟩ := hasItems_int h3
   refine ⟨is, rfl, ?_⟩
   unfold OpenLaw.pre at h2
   rw [hm, hb] at h2
   simp [WTm.holds, WTm.value] at h2
   refine Classical.byContradiction fun q => ?_
   rw [show W.less? (.int 63) (.int is.length) = some (decide ((63 : Int) < is.length)) from rfl, decide_eq_true (by omega)] at h2
   cases h2
theorem post_true (l : OpenLaw) (args ds : List WData) : l.row.toRowW.claim.post args (.bool true) ds = true := by
 show (WShape.has [] (.bool true) .bool && WTm.holds [] (.eq .res (.lit (.bool true))) { args := args, res := some (.bool true), after := ds }) = true
 rw [Bool.and_eq_true]
 refine ⟨by simp [WShape.has, WShape.arms], ?_⟩
 simp only [WTm.holds, WTm.value]
 rw [show W.same (.bool true) (.bool true) = true from by first | decide +kernel | (unfold W.same; rfl) | simp [W.same]]
theorem well_ints {P : Params} {h : Heap} : ∀ {vs : List Value} {is : List Int}, WellAll P h vs (is.map .int) → ∀ {N : Nm} {I : Addr → Option Obj}, VRelL N I vs (is.map .int)
 | _, [], .nil, _, _ => .nil
 | _, i :: is, .cons x y, _, _ => by
  cases x
  exact .cons (.int _ _) (well_ints y)
theorem entry {D : Shape} {K : Frag} {prog : Program} {w : World} {s₁ : Shared} {mg mb : Str → Option Value} {S : Spec} {name : Str} {no : Nat} {a : Addr} {is : List Int} {vals : List Value} {E : Value → Shared → Prop} {G : Value → Shared → Prop} (X : Checks D K)
  (H : Funs (prgOf D K s₁.heap prog w) S) (kin : K.In s₁.heap) (lim : s₁.heap.NoLimit) (hmb : s₁.heap.Ns builtinsNs mb) (hb : ∀ x : Str, x ≠ "__name__" → mb x = bootBuiltins x) (hmg : s₁.heap.Ns mainGlobals mg)
  (hn : slotOf D.fns name = some no) (hr : D.rank.getD no 0 ≤ 80) (ha : mg name = some (.ref a)) (hw : WellAll w.params s₁.heap vals [.list (is.map .int)]) (hl : is.length ≤ 63) (hf : fill theT no [.list (is.map .int)] = [.list (is.map .int)])
  (hS : S no [.list (is.map .int)] (fun _ => Option.none) fun v _ => v = .bool true)
  (hG : ∀ s', (∀ b o, s₁.heap.get? b = some o → s'.heap.get? b = some o) → s'.gens = s₁.gens → s'.os = s₁.os → G (.bool true) s') :
  wpAny (model prog w) callerA (PySem.call (.ref a) vals) G E s₁ := by
 have F : PrgOk (prgOf D K s₁.heap prog w) := prgOk_of X kin lim ⟨mb, hmb, hb⟩ ⟨mg, hmg⟩
 obtain ⟨e1, e2⟩ := F.fns name no hn
 have e3 := mg_of kin hmg e1
 rw [ha] at e3
 obtain rfl : a = (prgOf D K s₁.heap prog w).fnA no := by injection e3 with e3; injection e3
 cases hw with
 | cons hw1 hw2 =>
  cases hw2
  cases hw1 with
  | list hh hx =>
   have S0 : SR (nmOf D s₁.heap prog w) ⟨s₁.heap.get?, fun _ => 0, fun _ => Option.none⟩ s₁.heap := ⟨fun _ _ e => e, fun _ _ e => (by cases e), fun b q => (by
    rcases q with q | ⟨_, _, _, q, _⟩
    ·exact absurd rfl q
    ·cases q), fun _ _ _ e => (by cases e), fun _ _ _ _ _ _ e => (by cases e), fun _ _ e => e⟩
   have hA : COk callerA ((prgOf D K s₁.heap prog w).rank no + 1) := by
    have hr' : (prgOf D K s₁.heap prog w).rank no ≤ 80 := hr
    refine ⟨rfl, ?_, ?_⟩
    ·have : callerA.depth = 301 := rfl
     omega
    ·have : callerA.units = 4 := rfl
     omega
   have hv := well_ints hx (N := nmOf D s₁.heap prog w) (I := s₁.heap.get?)
   refine wpAny_call (codeAny_mono (run_call F H (c := ⟨s₁.heap.get?, fun _ => 0, fun _ => Option.none⟩) (args := [.list (is.map .int)]) (Q := fun v _ => v = .bool true) hA S0
    (.cons (.list hh ⟨?_, 0, rfl⟩ hv) .nil) (by rw [show (prgOf D K s₁.heap prog w).T = theT from rfl, hf]; exact hS)) fun rr s2 z => ?_)
   ·have := hv.length
    rw [List.length_map] at this
    show _ ≤ 16777216
    omega
   ·rcases rr with e | (v | _ | _ | _) <;> first | exact z.elim | skip
    obtain ⟨c', d, S', E', r', rfl, g', o'⟩ := z
    cases r'
    refine hG s2 (fun b o e => E'.keep b o e ?_ (fun z => z.elim)) g' o'
    rintro (q | ⟨_, _, _, q, _⟩)
    ·exact absurd rfl q
    ·cases q
end Mine
end
section
open PySem PySem.W PyProof.Rows
set_option Elab.async false
namespace Mine
section
set_option maxRecDepth 100000
set_option maxHeartbeats 0
theorem left' : LeftO PySem.Challenge.rw_pq0296_02.row.toRowW.prog (qOf pwT) loose (fun _ => true) (fun s => addrs.map s.heap.get?) (fun w => (KOf pwT w.params).map fun p => some p.2) 10000 := by
 rw [show PySem.Challenge.rw_pq0296_02.row.toRowW.prog = pwT from pw_eq]; exact left
theorem law_of (S : Spec) (H : ∀ (h : Heap) (w : World), Funs (prgOf dat02 (KOf pwT w.params) h pwT w) S) (hS : ∀ is : List Int, is.length ≤ 63 → S 96 [.list (is.map .int)] (fun _ => Option.none) fun v _ => v = .bool true) : PySem.Challenge.rw_pq0296_02.Holds := by
 refine said_to fun k1 => ?_
 refine PySem.W.holds_open (r := PySem.Challenge.rw_pq0296_02.row) (q := qOf pwT) (loose := loose) (Xt := fun _ => true) (XP := fun _ _ => True) (Yf := fun s => addrs.map s.heap.get?) (Ya := fun w => (KOf pwT w.params).map fun p => some p.2)
  (YP := fun w h => (KOf pwT w.params).In h) (N := 10000) left' (fun w s e => Frag.in_of (K_addrs _) (by simpa only [List.map_map, Function.comp_def] using e)) (fun w h h' x k => Frag.In.keeps x k) (fun _ _ => trivial) (fun _ _ _ _ _ => trivial) (by rfl) (by rw [show PySem.Challenge.rw_pq0296_02.row.toRowW.prog = pwT from pw_eq]; rfl) (by rfl)
  (fun s e => recFacts_nil rfl) (by rfl) k1 ?ok ⟨rfl, rfl, rfl, rfl, rfl, by decide +kernel⟩ ?hw ?hc
 case ok => decide +kernel
 case hw => w_witness2
 case hc =>
  intro w s₀ s₁ mg mb G Y a o pm cd doc dV kV ho hd hcd hD hmg hg args vals as hpre hlay hrd hwl hlo
  obtain ⟨is, rfl, hl⟩ := pre_ints (by rfl) (by rfl) hpre
  rw [show PySem.Challenge.rw_pq0296_02.row.toRowW.prog = pwT from pw_eq]
  refine entry (is := is) (checks02 w.params) (H s₁.heap w) Y G.T.nolimit G.T.b G.T.builtins G.T.g (name := z108) (no := 96) (by decide +kernel) (by decide +kernel) hmg hwl hl (by rfl) (hS is hl) fun s' hk hg' ho' => ?_
  refine GoodW.toG ⟨.inl ⟨_, .bool true, [], rfl, fun _ => rfl, .bool true, ?_, fun _ => ⟨List.nodup_nil, fun _ h => by cases h⟩⟩, hk, ho', hg'.trans hg⟩
  exact post_true _ _ _
end
end Mine
end
section
namespace Mine
def eL {α : Type} (e : α → PV) (l : List α) : PV := .list (l.map e)
abbrev eI (l : List Int) : PV := eL PV.int l
abbrev eII (l : List (List Int)) : PV := eL eI l
def eP (p : List Int × Int) : PV := .tup [eI p.1, .int p.2]
abbrev ePs (l : List (List Int × Int)) : PV := eL eP l
def eN (n : Nat) : PV := .int (n : Int)
def eS (p : Nat × Nat) : PV := .tup [eN p.1, eN p.2]
def eK (p : (Nat × Nat) × (Nat × Nat)) : PV := .tup [eS p.1, eS p.2]
def eE (p : Nat × Nat × List Int) : PV := .tup [eN p.1, eN p.2.1, eI p.2.2]
theorem map_inj' {α : Type} {e : α → PV} (he : ∀ a b, e a = e b → a = b) : ∀ {a b : List α}, a.map e = b.map e → a = b
 | [], [], _ => rfl
 | [], _ :: _, h => by cases h
 | _ :: _, [], h => by cases h
 | x :: a, y :: b, h => by
  rw [List.map_cons, List.map_cons, List.cons.injEq] at h
  rw [he _ _ h.1, map_inj' he h.2]
theorem eI_inj' (a b : List Int) (h : eI a = eI b) : a = b := map_inj' (e := PV.int) (fun a b h => by injection h) (by injection h)
theorem eP_inj' (a b : List Int × Int) (h : eP a = eP b) : a = b := by
 injection h with h
 rw [List.cons.injEq, List.cons.injEq] at h
 exact Prod.ext (eI_inj' _ _ h.1) (by injection h.2.1)
@[simp] theorem eI_inj {a b : List Int} : eL PV.int a = eL PV.int b ↔ a = b := ⟨eI_inj' a b, fun h => h ▸ rfl⟩
@[simp] theorem eII_inj {a b : List (List Int)} : eL (eL PV.int) a = eL (eL PV.int) b ↔ a = b := ⟨fun h => map_inj' eI_inj' (by injection h), fun h => h ▸ rfl⟩
@[simp] theorem ePs_inj {a b : List (List Int × Int)} : eL eP a = eL eP b ↔ a = b := ⟨fun h => map_inj' eP_inj' (by injection h), fun h => h ▸ rfl⟩
@[simp] theorem eP_inj {a b : List Int × Int} : eP a = eP b ↔ a = b := ⟨eP_inj' a b, fun h => h ▸ rfl⟩
@[simp] theorem ePPs_inj {a b : List (List (List Int × Int))} : eL (eL eP) a = eL (eL eP) b ↔ a = b := ⟨fun h => map_inj' (fun _ _ h => ePs_inj.mp h) (by injection h), fun h => h ▸ rfl⟩
@[simp] theorem eN_inj {a b : Nat} : eN a = eN b ↔ a = b := ⟨fun h => by injection h with h; omega, fun h => h ▸ rfl⟩
@[simp] theorem eS_inj {a b : Nat × Nat} : eS a = eS b ↔ a = b := ⟨fun h => by
 injection h with h
 rw [List.cons.injEq, List.cons.injEq] at h
 exact Prod.ext (eN_inj.mp h.1) (eN_inj.mp h.2.1), fun h => h ▸ rfl⟩
def rd (v : PV) (Q : PV → Prop) : Prop := match v with | .undef => False | v => Q v
@[simp] theorem rd_int {i : Int} {Q : PV → Prop} : rd (.int i) Q = Q (.int i) := rfl
@[simp] theorem rd_bool {i : Bool} {Q : PV → Prop} : rd (.bool i) Q = Q (.bool i) := rfl
@[simp] theorem rd_none {Q : PV → Prop} : rd .none Q = Q .none := rfl
@[simp] theorem rd_str {i : Nat} {Q : PV → Prop} : rd (.str i) Q = Q (.str i) := rfl
@[simp] theorem rd_obj {i : Nat} {Q : PV → Prop} : rd (.obj i) Q = Q (.obj i) := rfl
@[simp] theorem rd_list {l : List PV} {Q : PV → Prop} : rd (.list l) Q = Q (.list l) := rfl
@[simp] theorem rd_tup {l : List PV} {Q : PV → Prop} : rd (.tup l) Q = Q (.tup l) := rfl
@[simp] theorem rd_eL {α : Type} {e : α → PV} {l : List α} {Q : PV → Prop} : rd (eL e l) Q = Q (eL e l) := rfl
@[simp] theorem rd_eP {p : List Int × Int} {Q : PV → Prop} : rd (eP p) Q = Q (eP p) := rfl
@[simp] theorem rd_eN {p : Nat} {Q : PV → Prop} : rd (eN p) Q = Q (eN p) := rfl
@[simp] theorem rd_eS {p : Nat × Nat} {Q : PV → Prop} : rd (eS p) Q = Q (eS p) := rfl
@[simp] theorem rd_eK {p : (Nat × Nat) × (Nat × Nat)} {Q : PV → Prop} : rd (eK p) Q = Q (eK p) := rfl
def rdO (v : Option PV) (Q : PV → Prop) : Prop := match v with | some v => rd v Q | none => False
@[simp] theorem rdO_some {v : PV} {Q : PV → Prop} : rdO (some v) Q = rd v Q := rfl
def revA (v : PV) (σ : Sto) (Q : KV) : Prop := match v with | .list l => Q (.list l.reverse) σ | _ => False
def rangeA (v : PV) (σ : Sto) (K : List PV → (Sto → Prop) → Sto → Prop) : Prop := match v with
 | .int n => -2147483648 < n ∧ n ≤ 16777216 ∧ K ((List.range n.toNat).map eN) (fun _ => True) σ
 | _ => False
def zipA (a b : PV) (σ : Sto) (K : List PV → (Sto → Prop) → Sto → Prop) : Prop := match a, b with
 | .list x, .list y => K ((x.zip y).map fun p => .tup [p.1, p.2]) (fun _ => True) σ
 | _, _ => False
def enumA (a : PV) (σ : Sto) (K : List PV → (Sto → Prop) → Sto → Prop) : Prop := match a with
 | .list x => K (x.zipIdx.map fun p => .tup [.int (p.2 : Nat), p.1]) (fun _ => True) σ
 | _ => False
def methA (T : Tabs) (v : PV) (n : Nat) (σ : Sto) (K : Nat → Nat → Prop) : Prop := match v with
 | .obj a => match σ a with
  | some (.inst c _) => match T.meth c n with
   | some f => K a f
   | none => False
  | _ => False
 | _ => False
section
variable {T : Tabs} {S : Spec} {Q : KV} {KQ : KO} {σ : Sto} {loc : List PV}
@[simp] theorem methA_obj {a n : Nat} {K : Nat → Nat → Prop} : methA T (.obj a) n σ K = match σ a with
  | some (.inst c _) => match T.meth c n with
   | some f => K a f
   | none => False
  | _ => False := rfl
@[simp] theorem rev_eL {α : Type} {e : α → PV} {l : List α} : revA (eL e l) σ Q = Q (eL e l.reverse) σ := by unfold revA eL; dsimp only; rw [List.map_reverse]
@[simp] theorem range_int {n : Int} {K : List PV → (Sto → Prop) → Sto → Prop} : rangeA (.int n) σ K = (-2147483648 < n ∧ n ≤ 16777216 ∧ K ((List.range n.toNat).map eN) (fun _ => True) σ) := rfl
@[simp] theorem zip_eL {α β : Type} {e : α → PV} {f : β → PV} {x : List α} {y : List β} {K : List PV → (Sto → Prop) → Sto → Prop} : zipA (eL e x) (eL f y) σ K = K ((x.zip y).map fun p => .tup [e p.1, f p.2]) (fun _ => True) σ := by
 unfold zipA eL; dsimp only; rw [List.zip_map]; simp [Function.comp_def]
@[simp] theorem enum_eL {α : Type} {e : α → PV} {x : List α} {K : List PV → (Sto → Prop) → Sto → Prop} : enumA (eL e x) σ K = K (x.zipIdx.map fun p => .tup [eN p.2, e p.1]) (fun _ => True) σ := by
 unfold enumA eL eN; dsimp only; rw [List.zipIdx_map]; simp [Function.comp_def, Prod.map]
@[simp] theorem ev_int {i : Int} : evalA T S (.int i) loc σ Q = Q (.int i) σ := by simp only [evalA]
@[simp] theorem ev_bool {i : Bool} : evalA T S (.bool i) loc σ Q = Q (.bool i) σ := by simp only [evalA]
@[simp] theorem ev_none : evalA T S .none loc σ Q = Q .none σ := by simp only [evalA]
@[simp] theorem ev_str {i : Nat} : evalA T S (.str i) loc σ Q = Q (.str i) σ := by simp only [evalA]
@[simp] theorem ev_var {i : Nat} : evalA T S (.var i) loc σ Q = rdO loc[i]? fun v => Q v σ := by
 simp only [evalA]
 apply propext
 constructor
 ·rintro ⟨v, h, q⟩; rw [h]; exact q
 ·intro h
  cases e : loc[i]? with
  | none => rw [e] at h; exact h.elim
  | some v => rw [e] at h; exact ⟨v, rfl, h⟩
@[simp] theorem ev_glob {i : Nat} : evalA T S (.glob i) loc σ Q = Q (T.glob i) σ := by simp only [evalA]
@[simp] theorem ev_bin {m : Bool} {op : BOp} {a b : ME} : evalA T S (.bin m op a b) loc σ Q = evalA T S a loc σ fun va σ₁ => evalA T S b loc σ₁ fun vb σ₂ => binA m op va vb σ₂ Q := by simp only [evalA]
@[simp] theorem ev_cmp {op : COp} {a b : ME} : evalA T S (.cmp op a b) loc σ Q = evalA T S a loc σ fun va σ₁ => evalA T S b loc σ₁ fun vb σ₂ => ∃ r, cmpA op σ₂ va vb = some r ∧ Q (.bool r) σ₂ := by simp only [evalA]
@[simp] theorem ev_cmp2 {op1 op2 : COp} {a b c : ME} : evalA T S (.cmp2 op1 op2 a b c) loc σ Q = evalA T S a loc σ fun va σ₁ => evalA T S b loc σ₁ fun vb σ₂ => ∃ r, cmpA op1 σ₂ va vb = some r ∧
      if r then evalA T S c loc σ₂ fun vc σ₃ => ∃ r', cmpA op2 σ₃ vb vc = some r' ∧ Q (.bool r') σ₃ else Q (.bool false) σ₂ := by simp only [evalA]
@[simp] theorem ev_and {a b : ME} : evalA T S (.and a b) loc σ Q = evalA T S a loc σ fun va σ₁ => ∃ r, va = .bool r ∧ if r then evalA T S b loc σ₁ Q else Q (.bool false) σ₁ := by simp only [evalA]
@[simp] theorem ev_or {a b : ME} : evalA T S (.or a b) loc σ Q = evalA T S a loc σ fun va σ₁ => ∃ r, va = .bool r ∧ if r then Q (.bool true) σ₁ else evalA T S b loc σ₁ Q := by simp only [evalA]
@[simp] theorem ev_not {a : ME} : evalA T S (.not a) loc σ Q = evalA T S a loc σ fun va σ₁ => ∃ r, va = .bool r ∧ Q (.bool (!r)) σ₁ := by simp only [evalA]
@[simp] theorem ev_ite {c a b : ME} : evalA T S (.ite c a b) loc σ Q = evalA T S c loc σ fun vc σ₁ => ∃ r, vc = .bool r ∧ if r then evalA T S a loc σ₁ Q else evalA T S b loc σ₁ Q := by simp only [evalA]
@[simp] theorem ev_list {m : Bool} {es : List ME} : evalA T S (.list m es) loc σ Q = evalsA T S es loc σ fun vs σ₁ => alloc m vs σ₁ Q := by simp only [evalA]
@[simp] theorem ev_tup {es : List ME} : evalA T S (.tup es) loc σ Q = evalsA T S es loc σ fun vs σ₁ => vs.length ≤ big ∧ Q (.tup vs) σ₁ := by simp only [evalA]
@[simp] theorem ev_edict : evalA T S .edict loc σ Q = ∀ a, σ a = Option.none → Q (.obj a) (σ.set a (.dict [])) := by simp only [evalA]
@[simp] theorem ev_attr {e : ME} {n : Nat} : evalA T S (.attr e n) loc σ Q = evalA T S e loc σ fun v σ₁ => attrA v n σ₁ Q := by simp only [evalA]
@[simp] theorem ev_sub {e i : ME} : evalA T S (.sub e i) loc σ Q = evalA T S e loc σ fun v σ₁ => evalA T S i loc σ₁ fun vi σ₂ => subA v vi σ₂ Q := by simp only [evalA]
@[simp] theorem ev_slice {e : ME} {lo hi : Option ME} : evalA T S (.slice e lo hi) loc σ Q = evalA T S e loc σ fun v σ₁ => evalOA T S lo loc σ₁ fun vl σ₂ => evalOA T S hi loc σ₂ fun vh σ₃ => sliceA v vl vh σ₃ Q := by simp only [evalA]
@[simp] theorem ev_rev {e : ME} : evalA T S (.rev e) loc σ Q = evalA T S e loc σ fun v σ₁ => revA v σ₁ Q := by simp only [evalA]; rfl
@[simp] theorem ev_call {f : Nat} {args : List ME} : evalA T S (.call f args) loc σ Q = evalsA T S args loc σ fun vs σ₁ => S f (fill T f vs) σ₁ Q := by simp only [evalA]
@[simp] theorem ev_new {c : Nat} {args : List ME} : evalA T S (.new c args) loc σ Q = evalsA T S args loc σ fun vs σ₁ => ∃ f, T.init c = some f ∧ ∀ a, σ₁ a = Option.none →
      S f (fill T f (.obj a :: vs)) (σ₁.set a (.inst c [])) fun r σ₂ => r = .none ∧ Q (.obj a) σ₂ := by simp only [evalA]
@[simp] theorem ev_meth {e : ME} {n : Nat} {args : List ME} : evalA T S (.meth e n args) loc σ Q = evalA T S e loc σ fun v σ₁ => methA T v n σ₁ fun a f => evalsA T S args loc σ₁ fun vs σ₂ => S f (fill T f (.obj a :: vs)) σ₂ Q := by
 simp only [evalA]
 congr 1; funext v σ₁
 apply propext
 constructor
 ·rintro ⟨a, c, fs, f, rfl, h, h1, h2⟩
  simp only [methA, h, h1]; exact h2
 ·intro h
  unfold methA at h
  split at h
  ·split at h
   ·split at h
    ·rename_i e1 _ _ e2; exact ⟨_, _, _, _, rfl, e1, e2, h⟩
    ·exact h.elim
   ·exact h.elim
  ·exact h.elim
@[simp] theorem ev_blt {b : Blt} {args : List ME} : evalA T S (.blt b args) loc σ Q = evalsA T S args loc σ fun vs σ₁ => bltA b vs σ₁ Q := by simp only [evalA]
@[simp] theorem ev_append {e x : ME} : evalA T S (.append e x) loc σ Q = evalA T S e loc σ fun v σ₁ => (elems σ₁ v).isSome = true ∧ evalA T S x loc σ₁ fun w σ₂ => appendA v w σ₂ Q := by simp only [evalA]
@[simp] theorem ev_extend {e x : ME} : evalA T S (.extend e x) loc σ Q = evalA T S e loc σ fun v σ₁ => (elems σ₁ v).isSome = true ∧ evalA T S x loc σ₁ fun w σ₂ => extendA v w σ₂ Q := by simp only [evalA]
@[simp] theorem ev_pop {e x : ME} : evalA T S (.pop e x) loc σ Q = evalA T S e loc σ fun v σ₁ => (elems σ₁ v).isSome = true ∧ evalA T S x loc σ₁ fun w σ₂ => popA v w σ₂ Q := by simp only [evalA]
theorem ev_comp {m : Bool} {k : Nat} {elt : ME} {t : Tgt} {it : MI} {conds : List ME} : evalA T S (.comp m k elt t it conds) loc σ Q = evalIA T S it loc σ fun items watch σ₁ =>
      eachA (fun x σ' R => bindA t x (loc ++ List.replicate k .undef) fun loc' =>
        condsA T S conds loc' σ' fun ok σ₂ => if ok then evalA T S elt loc' σ₂ fun v σ₃ => R [v] σ₃ else R [] σ₂) watch items [] σ₁ fun l σ₂ => alloc m l σ₂ Q := by simp only [evalA]
@[simp] theorem evs_nil {K : List PV → Sto → Prop} : evalsA T S [] loc σ K = K [] σ := by simp only [evalsA]
@[simp] theorem evs_cons {e : ME} {es : List ME} {K : List PV → Sto → Prop} : evalsA T S (e :: es) loc σ K = evalA T S e loc σ fun v σ₁ => evalsA T S es loc σ₁ fun vs σ₂ => K (v :: vs) σ₂ := by simp only [evalsA]
@[simp] theorem evo_none {K : Option PV → Sto → Prop} : evalOA T S Option.none loc σ K = K Option.none σ := by simp only [evalOA]
@[simp] theorem evo_some {e : ME} {K : Option PV → Sto → Prop} : evalOA T S (some e) loc σ K = evalA T S e loc σ fun v σ₁ => K (some v) σ₁ := by simp only [evalOA]
@[simp] theorem conds_nil {K : Bool → Sto → Prop} : condsA T S [] loc σ K = K true σ := by simp only [condsA]
@[simp] theorem conds_cons {c : ME} {cs : List ME} {K : Bool → Sto → Prop} : condsA T S (c :: cs) loc σ K = evalA T S c loc σ fun v σ₁ => ∃ r, v = .bool r ∧ if r then condsA T S cs loc σ₁ K else K false σ₁ := by simp only [condsA]
@[simp] theorem evi_expr {e : ME} {K : List PV → (Sto → Prop) → Sto → Prop} : evalIA T S (.expr e) loc σ K = evalA T S e loc σ fun v σ₁ => itemsA v σ₁ fun l w => K l w σ₁ := by simp only [evalIA]
@[simp] theorem evi_range {e : ME} {K : List PV → (Sto → Prop) → Sto → Prop} : evalIA T S (.range e) loc σ K = evalA T S e loc σ fun v σ₁ => rangeA v σ₁ K := by simp only [evalIA]; rfl
@[simp] theorem evi_zip {a b : ME} {K : List PV → (Sto → Prop) → Sto → Prop} : evalIA T S (.zip a b) loc σ K = evalA T S a loc σ fun va σ₁ => evalA T S b loc σ₁ fun vb σ₂ => zipA va vb σ₂ K := by simp only [evalIA]; rfl
@[simp] theorem evi_enum {a : ME} {K : List PV → (Sto → Prop) → Sto → Prop} : evalIA T S (.enum a) loc σ K = evalA T S a loc σ fun va σ₁ => enumA va σ₁ K := by simp only [evalIA]; rfl
def seqK (T : Tabs) (S : Spec) (r : List MS) (Q : KO) : KO := fun o σ' => match o with
 | .next loc' => execsA T S r loc' σ' Q
 | .ret v => Q (.ret v) σ'
@[simp] theorem seqK_next {r : List MS} : seqK T S r KQ (.next loc) σ = execsA T S r loc σ KQ := rfl
@[simp] theorem seqK_ret {r : List MS} {v : PV} : seqK T S r KQ (.ret v) σ = KQ (.ret v) σ := rfl
@[simp] theorem execs_nil : execsA T S [] loc σ KQ = KQ (.next loc) σ := by simp only [execsA]
@[simp] theorem execs_cons {s : MS} {r : List MS} : execsA T S (s :: r) loc σ KQ = execA T S s loc σ (seqK T S r KQ) := by simp only [execsA]; rfl
@[simp] theorem exec_assign {t : Tgt} {e : ME} : execA T S (.assign t e) loc σ KQ = evalA T S e loc σ fun v σ₁ => bindA t v loc fun loc' => KQ (.next loc') σ₁ := by simp only [execA]
@[simp] theorem exec_ret {e : ME} : execA T S (.ret e) loc σ KQ = evalA T S e loc σ fun v σ₁ => KQ (.ret v) σ₁ := by simp only [execA]
@[simp] theorem exec_expr {e : ME} : execA T S (.expr e) loc σ KQ = evalA T S e loc σ fun _ σ₁ => KQ (.next loc) σ₁ := by simp only [execA]
@[simp] theorem exec_ite {c : ME} {a b : List MS} : execA T S (.ite c a b) loc σ KQ = evalA T S c loc σ fun v σ₁ => ∃ r, v = .bool r ∧ if r then execsA T S a loc σ₁ KQ else execsA T S b loc σ₁ KQ := by simp only [execA]
theorem exec_while {c : ME} {b : List MS} : execA T S (.while c b) loc σ KQ = whileA (fun loc σ R => evalA T S c loc σ fun v σ₁ => ∃ r, v = .bool r ∧ R r σ₁) (fun loc σ R => execsA T S b loc σ R) loc σ KQ := by simp only [execA]
theorem exec_for {t : Tgt} {it : MI} {b : List MS} : execA T S (.for t it b) loc σ KQ = evalIA T S it loc σ fun items watch σ₁ => forA (fun loc σ R => execsA T S b loc σ R) t watch items loc σ₁ KQ := by simp only [execA]
@[simp] theorem exec_stuck : execA T S .stuck loc σ KQ = False := by simp only [execA]
def putA (ov : PV) (n : Nat) (v : PV) (σ : Sto) (K : Sto → Prop) : Prop := match ov with
 | .obj a => match σ a with
  | some (.inst c fs) => fs.length < 1000 ∧ K (σ.set a (.inst c (setF fs n v)))
  | _ => False
 | _ => False
@[simp] theorem putA_obj {a n : Nat} {v : PV} {K : Sto → Prop} : putA (.obj a) n v σ K = match σ a with
  | some (.inst c fs) => fs.length < 1000 ∧ K (σ.set a (.inst c (setF fs n v)))
  | _ => False := rfl
@[simp] theorem exec_setattr {o e : ME} {n : Nat} : execA T S (.setattr o n e) loc σ KQ = evalA T S e loc σ fun v σ₁ => evalA T S o loc σ₁ fun ov σ₂ => putA ov n v σ₂ fun σ' => KQ (.next loc) σ' := by
 simp only [execA]
 congr 1; funext v σ₁; congr 1; funext ov σ₂
 apply propext
 constructor
 ·rintro ⟨a, c, fs, rfl, h, h1, h2⟩
  simp only [putA, h]; exact ⟨h1, h2⟩
 ·intro h
  unfold putA at h
  split at h
  ·split at h
   ·rename_i e; exact ⟨_, _, _, rfl, e, h⟩
   ·exact h.elim
  ·exact h.elim
def setiA (ov iv v : PV) (σ : Sto) (K : Sto → Prop) : Prop := match ov, iv with
 | .obj a, .int k => match σ a with
  | some (.dict kvs) => kvs.any (·.1 == k) = false ∧ kvs.length < big ∧ K (σ.set a (.dict (kvs ++ [(k, v)])))
  | _ => False
 | _, _ => False
@[simp] theorem setiA_obj {a : Nat} {k : Int} {v : PV} {K : Sto → Prop} : setiA (.obj a) (.int k) v σ K = match σ a with
  | some (.dict kvs) => kvs.any (·.1 == k) = false ∧ kvs.length < big ∧ K (σ.set a (.dict (kvs ++ [(k, v)])))
  | _ => False := rfl
@[simp] theorem exec_setitem {o i e : ME} : execA T S (.setitem o i e) loc σ KQ = evalA T S e loc σ fun v σ₁ => evalA T S o loc σ₁ fun ov σ₂ => evalA T S i loc σ₂ fun iv σ₃ => setiA ov iv v σ₃ fun σ' => KQ (.next loc) σ' := by
 simp only [execA]
 congr 1; funext v σ₁; congr 1; funext ov σ₂; congr 1; funext iv σ₃
 apply propext
 constructor
 ·rintro ⟨a, kvs, k, rfl, rfl, h, h1⟩
  simp only [setiA, h]; exact h1
 ·intro h
  unfold setiA at h
  split at h
  ·split at h
   ·rename_i e; exact ⟨_, _, _, rfl, rfl, e, h⟩
   ·exact h.elim
  ·exact h.elim
def setsA (ov v vl vh : PV) (σ : Sto) (K : Sto → Prop) : Prop := match ov, v, vl, vh with
 | .obj a, .list y, .int i, .int j => match σ a with
  | some (.list l) => 0 ≤ i ∧ i ≤ j ∧ j ≤ l.length ∧ l.length + y.length ≤ big ∧ K (σ.set a (.list (l.take i.toNat ++ y ++ l.drop j.toNat)))
  | _ => False
 | _, _, _, _ => False
theorem setsA_eL {α : Type} {e : α → PV} {y : List α} {a : Nat} {i j : Int} {K : Sto → Prop} {l : List PV} (h : σ a = some (.list l)) : setsA (.obj a) (eL e y) (.int i) (.int j) σ K = (0 ≤ i ∧ i ≤ j ∧ j ≤ l.length ∧ l.length + y.length ≤ big ∧ K (σ.set a (.list (l.take i.toNat ++ y.map e ++ l.drop j.toNat)))) := by
 unfold setsA eL; simp only [h, List.length_map]
@[simp] theorem exec_setslice {o lo hi e : ME} : execA T S (.setslice o lo hi e) loc σ KQ = evalA T S e loc σ fun v σ₁ => evalA T S o loc σ₁ fun ov σ₂ => evalA T S lo loc σ₂ fun vl σ₃ => evalA T S hi loc σ₃ fun vh σ₄ => setsA ov v vl vh σ₄ fun σ' => KQ (.next loc) σ' := by
 simp only [execA]
 congr 1; funext v σ₁; congr 1; funext ov σ₂; congr 1; funext vl σ₃; congr 1; funext vh σ₄
 apply propext
 constructor
 ·rintro ⟨a, l, y, i, j, rfl, rfl, rfl, rfl, h, h1⟩
  simp only [setsA, h]; exact h1
 ·intro h
  unfold setsA at h
  split at h
  ·split at h
   ·rename_i e; exact ⟨_, _, _, _, _, rfl, rfl, rfl, rfl, e, h⟩
   ·exact h.elim
  ·exact h.elim
@[simp] theorem setF_nil {n : Nat} {v : PV} : setF [] n v = [(n, v)] := rfl
@[simp] theorem setF_cons {m n : Nat} {v w : PV} {r : List (Nat × PV)} : setF ((m, w) :: r) n v = if m = n then (n, v) :: r else (m, w) :: setF r n v := rfl
@[simp] theorem bindA_var {i : Nat} {v : PV} {K : List PV → Prop} : bindA (.var i) v loc K = (i < loc.length ∧ K (loc.set i v)) := by
 unfold bindA
 simp only [bindT]
 apply propext
 constructor
 ·rintro ⟨l, h, k⟩
  split at h
  ·rename_i hi; cases h; exact ⟨hi, k⟩
  ·cases h
 ·rintro ⟨hi, k⟩
  exact ⟨_, by rw [if_pos hi], k⟩
def bindsA (ts : List Tgt) (vs loc : List PV) (K : List PV → Prop) : Prop := ∃ l, bindTs ts vs loc = some l ∧ K l
@[simp] theorem bindA_tup {ts : List Tgt} {vs : List PV} {K : List PV → Prop} : bindA (.tup ts) (.tup vs) loc K = bindsA ts vs loc K := by
 unfold bindA bindsA; simp only [bindT]
@[simp] theorem bindA_eP {ts : List Tgt} {p : List Int × Int} {K : List PV → Prop} : bindA (.tup ts) (eP p) loc K = bindsA ts [eI p.1, .int p.2] loc K := bindA_tup
@[simp] theorem bindA_eS {ts : List Tgt} {p : Nat × Nat} {K : List PV → Prop} : bindA (.tup ts) (eS p) loc K = bindsA ts [eN p.1, eN p.2] loc K := bindA_tup
@[simp] theorem bindsA_nil {K : List PV → Prop} : bindsA [] [] loc K = K loc := by simp [bindsA, bindTs]
@[simp] theorem bindsA_cons {t : Tgt} {ts : List Tgt} {v : PV} {vs : List PV} {K : List PV → Prop} : bindsA (t :: ts) (v :: vs) loc K = bindA t v loc fun loc' => bindsA ts vs loc' K := by
 unfold bindsA bindA; simp only [bindTs]
 apply propext
 constructor
 ·rintro ⟨l, h, k⟩
  split at h
  ·rename_i l' e; exact ⟨l', e, l, h, k⟩
  ·cases h
 ·rintro ⟨l, h, l', h', k⟩
  rw [h]; exact ⟨l', h', k⟩
@[simp] theorem elems_list {l : List PV} : elems σ (.list l) = some l := rfl
@[simp] theorem elems_eL {α : Type} {e : α → PV} {l : List α} : elems σ (eL e l) = some (l.map e) := rfl
@[simp] theorem elems_obj {a : Nat} : elems σ (.obj a) = match σ a with | some (.list l) => some l | _ => Option.none := rfl
@[simp] theorem len_eL {α : Type} {e : α → PV} {l : List α} : bltA .len [eL e l] σ Q = Q (.int l.length) σ := by simp [bltA, elems, eL]
@[simp] theorem len_tup {l : List PV} : bltA .len [.tup l] σ Q = Q (.int l.length) σ := rfl
@[simp] theorem len_obj {a : Nat} : bltA .len [.obj a] σ Q = match σ a with | some (.list l) => Q (.int l.length) σ | _ => False := by
 simp only [bltA, elems]
 cases σ a with
 | none => rfl
 | some x => cases x <;> rfl
@[simp] theorem blt_min {i j : Int} : bltA .min [.int i, .int j] σ Q = Q (.int (min i j)) σ := rfl
@[simp] theorem blt_max {i j : Int} : bltA .max [.int i, .int j] σ Q = Q (.int (max i j)) σ := rfl
@[simp] theorem blt_abs {i : Int} : bltA .abs [.int i] σ Q = Q (.int i.natAbs) σ := rfl
@[simp] theorem blt_copy {v : PV} : bltA .copy [v] σ Q = match elems σ v with | some l => Q (.list l) σ | _ => False := rfl
@[simp] theorem bin_add {m : Bool} {i j : Int} : binA m .add (.int i) (.int j) σ Q = Q (.int (i + j)) σ := rfl
@[simp] theorem bin_sub {m : Bool} {i j : Int} : binA m .sub (.int i) (.int j) σ Q = Q (.int (i - j)) σ := rfl
@[simp] theorem bin_mul {m : Bool} {i j : Int} : binA m .mul (.int i) (.int j) σ Q = (-(2 ^ 62) < i ∧ i < 2 ^ 62 ∧ Q (.int (i * j)) σ) := rfl
@[simp] theorem bin_fdiv {m : Bool} {i j : Int} : binA m .fdiv (.int i) (.int j) σ Q = (j ≠ 0 ∧ j.natAbs < 1073741824 ∧ Q (.int (i.fdiv j)) σ) := rfl
@[simp] theorem bin_mod {m : Bool} {i j : Int} : binA m .mod (.int i) (.int j) σ Q = (j ≠ 0 ∧ Q (.int (i.fmod j)) σ) := rfl
@[simp] theorem bin_cat {α : Type} {e : α → PV} {x y : List α} : binA false .add (eL e x) (eL e y) σ Q = (x.length + y.length ≤ big ∧ Q (eL e (x ++ y)) σ) := by simp [binA, eL, elems, alloc]
@[simp] theorem bin_cat1 {x : List Int} {c : Int} : binA false .add (eL PV.int x) (.list [.int c]) σ Q = (x.length + 1 ≤ big ∧ Q (eL PV.int (x ++ [c])) σ) := by simp [binA, eL, elems, alloc]
@[simp] theorem alloc_false {l : List PV} : alloc false l σ Q = (l.length ≤ big ∧ Q (.list l) σ) := by simp [alloc]
@[simp] theorem alloc_true {l : List PV} : alloc true l σ Q = (l.length ≤ big ∧ ∀ a, σ a = Option.none → Q (.obj a) (σ.set a (.list l))) := by simp [alloc]
@[simp high] theorem alloc_map {α : Type} {e : α → PV} {l : List α} : alloc false (l.map e) σ Q = (l.length ≤ big ∧ Q (eL e l) σ) := by simp [alloc, eL]
@[simp] theorem cmp_lt {i j : Int} : cmpA .lt σ (.int i) (.int j) = some (decide (i < j)) := rfl
@[simp] theorem cmp_le {i j : Int} : cmpA .le σ (.int i) (.int j) = some (decide (i ≤ j)) := rfl
@[simp] theorem cmp_gt {i j : Int} : cmpA .gt σ (.int i) (.int j) = some (decide (i > j)) := rfl
@[simp] theorem cmp_ge {i j : Int} : cmpA .ge σ (.int i) (.int j) = some (decide (i ≥ j)) := rfl
@[simp] theorem cmp_eq {a b : PV} : cmpA .eq σ a b = valEq σ a b := rfl
@[simp] theorem cmp_ne {a b : PV} : cmpA .ne σ a b = (valEq σ a b).map (!·) := rfl
@[simp] theorem cmp_is {a b : PV} : cmpA .is σ a b = isSame a b := rfl
@[simp] theorem cmp_isnot {a b : PV} : cmpA .isnot σ a b = (isSame a b).map (!·) := rfl
@[simp] theorem cmp_in {a b : PV} : cmpA .isin σ a b = isIn σ a b := rfl
@[simp] theorem cmp_notin {a b : PV} : cmpA .notin σ a b = (isIn σ a b).map (!·) := rfl
@[simp] theorem same_none : isSame .none .none = some true := rfl
@[simp] theorem same_obj {a : Nat} : isSame (.obj a) .none = some false := rfl
@[simp] theorem veq_int {i j : Int} : valEq σ (.int i) (.int j) = some (i == j) := rfl
@[simp] theorem veq_bool {i j : Bool} : valEq σ (.bool i) (.bool j) = some (i == j) := rfl
@[simp] theorem veq_str {i j : Nat} : valEq σ (.str i) (.str j) = some (i == j) := rfl
theorem ivs_map : ∀ l : List Int, ivs (l.map PV.int) = some l
 | [] => rfl
 | i :: l => by simp [ivs, ivs_map l]
@[simp] theorem veq_eI {a b : List Int} : valEq σ (eL PV.int a) (eL PV.int b) = some (a == b) := by
 simp [valEq, eL, elems, listEq, ivs_map]
@[simp] theorem in_eI {c : Int} {l : List Int} : isIn σ (.int c) (eL PV.int l) = some (l.contains c) := by simp [isIn, eL, ivs_map]
@[simp] theorem in_tup {c : Int} {l : List PV} : isIn σ (.int c) (.tup l) = (ivs l).map (·.contains c) := rfl
@[simp] theorem ivs_nil : ivs [] = some [] := rfl
@[simp] theorem ivs_cons {i : Int} {l : List PV} : ivs (.int i :: l) = (ivs l).map (i :: ·) := rfl
def getZ {α : Type} (l : List α) (k : Int) : Option α := if k < 0 then (if k + l.length < 0 then none else l[(k + l.length).toNat]?) else l[k.toNat]?
theorem getI_map {α : Type} {e : α → PV} {l : List α} {k : Int} : getI (l.map e) k = (getZ l k).map e := by
 unfold getI getZ
 simp only [List.length_map, List.getElem?_map]
 split
 ·split <;> rfl
 ·rfl
theorem sub_eL {α : Type} {e : α → PV} {l : List α} {k : Int} : subA (eL e l) (.int k) σ Q = ∃ x, getZ l k = some x ∧ Q (e x) σ := by
 unfold subA eL
 dsimp only
 rw [getI_map]
 apply propext
 constructor
 ·rintro ⟨v, h, q⟩
  obtain ⟨x, hx, rfl⟩ := Option.map_eq_some_iff.mp h
  exact ⟨x, hx, q⟩
 ·rintro ⟨x, hx, q⟩
  exact ⟨e x, by rw [hx]; rfl, q⟩
theorem getZ_nat {α : Type} {l : List α} {k : Nat} : getZ l (k : Int) = l[k]? := by
 unfold getZ; rw [if_neg (by omega)]; simp
@[simp] theorem sub_nat {α : Type} {e : α → PV} {l : List α} {k : Nat} : subA (eL e l) (.int (k : Int)) σ Q = ∃ x, l[k]? = some x ∧ Q (e x) σ := by rw [sub_eL, getZ_nat]
@[simp] theorem sub_0 {α : Type} {e : α → PV} {l : List α} : subA (eL e l) (.int 0) σ Q = ∃ x, l[0]? = some x ∧ Q (e x) σ := sub_nat (k := 0)
@[simp] theorem sub_1 {α : Type} {e : α → PV} {l : List α} : subA (eL e l) (.int 1) σ Q = ∃ x, l[1]? = some x ∧ Q (e x) σ := sub_nat (k := 1)
theorem sub_last {α : Type} {e : α → PV} {l : List α} (h : l ≠ []) : subA (eL e l) (.int ((l.length : Int) - 1)) σ Q = Q (e (l.getLast h)) σ := by
 have hp := List.length_pos_iff.mpr h
 rw [show (l.length : Int) - 1 = ((l.length - 1 : Nat) : Int) by omega, sub_nat, List.getElem?_eq_getElem (by omega)]
 simp [List.getLast_eq_getElem]
@[simp] theorem sub_obj {a : Nat} {k : Int} : subA (.obj a) (.int k) σ Q = match σ a with
  | some (.dict kvs) => ∃ v, (kvs.find? (·.1 == k)).map (·.2) = some v ∧ Q v σ
  | some (.list l) => subA (.list l) (.int k) σ Q
  | _ => False := by
 rcases h : σ a with _ | x
 ·simp [subA, h]
 ·cases x <;> simp [subA, h]
@[simp] theorem slice_obj {a : Nat} {lo hi : Option PV} : sliceA (.obj a) lo hi σ Q = match σ a with
  | some (.list l) => sliceA (.list l) lo hi σ Q
  | _ => False := by
 simp only [sliceA, elems]
 cases σ a with
 | none => rfl
 | some x => cases x <;> rfl
@[simp] theorem items_obj {a : Nat} {K : List PV → (Sto → Prop) → Prop} : itemsA (.obj a) σ K = match σ a with
  | some (.list l) => K l fun σ' => σ' a = some (.list l)
  | _ => False := rfl
@[simp] theorem attr_obj {a n : Nat} : attrA (.obj a) n σ Q = match σ a with
  | some (.inst _ fs) => ∃ v, getF fs n = some v ∧ Q v σ
  | _ => False := rfl
@[simp] theorem getF_cons {m n : Nat} {v : PV} {r : List (Nat × PV)} : getF ((m, v) :: r) n = if m = n then some v else getF r n := by
 unfold getF
 rw [List.find?_cons]
 by_cases h : m = n
 ·subst h; simp
 ·rw [beq_eq_false_iff_ne.mpr h, if_neg h]
@[simp] theorem sub_tup0 {a : PV} {l : List PV} : subA (.tup (a :: l)) (.int 0) σ Q = Q a σ := by simp [subA]
@[simp] theorem sub_tup1 {a b : PV} {l : List PV} : subA (.tup (a :: b :: l)) (.int 1) σ Q = Q b σ := by simp [subA]
@[simp] theorem sub_eP0 {p : List Int × Int} : subA (eP p) (.int 0) σ Q = Q (eI p.1) σ := sub_tup0
@[simp] theorem sub_eP1 {p : List Int × Int} : subA (eP p) (.int 1) σ Q = Q (.int p.2) σ := sub_tup1
@[simp] theorem sub_eS0 {p : Nat × Nat} : subA (eS p) (.int 0) σ Q = Q (eN p.1) σ := sub_tup0
@[simp] theorem sub_eS1 {p : Nat × Nat} : subA (eS p) (.int 1) σ Q = Q (eN p.2) σ := sub_tup1
theorem clamp_pos {n : Nat} {i : Int} (h : 0 ≤ i) : clampI n i = min i.toNat n := by unfold clampI; rw [if_neg (by omega)]
theorem slice_eq {α : Type} (l : List α) (a b : Nat) : sliceL' l (min a l.length) (min b l.length) = (l.take b).drop a := by
 unfold sliceL'
 rcases Nat.le_total b l.length with h | h
 ·rw [Nat.min_eq_left h]
  rcases Nat.le_total a l.length with h' | h'
  ·rw [Nat.min_eq_left h']
  ·rw [Nat.min_eq_right h', List.drop_eq_nil_of_le (by rw [List.length_take]; omega), List.drop_eq_nil_of_le (by rw [List.length_take]; omega)]
 ·rw [Nat.min_eq_right h, List.take_of_length_le h, List.take_length]
  rcases Nat.le_total a l.length with h' | h'
  ·rw [Nat.min_eq_left h']
  ·rw [Nat.min_eq_right h', List.drop_eq_nil_of_le (by omega), List.drop_eq_nil_of_le h']
theorem slice_map {α : Type} {e : α → PV} {l : List α} {a b : Nat} : sliceL' (l.map e) a b = (sliceL' l a b).map e := by
 unfold sliceL'; rw [← List.map_take, ← List.map_drop]
@[simp] theorem slice_both {α : Type} {e : α → PV} {l : List α} {a b : Int} (ha : 0 ≤ a) (hb : 0 ≤ b) : sliceA (eL e l) (some (.int a)) (some (.int b)) σ Q = Q (eL e ((l.take b.toNat).drop a.toNat)) σ := by
 unfold sliceA
 simp only [elems_eL, part, List.length_map, clamp_pos ha, clamp_pos hb]
 rw [show sliceL (l.map e) (min a.toNat l.length) (min b.toNat l.length) = _ from slice_map, slice_eq]; rfl
@[simp] theorem slice_lo {α : Type} {e : α → PV} {l : List α} {a : Int} (ha : 0 ≤ a) : sliceA (eL e l) (some (.int a)) Option.none σ Q = Q (eL e (l.drop a.toNat)) σ := by
 unfold sliceA
 simp only [elems_eL, part, List.length_map, clamp_pos ha]
 rw [show sliceL (l.map e) (min a.toNat l.length) l.length = _ from slice_map]
 have := slice_eq l a.toNat l.length
 rw [Nat.min_self, List.take_length] at this
 rw [this]; rfl
@[simp] theorem slice_hi {α : Type} {e : α → PV} {l : List α} {b : Int} (hb : 0 ≤ b) : sliceA (eL e l) Option.none (some (.int b)) σ Q = Q (eL e (l.take b.toNat)) σ := by
 unfold sliceA
 simp only [elems_eL, part, List.length_map, clamp_pos hb]
 rw [show sliceL (l.map e) 0 (min b.toNat l.length) = _ from slice_map]
 have := slice_eq l 0 b.toNat
 rw [Nat.zero_min, List.drop_zero] at this
 rw [this]; rfl
@[simp] theorem items_eL {α : Type} {e : α → PV} {l : List α} {K : List PV → (Sto → Prop) → Prop} : itemsA (eL e l) σ K = K (l.map e) fun _ => True := rfl
@[simp] theorem mul_rep {c n : Int} : binA false .mul (eL PV.int [c]) (.int n) σ Q = (-(2 ^ 62) < n ∧ n < 2 ^ 62 ∧ n.toNat ≤ big ∧ Q (eL PV.int (List.replicate n.toNat c)) σ) := by
 simp [binA, eL]
@[simp] theorem mul_rep' {c n : Int} : binA false .mul (.list [.int c]) (.int n) σ Q = (-(2 ^ 62) < n ∧ n < 2 ^ 62 ∧ n.toNat ≤ big ∧ Q (eL PV.int (List.replicate n.toNat c)) σ) := mul_rep
@[simp] theorem append_obj {a : Nat} {x : PV} : appendA (.obj a) x σ Q = match σ a with
  | some (.list l) => l.length < big ∧ Q .none (σ.set a (.list (l ++ [x])))
  | _ => False := rfl
@[simp] theorem extend_obj {α : Type} {e : α → PV} {a : Nat} {y : List α} : extendA (.obj a) (eL e y) σ Q = match σ a with
  | some (.list l) => l.length + y.length ≤ big ∧ Q .none (σ.set a (.list (l ++ y.map e)))
  | _ => False := by
 simp only [extendA, eL]
 cases σ a with
 | none => rfl
 | some x => cases x <;> simp
@[simp] theorem set_self {a : Nat} {o : AObj} : (σ.set a o) a = some o := by simp [Sto.set]
theorem set_ne {a b : Nat} {o : AObj} (h : b ≠ a) : (σ.set a o) b = σ b := by simp [Sto.set, h]
@[simp] theorem set_set {a : Nat} {o o' : AObj} : (σ.set a o).set a o' = σ.set a o' := by
 funext x; unfold Sto.set; split <;> rfl
theorem scan_up {test : List PV → Sto → (Bool → Sto → Prop) → Prop} {body : List PV → Sto → KO → Prop} (n0 bound : Nat) (p : Nat → Bool) (st : Nat → List PV) (he : loc = st n0)
  (hp : ∀ k, bound ≤ k → p k = false)
  (ht : ∀ k R, n0 ≤ k → R (p k) σ → test (st k) σ R)
  (hb : ∀ k R, n0 ≤ k → p k = true → R (.next (st (k + 1))) σ → body (st k) σ R)
  (hq : ∀ m, n0 ≤ m → (∀ j, n0 ≤ j → j < m → p j = true) → p m = false → KQ (.next (st m)) σ) : whileA test body loc σ KQ := by
 subst he
 refine ⟨fun n l τ => ∃ k, l = st k ∧ τ = σ ∧ n = bound - k ∧ n0 ≤ k ∧ ∀ j, n0 ≤ j → j < k → p j = true, ⟨_, n0, rfl, rfl, rfl, Nat.le_refl _, fun j a b => by omega⟩, ?_⟩
 rintro n l τ ⟨k, rfl, rfl, rfl, h1, h2⟩
 refine ht k _ h1 ?_
 cases e : p k with
 | false => exact hq k h1 h2 e
 | true =>
  refine hb k _ h1 e ?_
  have : k < bound := Nat.lt_of_not_le fun z => by rw [hp k z] at e; cases e
  exact ⟨bound - (k + 1), by omega, k + 1, rfl, rfl, rfl, by omega, fun j a b => by
   rcases Nat.lt_or_ge j k with q | q
   ·exact h2 j a q
   ·rw [show j = k by omega]; exact e⟩
theorem for_inv {body : List PV → Sto → KO → Prop} {t : Tgt} {watch : Sto → Prop} (I : Nat → List PV → Sto → Prop) (hw : ∀ k l σ, I k l σ → watch σ) : ∀ (items : List PV) (n0 : Nat) (loc : List PV) (σ : Sto), I n0 loc σ →
  (∀ k x, items[k]? = some x → ∀ loc σ (K : KO), I (n0 + k) loc σ → (∀ v σ', KQ (.ret v) σ' → K (.ret v) σ') → (∀ l σ', I (n0 + k + 1) l σ' → K (.next l) σ') → bindA t x loc fun loc' => body loc' σ K) →
  (∀ loc σ, I (n0 + items.length) loc σ → KQ (.next loc) σ) → forA body t watch items loc σ KQ
 | [], n0, loc, σ, h, _, hq => hq loc σ h
 | x :: r, n0, loc, σ, h, hs, hq => by
  unfold forA
  refine hs 0 x rfl loc σ _ h (fun v σ' q => q) fun l σ' q => ⟨hw _ _ _ q, for_inv I hw r (n0 + 1) l σ' q (fun k y hy loc σ K hI h1 h2 => ?_) fun loc σ hI => hq loc σ ?_⟩
  ·exact hs (k + 1) y hy loc σ K (by rw [show n0 + (k + 1) = n0 + 1 + k by omega]; exact hI) h1 fun l σ' q => h2 l σ' (by rw [show n0 + 1 + k + 1 = n0 + (k + 1) + 1 by omega]; exact q)
  ·rw [List.length_cons, show n0 + (r.length + 1) = n0 + 1 + r.length by omega]; exact hI
theorem each_inv {body : PV → Sto → (List PV → Sto → Prop) → Prop} {watch : Sto → Prop} {K : List PV → Sto → Prop} (I : Nat → List PV → Sto → Prop) (hw : ∀ k l σ, I k l σ → watch σ) : ∀ (items : List PV) (n0 : Nat) (acc : List PV) (σ : Sto), I n0 acc σ →
  (∀ k x, items[k]? = some x → ∀ acc σ (R : List PV → Sto → Prop), I (n0 + k) acc σ → (∀ o σ', I (n0 + k + 1) (acc ++ o) σ' → R o σ') → body x σ R) →
  (∀ acc σ, I (n0 + items.length) acc σ → K acc σ) → eachA body watch items acc σ K
 | [], n0, acc, σ, h, _, hq => hq acc σ h
 | x :: r, n0, acc, σ, h, hs, hq => by
  unfold eachA
  refine hs 0 x rfl acc σ _ h fun o σ' q => ⟨hw _ _ _ q, each_inv I hw r (n0 + 1) (acc ++ o) σ' q (fun k y hy acc σ R hI h2 => ?_) fun acc σ hI => hq acc σ ?_⟩
  ·exact hs (k + 1) y hy acc σ R (by rw [show n0 + (k + 1) = n0 + 1 + k by omega]; exact hI) fun l σ' q => h2 l σ' (by rw [show n0 + 1 + k + 1 = n0 + (k + 1) + 1 by omega]; exact q)
  ·rw [List.length_cons, show n0 + (r.length + 1) = n0 + 1 + r.length by omega]; exact hI
theorem each_map {α : Type} {body : PV → Sto → (List PV → Sto → Prop) → Prop} {K : List PV → Sto → Prop} (e : α → PV) (f : α → List PV) : ∀ (xs : List α) (acc : List PV),
  (∀ x ∈ xs, ∀ R, R (f x) σ → body (e x) σ R) → K (acc ++ xs.flatMap f) σ → eachA body (fun _ => True) (xs.map e) acc σ K
 | [], acc, _, h => by simpa [eachA] using h
 | x :: r, acc, hs, h => by
  rw [List.map_cons]
  unfold eachA
  refine hs x List.mem_cons_self _ ⟨trivial, each_map e f r (acc ++ f x) (fun y hy => hs y (List.mem_cons_of_mem _ hy)) ?_⟩
  rw [List.append_assoc]; rw [List.flatMap_cons] at h; exact h
theorem while_K {test : List PV → Sto → (Bool → Sto → Prop) → Prop} {body : List PV → Sto → KO → Prop} (I : Nat → List PV → Sto → Prop) (n : Nat) (h0 : I n loc σ) (hs : ∀ n loc σ (R : Bool → Sto → Prop), I n loc σ → (KQ (.next loc) σ → R false σ) →
  ((∀ K : KO, (∀ v σ', KQ (.ret v) σ' → K (.ret v) σ') → (∀ m l σ', m < n → I m l σ' → K (.next l) σ') → body loc σ K) → R true σ) → test loc σ R) : whileA test body loc σ KQ := by
 refine ⟨I, ⟨n, h0⟩, fun n loc σ hI => hs n loc σ _ hI (fun h => h) fun h => h _ (fun v σ' h => h) fun m l σ' hm h => ⟨m, hm, h⟩⟩
theorem while_inv {test : List PV → Sto → (Bool → Sto → Prop) → Prop} {body : List PV → Sto → KO → Prop} (I : Nat → List PV → Sto → Prop) (n : Nat) (h0 : I n loc σ) (hs : ∀ n loc σ, I n loc σ → test loc σ fun b σ' => if b then body loc σ' fun o σ'' => match o with
  | .next loc'' => ∃ m, m < n ∧ I m loc'' σ''
  | .ret v => KQ (.ret v) σ''
 else KQ (.next loc) σ') : whileA test body loc σ KQ := ⟨I, ⟨n, h0⟩, hs⟩
end
def pk {α : Type} (l : List α) (p : α → Bool) (k : Nat) : Bool := match l[k]? with | some x => p x | none => false
theorem pk_out {α : Type} {l : List α} {p : α → Bool} {k : Nat} (h : l.length ≤ k) : pk l p k = false := by
 unfold pk; rw [List.getElem?_eq_none h]
@[simp] theorem ex_not {b : Bool} {P : Bool → Prop} : (∃ r, b = !r ∧ P r) ↔ P (!b) := ⟨fun ⟨r, e, h⟩ => by subst e; simpa using h, fun h => ⟨!b, by simp, h⟩⟩
@[simp] theorem ex_not' {b : Bool} {P : Bool → Prop} : (∃ r, (!r) = b ∧ P r) ↔ P (!b) := ⟨fun ⟨r, e, h⟩ => by subst e; simpa using h, fun h => ⟨!b, by simp, h⟩⟩
theorem test_if {α : Type} {σ : Sto} {l : List α} {p : α → Bool} {k : Nat} {R : Bool → Sto → Prop} (hR : R (pk l p k) σ) : if k < l.length then ∃ x, l[k]? = some x ∧ R (p x) σ else R false σ := by
 split
 ·rename_i h
  refine ⟨l[k], List.getElem?_eq_getElem h, ?_⟩
  unfold pk at hR; rw [List.getElem?_eq_getElem h] at hR; exact hR
 ·rw [pk_out (by omega)] at hR; exact hR
theorem pk_lt {α : Type} {l : List α} {p : α → Bool} {k : Nat} (h : pk l p k = true) : k < l.length := Nat.lt_of_not_le fun q => by rw [pk_out q] at h; cases h
theorem scan_pk0 {α : Type} {p : α → Bool} : ∀ (l : List α) (m : Nat), (∀ j, j < m → pk l p j = true) → pk l p m = false → l.takeWhile p = l.take m ∧ l.dropWhile p = l.drop m
 | [], m, _, _ => by simp
 | x :: l, 0, _, h => by
  have : p x = false := h
  simp [List.takeWhile, List.dropWhile, this]
 | x :: l, m + 1, h, h' => by
  have h0 : p x = true := h 0 (by omega)
  have := scan_pk0 l m (fun j hj => h (j + 1) (by omega)) h'
  simp [List.takeWhile, List.dropWhile, h0, this.1, this.2]
theorem scan_pk {α : Type} {p : α → Bool} {l : List α} {n0 m : Nat} (h0 : n0 ≤ m) (h1 : ∀ j, n0 ≤ j → j < m → pk l p j = true) (h2 : pk l p m = false) : (l.drop n0).takeWhile p = (l.take m).drop n0 ∧ (l.drop n0).dropWhile p = l.drop m := by
 have e : ∀ j, pk (l.drop n0) p j = pk l p (n0 + j) := fun j => by unfold pk; rw [List.getElem?_drop]
 obtain ⟨a, b⟩ := scan_pk0 (p := p) (l.drop n0) (m - n0) (fun j hj => by rw [e]; exact h1 _ (by omega) (by omega)) (by rw [e, show n0 + (m - n0) = m by omega]; exact h2)
 refine ⟨?_, ?_⟩
 ·rw [a, List.drop_take]
 ·rw [b, List.drop_drop, show n0 + (m - n0) = m by omega]
def Ret (Q : KV) : KO := fun o σ' => match o with
 | .next _ => Wk .none σ' Q
 | .ret v => Wk v σ' Q
section
variable {σ : Sto} {Q : KV}
@[simp] theorem Ret_ret {v : PV} : Ret Q (.ret v) σ = Wk v σ Q := rfl
@[simp] theorem Ret_next {l : List PV} : Ret Q (.next l) σ = Wk .none σ Q := rfl
theorem Wk.same {v : PV} (h : Q v σ) : Wk v σ Q := ⟨v, σ, .refl v, fun _ _ e => e, h⟩
theorem FrzL.refl {σ σ' : Sto} : ∀ l : List PV, FrzL σ σ' l l
 | [] => .nil
 | x :: l => .cons (.refl x) (FrzL.refl l)
theorem Wk.frz {a : Nat} {l : List PV} (h : σ a = Option.none) (q : Q (.list l) σ) : Wk (.obj a) (σ.set a (.list l)) Q :=
 ⟨.list l, σ, .obj set_self h (FrzL.refl l), fun b o e => by
  rw [set_ne (fun z => by subst z; rw [h] at e; cases e)]; exact e, q⟩
theorem Wk.drop {σ' : Sto} {v : PV} (h : ∀ a o, σ a = some o → σ' a = some o) (q : Q v σ) : Wk v σ' Q := ⟨v, σ, .refl v, h, q⟩
end
@[simp] theorem list_map' {α : Type} {e : α → PV} {l : List α} : PV.list (l.map e) = eL e l := rfl
end Mine
end
section
namespace Mine
@[simp] theorem fill2 {vs : List PV} : fill theT 2 vs = vs := by show vs ++ List.drop _ [] = vs; rw [List.drop_nil, List.append_nil]
@[simp] theorem fill3 {vs : List PV} : fill theT 3 vs = vs := by show vs ++ List.drop _ [] = vs; rw [List.drop_nil, List.append_nil]
@[simp] theorem fill4 {vs : List PV} : fill theT 4 vs = vs := by show vs ++ List.drop _ [] = vs; rw [List.drop_nil, List.append_nil]
@[simp] theorem fill5 {vs : List PV} : fill theT 5 vs = vs := by show vs ++ List.drop _ [] = vs; rw [List.drop_nil, List.append_nil]
@[simp] theorem fill6 {vs : List PV} : fill theT 6 vs = vs := by show vs ++ List.drop _ [] = vs; rw [List.drop_nil, List.append_nil]
@[simp] theorem fill7 {vs : List PV} : fill theT 7 vs = vs := by show vs ++ List.drop _ [] = vs; rw [List.drop_nil, List.append_nil]
@[simp] theorem fill8 {vs : List PV} : fill theT 8 vs = vs := by show vs ++ List.drop _ [] = vs; rw [List.drop_nil, List.append_nil]
@[simp] theorem fill9 {vs : List PV} : fill theT 9 vs = vs := by show vs ++ List.drop _ [] = vs; rw [List.drop_nil, List.append_nil]
@[simp] theorem fill10 {vs : List PV} : fill theT 10 vs = vs := by show vs ++ List.drop _ [] = vs; rw [List.drop_nil, List.append_nil]
@[simp] theorem fill11 {vs : List PV} : fill theT 11 vs = vs := by show vs ++ List.drop _ [] = vs; rw [List.drop_nil, List.append_nil]
@[simp] theorem fill12_3 {a0 a1 a2 : PV} : fill theT 12 [a0, a1, a2] = [a0, a1, a2, .bool false] := rfl
@[simp] theorem fill12_4 {a0 a1 a2 a3 : PV} : fill theT 12 [a0, a1, a2, a3] = [a0, a1, a2, a3] := rfl
@[simp] theorem fill13_2 {a0 a1 : PV} : fill theT 13 [a0, a1] = [a0, a1, .bool false] := rfl
@[simp] theorem fill13_3 {a0 a1 a2 : PV} : fill theT 13 [a0, a1, a2] = [a0, a1, a2] := rfl
@[simp] theorem fill14 {vs : List PV} : fill theT 14 vs = vs := by show vs ++ List.drop _ [] = vs; rw [List.drop_nil, List.append_nil]
@[simp] theorem fill15_4 {a0 a1 a2 a3 : PV} : fill theT 15 [a0, a1, a2, a3] = [a0, a1, a2, a3, .none] := rfl
@[simp] theorem fill15_5 {a0 a1 a2 a3 a4 : PV} : fill theT 15 [a0, a1, a2, a3, a4] = [a0, a1, a2, a3, a4] := rfl
@[simp] theorem fill16 {vs : List PV} : fill theT 16 vs = vs := by show vs ++ List.drop _ [] = vs; rw [List.drop_nil, List.append_nil]
@[simp] theorem fill17 {vs : List PV} : fill theT 17 vs = vs := by show vs ++ List.drop _ [] = vs; rw [List.drop_nil, List.append_nil]
@[simp] theorem fill18 {vs : List PV} : fill theT 18 vs = vs := by show vs ++ List.drop _ [] = vs; rw [List.drop_nil, List.append_nil]
@[simp] theorem fill19 {vs : List PV} : fill theT 19 vs = vs := by show vs ++ List.drop _ [] = vs; rw [List.drop_nil, List.append_nil]
@[simp] theorem fill20 {vs : List PV} : fill theT 20 vs = vs := by show vs ++ List.drop _ [] = vs; rw [List.drop_nil, List.append_nil]
@[simp] theorem fill21 {vs : List PV} : fill theT 21 vs = vs := by show vs ++ List.drop _ [] = vs; rw [List.drop_nil, List.append_nil]
@[simp] theorem fill22 {vs : List PV} : fill theT 22 vs = vs := by show vs ++ List.drop _ [] = vs; rw [List.drop_nil, List.append_nil]
@[simp] theorem fill23 {vs : List PV} : fill theT 23 vs = vs := by show vs ++ List.drop _ [] = vs; rw [List.drop_nil, List.append_nil]
@[simp] theorem fill24 {vs : List PV} : fill theT 24 vs = vs := by show vs ++ List.drop _ [] = vs; rw [List.drop_nil, List.append_nil]
@[simp] theorem fill25 {vs : List PV} : fill theT 25 vs = vs := by show vs ++ List.drop _ [] = vs; rw [List.drop_nil, List.append_nil]
@[simp] theorem fill26 {vs : List PV} : fill theT 26 vs = vs := by show vs ++ List.drop _ [] = vs; rw [List.drop_nil, List.append_nil]
@[simp] theorem fill27 {vs : List PV} : fill theT 27 vs = vs := by show vs ++ List.drop _ [] = vs; rw [List.drop_nil, List.append_nil]
@[simp] theorem fill28 {vs : List PV} : fill theT 28 vs = vs := by show vs ++ List.drop _ [] = vs; rw [List.drop_nil, List.append_nil]
@[simp] theorem fill29 {vs : List PV} : fill theT 29 vs = vs := by show vs ++ List.drop _ [] = vs; rw [List.drop_nil, List.append_nil]
@[simp] theorem fill30 {vs : List PV} : fill theT 30 vs = vs := by show vs ++ List.drop _ [] = vs; rw [List.drop_nil, List.append_nil]
@[simp] theorem fill31 {vs : List PV} : fill theT 31 vs = vs := by show vs ++ List.drop _ [] = vs; rw [List.drop_nil, List.append_nil]
@[simp] theorem fill32 {vs : List PV} : fill theT 32 vs = vs := by show vs ++ List.drop _ [] = vs; rw [List.drop_nil, List.append_nil]
@[simp] theorem fill33 {vs : List PV} : fill theT 33 vs = vs := by show vs ++ List.drop _ [] = vs; rw [List.drop_nil, List.append_nil]
@[simp] theorem fill34 {vs : List PV} : fill theT 34 vs = vs := by show vs ++ List.drop _ [] = vs; rw [List.drop_nil, List.append_nil]
@[simp] theorem fill35 {vs : List PV} : fill theT 35 vs = vs := by show vs ++ List.drop _ [] = vs; rw [List.drop_nil, List.append_nil]
@[simp] theorem fill36 {vs : List PV} : fill theT 36 vs = vs := by show vs ++ List.drop _ [] = vs; rw [List.drop_nil, List.append_nil]
@[simp] theorem fill37 {vs : List PV} : fill theT 37 vs = vs := by show vs ++ List.drop _ [] = vs; rw [List.drop_nil, List.append_nil]
@[simp] theorem fill38 {vs : List PV} : fill theT 38 vs = vs := by show vs ++ List.drop _ [] = vs; rw [List.drop_nil, List.append_nil]
@[simp] theorem fill39 {vs : List PV} : fill theT 39 vs = vs := by show vs ++ List.drop _ [] = vs; rw [List.drop_nil, List.append_nil]
@[simp] theorem fill40 {vs : List PV} : fill theT 40 vs = vs := by show vs ++ List.drop _ [] = vs; rw [List.drop_nil, List.append_nil]
@[simp] theorem fill41 {vs : List PV} : fill theT 41 vs = vs := by show vs ++ List.drop _ [] = vs; rw [List.drop_nil, List.append_nil]
@[simp] theorem fill42 {vs : List PV} : fill theT 42 vs = vs := by show vs ++ List.drop _ [] = vs; rw [List.drop_nil, List.append_nil]
@[simp] theorem fill43 {vs : List PV} : fill theT 43 vs = vs := by show vs ++ List.drop _ [] = vs; rw [List.drop_nil, List.append_nil]
@[simp] theorem fill44 {vs : List PV} : fill theT 44 vs = vs := by show vs ++ List.drop _ [] = vs; rw [List.drop_nil, List.append_nil]
@[simp] theorem fill45 {vs : List PV} : fill theT 45 vs = vs := by show vs ++ List.drop _ [] = vs; rw [List.drop_nil, List.append_nil]
@[simp] theorem fill46 {vs : List PV} : fill theT 46 vs = vs := by show vs ++ List.drop _ [] = vs; rw [List.drop_nil, List.append_nil]
@[simp] theorem fill47 {vs : List PV} : fill theT 47 vs = vs := by show vs ++ List.drop _ [] = vs; rw [List.drop_nil, List.append_nil]
@[simp] theorem fill48 {vs : List PV} : fill theT 48 vs = vs := by show vs ++ List.drop _ [] = vs; rw [List.drop_nil, List.append_nil]
@[simp] theorem fill49 {vs : List PV} : fill theT 49 vs = vs := by show vs ++ List.drop _ [] = vs; rw [List.drop_nil, List.append_nil]
@[simp] theorem fill50 {vs : List PV} : fill theT 50 vs = vs := by show vs ++ List.drop _ [] = vs; rw [List.drop_nil, List.append_nil]
@[simp] theorem fill51 {vs : List PV} : fill theT 51 vs = vs := by show vs ++ List.drop _ [] = vs; rw [List.drop_nil, List.append_nil]
@[simp] theorem fill52 {vs : List PV} : fill theT 52 vs = vs := by show vs ++ List.drop _ [] = vs; rw [List.drop_nil, List.append_nil]
@[simp] theorem fill53 {vs : List PV} : fill theT 53 vs = vs := by show vs ++ List.drop _ [] = vs; rw [List.drop_nil, List.append_nil]
@[simp] theorem fill54 {vs : List PV} : fill theT 54 vs = vs := by show vs ++ List.drop _ [] = vs; rw [List.drop_nil, List.append_nil]
@[simp] theorem fill55 {vs : List PV} : fill theT 55 vs = vs := by show vs ++ List.drop _ [] = vs; rw [List.drop_nil, List.append_nil]
@[simp] theorem fill56 {vs : List PV} : fill theT 56 vs = vs := by show vs ++ List.drop _ [] = vs; rw [List.drop_nil, List.append_nil]
@[simp] theorem fill57 {vs : List PV} : fill theT 57 vs = vs := by show vs ++ List.drop _ [] = vs; rw [List.drop_nil, List.append_nil]
@[simp] theorem fill58 {vs : List PV} : fill theT 58 vs = vs := by show vs ++ List.drop _ [] = vs; rw [List.drop_nil, List.append_nil]
@[simp] theorem fill59 {vs : List PV} : fill theT 59 vs = vs := by show vs ++ List.drop _ [] = vs; rw [List.drop_nil, List.append_nil]
@[simp] theorem fill65 {vs : List PV} : fill theT 65 vs = vs := by show vs ++ List.drop _ [] = vs; rw [List.drop_nil, List.append_nil]
@[simp] theorem fill69 {vs : List PV} : fill theT 69 vs = vs := by show vs ++ List.drop _ [] = vs; rw [List.drop_nil, List.append_nil]
@[simp] theorem fill70 {vs : List PV} : fill theT 70 vs = vs := by show vs ++ List.drop _ [] = vs; rw [List.drop_nil, List.append_nil]
@[simp] theorem fill71 {vs : List PV} : fill theT 71 vs = vs := by show vs ++ List.drop _ [] = vs; rw [List.drop_nil, List.append_nil]
@[simp] theorem fill72 {vs : List PV} : fill theT 72 vs = vs := by show vs ++ List.drop _ [] = vs; rw [List.drop_nil, List.append_nil]
@[simp] theorem fill73 {vs : List PV} : fill theT 73 vs = vs := by show vs ++ List.drop _ [] = vs; rw [List.drop_nil, List.append_nil]
@[simp] theorem fill74 {vs : List PV} : fill theT 74 vs = vs := by show vs ++ List.drop _ [] = vs; rw [List.drop_nil, List.append_nil]
@[simp] theorem fill75 {vs : List PV} : fill theT 75 vs = vs := by show vs ++ List.drop _ [] = vs; rw [List.drop_nil, List.append_nil]
@[simp] theorem fill76 {vs : List PV} : fill theT 76 vs = vs := by show vs ++ List.drop _ [] = vs; rw [List.drop_nil, List.append_nil]
@[simp] theorem fill77_3 {a0 a1 a2 : PV} : fill theT 77 [a0, a1, a2] = [a0, a1, a2, .int 8] := rfl
@[simp] theorem fill77_4 {a0 a1 a2 a3 : PV} : fill theT 77 [a0, a1, a2, a3] = [a0, a1, a2, a3] := rfl
@[simp] theorem fill80 {vs : List PV} : fill theT 80 vs = vs := by show vs ++ List.drop _ [] = vs; rw [List.drop_nil, List.append_nil]
@[simp] theorem fill81 {vs : List PV} : fill theT 81 vs = vs := by show vs ++ List.drop _ [] = vs; rw [List.drop_nil, List.append_nil]
@[simp] theorem fill82 {vs : List PV} : fill theT 82 vs = vs := by show vs ++ List.drop _ [] = vs; rw [List.drop_nil, List.append_nil]
@[simp] theorem fill83 {vs : List PV} : fill theT 83 vs = vs := by show vs ++ List.drop _ [] = vs; rw [List.drop_nil, List.append_nil]
@[simp] theorem fill84 {vs : List PV} : fill theT 84 vs = vs := by show vs ++ List.drop _ [] = vs; rw [List.drop_nil, List.append_nil]
@[simp] theorem fill89 {vs : List PV} : fill theT 89 vs = vs := by show vs ++ List.drop _ [] = vs; rw [List.drop_nil, List.append_nil]
@[simp] theorem fill90 {vs : List PV} : fill theT 90 vs = vs := by show vs ++ List.drop _ [] = vs; rw [List.drop_nil, List.append_nil]
@[simp] theorem fill91 {vs : List PV} : fill theT 91 vs = vs := by show vs ++ List.drop _ [] = vs; rw [List.drop_nil, List.append_nil]
@[simp] theorem fill92 {vs : List PV} : fill theT 92 vs = vs := by show vs ++ List.drop _ [] = vs; rw [List.drop_nil, List.append_nil]
@[simp] theorem fill93 {vs : List PV} : fill theT 93 vs = vs := by show vs ++ List.drop _ [] = vs; rw [List.drop_nil, List.append_nil]
@[simp] theorem fill94 {vs : List PV} : fill theT 94 vs = vs := by show vs ++ List.drop _ [] = vs; rw [List.drop_nil, List.append_nil]
@[simp] theorem fill95 {vs : List PV} : fill theT 95 vs = vs := by show vs ++ List.drop _ [] = vs; rw [List.drop_nil, List.append_nil]
@[simp] theorem fill96 {vs : List PV} : fill theT 96 vs = vs := by show vs ++ List.drop _ [] = vs; rw [List.drop_nil, List.append_nil]
@[simp] theorem meth1_0 : theT.meth 1 0 = some 52 := rfl
@[simp] theorem meth1_1 : theT.meth 1 1 = some 53 := rfl
@[simp] theorem meth1_2 : theT.meth 1 2 = some 54 := rfl
@[simp] theorem meth1_3 : theT.meth 1 3 = some 55 := rfl
@[simp] theorem meth1_4 : theT.meth 1 4 = some 56 := rfl
@[simp] theorem meth1_5 : theT.meth 1 5 = some 57 := rfl
@[simp] theorem meth1_6 : theT.meth 1 6 = some 58 := rfl
@[simp] theorem meth1_7 : theT.meth 1 7 = some 59 := rfl
@[simp] theorem meth3_7 : theT.meth 3 7 = some 71 := rfl
@[simp] theorem meth3_8 : theT.meth 3 8 = some 70 := rfl
@[simp] theorem meth3_9 : theT.meth 3 9 = some 72 := rfl
@[simp] theorem meth3_10 : theT.meth 3 10 = some 74 := rfl
@[simp] theorem meth3_11 : theT.meth 3 11 = some 75 := rfl
@[simp] theorem meth3_12 : theT.meth 3 12 = some 76 := rfl
@[simp] theorem meth4_0 : theT.meth 4 0 = some 82 := rfl
@[simp] theorem meth4_2 : theT.meth 4 2 = some 84 := rfl
@[simp] theorem meth4_13 : theT.meth 4 13 = some 80 := rfl
@[simp] theorem meth4_14 : theT.meth 4 14 = some 81 := rfl
@[simp] theorem meth4_15 : theT.meth 4 15 = some 83 := rfl
@[simp] theorem meth4_16 : theT.meth 4 16 = some 85 := rfl
@[simp] theorem meth4_17 : theT.meth 4 17 = some 89 := rfl
@[simp] theorem init0 : theT.init 0 = some 31 := rfl
@[simp] theorem init1 : theT.init 1 = some 51 := rfl
@[simp] theorem init2 : theT.init 2 = some 65 := rfl
@[simp] theorem init3 : theT.init 3 = some 69 := rfl
@[simp] theorem init4 : theT.init 4 = some 77 := rfl
@[simp] theorem g0 : theT.glob 0 = .int 4194304 := rfl
@[simp] theorem g1 : theT.glob 1 = .int 32 := rfl
@[simp] theorem g2 : theT.glob 2 = .int 9 := rfl
@[simp] theorem g3 : theT.glob 3 = .int 10 := rfl
@[simp] theorem g4 : theT.glob 4 = .int 46 := rfl
@[simp] theorem g5 : theT.glob 5 = .tup [.int 33, .int 46, .int 63] := rfl
@[simp] theorem g6 : theT.glob 6 = .tup [.int 34, .int 39, .int 41, .int 93, .int 125] := rfl
@[simp] theorem g7 : theT.glob 7 = .int 9 := rfl
@[simp] theorem g8 : theT.glob 8 = .int 32 := rfl
@[simp] theorem g9 : theT.glob 9 = .int 9 := rfl
@[simp] theorem g10 : theT.glob 10 = .int 10 := rfl
@[simp] theorem g11 : theT.glob 11 = .int 10 := rfl
@[simp] theorem g12 : theT.glob 12 = .tup [.int 9, .int 10, .int 32] := rfl
@[simp] theorem g13 : theT.glob 13 = .int 4 := rfl
end Mine
end
section
namespace Mine
def isBl (c : Int) : Bool := c == 32 || (c == 9 || c == 10)
def isClo (c : Int) : Bool := [34, 39, 41, 93, 125].contains c
def isEnd (c : Int) : Bool := [33, 46, 63].contains c
def endsS (w : List Int) : Bool := match w.reverse.dropWhile isClo with
 | c :: _ => isEnd c
 | [] => false
abbrev Piece := List Int × Int
def gapOf (w b : List Int) : Int := if endsS w then (if b.contains 10 || decide (1 < b.length) then 2 else 1) else 1
def parse : List Int → List Int × List (List Int × List Int)
 | [] => ([], [])
 | c :: r => if isBl c then (c :: (parse r).1, (parse r).2) else match (parse r).1, (parse r).2 with
  | [], (w, g) :: ps => ([], (c :: w, g) :: ps)
  | b, ps => ([], ([c], b) :: ps)
def piecesOf (l : List Int) : List Piece := (parse l).2.map fun p => (p.1, gapOf p.1 p.2)
def mayBreak (p : Piece) : Bool := decide (1 < p.2) || p.1.getLast? != some 46
def rowEndF (width : Int) : Int → Nat → Nat → List Piece → Nat
 | _, _, n, [] => n
 | used, best, n, p :: r =>
  if width < used + p.1.length ∧ 0 < best then best
  else if r = [] ∨ mayBreak p = true then (if width < used + p.1.length then n + 1 else rowEndF width (used + p.1.length + p.2) (n + 1) (n + 1) r)
  else rowEndF width (used + p.1.length + p.2) best (n + 1) r
def rowEnd (width : Int) (ps : List Piece) : Nat := rowEndF width 0 0 0 ps
def rowsF : Nat → Int → Int → List Piece → List (List Piece)
 | 0, _, _, _ => []
 | n + 1, w0, w, ps => if ps = [] then [] else ps.take (rowEnd w0 ps) :: rowsF n w w (ps.drop (rowEnd w0 ps))
def rowsOf (w0 w : Int) (ps : List Piece) : List (List Piece) := rowsF ps.length w0 w ps
def sumW (row : List Piece) : Int := (row.map fun p => (p.1.length : Int) + p.2).sum
def rowWidth (row : List Piece) : Int := match row.getLast? with
 | some p => sumW row - p.2
 | none => 0
def rowCodes : List Piece → List Int → List Int
 | [], _ => []
 | [p], _ => p.1
 | p :: r, g :: gs => p.1 ++ List.replicate g.toNat 32 ++ rowCodes r gs
 | p :: _, [] => p.1
def ownGaps (row : List Piece) : List Int := row.map (·.2)
def spreadGaps (row : List Piece) (width : Int) : List Int :=
 let many := row.length - 1
 let more := width - rowWidth row
 if many < 1 ∨ more ≤ 0 then ownGaps row
 else ((List.range many).map fun p => (ownGaps row).getD p 0 + more.fdiv many + if (p : Int) ≥ many - (more - more.fdiv many * many) then 1 else 0) ++ (ownGaps row).drop many
def placedRow (row : List Piece) (width : Int) (way : Nat) (last : Bool) : List Int :=
 if way = 1 ∧ last = false then rowCodes row (spreadGaps row width)
 else if width - (rowCodes row (ownGaps row)).length ≤ 0 ∨ way = 0 ∨ way = 1 then rowCodes row (ownGaps row)
 else if way = 2 then List.replicate (width - (rowCodes row (ownGaps row)).length).toNat 32 ++ rowCodes row (ownGaps row)
 else List.replicate ((width - (rowCodes row (ownGaps row)).length).fdiv 2).toNat 32 ++ rowCodes row (ownGaps row)
def colB (col c : Int) : Int := if c = 9 then (col.fdiv 8 + 1) * 8 else col + 1
def cols (row : List Int) : Int := row.foldl colB 0
def isLd (L : List Int) (c : Int) : Bool := c == 32 || (c == 9 || L.contains c)
def leadOf (L row : List Int) : List Int := row.takeWhile (isLd L)
def comSt : List Int → List Int → List Int
 | x :: a, y :: b => if x = y then x :: comSt a b else []
 | _, _ => []
def isBlankLead (l : List Int) : Bool := l.all fun c => c == 32 || c == 9
def leadsOf (L : List Int) : List (List Int) → List Int × List Int
 | [] => ([], [])
 | [r] => (leadOf L r, if isBlankLead (leadOf L r) then leadOf L r else [])
 | r0 :: r1 :: rs => (leadOf L r0, rs.foldl (fun a r => comSt a (leadOf L r)) (leadOf L r1))
def wordsOf (L : List Int) (rows : List (List Int)) : List Int :=
 (rows.headD []).drop (leadsOf L rows).1.length ++ rows.tail.flatMap fun r => 10 :: r.drop (leadsOf L rows).2.length
def partsOf (col : Int) (L : List Int) (rows : List (List Int)) : List (List Piece) :=
 rowsOf (col - cols (leadsOf L rows).1) (col - cols (leadsOf L rows).2) (piecesOf (wordsOf L rows))
def laidRow (col : Int) (way : Nat) (first rest : List Int) (n i : Nat) (part : List Piece) : List Int :=
 if i = 0 then first ++ placedRow part (col - cols first) way (i + 1 == n) else rest ++ placedRow part (col - cols rest) way (i + 1 == n)
def filledP (col : Int) (way : Nat) (L : List Int) (rows : List (List Int)) : List (List Int) :=
 (partsOf col L rows).zipIdx.map fun p => laidRow col way (leadsOf L rows).1 (leadsOf L rows).2 (partsOf col L rows).length p.2 p.1
def splitRows : List Int → List (List Int)
 | [] => [[]]
 | c :: r => if c = 10 then [] :: splitRows r else match splitRows r with
  | h :: t => (c :: h) :: t
  | [] => [[c]]
def joinRows : List (List Int) → List Int
 | [] => []
 | [r] => r
 | r :: rs => r ++ 10 :: joinRows rs
def isPart (L row : List Int) : Bool := (leadOf L row).length == row.length
def filledG (col : Int) (way : Nat) (L : List Int) : List (List Int) → List (List Int) → List (List Int)
 | par, [] => if par = [] then [] else filledP col way L par
 | par, r :: rs => if isPart L r then (if par = [] then [] else filledP col way L par) ++ r :: filledG col way L [] rs else filledG col way L (par ++ [r]) rs
def filledT (col : Int) (way : Nat) (L codes : List Int) : List Int := joinRows (filledG col way L [] (splitRows codes))
def sub (l : List Int) (a b : Nat) : List Int := (l.take b).drop a
def spansP : Nat → List (List Int × List Int) → List (Nat × Nat)
 | _, [] => []
 | n, p :: ps => (n, n + p.1.length) :: spansP (n + p.1.length + p.2.length) ps
def spansAt (n : Nat) (l : List Int) : List (Nat × Nat) := spansP (n + (parse l).1.length) (parse l).2
def spansOf (l : List Int) : List (Nat × Nat) := spansAt 0 l
def seek (old w : List Int) (spans : List (Nat × Nat)) (n : Nat) : Option Nat := (((spans.drop n).take 4).findIdx? fun s => sub old s.1 s.2 == w).map (n + ·)
def keptF (old new : List Int) (spans : List (Nat × Nat)) : Nat → List (Nat × Nat) → List ((Nat × Nat) × (Nat × Nat))
 | _, [] => []
 | n, s :: r => match seek old (sub new s.1 s.2) spans n with
  | some m => (spans.getD m (0, 0), s) :: keptF old new spans (m + 1) r
  | none => keptF old new spans n r
def keptOf (old new : List Int) : List ((Nat × Nat) × (Nat × Nat)) := keptF old new (spansOf old) 0 (spansOf new)
def narrow (s e : Nat) (old own : List Int) : Nat × Nat × List Int :=
 let a := (comSt (sub old s e) own).length
 let b := (comSt ((sub old s e).drop a).reverse (own.drop a).reverse).length
 (s + a, e - b, sub own a (own.length - b))
def editsF (old new : List Int) : Nat → Nat → List ((Nat × Nat) × (Nat × Nat)) → List (Nat × Nat × List Int)
 | _, _, [] => []
 | n, m, k :: r => (if sub old n k.1.1 = sub new m k.2.1 then [] else [narrow n k.1.1 old (sub new m k.2.1)]) ++ editsF old new k.1.2 k.2.2 r
def editsOf (old new : List Int) : List (Nat × Nat × List Int) := editsF old new 0 0 (keptOf old new ++ [((old.length, old.length), (new.length, new.length))])
def lineStart (t : List Int) (p : Nat) : Nat := p - ((t.take (p - 1)).reverse.takeWhile (· != 10)).length
def lineEnd (t : List Int) (p : Nat) : Nat := p + ((t.drop (p - 1)).takeWhile (· != 10)).length
def rowAt (t : List Int) (p : Nat) : List Int := sub t (lineStart t p - 1) (lineEnd t p - 1)
end Mine
end
section
namespace Mine
def Bd (Sx : Spec) (n : Nat) (b : List MS) (k : Nat) (vs : List PV) (σ : Sto) (Q : KV) : Prop := vs.length = n ∧ execsA theT Sx b (vs ++ List.replicate k .undef) σ (Ret Q)
section
variable {Sx : Spec} {σ : Sto} {Q : KV} {vs : List PV}
def s16 (vs : List PV) (σ : Sto) (Q : KV) : Prop := ∃ c, vs = [.int c] ∧ Q (.bool (isBl c)) σ
@[simp] theorem s16_ap {c : Int} : s16 [.int c] σ Q = Q (.bool (isBl c)) σ := by simp [s16]
theorem k16 (h : s16 vs σ Q) : Bd Sx 1 b16 0 vs σ Q := by
 obtain ⟨c, rfl, h⟩ := h
 refine ⟨rfl, ?_⟩
 unfold b16; simp
 by_cases h1 : c = 32
 ·subst h1; simp [isBl] at h ⊢; exact Wk.same h
 by_cases h2 : c = 9
 ·subst h2; simp [isBl] at h ⊢; exact Wk.same h
 by_cases h3 : c = 10
 ·subst h3; simp [isBl] at h ⊢; exact Wk.same h
 rw [show isBl c = false by simp [isBl, h1, h2, h3]] at h
 simp [h1, h2, h3] at h ⊢; exact Wk.same h
def s17 (vs : List PV) (σ : Sto) (Q : KV) : Prop := ∃ w, vs = [eI w] ∧ Q (.bool (endsS w)) σ
@[simp] theorem s17_ap {w : List Int} : s17 [eL PV.int w] σ Q = Q (.bool (endsS w)) σ := by simp [s17]
theorem rev_get {w : List Int} {k : Nat} (h : k < w.length) : w.reverse[k]? = w[w.length - 1 - k]? := by
 rw [List.getElem?_reverse h]
theorem k17 (h : s17 vs σ Q) : Bd Sx 1 b17 1 vs σ Q := by
 obtain ⟨w, rfl, h⟩ := h
 refine ⟨rfl, ?_⟩
 unfold b17; simp
 rw [exec_while]
 refine scan_up (σ := σ) 0 w.length (pk w.reverse isClo) (fun k => [eI w, .int (w.length - 1 - k)]) (by simp) (fun k hk => pk_out (by simpa using hk)) (fun k R _ hR => ?_) (fun k R _ hk hR => ?_) (fun m _ h1 h2 => ?_)
 ·simp [-Bool.exists_bool]
  by_cases hk : k < w.length
  ·rw [if_pos (by omega), show (w.length : Int) - 1 - k = ((w.length - 1 - k : Nat) : Int) by omega, sub_nat]
   refine ⟨w[w.length - 1 - k], List.getElem?_eq_getElem (by omega), ?_⟩
   simp [-Bool.exists_bool]
   rw [show pk w.reverse isClo k = isClo w[w.length - 1 - k] by unfold pk; rw [rev_get hk, List.getElem?_eq_getElem (by omega)]] at hR
   unfold isClo at hR; simpa using hR
  ·rw [if_neg (by omega)]
   rw [pk_out (by simpa using hk)] at hR; exact hR
 ·simp
  rw [show (w.length : Int) - 1 - k - 1 = w.length - 1 - (k + 1 : Nat) by omega]; exact hR
 ·have e := (scan_pk0 w.reverse m (fun j hj => h1 j (by omega) hj) h2).2
  unfold endsS at h
  rw [e] at h
  simp [-Bool.exists_bool]
  by_cases hk : m < w.length
  ·rw [if_pos (by omega), show (w.length : Int) - 1 - m = ((w.length - 1 - m : Nat) : Int) by omega, sub_nat]
   refine ⟨w[w.length - 1 - m], List.getElem?_eq_getElem (by omega), ?_⟩
   simp [-Bool.exists_bool]
   rw [List.drop_eq_getElem_cons (by simpa using hk)] at h
   simp [isEnd] at h
   refine Wk.same ?_
   simpa using h
  ·rw [if_neg (by omega)]
   rw [List.drop_eq_nil_of_le (by simpa using hk)] at h
   exact Wk.same h
def s18 (vs : List PV) (σ : Sto) (Q : KV) : Prop := ∃ w b, vs = [eI w, eI b] ∧ Q (.int (gapOf w b)) σ
@[simp] theorem s18_ap {w b : List Int} : s18 [eL PV.int w, eL PV.int b] σ Q = Q (.int (gapOf w b)) σ := by
 simp only [s18, List.cons.injEq, eI_inj, and_true, eq_iff_iff]
 exact ⟨fun ⟨_, _, ⟨rfl, rfl⟩, h⟩ => h, fun h => ⟨_, _, ⟨rfl, rfl⟩, h⟩⟩
theorem k18 (h17 : Sx 17 = s17) (h : s18 vs σ Q) : Bd Sx 2 b18 0 vs σ Q := by
 obtain ⟨w, b, rfl, h⟩ := h
 refine ⟨rfl, ?_⟩
 unfold b18; simp [-Bool.exists_bool, h17]
 unfold gapOf at h
 cases e : endsS w with
 | false => simp [e] at h ⊢; exact Wk.same h
 | true =>
  simp [e] at h ⊢
  by_cases h1 : (10 : Int) ∈ b
  ·rw [if_pos h1]; rw [if_pos (.inl h1)] at h; exact Wk.same h
  ·rw [if_neg h1]
   by_cases h2 : 1 < b.length
   ·rw [if_pos (by omega)]; rw [if_pos (.inr h2)] at h; exact Wk.same h
   ·rw [if_neg (by omega)]; rw [if_neg (by simp [h1, h2])] at h; exact Wk.same h
theorem parse_bl : ∀ (u r : List Int), (∀ c ∈ u, isBl c = true) → parse (u ++ r) = (u ++ (parse r).1, (parse r).2)
 | [], r, _ => rfl
 | c :: u, r, h => by
  have ih := parse_bl u r fun x hx => h x (List.mem_cons_of_mem _ hx)
  show parse (c :: (u ++ r)) = _
  conv => lhs; unfold parse
  rw [if_pos (h c List.mem_cons_self), ih]; rfl
theorem parse_head {r : List Int} (h : ∀ c, r.head? = some c → isBl c = true) (h2 : (parse r).1 = []) : r = [] := by
 cases r with
 | nil => rfl
 | cons c r =>
  unfold parse at h2
  rw [if_pos (h c rfl)] at h2; cases h2
theorem parse_nb {c : Int} {r : List Int} (h : isBl c = false) : (parse (c :: r)).1 = [] := by
 unfold parse
 rw [h]
 simp only [Bool.false_eq_true, if_false]
 split <;> rfl
theorem parse_word : ∀ (u r : List Int), u ≠ [] → (∀ c ∈ u, isBl c = false) → (∀ c, r.head? = some c → isBl c = true) → parse (u ++ r) = ([], (u, (parse r).1) :: (parse r).2)
 | [], _, h, _, _ => (h rfl).elim
 | [c], r, _, h, hr => by
  have hc := h c List.mem_cons_self
  show parse (c :: r) = _
  conv => lhs; unfold parse
  rw [hc]
  simp only [Bool.false_eq_true, if_false]
  split
  ·rename_i w g ps e1 e2
   have := parse_head hr e1
   subst this
   cases e2
  ·rfl
 | c :: d :: u, r, _, h, hr => by
  have hc := h c List.mem_cons_self
  have ih := parse_word (d :: u) r (by simp) (fun x hx => h x (List.mem_cons_of_mem _ hx)) hr
  show parse (c :: (d :: u ++ r)) = _
  conv => lhs; unfold parse
  rw [hc, ih]; rfl
theorem all_take {p : Int → Bool} {l : List Int} : ∀ c ∈ l.takeWhile p, p c = true := by
 intro c h
 induction l with
 | nil => cases h
 | cons x l ih =>
  unfold List.takeWhile at h
  split at h
  ·rename_i hx
   rcases List.mem_cons.mp h with rfl | h
   ·exact hx
   ·exact ih h
  ·cases h
theorem head_drop {p : Int → Bool} : ∀ {l : List Int} {c : Int}, (l.dropWhile p).head? = some c → p c = false
 | [], _, h => by cases h
 | x :: l, c, h => by
  unfold List.dropWhile at h
  split at h
  ·exact head_drop h
  ·rename_i hx; cases h; simpa using hx
def nBl (c : Int) : Bool := !isBl c
theorem parse_split (l : List Int) : parse l = (l.takeWhile isBl ++ (parse (l.dropWhile isBl)).1, (parse (l.dropWhile isBl)).2) := by
 conv => lhs; rw [← List.takeWhile_append_dropWhile (p := isBl) (l := l)]
 exact parse_bl _ _ fun c h => all_take c h
theorem parse_step {l : List Int} (h : ∃ c, l.head? = some c ∧ isBl c = false) : parse l = ([], (l.takeWhile nBl, ((l.dropWhile nBl).takeWhile isBl)) :: (parse ((l.dropWhile nBl).dropWhile isBl)).2) := by
 have hne : l.takeWhile nBl ≠ [] := by
  obtain ⟨c, hc, hb⟩ := h
  cases l with
  | nil => cases hc
  | cons x l => cases hc; simp [List.takeWhile, nBl, hb]
 have := parse_word (l.takeWhile nBl) (l.dropWhile nBl) hne (fun c hc => by simpa [nBl] using all_take c hc) (fun c hc => by simpa [nBl] using head_drop hc)
 rw [List.takeWhile_append_dropWhile] at this
 rw [this, parse_split (l.dropWhile nBl)]
 have h0 : (parse ((l.dropWhile nBl).dropWhile isBl)).1 = [] := by
  cases e : (l.dropWhile nBl).dropWhile isBl with
  | nil => rfl
  | cons x r => exact parse_nb (head_drop (l := l.dropWhile nBl) (by rw [e]; rfl))
 rw [h0, List.append_nil]
def s19 (vs : List PV) (σ : Sto) (Q : KV) : Prop := ∃ l, vs = [eI l] ∧ l.length ≤ big ∧ Q (ePs (piecesOf l)) σ
@[simp] theorem s19_ap {l : List Int} : s19 [eL PV.int l] σ Q = (l.length ≤ big ∧ Q (ePs (piecesOf l)) σ) := by
 simp only [s19, List.cons.injEq, eI_inj, and_true, eq_iff_iff]
 exact ⟨fun ⟨_, rfl, h⟩ => h, fun h => ⟨_, rfl, h⟩⟩
theorem k19 (h16 : Sx 16 = s16) (h18 : Sx 18 = s18) (h : s19 vs σ Q) : Bd Sx 1 b19 4 vs σ Q := by
 obtain ⟨l, rfl, hl, h⟩ := h
 refine ⟨rfl, ?_⟩
 unfold b19; simp [-Bool.exists_bool]
 intro a ha
 rw [exec_while]
 refine scan_up (σ := σ.set a (.list [])) 0 l.length (pk l isBl) (fun k => [eI l, .obj a, .int k, .undef, .undef]) rfl (fun k hk => pk_out hk) (fun k R _ hR => ?_) (fun k R _ hk hR => ?_) (fun m _ h1 h2 => ?_)
 ·simp [-Bool.exists_bool, h16]
  exact test_if hR
 ·simp [-Bool.exists_bool]
  exact hR
 ·simp [-Bool.exists_bool]
  rw [exec_while]
  obtain ⟨e1, e2⟩ := scan_pk0 l m (fun j hj => h1 j (by omega) hj) h2
  have hm : m ≤ l.length := by
   refine Nat.le_of_not_lt fun q => ?_
   have := pk_lt (h1 (m - 1) (by omega) (by omega)); omega
  refine while_inv (fun n loc τ => ∃ (k : Nat) (acc : List Piece) (e f : PV), n = l.length - k ∧ k ≤ l.length ∧ loc = [eI l, .obj a, .int k, e, f] ∧ τ = σ.set a (.list (acc.map eP)) ∧ (∀ c, (l.drop k).head? = some c → isBl c = false) ∧ acc ++ piecesOf (l.drop k) = piecesOf l ∧ acc.length ≤ k) _
   ⟨m, [], .undef, .undef, rfl, hm, rfl, rfl, fun c hc => head_drop (l := l) (by rw [e2]; exact hc), ?_, Nat.zero_le _⟩ ?_
  ·show [] ++ piecesOf _ = _
   unfold piecesOf
   rw [parse_split l, e2]; rfl
  ·rintro n loc τ ⟨k, acc, e, f, rfl, hk, rfl, rfl, hd, hp, hz⟩
   simp [-Bool.exists_bool]
   by_cases hlt : k < l.length
   ·rw [if_pos hlt]
    rw [exec_while]
    refine scan_up k l.length (pk l nBl) (fun j => [eI l, .obj a, .int k, .int j, f]) rfl (fun k hk => pk_out hk) (fun j R _ hR => ?_) (fun j R _ hk hR => ?_) (fun m hm1 h1 h2 => ?_)
    ·simp [-Bool.exists_bool, h16]
     exact test_if (p := nBl) hR
    ·simp [-Bool.exists_bool]
     exact hR
    ·simp [-Bool.exists_bool]
     obtain ⟨s1, s2⟩ := scan_pk hm1 h1 h2
     rw [exec_while]
     refine scan_up m l.length (pk l isBl) (fun j => [eI l, .obj a, .int k, .int m, .int j]) rfl (fun k hk => pk_out hk) (fun j R _ hR => ?_) (fun j R _ hk hR => ?_) (fun m' hm2 h3 h4 => ?_)
     ·simp [-Bool.exists_bool, h16]
      exact test_if hR
     ·simp [-Bool.exists_bool]
      exact hR
     ·obtain ⟨s3, s4⟩ := scan_pk hm2 h3 h4
      simp [-Bool.exists_bool, h18]
      have hne : k ≠ m := fun z => by
       subst z
       have hb := hd l[k] (by rw [List.head?_drop, List.getElem?_eq_getElem hlt])
       have : pk l nBl k = true := by unfold pk; rw [List.getElem?_eq_getElem hlt]; simp [nBl, hb]
       rw [this] at h2; cases h2
      have hm' : m' ≤ l.length := by
       refine Nat.le_of_not_lt fun q => ?_
       rcases Nat.lt_or_ge m m' with z | z
       ·have := pk_lt (h3 (m' - 1) (by omega) (by omega)); omega
       ·have := pk_lt (h1 (m - 1) (by omega) (by omega)); omega
      refine ⟨by decide, by omega, l.length - m', by omega, m', rfl, hm', rfl, acc ++ [(List.drop k (List.take m l), gapOf (List.drop k (List.take m l)) (List.drop m (List.take m' l)))], ?_, fun c hc => ?_, ?_, ?_⟩
      ·rw [List.map_append]; rfl
      ·exact head_drop (l := l.drop m) (by rw [s4, List.head?_drop]; exact hc)
      ·rw [← hp]
       have : piecesOf (l.drop k) = (List.drop k (List.take m l), gapOf (List.drop k (List.take m l)) (List.drop m (List.take m' l))) :: piecesOf (l.drop m') := by
        unfold piecesOf
        rw [parse_step ⟨l[k], by rw [List.head?_drop, List.getElem?_eq_getElem hlt], hd l[k] (by rw [List.head?_drop, List.getElem?_eq_getElem hlt])⟩, s1, s2, s3, s4]; rfl
       rw [this, List.append_assoc]; rfl
      ·rw [List.length_append]; simp; omega
   ·rw [if_neg hlt]
    rw [show l.drop k = [] from List.drop_eq_nil_of_le (by omega)] at hp
    have : acc = piecesOf l := by rw [← hp]; simp [piecesOf, parse]
    subst this
    exact Wk.frz ha h
end
end Mine
end
section
namespace Mine
section
variable {Sx : Spec} {σ : Sto} {Q : KV} {vs : List PV}
def s20 (vs : List PV) (σ : Sto) (Q : KV) : Prop := ∃ p, vs = [eP p] ∧ p.1 ≠ [] ∧ Q (.bool (mayBreak p)) σ
@[simp] theorem s20_ap {p : Piece} : s20 [eP p] σ Q = (p.1 ≠ [] ∧ Q (.bool (mayBreak p)) σ) := by
 simp only [s20, List.cons.injEq, eP_inj, and_true, eq_iff_iff]
 exact ⟨fun ⟨_, rfl, h⟩ => h, fun h => ⟨_, rfl, h⟩⟩
theorem k20 (h : s20 vs σ Q) : Bd Sx 1 b20 2 vs σ Q := by
 obtain ⟨p, rfl, hp, h⟩ := h
 refine ⟨rfl, ?_⟩
 unfold b20; simp [-Bool.exists_bool, sub_last hp]
 unfold mayBreak at h
 rw [List.getLast?_eq_some_getLast hp] at h
 by_cases h1 : 1 < p.2
 ·simp [h1] at h ⊢; exact Wk.same h
 ·simp [h1] at h ⊢; exact Wk.same h
theorem rowEndF_bound (width : Int) : ∀ (r : List Piece) (used : Int) (best n : Nat), best ≤ n → best ≤ rowEndF width used best n r ∧ rowEndF width used best n r ≤ n + r.length ∧ (0 < best ∨ 0 < n ∨ r ≠ [] → 1 ≤ rowEndF width used best n r)
 | [], used, best, n, h => by unfold rowEndF; simp; omega
 | p :: r, used, best, n, h => by
  unfold rowEndF
  have i1 := rowEndF_bound width r (used + p.1.length + p.2) (n + 1) (n + 1) (Nat.le_refl _)
  have i2 := rowEndF_bound width r (used + p.1.length + p.2) best (n + 1) (by omega)
  have i3 := i1.2.2 (.inl (by omega))
  have i4 := i2.2.2 (.inr (.inl (by omega)))
  rw [List.length_cons]
  split
  ·omega
  ·split
   ·split <;> omega
   ·omega
theorem rowEnd_pos {width : Int} {ps : List Piece} (h : ps ≠ []) : 1 ≤ rowEnd width ps := (rowEndF_bound width ps 0 0 0 (Nat.le_refl _)).2.2 (.inr (.inr h))
theorem rowEnd_le {width : Int} {ps : List Piece} : rowEnd width ps ≤ ps.length := by
 have := (rowEndF_bound width ps 0 0 0 (Nat.le_refl _)).2.1
 unfold rowEnd; omega
def s21 (vs : List PV) (σ : Sto) (Q : KV) : Prop := ∃ (ps : List Piece) (first : Nat) (width : Int), vs = [ePs ps, .int first, .int width] ∧ (∀ p ∈ ps, p.1 ≠ []) ∧ first ≤ ps.length ∧ Q (.int ((first + rowEnd width (ps.drop first) : Nat) : Int)) σ
theorem s21_ap {ps : List Piece} {first : Nat} {width : Int} (h1 : ∀ p ∈ ps, p.1 ≠ []) (h2 : first ≤ ps.length) (h : Q (.int ((first + rowEnd width (ps.drop first) : Nat) : Int)) σ) : s21 [ePs ps, .int first, .int width] σ Q := ⟨ps, first, width, rfl, h1, h2, h⟩
theorem k21 (h20 : Sx 20 = s20) (h : s21 vs σ Q) : Bd Sx 3 b21 5 vs σ Q := by
 obtain ⟨ps, first, width, rfl, hp, hf, h⟩ := h
 refine ⟨rfl, ?_⟩
 unfold b21; simp [-Bool.exists_bool]
 rw [exec_while]
 refine while_K (fun n loc τ => ∃ (used : Int) (best k : Nat) (x y : PV), n = ps.length - (first + k) ∧ first + k ≤ ps.length ∧ best ≤ k ∧ loc = [ePs ps, .int first, .int width, .int used, .int ((first + best : Nat) : Int), .int ((first + k : Nat) : Int), x, y] ∧ τ = σ ∧
  rowEndF width used best k (ps.drop (first + k)) = rowEnd width (ps.drop first)) _ ⟨0, 0, 0, .undef, .undef, rfl, hf, Nat.le_refl _, rfl, rfl, rfl⟩ ?_
 rintro n loc τ R ⟨used, best, k, x, y, rfl, hk, hb, rfl, rfl, he⟩ hF hT
 simp [-Bool.exists_bool, -Int.natCast_add]
 by_cases hlt : first + k < ps.length
 ·rw [decide_eq_true hlt]
  refine hT fun K hK1 hK2 => ?_
  have hd : ps.drop (first + k) = ps[first + k] :: ps.drop (first + k + 1) := List.drop_eq_getElem_cons hlt
  rw [hd] at he
  unfold rowEndF at he
  simp [-Bool.exists_bool, -Int.natCast_add, -Prod.exists]
  refine ⟨ps[first + k], List.getElem?_eq_getElem hlt, ?_⟩
  have hx : ps[first + k].1 ≠ [] := hp _ (List.getElem_mem hlt)
  have hN : ∀ (u : Int) (b : Nat) (bi ki w g) , b ≤ k + 1 → bi = ((first + b : Nat) : Int) → ki = ((first + k : Nat) : Int) + 1 → rowEndF width u b (k + 1) (ps.drop (first + k + 1)) = rowEnd width (ps.drop first) →
    K (.next [ePs ps, .int first, .int width, .int u, .int bi, .int ki, w, g]) τ := fun u b bi ki w g h1 h2 h3 h4 => by
   subst h2 h3
   exact hK2 (ps.length - (first + (k + 1))) _ _ (by omega) ⟨u, b, k + 1, w, g, rfl, by omega, h1, rfl, rfl, h4⟩
  have hR : ∀ (m : Nat) (mi : Int), mi = ((first + m : Nat) : Int) → m = rowEnd width (ps.drop first) → K (.ret (.int mi)) τ := fun m mi h1 h2 => by
   subst h1 h2
   exact hK1 _ _ (Wk.same h)
  have hlast : ((first + k : Nat) : Int) + 1 = ps.length ↔ ps.drop (first + k + 1) = [] := by
   rw [List.drop_eq_nil_iff]; omega
  have call20 : ∀ (W : KV), W (.bool (mayBreak ps[first + k])) τ → ∃ x, ps[first + k]? = some x ∧ Sx 20 [eP x] τ W := fun W hW => ⟨_, List.getElem?_eq_getElem hlt, by rw [h20, s20_ap]; exact ⟨hx, hW⟩⟩
  by_cases q1 : width < used + ps[first + k].1.length
  ·simp only [q1, true_and, if_true] at he ⊢
   by_cases q2 : 0 < best
   ·rw [if_pos q2] at he ⊢
    exact hR best _ rfl he
   ·rw [if_neg q2] at he ⊢
    by_cases q3 : ps.drop (first + k + 1) = []
    ·rw [if_pos (hlast.mpr q3)]
     rw [if_pos (.inl q3)] at he
     exact hR (k + 1) _ (by omega) he
    ·rw [if_neg fun z => q3 (hlast.mp z)]
     refine call20 _ ⟨_, rfl, ?_⟩
     by_cases q4 : mayBreak ps[first + k] = true
     ·rw [if_pos q4]
      rw [if_pos (.inr q4)] at he
      exact hR (k + 1) _ (by omega) he
     ·rw [if_neg q4]
      rw [if_neg (by simp [q3, q4])] at he
      exact hN _ best _ _ _ _ (by omega) rfl rfl he
  ·simp only [q1, false_and, if_false] at he ⊢
   by_cases q3 : ps.drop (first + k + 1) = []
   ·rw [if_pos (hlast.mpr q3)]
    rw [if_pos (.inl q3)] at he
    exact hN _ (k + 1) _ _ _ _ (by omega) (by omega) rfl he
   ·rw [if_neg fun z => q3 (hlast.mp z)]
    refine call20 _ ⟨_, rfl, ?_⟩
    by_cases q4 : mayBreak ps[first + k] = true
    ·rw [if_pos q4]
     rw [if_pos (.inr q4)] at he
     exact hN _ (k + 1) _ _ _ _ (by omega) (by omega) rfl he
    ·rw [if_neg q4]
     rw [if_neg (by simp [q3, q4])] at he
     exact hN _ best _ _ _ _ (by omega) rfl rfl he
 ·rw [decide_eq_false hlt]
  refine hF ?_
  simp
  rw [show ps.drop (first + k) = [] from List.drop_eq_nil_of_le (by omega)] at he
  have he' : k = rowEnd width (ps.drop first) := he
  rw [← he', show first + k = ps.length by omega] at h
  exact Wk.same h
theorem rowsF_fuel : ∀ (n m : Nat) (w0 w : Int) (ps : List Piece), ps.length ≤ n → ps.length ≤ m → rowsF n w0 w ps = rowsF m w0 w ps
 | 0, m, w0, w, ps, h, _ => by
  have := List.length_eq_zero_iff.mp (Nat.le_zero.mp h); subst this
  cases m <;> simp [rowsF]
 | n + 1, 0, w0, w, ps, _, h => by
  have := List.length_eq_zero_iff.mp (Nat.le_zero.mp h); subst this
  simp [rowsF]
 | n + 1, m + 1, w0, w, ps, h1, h2 => by
  unfold rowsF
  by_cases h : ps = []
  ·rw [if_pos h, if_pos h]
  ·rw [if_neg h, if_neg h, rowsF_fuel n m]
   ·have := rowEnd_pos (width := w0) h; rw [List.length_drop]; omega
   ·have := rowEnd_pos (width := w0) h; rw [List.length_drop]; omega
theorem rowsOf_step {w0 w : Int} {ps : List Piece} (h : ps ≠ []) : rowsOf w0 w ps = ps.take (rowEnd w0 ps) :: rowsOf w w (ps.drop (rowEnd w0 ps)) := by
 have hp := rowEnd_pos (width := w0) h
 have hl := List.length_pos_iff.mpr h
 conv => lhs; unfold rowsOf
 rw [rowsF_fuel ps.length (ps.length - 1 + 1) _ _ _ (Nat.le_refl _) (by omega)]
 conv => lhs; unfold rowsF
 rw [if_neg h]
 unfold rowsOf
 rw [rowsF_fuel (ps.length - 1) _ _ _ _ (by rw [List.length_drop]; omega) (Nat.le_refl _)]
@[simp] theorem rowsOf_nil {w0 w : Int} : rowsOf w0 w [] = [] := rfl
abbrev eRows (l : List (List Piece)) : PV := eL (eL eP) l
def s22 (vs : List PV) (σ : Sto) (Q : KV) : Prop := ∃ (ps : List Piece) (w0 w : Int), vs = [ePs ps, .int w0, .int w] ∧ (∀ p ∈ ps, p.1 ≠ []) ∧ ps.length ≤ big ∧ Q (eRows (rowsOf w0 w ps)) σ
theorem s22_ap {ps : List Piece} {w0 w : Int} (h1 : ∀ p ∈ ps, p.1 ≠ []) (h2 : ps.length ≤ big) (h : Q (eRows (rowsOf w0 w ps)) σ) : s22 [ePs ps, .int w0, .int w] σ Q := ⟨ps, w0, w, rfl, h1, h2, h⟩
theorem k22 (h21 : Sx 21 = s21) (h : s22 vs σ Q) : Bd Sx 3 b22 3 vs σ Q := by
  obtain ⟨ps, w0, w, rfl, hp, hl, h⟩ := h
  refine ⟨rfl, ?_⟩
  unfold b22; simp [-Bool.exists_bool]
  intro a ha
  rw [exec_while]
  refine while_K (fun n loc τ => ∃ (k : Nat) (acc : List (List Piece)) (e : PV), n = ps.length - k ∧ k ≤ ps.length ∧ loc = [ePs ps, .int w0, .int w, .obj a, .int k, e] ∧ τ = σ.set a (.list (acc.map (eL eP))) ∧ acc.length ≤ k ∧ acc ++ rowsOf (if k = 0 then w0 else w) w (ps.drop k) = rowsOf w0 w ps) _
    ⟨0, [], .undef, rfl, Nat.zero_le _, rfl, rfl, Nat.zero_le _, rfl⟩ ?_
  rintro n loc τ R ⟨k, acc, e, rfl, hk, rfl, rfl, hz, he⟩ hF hT
  simp [-Bool.exists_bool]
  by_cases hlt : k < ps.length
  · rw [decide_eq_true hlt]
    refine hT fun K hK1 hK2 => ?_
    simp [-Bool.exists_bool, h21]
    have hne : ps.drop k ≠ [] := by rw [Ne, List.drop_eq_nil_iff]; omega
    rw [rowsOf_step hne] at he
    have key : ∀ W : Int, W = (if k = 0 then w0 else w) → s21 [eL eP ps, PV.int ↑k, PV.int W] (σ.set a (AObj.list (List.map (eL eP) acc))) fun v σ₁ =>
      (match σ₁ a with | some (AObj.list l) => some l | x => Option.none).isSome = true ∧ rd v fun v_1 => sliceA (eL eP ps) (some (PV.int ↑k)) (some v_1) σ₁ fun w_1 σ₂ => match σ₂ a with
            | some (AObj.list l) => l.length < big ∧ rd v fun v_2 => K (Out.next [ePs ps, PV.int w0, PV.int w, PV.obj a, v_2, v]) (σ₂.set a (AObj.list (l ++ [w_1])))
            | x => False := fun W hW => by
      refine s21_ap hp hk ?_
      rw [hW]
      have hpos := rowEnd_pos (width := if k = 0 then w0 else w) hne
      have hle := rowEnd_le (width := if k = 0 then w0 else w) (ps := ps.drop k)
      rw [List.length_drop] at hle
      generalize rowEnd (if k = 0 then w0 else w) (ps.drop k) = m at *
      simp [-Bool.exists_bool, -Int.natCast_add]
      refine ⟨by omega, hK2 (ps.length - (k + m)) _ _ (by omega) ⟨k + m, acc ++ [(ps.take (k + m)).drop k], _, rfl, by omega, rfl, ?_, ?_, ?_⟩⟩
      · rw [List.map_append]; rfl
      · rw [List.length_append]; simp; omega
      · rw [← he, if_neg (by omega), List.append_assoc]
        rw [List.drop_drop, List.drop_take, show k + m - k = m by omega]; rfl
    by_cases hk0 : k = 0
    · rw [if_pos hk0]; exact key w0 (by rw [if_pos hk0])
    · rw [if_neg hk0]; exact key w (by rw [if_neg hk0])
  · rw [decide_eq_false hlt]
    refine hF ?_
    simp
    rw [show ps.drop k = [] from List.drop_eq_nil_of_le (by omega), rowsOf_nil, List.append_nil] at he
    subst he
    exact Wk.frz ha h
def s23 (vs : List PV) (σ : Sto) (Q : KV) : Prop := ∃ row, vs = [ePs row] ∧ Q (.int (rowWidth row)) σ
@[simp] theorem s23_ap {row : List Piece} : s23 [eL eP row] σ Q = Q (.int (rowWidth row)) σ := by
 simp only [s23, List.cons.injEq, ePs_inj, and_true, eq_iff_iff]
 exact ⟨fun ⟨_, rfl, h⟩ => h, fun h => ⟨_, rfl, h⟩⟩
theorem take_succ_map {α : Type} {l : List α} {k : Nat} (h : k < l.length) : l.take (k + 1) = l.take k ++ [l[k]] := by
 rw [List.take_add_one, List.getElem?_eq_getElem h]; rfl
theorem sumW_snoc {l : List Piece} {p : Piece} : sumW (l ++ [p]) = sumW l + ((p.1.length : Int) + p.2) := by
 unfold sumW; rw [List.map_append, List.sum_append]; simp
theorem k23 (h : s23 vs σ Q) : Bd Sx 1 b23 3 vs σ Q := by
 obtain ⟨row, rfl, h⟩ := h
 refine ⟨rfl, ?_⟩
 unfold b23; simp [-Bool.exists_bool]
 rw [exec_for]
 simp [-Bool.exists_bool]
 refine for_inv (fun k loc τ => ∃ x y, loc = [ePs row, .int (sumW (row.take k)), x, y] ∧ τ = σ) (fun _ _ _ _ => trivial) _ 0 _ _ ⟨.undef, .undef, rfl, rfl⟩ ?_ ?_
 ·rintro k x hx loc τ K ⟨x1, y1, rfl, rfl⟩ hK1 hK2
  rw [List.getElem?_map] at hx
  obtain ⟨p, hp, rfl⟩ := Option.map_eq_some_iff.mp hx
  obtain ⟨hlt, rfl⟩ := List.getElem?_eq_some_iff.mp hp
  simp [-Bool.exists_bool]
  refine hK2 _ _ ⟨eI row[k].1, .int row[k].2, ?_, rfl⟩
  rw [Nat.zero_add, take_succ_map hlt, sumW_snoc, Int.add_assoc]
 ·rintro loc τ ⟨x1, y1, rfl, rfl⟩
  simp [-Bool.exists_bool]
  unfold rowWidth at h
  cases hr : row.getLast? with
  | none =>
   have : row = [] := List.getLast?_eq_none_iff.mp hr
   subst this
   simp at h ⊢; exact Wk.same h
  | some p =>
   have hne : row ≠ [] := fun z => by subst z; cases hr
   rw [if_pos (List.length_pos_iff.mpr hne), sub_last hne]
   have hl : row.getLast hne = p := by rw [List.getLast?_eq_some_getLast hne] at hr; injection hr
   rw [hr] at h
   rw [hl]
   simp [eP]
   exact Wk.same h
def wsum (row : List Piece) : Nat := (row.map fun p => p.1.length).sum
theorem rowCodes_cons2 {p q : Piece} {r : List Piece} {g : Int} {gs : List Int} : rowCodes (p :: q :: r) (g :: gs) = p.1 ++ List.replicate g.toNat 32 ++ rowCodes (q :: r) gs := rfl
theorem rowCodes_one {p : Piece} {gs : List Int} : rowCodes [p] gs = p.1 := by cases gs <;> rfl
theorem rowCodes_len {G : Nat} : ∀ (row : List Piece) (gaps : List Int), (∀ g ∈ gaps, g ≤ G) → (rowCodes row gaps).length ≤ wsum row + row.length * G
 | [], _, _ => by simp [rowCodes]
 | [p], gaps, _ => by cases gaps <;> simp [rowCodes, wsum]
 | p :: q :: r, [], _ => by simp [rowCodes, wsum]; omega
 | p :: q :: r, g :: gs, h => by
  have ih := rowCodes_len (q :: r) gs fun x hx => h x (List.mem_cons_of_mem _ hx)
  have hg := h g List.mem_cons_self
  unfold rowCodes
  rw [List.length_append, List.length_append, List.length_replicate]
  simp only [wsum, List.map_cons, List.sum_cons, List.length_cons] at ih ⊢
  have : (r.length + 1 + 1) * G = (r.length + 1) * G + G := Nat.succ_mul _ _
  omega
def s24 (vs : List PV) (σ : Sto) (Q : KV) : Prop := ∃ row gaps, vs = [ePs row, eI gaps] ∧ row.length ≤ gaps.length + 1 ∧ row.length ≤ big ∧ (∀ g ∈ gaps, -(2 ^ 62) < g ∧ g ≤ 10000) ∧ (rowCodes row gaps).length ≤ big ∧ Q (eI (rowCodes row gaps)) σ
theorem s24_ap {row : List Piece} {gaps : List Int} (h1 : row.length ≤ gaps.length + 1) (h2 : row.length ≤ big) (h3 : ∀ g ∈ gaps, -(2 ^ 62) < g ∧ g ≤ 10000) (h4 : (rowCodes row gaps).length ≤ big) (h : Q (eI (rowCodes row gaps)) σ) : s24 [ePs row, eI gaps] σ Q := ⟨row, gaps, rfl, h1, h2, h3, h4, h⟩
theorem k24 (h : s24 vs σ Q) : Bd Sx 2 b24 2 vs σ Q := by
 obtain ⟨row, gaps, rfl, h1, h2, h3, h4, h⟩ := h
 refine ⟨rfl, ?_⟩
 unfold b24; simp [-Bool.exists_bool]
 intro a ha
 rw [exec_for]
 simp [-Bool.exists_bool]
 have hb : big = 16777216 := rfl
 refine ⟨by omega, by omega, ?_⟩
 refine for_inv (fun k loc τ => ∃ (x : PV) (acc : List Int), loc = [ePs row, eI gaps, .obj a, x] ∧ τ = σ.set a (.list (acc.map .int)) ∧ acc ++ rowCodes (row.drop k) (gaps.drop k) = rowCodes row gaps) (fun _ _ _ _ => trivial) _ 0 _ _ ⟨.undef, [], rfl, rfl, rfl⟩ ?_ ?_
 ·rintro k x hx loc τ K ⟨x1, acc, rfl, rfl, he⟩ hK1 hK2
  rw [List.getElem?_map] at hx
  obtain ⟨p, hp, rfl⟩ := Option.map_eq_some_iff.mp hx
  obtain ⟨hlt, rfl⟩ := List.getElem?_eq_some_iff.mp hp
  have hk : k < row.length := by simpa using hlt
  simp [-Bool.exists_bool, -Prod.exists, eN]
  have hd : row.drop k = row[k] :: row.drop (k + 1) := List.drop_eq_getElem_cons hk
  rw [Nat.zero_add] at he hK2
  refine ⟨row[k], List.getElem?_eq_getElem hk, ?_⟩
  rw [hd] at he
  have hlen := congrArg List.length he
  rw [List.length_append] at hlen
  by_cases hl : k + 1 < row.length
  ·have hg : k < gaps.length := by omega
   have hd2 : row.drop (k + 1) = row[k + 1] :: row.drop (k + 1 + 1) := List.drop_eq_getElem_cons hl
   rw [List.drop_eq_getElem_cons hg, hd2] at he hlen
   rw [rowCodes_cons2, ← hd2] at he hlen
   rw [List.length_append, List.length_append, List.length_replicate] at hlen
   refine ⟨by omega, ?_⟩
   rw [if_pos (by omega)]
   refine ⟨by omega, gaps[k], List.getElem?_eq_getElem hg, ?_⟩
   obtain ⟨q1, q2⟩ := h3 _ (List.getElem_mem hg)
   refine ⟨by omega, by omega, by omega, by omega, ?_⟩
   refine hK2 _ _ ⟨_, acc ++ row[k].1 ++ List.replicate gaps[k].toNat 32, rfl, by simp, ?_⟩
   rw [← he]; simp
  ·have hd2 : row.drop (k + 1) = [] := List.drop_eq_nil_of_le (by omega)
   rw [hd2] at he hlen hK2
   rw [rowCodes_one] at he hlen
   refine ⟨by omega, ?_⟩
   rw [if_neg (by omega)]
   refine hK2 _ _ ⟨_, acc ++ row[k].1, rfl, by simp, ?_⟩
   rw [← he]; simp [rowCodes]
 ·rintro loc τ ⟨x1, acc, rfl, rfl, he⟩
  simp [-Bool.exists_bool]
  rw [Nat.zero_add, List.length_map, List.length_range, List.drop_eq_nil_of_le (Nat.le_refl _)] at he
  simp [rowCodes] at he
  subst he
  exact Wk.frz ha h
def s25 (vs : List PV) (σ : Sto) (Q : KV) : Prop := ∃ row, vs = [ePs row] ∧ row.length ≤ big ∧ Q (eI (ownGaps row)) σ
@[simp] theorem s25_ap {row : List Piece} : s25 [eL eP row] σ Q = (row.length ≤ big ∧ Q (eI (ownGaps row)) σ) := by
 simp only [s25, List.cons.injEq, ePs_inj, and_true, eq_iff_iff]
 exact ⟨fun ⟨_, rfl, h⟩ => h, fun h => ⟨_, rfl, h⟩⟩
theorem flatMap_one {α β : Type} {f : α → β} : ∀ {l : List α}, l.flatMap (fun x => [f x]) = l.map f
 | [] => rfl
 | x :: l => by rw [List.flatMap_cons, flatMap_one]; rfl
theorem k25 (h : s25 vs σ Q) : Bd Sx 1 b25 0 vs σ Q := by
 obtain ⟨row, rfl, hl, h⟩ := h
 refine ⟨rfl, ?_⟩
 unfold b25; simp [-Bool.exists_bool]
 rw [ev_comp]
 simp [-Bool.exists_bool]
 refine each_map eP (fun p => [.int p.2]) row [] (fun p _ R hR => by simpa [-Bool.exists_bool] using hR) ?_
 rw [List.nil_append, flatMap_one]
 refine ⟨by rw [List.length_map]; exact hl, Wk.same ?_⟩
 have : PV.list (row.map fun x => .int x.2) = eI (ownGaps row) := by unfold ownGaps eI eL; rw [List.map_map]; rfl
 rw [this]; exact h
theorem sumW_nonneg : ∀ (l : List Piece), (∀ p ∈ l, 0 ≤ p.2) → 0 ≤ sumW l
 | [], _ => by simp [sumW]
 | p :: l, h => by
  have := sumW_nonneg l fun x hx => h x (List.mem_cons_of_mem _ hx)
  have := h p List.mem_cons_self
  unfold sumW at *
  simp only [List.map_cons, List.sum_cons]; omega
theorem rowWidth_nonneg {row : List Piece} (h : ∀ p ∈ row, 0 ≤ p.2) : 0 ≤ rowWidth row := by
 unfold rowWidth
 cases hr : row.getLast? with
 | none => simp
 | some p =>
  have hne : row ≠ [] := fun z => by subst z; cases hr
  have hl : row.getLast hne = p := by rw [List.getLast?_eq_some_getLast hne] at hr; injection hr
  have e : row = row.dropLast ++ [p] := by rw [← hl]; exact (List.dropLast_concat_getLast hne).symm
  have : sumW row = sumW row.dropLast + (p.1.length + p.2) := by conv => lhs; rw [e, sumW_snoc]
  have := sumW_nonneg row.dropLast fun x hx => h x (List.dropLast_subset _ hx)
  simp only; omega
def s26 (vs : List PV) (σ : Sto) (Q : KV) : Prop := ∃ row width, vs = [ePs row, .int width] ∧ row.length ≤ 10000 ∧ (∀ p ∈ row, 0 ≤ p.2) ∧ width ≤ 10000 ∧ Q (eI (spreadGaps row width)) σ
theorem s26_ap {row : List Piece} {width : Int} (h1 : row.length ≤ 10000) (h2 : ∀ p ∈ row, 0 ≤ p.2) (h3 : width ≤ 10000) (h : Q (eI (spreadGaps row width)) σ) : s26 [ePs row, .int width] σ Q := ⟨row, width, rfl, h1, h2, h3, h⟩
theorem k26 (h23 : Sx 23 = s23) (h25 : Sx 25 = s25) (h : s26 vs σ Q) : Bd Sx 2 b26 5 vs σ Q := by
 obtain ⟨row, width, rfl, h1, h2, h3, h⟩ := h
 refine ⟨rfl, ?_⟩
 have hb : big = 16777216 := rfl
 have hw := rowWidth_nonneg h2
 unfold b26; simp [-Bool.exists_bool, h23, h25]
 refine ⟨by omega, ?_⟩
 have hgl : (ownGaps row).length = row.length := by unfold ownGaps; rw [List.length_map]
 by_cases hlt : row.length - 1 < 1
 ·rw [if_pos (by omega)]
  rw [show spreadGaps row width = ownGaps row by unfold spreadGaps; rw [if_pos (.inl hlt)]] at h
  exact Wk.same h
 rw [if_neg (by omega)]
 by_cases hm : width - rowWidth row ≤ 0
 ·rw [if_pos hm]
  rw [show spreadGaps row width = ownGaps row by unfold spreadGaps; rw [if_pos (.inr hm)]] at h
  exact Wk.same h
 rw [if_neg hm]
 have hsp : spreadGaps row width = ((List.range (row.length - 1)).map fun p => (ownGaps row).getD p 0 + (width - rowWidth row).fdiv ((row.length - 1 : Nat) : Int) +
   if (p : Int) ≥ ((row.length - 1 : Nat) : Int) - (width - rowWidth row - (width - rowWidth row).fdiv ((row.length - 1 : Nat) : Int) * ((row.length - 1 : Nat) : Int)) then 1 else 0) ++ (ownGaps row).drop (row.length - 1) := by
  unfold spreadGaps; rw [if_neg (by omega)]
 rw [hsp] at h
 rw [show (row.length : Int) - 1 = ((row.length - 1 : Nat) : Int) by omega]
 have hd0 : 0 ≤ (width - rowWidth row).fdiv ((row.length - 1 : Nat) : Int) := Int.fdiv_nonneg (by omega) (by omega)
 have hd1 : (width - rowWidth row).fdiv ((row.length - 1 : Nat) : Int) ≤ 10000 := by
  have h1 := Int.mul_fdiv_self_le (x := width - rowWidth row) (k := ((row.length - 1 : Nat) : Int)) (by omega)
  have h2 : 1 * (width - rowWidth row).fdiv ((row.length - 1 : Nat) : Int) ≤ ((row.length - 1 : Nat) : Int) * (width - rowWidth row).fdiv ((row.length - 1 : Nat) : Int) := Int.mul_le_mul_of_nonneg_right (by omega) hd0
  omega
 generalize hq : (width - rowWidth row).fdiv ((row.length - 1 : Nat) : Int) = each at *
 generalize hmn : row.length - 1 = many at *
 refine ⟨by omega, by omega, by omega, by omega, ?_⟩
 rw [ev_comp]
 simp [-Bool.exists_bool]
 refine ⟨by omega, by omega, ?_⟩
 refine each_map eN (fun p => [.int ((ownGaps row).getD p 0 + each + if (p : Int) ≥ (many : Int) - (width - rowWidth row - each * many) then 1 else 0)]) (List.range many) [] (fun p hp R hR => ?_) ?_
 ·have hp' : p < many := List.mem_range.mp hp
  simp [-Bool.exists_bool, eN]
  refine ⟨(ownGaps row)[p]'(by omega), List.getElem?_eq_getElem (by omega), ?_⟩
  have hg : (ownGaps row).getD p 0 = (ownGaps row)[p]'(by omega) := by simp [List.getD, List.getElem?_eq_getElem (show p < (ownGaps row).length by omega)]
  rw [hg] at hR
  by_cases hc : (many : Int) - (width - rowWidth row - each * many) ≤ (p : Int)
  ·rw [if_pos hc]; rw [if_pos hc] at hR; exact hR
  ·rw [if_neg hc]; rw [if_neg hc, Int.add_zero] at hR; exact hR
 ·rw [List.nil_append, flatMap_one]
  refine ⟨by rw [List.length_map, List.length_range]; omega, ?_⟩
  rw [show PV.list ((List.range many).map fun p => .int ((ownGaps row).getD p 0 + each + if (p : Int) ≥ (many : Int) - (width - rowWidth row - each * many) then 1 else 0)) = eI ((List.range many).map fun p => (ownGaps row).getD p 0 + each + if (p : Int) ≥ (many : Int) - (width - rowWidth row - each * many) then 1 else 0) by unfold eI eL; rw [List.map_map]; rfl]
  simp only [bin_cat]
  refine ⟨by rw [List.length_map, List.length_range, List.length_drop]; omega, Wk.same h⟩
def okRow (row : List Piece) : Prop := (∀ p ∈ row, p.1 ≠ [] ∧ 1 ≤ p.2 ∧ p.2 ≤ 2) ∧ wsum row ≤ 4000
theorem okRow.len {row : List Piece} (h : okRow row) : row.length ≤ wsum row := by
 obtain ⟨h, _⟩ := h
 induction row with
 | nil => simp
 | cons p r ih =>
  have := ih fun x hx => h x (List.mem_cons_of_mem _ hx)
  have h1 := List.length_pos_iff.mpr (h p List.mem_cons_self).1
  simp only [wsum, List.map_cons, List.sum_cons, List.length_cons] at *
  omega
theorem okRow.gaps {row : List Piece} (h : okRow row) : ∀ g ∈ ownGaps row, 1 ≤ g ∧ g ≤ 2 := by
 intro g hg
 unfold ownGaps at hg
 obtain ⟨p, hp, rfl⟩ := List.mem_map.mp hg
 exact (h.1 p hp).2
theorem spread_mem {row : List Piece} (h : okRow row) {width : Int} {W : Nat} (hw : width ≤ W) : ∀ g ∈ spreadGaps row width, 1 ≤ g ∧ g ≤ W + 3 := by
 intro g hg
 unfold spreadGaps at hg
 have h0 := rowWidth_nonneg fun p hp => Int.le_trans (by decide) (h.1 p hp).2.1
 by_cases hc : row.length - 1 < 1 ∨ width - rowWidth row ≤ 0
 ·rw [if_pos hc] at hg
  have := h.gaps g hg; omega
 ·rw [if_neg hc] at hg
  rcases List.mem_append.mp hg with hg | hg
  ·obtain ⟨p, hp, rfl⟩ := List.mem_map.mp hg
   have hp' := List.mem_range.mp hp
   have hd0 : 0 ≤ (width - rowWidth row).fdiv ((row.length - 1 : Nat) : Int) := Int.fdiv_nonneg (by omega) (by omega)
   have hd1 : (width - rowWidth row).fdiv ((row.length - 1 : Nat) : Int) ≤ W := by
    have h1 := Int.mul_fdiv_self_le (x := width - rowWidth row) (k := ((row.length - 1 : Nat) : Int)) (by omega)
    have h2 : 1 * (width - rowWidth row).fdiv ((row.length - 1 : Nat) : Int) ≤ ((row.length - 1 : Nat) : Int) * (width - rowWidth row).fdiv ((row.length - 1 : Nat) : Int) := Int.mul_le_mul_of_nonneg_right (by omega) hd0
    omega
   have hgl : (ownGaps row).length = row.length := by unfold ownGaps; rw [List.length_map]
   have hg : (ownGaps row).getD p 0 = (ownGaps row)[p]'(by omega) := by simp [List.getD, List.getElem?_eq_getElem (show p < (ownGaps row).length by omega)]
   have := h.gaps _ (List.getElem_mem (show p < (ownGaps row).length by omega))
   rw [hg]
   split <;> omega
  ·have := h.gaps g (List.drop_subset _ _ hg); omega
theorem spread_len {row : List Piece} {width : Int} : row.length ≤ (spreadGaps row width).length + 1 := by
 have hgl : (ownGaps row).length = row.length := by unfold ownGaps; rw [List.length_map]
 unfold spreadGaps
 dsimp only
 split
 ·omega
 ·rw [List.length_append, List.length_map, List.length_range, List.length_drop]; omega
def s27 (vs : List PV) (σ : Sto) (Q : KV) : Prop := ∃ row width way last, vs = [ePs row, .int width, .str way, .bool last] ∧ okRow row ∧ -100000 ≤ width ∧ width ≤ 20 ∧ Q (eI (placedRow row width way last)) σ
theorem s27_ap {row : List Piece} {width : Int} {way : Nat} {last : Bool} (h1 : okRow row) (h2 : -100000 ≤ width) (h3 : width ≤ 20) (h : Q (eI (placedRow row width way last)) σ) : s27 [ePs row, .int width, .str way, .bool last] σ Q := ⟨row, width, way, last, rfl, h1, h2, h3, h⟩
theorem k27 (h24 : Sx 24 = s24) (h25 : Sx 25 = s25) (h26 : Sx 26 = s26) (h : s27 vs σ Q) : Bd Sx 4 b27 2 vs σ Q := by
  obtain ⟨row, width, way, last, rfl, h1, h2, h3, h⟩ := h
  refine ⟨rfl, ?_⟩
  have hb : big = 16777216 := rfl
  have hl := h1.len
  have hw := h1.2
  have hgl : (ownGaps row).length = row.length := by unfold ownGaps; rw [List.length_map]
  have hown := rowCodes_len (G := 2) row (ownGaps row) fun g hg => (h1.gaps g hg).2
  have hspr := rowCodes_len (G := 23) row (spreadGaps row width) fun g hg => (spread_mem (W := 20) h1 h3 g hg).2
  unfold b27; simp [-Bool.exists_bool, h24, h25, h26]
  refine ⟨by omega, s24_ap (by omega) (by omega) (fun g hg => by have := h1.gaps g hg; omega) (by omega) ?_⟩
  simp [-Bool.exists_bool]
  unfold placedRow at h
  have hfd : (width - (rowCodes row (ownGaps row)).length).fdiv 2 = (width - (rowCodes row (ownGaps row)).length) / 2 := Int.fdiv_eq_ediv_of_nonneg _ (by decide)
  rw [hfd] at h ⊢
  have tail : (way = 1 → last = true) → (if width - ↑(rowCodes row (ownGaps row)).length ≤ 0 then Wk (eL PV.int (rowCodes row (ownGaps row))) σ Q
      else if way = 0 then Wk (eL PV.int (rowCodes row (ownGaps row))) σ Q
        else if way = 1 then Wk (eL PV.int (rowCodes row (ownGaps row))) σ Q
          else if way = 2 then
              1 ≤ big ∧ -4611686018427387904 < width - ↑(rowCodes row (ownGaps row)).length ∧ width - ↑(rowCodes row (ownGaps row)).length < 4611686018427387904 ∧
                    width ≤ ↑big + ↑(rowCodes row (ownGaps row)).length ∧ width.toNat - (rowCodes row (ownGaps row)).length + (rowCodes row (ownGaps row)).length ≤ big ∧
                        Wk (eL PV.int (List.replicate (width.toNat - (rowCodes row (ownGaps row)).length) 32 ++ rowCodes row (ownGaps row))) σ Q
            else
              1 ≤ big ∧ -4611686018427387904 < (width - ↑(rowCodes row (ownGaps row)).length) / 2 ∧ (width - ↑(rowCodes row (ownGaps row)).length) / 2 < 4611686018427387904 ∧
                    (width - ↑(rowCodes row (ownGaps row)).length) / 2 ≤ ↑big ∧ ((width - ↑(rowCodes row (ownGaps row)).length) / 2).toNat + (rowCodes row (ownGaps row)).length ≤ big ∧
                        Wk (eL PV.int (List.replicate ((width - ↑(rowCodes row (ownGaps row)).length) / 2).toNat 32 ++ rowCodes row (ownGaps row))) σ Q) := by
    intro hwl
    rw [if_neg (fun z => by have := hwl z.1; rw [z.2] at this; cases this)] at h
    clear hwl
    generalize rowCodes row (ownGaps row) = oc at *
    by_cases q1 : width - ↑oc.length ≤ 0
    · rw [if_pos q1]; rw [if_pos (.inl q1)] at h; exact Wk.same h
    rw [if_neg q1]
    by_cases q2 : way = 0
    · rw [if_pos q2]; rw [if_pos (.inr (.inl q2))] at h; exact Wk.same h
    rw [if_neg q2]
    by_cases q3 : way = 1
    · rw [if_pos q3]; rw [if_pos (.inr (.inr q3))] at h; exact Wk.same h
    rw [if_neg q3]
    rw [if_neg (by simp only [q1, q2, q3, or_self, not_false_eq_true])] at h
    by_cases q4 : way = 2
    · rw [if_pos q4]; rw [if_pos q4] at h
      rw [show (width - (oc.length : Int)).toNat = width.toNat - oc.length by omega] at h
      exact ⟨by omega, by omega, by omega, by omega, by omega, Wk.same h⟩
    · rw [if_neg q4]; rw [if_neg q4] at h
      exact ⟨by omega, by omega, by omega, by omega, by omega, Wk.same h⟩
  by_cases hw1 : way = 1
  · rw [if_pos hw1]
    cases last with
    | true => rw [if_pos rfl]; exact tail fun _ => rfl
    | false =>
      rw [if_pos ⟨hw1, rfl⟩] at h
      simp only [Bool.false_eq_true, if_false]
      refine s26_ap (by omega) (fun p hp => Int.le_trans (by decide) (h1.1 p hp).2.1) (by omega) ?_
      exact s24_ap spread_len (by omega) (fun g hg => by have := spread_mem (W := 20) h1 h3 g hg; omega) (by omega) (Wk.same h)
  · rw [if_neg hw1]; exact tail fun z => absurd z hw1
end
end Mine
end
section
namespace Mine
section
variable {Sx : Spec} {σ : Sto} {Q : KV} {vs : List PV}
def s28 (vs : List PV) (σ : Sto) (Q : KV) : Prop := ∃ col c : Int, vs = [.int col, .int c, .int 8] ∧ 0 ≤ col ∧ col ≤ 10000000 ∧ Q (.int (colB col c)) σ
theorem s28_ap {col c : Int} (h1 : 0 ≤ col) (h2 : col ≤ 10000000) (h : Q (.int (colB col c)) σ) : s28 [.int col, .int c, .int 8] σ Q := ⟨col, c, rfl, h1, h2, h⟩
theorem k28 (h : s28 vs σ Q) : Bd Sx 3 b28 0 vs σ Q := by
 obtain ⟨col, c, rfl, h1, h2, h⟩ := h
 refine ⟨rfl, ?_⟩
 unfold b28; simp [-Bool.exists_bool]
 unfold colB at h
 by_cases hc : c = 9
 ·rw [if_pos hc]; rw [if_pos hc] at h
  have hfd : col.fdiv 8 = col / 8 := Int.fdiv_eq_ediv_of_nonneg _ (by decide)
  rw [hfd] at h ⊢
  exact ⟨by omega, by omega, Wk.same h⟩
 ·rw [if_neg hc]; rw [if_neg hc] at h
  exact Wk.same h
theorem colB_bound {col c : Int} (h : 0 ≤ col) : col + 1 ≤ colB col c ∧ colB col c ≤ col + 8 := by
 unfold colB
 have hfd : col.fdiv 8 = col / 8 := Int.fdiv_eq_ediv_of_nonneg _ (by decide)
 rw [hfd]; split <;> omega
theorem cols_bound : ∀ (row : List Int) (n : Int), 0 ≤ n → n + row.length ≤ row.foldl colB n ∧ row.foldl colB n ≤ n + 8 * row.length
 | [], n, h => by simp
 | c :: row, n, h => by
  have h1 := colB_bound (c := c) h
  have h2 := cols_bound row (colB n c) (by omega)
  rw [List.foldl_cons, List.length_cons]; omega
def s29 (vs : List PV) (σ : Sto) (Q : KV) : Prop := ∃ row : List Int, vs = [eI row, .int row.length, .int 8] ∧ row.length ≤ 1000000 ∧ Q (.int (cols row)) σ
theorem s29_ap {row : List Int} (h2 : row.length ≤ 1000000) (h : Q (.int (cols row)) σ) : s29 [eI row, .int row.length, .int 8] σ Q := ⟨row, rfl, h2, h⟩
theorem k29 (h28 : Sx 28 = s28) (h : s29 vs σ Q) : Bd Sx 3 b29 2 vs σ Q := by
 obtain ⟨row, rfl, h2, h⟩ := h
 refine ⟨rfl, ?_⟩
 unfold b29; simp [-Bool.exists_bool]
 rw [exec_for]
 simp [-Bool.exists_bool]
 refine for_inv (fun k loc τ => ∃ x, loc = [eI row, .int row.length, .int 8, .int ((row.take k).foldl colB 0), x] ∧ τ = σ) (fun _ _ _ _ => trivial) _ 0 _ _ ⟨.undef, rfl, rfl⟩ ?_ ?_
 ·rintro k x hx loc τ K ⟨x1, rfl, rfl⟩ hK1 hK2
  rw [List.getElem?_map] at hx
  obtain ⟨p, hp, rfl⟩ := Option.map_eq_some_iff.mp hx
  obtain ⟨hlt, rfl⟩ := List.getElem?_eq_some_iff.mp hp
  simp [-Bool.exists_bool, h28]
  have hb := cols_bound (row.take k) 0 (by omega)
  rw [List.length_take] at hb
  refine s28_ap (by omega) (by omega) ?_
  refine hK2 _ _ ⟨.int row[k], ?_, rfl⟩
  rw [Nat.zero_add, take_succ_map hlt, List.foldl_append]; rfl
 ·rintro loc τ ⟨x1, rfl, rfl⟩
  simp [-Bool.exists_bool]
  exact Wk.same h
def s30 (vs : List PV) (σ : Sto) (Q : KV) : Prop := ∃ row : List Int, vs = [eI row, .int 8] ∧ row.length ≤ 1000000 ∧ Q (.int (cols row)) σ
theorem s30_ap {row : List Int} (h2 : row.length ≤ 1000000) (h : Q (.int (cols row)) σ) : s30 [eI row, .int 8] σ Q := ⟨row, rfl, h2, h⟩
theorem k30 (h29 : Sx 29 = s29) (h : s30 vs σ Q) : Bd Sx 2 b30 0 vs σ Q := by
 obtain ⟨row, rfl, h2, h⟩ := h
 refine ⟨rfl, ?_⟩
 unfold b30; simp [-Bool.exists_bool, h29]
 exact s29_ap h2 (Wk.same h)
def fillO (col : Int) (way : Nat) (L : List Int) : AObj := .inst 0 [(0, .int col), (1, .str way), (2, eI L), (3, .int 8)]
def s31 (vs : List PV) (σ : Sto) (Q : KV) : Prop := ∃ a col way L, vs = [.obj a, .int col, .str way, eI L, .int 8] ∧ σ a = some (.inst 0 []) ∧ Q .none (σ.set a (fillO col way L))
theorem k31 (h : s31 vs σ Q) : Bd Sx 5 b31 0 vs σ Q := by
 obtain ⟨a, col, way, L, rfl, h1, h⟩ := h
 refine ⟨rfl, ?_⟩
 unfold b31; simp [-Bool.exists_bool]
 simp [h1]
 exact Wk.same h
def s34 (vs : List PV) (σ : Sto) (Q : KV) : Prop := ∃ row f col way L, vs = [eI row, .obj f] ∧ σ f = some (fillO col way L) ∧ Q (eI (leadOf L row)) σ
theorem s34_ap {row : List Int} {f : Nat} {col : Int} {way : Nat} {L : List Int} (h1 : σ f = some (fillO col way L)) (h : Q (eI (leadOf L row)) σ) : s34 [eI row, .obj f] σ Q := ⟨row, f, col, way, L, rfl, h1, h⟩
theorem k34 (h : s34 vs σ Q) : Bd Sx 2 b34 1 vs σ Q := by
 obtain ⟨row, f, col, way, L, rfl, h1, h⟩ := h
 refine ⟨rfl, ?_⟩
 unfold b34; simp [-Bool.exists_bool]
 rw [exec_while]
 refine scan_up (σ := σ) 0 row.length (pk row (isLd L)) (fun k => [eI row, .obj f, .int k]) rfl (fun k hk => pk_out hk) (fun k R _ hR => ?_) (fun k R _ hk hR => ?_) (fun m _ h2 h3 => ?_)
 ·simp [-Bool.exists_bool, h1, fillO]
  by_cases hk : k < row.length
  ·have e := List.getElem?_eq_getElem hk
   rw [if_pos hk]
   rw [show pk row (isLd L) k = isLd L row[k] by unfold pk; rw [e]] at hR
   simp only [e, Option.some.injEq, exists_eq_left']
   generalize row[k] = x at *
   by_cases q1 : x = 32
   ·rw [if_pos q1]; subst q1; exact hR
   ·rw [if_neg q1]
    by_cases q2 : x = 9
    ·rw [if_pos q2]; subst q2; exact hR
    ·rw [if_neg q2]
     rw [show isLd L x = decide (x ∈ L) by unfold isLd; rw [beq_eq_false_iff_ne.mpr q1, beq_eq_false_iff_ne.mpr q2]; simp] at hR; exact hR
  ·rw [if_neg hk]; rw [pk_out (by omega)] at hR; exact hR
 ·simp [-Bool.exists_bool]
  exact hR
 ·simp [-Bool.exists_bool]
  have e := (scan_pk0 row m (fun j hj => h2 j (by omega) hj) h3).1
  unfold leadOf at h
  rw [e] at h
  exact Wk.same h
def s35 (vs : List PV) (σ : Sto) (Q : KV) : Prop := ∃ a b, vs = [eI a, eI b] ∧ Q (eI (comSt a b)) σ
@[simp] theorem s35_ap {a b : List Int} : s35 [eL PV.int a, eL PV.int b] σ Q = Q (eI (comSt a b)) σ := by
 simp only [s35, List.cons.injEq, eI_inj, and_true, eq_iff_iff]
 exact ⟨fun ⟨_, _, ⟨rfl, rfl⟩, h⟩ => h, fun h => ⟨_, _, ⟨rfl, rfl⟩, h⟩⟩
def pk2 (a b : List Int) (k : Nat) : Bool := match a[k]?, b[k]? with
 | some x, some y => x == y
 | _, _ => false
theorem comSt_scan : ∀ (a b : List Int) (m : Nat), (∀ j, j < m → pk2 a b j = true) → pk2 a b m = false → comSt a b = a.take m
 | [], b, m, _, _ => by simp [comSt]
 | x :: a, [], 0, _, _ => by simp [comSt]
 | x :: a, [], m + 1, h, _ => by have := h 0 (by omega); simp [pk2] at this
 | x :: a, y :: b, 0, _, h => by
  have : (x == y) = false := h
  simp [comSt, beq_eq_false_iff_ne.mp this]
 | x :: a, y :: b, m + 1, h, h' => by
  have h0 : (x == y) = true := h 0 (by omega)
  have := comSt_scan a b m (fun j hj => h (j + 1) (by omega)) h'
  unfold comSt
  rw [if_pos (beq_iff_eq.mp h0), this]; rfl
theorem pk2_out {a b : List Int} {k : Nat} (h : a.length ≤ k ∨ b.length ≤ k) : pk2 a b k = false := by
 unfold pk2
 rcases h with h | h
 ·rw [List.getElem?_eq_none h]
 ·rw [List.getElem?_eq_none h]; split <;> simp_all
theorem k35 (h : s35 vs σ Q) : Bd Sx 2 b35 1 vs σ Q := by
 obtain ⟨a, b, rfl, h⟩ := h
 refine ⟨rfl, ?_⟩
 unfold b35; simp [-Bool.exists_bool]
 rw [exec_while]
 refine scan_up (σ := σ) 0 a.length (pk2 a b) (fun k => [eI a, eI b, .int k]) rfl (fun k hk => pk2_out (.inl hk)) (fun k R _ hR => ?_) (fun k R _ hk hR => ?_) (fun m _ h2 h3 => ?_)
 ·simp [-Bool.exists_bool]
  by_cases h1 : k < a.length
  ·rw [if_pos h1]
   by_cases h2 : k < b.length
   ·rw [if_pos h2]
    refine ⟨a[k], List.getElem?_eq_getElem h1, b[k], List.getElem?_eq_getElem h2, ?_⟩
    unfold pk2 at hR
    rw [List.getElem?_eq_getElem h1, List.getElem?_eq_getElem h2] at hR
    exact hR
   ·rw [if_neg h2]; rw [pk2_out (.inr (by omega))] at hR; exact hR
  ·rw [if_neg h1]; rw [pk2_out (.inl (by omega))] at hR; exact hR
 ·simp [-Bool.exists_bool]
  exact hR
 ·simp [-Bool.exists_bool]
  rw [comSt_scan a b m (fun j hj => h2 j (by omega) hj) h3] at h
  exact Wk.same h
def s36 (vs : List PV) (σ : Sto) (Q : KV) : Prop := ∃ l, vs = [eI l] ∧ Q (.bool (isBlankLead l)) σ
@[simp] theorem s36_ap {l : List Int} : s36 [eL PV.int l] σ Q = Q (.bool (isBlankLead l)) σ := by
 simp only [s36, List.cons.injEq, eI_inj, and_true, eq_iff_iff]
 exact ⟨fun ⟨_, rfl, h⟩ => h, fun h => ⟨_, rfl, h⟩⟩
theorem k36 (h : s36 vs σ Q) : Bd Sx 1 b36 1 vs σ Q := by
 obtain ⟨l, rfl, h⟩ := h
 refine ⟨rfl, ?_⟩
 unfold b36; simp [-Bool.exists_bool]
 rw [exec_for]
 simp [-Bool.exists_bool]
 refine for_inv (fun k loc τ => ∃ x, loc = [eI l, x] ∧ τ = σ ∧ isBlankLead l = isBlankLead (l.drop k)) (fun _ _ _ _ => trivial) _ 0 _ _ ⟨.undef, rfl, rfl, rfl⟩ ?_ ?_
 ·rintro k x hx loc τ K ⟨x1, rfl, rfl, he⟩ hK1 hK2
  rw [List.getElem?_map] at hx
  obtain ⟨p, hp, rfl⟩ := Option.map_eq_some_iff.mp hx
  obtain ⟨hlt, rfl⟩ := List.getElem?_eq_some_iff.mp hp
  rw [Nat.zero_add, List.drop_eq_getElem_cons hlt] at he
  simp [-Bool.exists_bool]
  simp only [isBlankLead, List.all_cons] at he
  have hgo : (l[k] = 32 ∨ l[k] = 9) → K (.next [eI l, .int l[k]]) τ := fun q => by
   refine hK2 _ _ ⟨_, rfl, rfl, ?_⟩
   rw [Nat.zero_add]
   show (l.all fun c => c == 32 || c == 9) = (l.drop (k + 1)).all fun c => c == 32 || c == 9
   rw [he]
   rcases q with q | q <;> simp [q]
  by_cases q1 : l[k] = 32
  ·rw [if_pos q1]; exact hgo (.inl q1)
  ·rw [if_neg q1]
   by_cases q2 : l[k] = 9
   ·rw [if_pos q2]; exact hgo (.inr q2)
   ·rw [if_neg q2]
    refine hK1 _ _ ?_
    simp only [seqK_ret, Ret_ret]
    rw [show isBlankLead l = false by
     show (l.all fun c => c == 32 || c == 9) = false
     rw [he]; simp [q1, q2]] at h
    exact Wk.same h
 ·rintro loc τ ⟨x1, rfl, rfl, he⟩
  simp [-Bool.exists_bool]
  rw [Nat.zero_add, List.length_map, List.drop_eq_nil_of_le (Nat.le_refl _)] at he
  rw [he] at h
  exact Wk.same h
def s37 (vs : List PV) (σ : Sto) (Q : KV) : Prop := ∃ rows p f col way L, vs = [.obj p, .obj f] ∧ σ p = some (.list (rows.map eI)) ∧ σ f = some (fillO col way L) ∧ rows ≠ [] ∧ Q (.tup [eI (leadsOf L rows).1, eI (leadsOf L rows).2]) σ
theorem s37_ap {rows : List (List Int)} {p f : Nat} {col : Int} {way : Nat} {L : List Int} (h0 : σ p = some (.list (rows.map eI))) (h1 : σ f = some (fillO col way L)) (h2 : rows ≠ []) (h : Q (.tup [eI (leadsOf L rows).1, eI (leadsOf L rows).2]) σ) : s37 [.obj p, .obj f] σ Q := ⟨rows, p, f, col, way, L, rfl, h0, h1, h2, h⟩
theorem k37 (h34 : Sx 34 = s34) (h35 : Sx 35 = s35) (h36 : Sx 36 = s36) (h : s37 vs σ Q) : Bd Sx 2 b37 3 vs σ Q := by
 obtain ⟨rows, p, f, col, way, L, rfl, h0, h1, h2, h⟩ := h
 refine ⟨rfl, ?_⟩
 unfold b37; simp [-Bool.exists_bool, h0, h34, h35, h36]
 have hpos := List.length_pos_iff.mpr h2
 refine ⟨rows[0], List.getElem?_eq_getElem hpos, s34_ap h1 ?_⟩
 simp [-Bool.exists_bool, h0, h34, h36]
 have hb : (2 : Nat) ≤ big := by decide
 by_cases hl : rows.length = 1
 ·rw [if_pos (by omega)]
  obtain ⟨r0, rfl⟩ := List.length_eq_one_iff.mp hl
  simp only [leadsOf] at h
  rw [show [r0][0] = r0 from rfl]
  by_cases hq : isBlankLead (leadOf L r0) = true
  ·rw [if_pos hq]; rw [if_pos hq] at h
   exact ⟨hb, Wk.same h⟩
  ·rw [if_neg hq]; rw [if_neg hq] at h
   exact ⟨hb, Wk.same h⟩
 ·rw [if_neg (by omega)]
  refine ⟨rows[1], List.getElem?_eq_getElem (by omega), s34_ap h1 ?_⟩
  rw [exec_for]
  simp [-Bool.exists_bool, h0, h34, h35]
  have hrw : leadsOf L rows = (leadOf L rows[0], (rows.drop 2).foldl (fun a r => comSt a (leadOf L r)) (leadOf L rows[1])) := by
   match rows, hpos, hl with
   | r0 :: r1 :: rs, _, _ => rfl
   | [r0], _, hl => exact absurd rfl hl
  rw [hrw] at h
  refine for_inv (fun k loc τ => ∃ x, loc = [.obj p, .obj f, eI (leadOf L rows[0]), eI (((rows.drop 2).take k).foldl (fun a r => comSt a (leadOf L r)) (leadOf L rows[1])), x] ∧ τ = σ) (fun _ _ _ _ => trivial) _ 0 _ _ ⟨.undef, rfl, rfl⟩ ?_ ?_
  ·rintro k x hx loc τ K ⟨x1, rfl, rfl⟩ hK1 hK2
   rw [← List.map_drop, List.getElem?_map] at hx
   obtain ⟨q, hq, rfl⟩ := Option.map_eq_some_iff.mp hx
   obtain ⟨hlt, rfl⟩ := List.getElem?_eq_some_iff.mp hq
   simp [-Bool.exists_bool, h34, h35]
   refine s34_ap h1 ?_
   simp [-Bool.exists_bool]
   refine hK2 _ _ ⟨eI (rows.drop 2)[k], ?_, rfl⟩
   rw [Nat.zero_add, take_succ_map hlt, List.foldl_append]
   simp
  ·rintro loc τ ⟨x1, rfl, rfl⟩
   simp [-Bool.exists_bool]
   rw [List.take_of_length_le (by simp)]
   exact ⟨hb, Wk.same h⟩
end
end Mine
end
section
namespace Mine
theorem parse_ok : ∀ (l : List Int), (∀ p ∈ (parse l).2, p.1 ≠ [] ∧ (∀ c ∈ p.1, isBl c = false) ∧ ∀ c ∈ p.2, isBl c = true) ∧ (∀ c ∈ (parse l).1, isBl c = true) ∧ (parse l).1 ++ (parse l).2.flatMap (fun p => p.1 ++ p.2) = l
 | [] => by simp [parse]
 | c :: r => by
  obtain ⟨h1, h2, h3⟩ := parse_ok r
  unfold parse
  by_cases hc : isBl c = true
  ·rw [if_pos hc]
   refine ⟨h1, fun x hx => ?_, ?_⟩
   ·rcases List.mem_cons.mp hx with rfl | hx
    ·exact hc
    ·exact h2 x hx
   ·show c :: ((parse r).1 ++ _) = _; rw [h3]
  ·rw [if_neg hc]
   split
   ·rename_i w g ps e1 e2
    rw [e2] at h1 h3
    rw [e1] at h3
    refine ⟨fun p hp => ?_, fun x hx => (by cases hx), ?_⟩
    ·rcases List.mem_cons.mp hp with rfl | hp
     ·have := h1 (w, g) List.mem_cons_self
      refine ⟨by simp, fun x hx => ?_, this.2.2⟩
      rcases List.mem_cons.mp hx with rfl | hx
      ·simpa using hc
      ·exact this.2.1 x hx
     ·exact h1 p (List.mem_cons_of_mem _ hp)
    ·rw [← h3]; rfl
   ·rename_i hn
    refine ⟨fun p hp => ?_, fun x hx => (by cases hx), ?_⟩
    ·rcases List.mem_cons.mp hp with rfl | hp
     ·refine ⟨by simp, fun x hx => ?_, h2⟩
      rcases List.mem_cons.mp hx with rfl | hx
      ·simpa using hc
      ·cases hx
     ·exact h1 p hp
    ·show c :: ((parse r).1 ++ List.flatMap (fun p => p.1 ++ p.2) (parse r).2) = _; rw [h3]
theorem gapOf_le (w b : List Int) : 1 ≤ gapOf w b ∧ gapOf w b ≤ 2 := by unfold gapOf; split <;> (try split) <;> omega
theorem sum_flat (ps : List (List Int × List Int)) : (ps.map fun p => p.1.length).sum ≤ (ps.flatMap fun p => p.1 ++ p.2).length := by
 induction ps with
 | nil => simp
 | cons p ps ih => simp only [List.map_cons, List.sum_cons, List.flatMap_cons, List.length_append] at *; omega
theorem okRow_pieces {l : List Int} (h : l.length ≤ 4000) : okRow (piecesOf l) := by
 obtain ⟨h1, h2, h3⟩ := parse_ok l
 refine ⟨fun p hp => ?_, ?_⟩
 ·unfold piecesOf at hp
  obtain ⟨q, hq, rfl⟩ := List.mem_map.mp hp
  exact ⟨(h1 q hq).1, gapOf_le _ _⟩
 ·have := sum_flat (parse l).2
  have e := congrArg List.length h3
  rw [List.length_append] at e
  unfold wsum piecesOf
  rw [List.map_map]
  show (List.map (fun p => p.1.length) (parse l).2).sum ≤ _
  omega
theorem wsum_append (a b : List Piece) : wsum (a ++ b) = wsum a + wsum b := by unfold wsum; rw [List.map_append, List.sum_append]
theorem wsum_split (l : List Piece) (k : Nat) : wsum l = wsum (l.take k) + wsum (l.drop k) := by rw [← wsum_append, List.take_append_drop]
theorem okRow.take {l : List Piece} (h : okRow l) (k : Nat) : okRow (l.take k) := ⟨fun p hp => h.1 p (List.take_subset _ _ hp), by have := wsum_split l k; have := h.2; omega⟩
theorem okRow.drop {l : List Piece} (h : okRow l) (k : Nat) : okRow (l.drop k) := ⟨fun p hp => h.1 p (List.drop_subset _ _ hp), by have := wsum_split l k; have := h.2; omega⟩
theorem okRow.rows : ∀ (n : Nat) (w0 w : Int) (ps : List Piece), okRow ps → ∀ part ∈ rowsF n w0 w ps, okRow part
 | 0, _, _, _, _, _, h => by cases h
 | n + 1, w0, w, ps, hp, part, h => by
  unfold rowsF at h
  split at h
  ·cases h
  ·rcases List.mem_cons.mp h with rfl | h
   ·exact hp.take _
   ·exact okRow.rows n w w _ (hp.drop _) part h
theorem rowsF_flat : ∀ (n : Nat) (w0 w : Int) (ps : List Piece), ps.length ≤ n → (rowsF n w0 w ps).flatten = ps
 | 0, _, _, ps, h => by
  have := List.length_eq_zero_iff.mp (Nat.le_zero.mp h); subst this; rfl
 | n + 1, w0, w, ps, h => by
  unfold rowsF
  split
  ·rename_i e; subst e; rfl
  ·rename_i e
   have := rowEnd_pos (width := w0) e
   rw [List.flatten_cons, rowsF_flat n w w _ (by rw [List.length_drop]; omega), List.take_append_drop]
theorem rowsOf_flat (w0 w : Int) (ps : List Piece) : (rowsOf w0 w ps).flatten = ps := rowsF_flat _ _ _ _ (Nat.le_refl _)
theorem rowsF_ne : ∀ (n : Nat) (w0 w : Int) (ps : List Piece), ∀ part ∈ rowsF n w0 w ps, part ≠ []
 | 0, _, _, _, _, h => by cases h
 | n + 1, w0, w, ps, part, h => by
  unfold rowsF at h
  split at h
  ·cases h
  ·rename_i e
   rcases List.mem_cons.mp h with rfl | h
   ·have := rowEnd_pos (width := w0) e
    intro z
    have h2 : min (rowEnd w0 ps) ps.length = 0 := by rw [← List.length_take, z]; rfl
    have := List.length_pos_iff.mpr e
    omega
   ·exact rowsF_ne n w w _ part h
theorem placedRow_len {row : List Piece} (h : okRow row) {width : Int} {W : Nat} (hw : width ≤ W) (way : Nat) (last : Bool) : (placedRow row width way last).length ≤ wsum row + row.length * (W + 3) + W := by
 have hown := rowCodes_len (G := 2) row (ownGaps row) fun g hg => (h.gaps g hg).2
 have hspr := rowCodes_len (G := W + 3) row (spreadGaps row width) fun g hg => (spread_mem h hw g hg).2
 have hm : row.length * (W + 3) = row.length * W + row.length * 2 + row.length := by rw [Nat.mul_add]; omega
 have hfd : (width - (rowCodes row (ownGaps row)).length).fdiv 2 = (width - (rowCodes row (ownGaps row)).length) / 2 := Int.fdiv_eq_ediv_of_nonneg _ (by decide)
 unfold placedRow
 rw [hfd]
 split
 ·omega
 ·split
  ·omega
  ·split
   ·rw [List.length_append, List.length_replicate]; omega
   ·rw [List.length_append, List.length_replicate]; omega
def rsz (rows : List (List Int)) : Nat := (rows.map fun r => r.length + 1).sum
theorem rsz_append (a b : List (List Int)) : rsz (a ++ b) = rsz a + rsz b := by unfold rsz; rw [List.map_append, List.sum_append]
theorem rsz_cons (a : List Int) (b : List (List Int)) : rsz (a :: b) = a.length + 1 + rsz b := by unfold rsz; rw [List.map_cons, List.sum_cons]
theorem rsz_mem {a : List Int} {b : List (List Int)} (h : a ∈ b) : a.length + 1 ≤ rsz b := by
 induction b with
 | nil => cases h
 | cons x b ih =>
  rw [rsz_cons]
  rcases List.mem_cons.mp h with rfl | h
  ·omega
  ·have := ih h; omega
theorem rsz_len (b : List (List Int)) : b.length ≤ rsz b := by
 induction b with
 | nil => simp
 | cons x b ih => rw [rsz_cons, List.length_cons]; omega
theorem joinRows_cons (r : List Int) (rs : List (List Int)) : joinRows (r :: rs) = r ++ rs.flatMap (fun r => 10 :: r) := by
 induction rs generalizing r with
 | nil => simp [joinRows]
 | cons x rs ih => unfold joinRows; rw [ih]; simp
theorem joinRows_len {rows : List (List Int)} : (joinRows rows).length ≤ rsz rows := by
 cases rows with
 | nil => simp [joinRows]
 | cons r rs =>
  rw [joinRows_cons, rsz_cons, List.length_append]
  have : (rs.flatMap fun r => 10 :: r).length = rsz rs := by
   induction rs with
   | nil => rfl
   | cons x rs ih => rw [List.flatMap_cons, rsz_cons, List.length_append, ih]; rfl
  omega
theorem split_rsz (l : List Int) : rsz (splitRows l) = l.length + 1 := by
 induction l with
 | nil => rfl
 | cons c l ih =>
  unfold splitRows
  split
  ·rw [rsz_cons, ih]; simp; omega
  ·split
   ·rename_i h t e; rw [e, rsz_cons] at ih; rw [rsz_cons]; simp; omega
   ·rename_i e; rw [e] at ih; simp [rsz] at ih
theorem leadOf_len (L row : List Int) : (leadOf L row).length ≤ row.length := List.takeWhile_sublist _ |>.length_le
theorem comSt_len : ∀ (a b : List Int), (comSt a b).length ≤ a.length
 | [], b => by simp [comSt]
 | x :: a, [] => by simp [comSt]
 | x :: a, y :: b => by unfold comSt; split <;> simp [comSt_len a b]
theorem leads_len {L : List Int} {rows : List (List Int)} {M : Nat} (h : ∀ r ∈ rows, (leadOf L r).length ≤ M) : (leadsOf L rows).1.length ≤ M ∧ (leadsOf L rows).2.length ≤ M := by
 match rows, h with
 | [], _ => simp [leadsOf]
 | [r], h =>
  have := h r List.mem_cons_self
  unfold leadsOf
  refine ⟨this, ?_⟩
  dsimp only
  split
  ·exact this
  ·simp
 | r0 :: r1 :: rs, h =>
  refine ⟨h r0 List.mem_cons_self, ?_⟩
  have h1 := h r1 (by simp)
  show (List.foldl (fun a r => comSt a (leadOf L r)) (leadOf L r1) rs).length ≤ M
  have : ∀ (rs : List (List Int)) (a : List Int), a.length ≤ M → (rs.foldl (fun a r => comSt a (leadOf L r)) a).length ≤ M := by
   intro rs
   induction rs with
   | nil => exact fun a h => h
   | cons x rs ih => intro a h; rw [List.foldl_cons]; exact ih _ (Nat.le_trans (comSt_len _ _) h)
  exact this rs _ h1
theorem flat_drop_len (n : Nat) (rs : List (List Int)) : (rs.flatMap fun r => 10 :: r.drop n).length ≤ rsz rs := by
 induction rs with
 | nil => simp
 | cons x rs ih => rw [List.flatMap_cons, rsz_cons, List.length_append, List.length_cons, List.length_drop]; omega
theorem wordsOf_len {L : List Int} {rows : List (List Int)} (h : rows ≠ []) : (wordsOf L rows).length + 1 ≤ rsz rows := by
 match rows, h with
 | r0 :: rs, _ =>
  unfold wordsOf
  rw [List.length_append, List.length_drop, rsz_cons]
  have := flat_drop_len (leadsOf L (r0 :: rs)).2.length rs
  show _ - _ + (List.flatMap _ rs).length + 1 ≤ _
  simp only [List.headD_cons]; omega
theorem sum_idx {col : Int} {way : Nat} {first rest : List Int} {n M W : Nat} (hc : col ≤ W) (hf : first.length ≤ M) (hr : rest.length ≤ M) : ∀ (parts : List (List Piece)) (k : Nat), (∀ p ∈ parts, okRow p) →
  rsz ((parts.zipIdx k).map fun p => laidRow col way first rest n p.2 p.1) ≤ parts.length * (M + W + 1) + (wsum parts.flatten + parts.flatten.length * (W + 3))
 | [], _, _ => by simp [rsz]
 | p :: parts, k, h => by
  have ih := sum_idx (way := way) (n := n) hc hf hr parts (k + 1) fun x hx => h x (List.mem_cons_of_mem _ hx)
  have hp := h p List.mem_cons_self
  have b1 := cols_bound first 0 (by omega)
  have b2 := cols_bound rest 0 (by omega)
  have e1 : cols first = first.foldl colB 0 := rfl
  have e2 : cols rest = rest.foldl colB 0 := rfl
  have q1 := placedRow_len hp (width := col - cols first) (W := W) (by omega) way (k + 1 == n)
  have q2 := placedRow_len hp (width := col - cols rest) (W := W) (by omega) way (k + 1 == n)
  rw [List.zipIdx_cons, List.map_cons, rsz_cons, List.flatten_cons, wsum_append, List.length_append, List.length_cons]
  have m1 : (p.length + parts.flatten.length) * (W + 3) = p.length * (W + 3) + parts.flatten.length * (W + 3) := Nat.add_mul _ _ _
  have m2 : (parts.length + 1) * (M + W + 1) = parts.length * (M + W + 1) + (M + W + 1) := Nat.succ_mul _ _
  have hl : (laidRow col way first rest n k p).length ≤ M + (wsum p + p.length * (W + 3) + W) := by
   unfold laidRow
   split
   ·rw [List.length_append]; omega
   ·rw [List.length_append]; omega
  show (laidRow col way first rest n k p).length + 1 + _ ≤ _
  omega
theorem parts_len {parts : List (List Piece)} (h : ∀ p ∈ parts, p ≠ []) : parts.length ≤ parts.flatten.length := by
 induction parts with
 | nil => simp
 | cons p parts ih =>
  have := ih fun x hx => h x (List.mem_cons_of_mem _ hx)
  have := List.length_pos_iff.mpr (h p List.mem_cons_self)
  rw [List.flatten_cons, List.length_append, List.length_cons]; omega
theorem filledP_size {col : Int} {way : Nat} {L : List Int} {rows : List (List Int)} {M W : Nat} (hn : rows ≠ []) (hs : rsz rows ≤ 4001) (hc : col ≤ W) (hM : ∀ r ∈ rows, (leadOf L r).length ≤ M) : rsz (filledP col way L rows) ≤ rsz rows * (M + 2 * W + 5) := by
 obtain ⟨h1, h2⟩ := leads_len hM
 have hw := wordsOf_len (L := L) hn
 have ok := okRow_pieces (l := wordsOf L rows) (by omega)
 have hfl : (partsOf col L rows).flatten = piecesOf (wordsOf L rows) := rowsOf_flat _ _ _
 have hpl := parts_len (parts := partsOf col L rows) (rowsF_ne _ _ _ _)
 have := sum_idx (way := way) (n := (partsOf col L rows).length) hc h1 h2 (partsOf col L rows) 0 (okRow.rows _ _ _ _ ok)
 rw [hfl] at this hpl
 have hws : wsum (piecesOf (wordsOf L rows)) ≤ (wordsOf L rows).length := by
  obtain ⟨_, _, h3⟩ := parse_ok (wordsOf L rows)
  have s := sum_flat (parse (wordsOf L rows)).2
  have e := congrArg List.length h3
  rw [List.length_append] at e
  unfold wsum piecesOf
  rw [List.map_map]
  show (List.map (fun p => p.1.length) (parse (wordsOf L rows)).2).sum ≤ _
  omega
 have hl := ok.len
 unfold filledP
 refine Nat.le_trans this ?_
 generalize rsz rows = s at *
 generalize (piecesOf (wordsOf L rows)).length = n at *
 generalize wsum (piecesOf (wordsOf L rows)) = ws at *
 generalize (partsOf col L rows).length = m at *
 have a1 : m * (M + W + 1) ≤ s * (M + W + 1) := Nat.mul_le_mul_right _ (by omega)
 have a2 : n * (W + 3) ≤ s * (W + 3) := Nat.mul_le_mul_right _ (by omega)
 have a3 : s * (M + 2 * W + 5) = s * (M + W + 1) + s * (W + 3) + s := by
  rw [show M + 2 * W + 5 = (M + W + 1) + (W + 3) + 1 by omega, Nat.mul_add, Nat.mul_add]; omega
 omega
theorem filledG_size {col : Int} {way : Nat} {L : List Int} {M W : Nat} (hc : col ≤ W) : ∀ (rows par : List (List Int)), rsz par + rsz rows ≤ 4001 → (∀ r ∈ par ++ rows, (leadOf L r).length ≤ M) → rsz (filledG col way L par rows) ≤ (rsz par + rsz rows) * (M + 2 * W + 5)
 | [], par, hs, hM => by
  unfold filledG
  split
  ·simp [rsz]
  ·rename_i h
   have := filledP_size (way := way) h (by simp [rsz] at hs; unfold rsz; omega) hc (fun r hr => hM r (List.mem_append_left _ hr))
   simpa [rsz] using this
 | r :: rows, par, hs, hM => by
  rw [rsz_cons] at hs ⊢
  unfold filledG
  split
  ·have ih := filledG_size hc (way := way) rows [] (by simp [rsz] at *; omega) (fun x hx => hM x (by simp at hx ⊢; exact .inr (.inr hx)))
   rw [rsz_append, rsz_cons]
   have hp : rsz (if par = [] then [] else filledP col way L par) ≤ rsz par * (M + 2 * W + 5) := by
    split
    ·simp [rsz]
    ·rename_i h
     exact filledP_size h (by omega) hc fun x hx => hM x (List.mem_append_left _ hx)
   have e0 : rsz ([] : List (List Int)) = 0 := rfl
   rw [e0, Nat.zero_add] at ih
   have d1 : (rsz par + (r.length + 1 + rsz rows)) * (M + 2 * W + 5) = rsz par * (M + 2 * W + 5) + ((r.length + 1) * (M + 2 * W + 5) + rsz rows * (M + 2 * W + 5)) := by rw [Nat.add_mul, Nat.add_mul]
   have d2 : r.length + 1 ≤ (r.length + 1) * (M + 2 * W + 5) := Nat.le_mul_of_pos_right _ (by omega)
   omega
  ·have ih := filledG_size hc (way := way) rows (par ++ [r]) (by rw [rsz_append, rsz_cons]; simp [rsz] at *; omega) (fun x hx => hM x (by simp at hx ⊢; exact hx))
   rw [rsz_append, rsz_cons] at ih
   have e0 : rsz ([] : List (List Int)) = 0 := rfl
   rw [e0] at ih
   rw [show rsz par + (r.length + 1 + rsz rows) = rsz par + (r.length + 1 + 0) + rsz rows by omega]; exact ih
end Mine
end
section
namespace Mine
section
variable {Sx : Spec} {σ : Sto} {Q : KV} {vs : List PV}
theorem splitRows_ne : ∀ l : List Int, splitRows l ≠ []
 | [] => by simp [splitRows]
 | c :: r => by unfold splitRows; split <;> (try split) <;> simp
theorem splitRows_snoc : ∀ (l : List Int) (c : Int) (rs : List (List Int)) (r : List Int), splitRows l = rs ++ [r] → splitRows (l ++ [c]) = if c = 10 then rs ++ [r] ++ [[]] else rs ++ [r ++ [c]]
 | [], c, rs, r, h => by
  have h' : ([[]] : List (List Int)) = rs ++ [r] := h
  have : rs = [] ∧ r = [] := by
   cases rs with
   | nil => simp at h'; exact ⟨rfl, h'⟩
   | cons x xs => simp at h'
  obtain ⟨rfl, rfl⟩ := this
  show splitRows [c] = _
  by_cases hc : c = 10
  ·rw [if_pos hc]; simp [splitRows, hc]
  ·rw [if_neg hc]; simp [splitRows, hc]
 | d :: l, c, rs, r, h => by
  show splitRows (d :: (l ++ [c])) = _
  unfold splitRows at h ⊢
  obtain ⟨rs', r', e⟩ : ∃ rs' r', splitRows l = rs' ++ [r'] := by
   have := splitRows_ne l
   exact ⟨(splitRows l).dropLast, (splitRows l).getLast this, (List.dropLast_concat_getLast this).symm⟩
  have ih := splitRows_snoc l c rs' r' e
  by_cases hd : d = 10
  ·rw [if_pos hd] at h ⊢
   rw [ih]
   rw [e] at h
   have : rs = [] :: rs' ∧ r = r' := by
    have h2 : ([] :: rs') ++ [r'] = rs ++ [r] := h
    have := List.append_inj' h2 rfl
    exact ⟨this.1.symm, by simpa using this.2.symm⟩
   obtain ⟨rfl, rfl⟩ := this
   split <;> rfl
  ·rw [if_neg hd] at h ⊢
   rw [ih]
   rw [e] at h
   cases rs' with
   | nil =>
    have h2 : [d :: r'] = rs ++ [r] := h
    have : rs = [] ∧ r = d :: r' := by
     cases rs with
     | nil => simp at h2; exact ⟨rfl, h2.symm⟩
     | cons x xs => simp at h2
    obtain ⟨rfl, rfl⟩ := this
    by_cases hc : c = 10
    ·rw [if_pos hc, if_pos hc]; rfl
    ·rw [if_neg hc, if_neg hc]; rfl
   | cons x xs =>
    have h2 : ((d :: x) :: xs) ++ [r'] = rs ++ [r] := h
    have := List.append_inj' h2 rfl
    obtain ⟨q1, q2⟩ := this
    have q2 : r = r' := by simpa using q2.symm
    subst q1 q2
    by_cases hc : c = 10
    ·rw [if_pos hc, if_pos hc]; rfl
    ·rw [if_neg hc, if_neg hc]; rfl
inductive RowsF (σ τ : Sto) : List Nat → List (List Int) → Prop
 | nil : RowsF σ τ [] []
 | cons {b : Nat} {r : List Int} {bs : List Nat} {rs : List (List Int)} (h : τ b = some (.list (r.map .int))) (h' : σ b = Option.none) (x : RowsF σ τ bs rs) : RowsF σ τ (b :: bs) (r :: rs)
theorem RowsF.mono {σ τ τ' : Sto} : ∀ {bs : List Nat} {rs : List (List Int)}, (∀ b ∈ bs, τ' b = τ b) → RowsF σ τ bs rs → RowsF σ τ' bs rs
 | _, _, _, .nil => .nil
 | _, _, h, .cons a b x => .cons ((h _ List.mem_cons_self).trans a) b (x.mono fun y hy => h y (List.mem_cons_of_mem _ hy))
theorem RowsF.snoc {σ τ : Sto} {z : Nat} {r : List Int} (h : τ z = some (.list (r.map .int))) (h' : σ z = Option.none) : ∀ {bs : List Nat} {rs : List (List Int)}, RowsF σ τ bs rs → RowsF σ τ (bs ++ [z]) (rs ++ [r])
 | _, _, .nil => .cons h h' .nil
 | _, _, .cons a b x => .cons a b (x.snoc h h')
theorem RowsF.frz {σ τ : Sto} : ∀ {bs : List Nat} {rs : List (List Int)}, RowsF σ τ bs rs → FrzL τ σ (bs.map .obj) (rs.map eI)
 | _, _, .nil => .nil
 | _, _, .cons a b x => .cons (.obj a b (FrzL.refl _)) x.frz
theorem RowsF.some {σ τ : Sto} {b : Nat} : ∀ {bs : List Nat} {rs : List (List Int)}, RowsF σ τ bs rs → b ∈ bs → τ b ≠ Option.none ∧ σ b = Option.none
 | _, _, .nil, h => by cases h
 | _, _, .cons a c x, h => by
  rcases List.mem_cons.mp h with rfl | h
  ·exact ⟨by rw [a]; simp, c⟩
  ·exact x.some h
def s32 (vs : List PV) (σ : Sto) (Q : KV) : Prop := ∃ l, vs = [eI l] ∧ l.length ≤ 1000000 ∧ Q (eII (splitRows l)) σ
theorem s32_ap {l : List Int} (h1 : l.length ≤ 1000000) (h : Q (eII (splitRows l)) σ) : s32 [eI l] σ Q := ⟨l, rfl, h1, h⟩
theorem k32 (h : s32 vs σ Q) : Bd Sx 1 b32 2 vs σ Q := by
 obtain ⟨l, rfl, hl, h⟩ := h
 refine ⟨rfl, ?_⟩
 have hb : big = 16777216 := rfl
 unfold b32; simp [-Bool.exists_bool]
 intro z hz
 refine ⟨by omega, fun a ha => ?_⟩
 have haz : a ≠ z := fun e => by subst e; simp at ha
 have ha' : σ a = Option.none := by rw [set_ne haz] at ha; exact ha
 rw [exec_for]
 simp [-Bool.exists_bool]
 refine for_inv (fun k loc τ => ∃ bs z rs r x, loc = [eI l, .obj a, x] ∧ splitRows (l.take k) = rs ++ [r] ∧ τ a = some (.list ((bs ++ [z]).map .obj)) ∧ RowsF σ τ bs rs ∧ τ z = some (.list (r.map .int)) ∧ σ z = Option.none ∧ z ≠ a ∧ z ∉ bs ∧ a ∉ bs ∧ bs.length ≤ k ∧ r.length ≤ k ∧
   ∀ b o, σ b = some o → τ b = some o) (fun _ _ _ _ => trivial) _ 0 _ _ ⟨[], z, [], [], .undef, rfl, rfl, by simp, .nil, by rw [set_ne (Ne.symm haz)]; simp, hz, Ne.symm haz, by simp, by simp, by simp, by simp, fun b o e => ?_⟩ ?_ ?_
 ·rw [set_ne (fun q => by subst q; rw [ha'] at e; cases e), set_ne (fun q => by subst q; rw [hz] at e; cases e)]; exact e
 ·rintro k x hx loc τ K ⟨bs, z, rs, r, x1, rfl, h1, h2, h3, h4, h5, h6, h7, h8, h9, h10, h11⟩ hK1 hK2
  rw [List.getElem?_map] at hx
  obtain ⟨q, hq, rfl⟩ := Option.map_eq_some_iff.mp hx
  obtain ⟨hlt, rfl⟩ := List.getElem?_eq_some_iff.mp hq
  rw [Nat.zero_add] at h1 hK2
  have hsn := splitRows_snoc (l.take k) l[k] rs r h1
  rw [← take_succ_map hlt] at hsn
  simp [-Bool.exists_bool, h2, -List.map_append]
  by_cases hc : l[k] = 10
  ·rw [if_pos hc]; rw [if_pos hc] at hsn
   intro y hy
   have hya : y ≠ a := fun e => by subst e; rw [h2] at hy; cases hy
   have hyz : y ≠ z := fun e => by subst e; rw [h4] at hy; cases hy
   have hyb : y ∉ bs := fun e => (h3.some e).1 hy
   have hys : σ y = Option.none := by
    cases e : σ y with
    | none => rfl
    | some o => rw [h11 y o e] at hy; cases hy
   rw [set_ne (Ne.symm hya), h2]
   simp [-Bool.exists_bool, -List.map_append]
   refine ⟨by omega, ?_⟩
   refine hK2 _ _ ⟨bs ++ [z], y, rs ++ [r], [], _, rfl, hsn, ?_, ?_, ?_, hys, hya, ?_, ?_, ?_, by simp, fun b o e => ?_⟩
   ·simp
   ·refine RowsF.snoc ?_ h5 (h3.mono fun b hb' => ?_)
    ·rw [set_ne h6, set_ne (Ne.symm hyz)]; exact h4
    ·rw [set_ne (fun e => by subst e; exact h8 hb'), set_ne (fun e => by subst e; exact hyb hb')]
   ·rw [set_ne hya]; simp
   ·simp [hyb, hyz]
   ·simp [h8, Ne.symm h6]
   ·simp; omega
   ·rw [set_ne (fun q => by subst q; rw [ha'] at e; cases e), set_ne (fun q => by subst q; rw [hys] at e; cases e)]; exact h11 b o e
  ·rw [if_neg hc]; rw [if_neg hc] at hsn
   simp only [h4, Option.isSome_some, true_and, List.length_map]
   refine ⟨by omega, hK2 _ _ ⟨bs, z, rs, r ++ [l[k]], _, rfl, hsn, ?_, ?_, ?_, h5, h6, h7, h8, by omega, by simp; omega, fun b o e => ?_⟩⟩
   ·rw [set_ne (Ne.symm h6)]; exact h2
   ·exact h3.mono fun b hb' => by rw [set_ne (fun e => by subst e; exact h7 hb')]
   ·simp
   ·rw [set_ne (fun q => by subst q; rw [h5] at e; cases e)]; exact h11 b o e
 ·rintro loc τ ⟨bs, z, rs, r, x1, rfl, h1, h2, h3, h4, h5, h6, h7, h8, h9, h10, h11⟩
  simp [-Bool.exists_bool]
  rw [Nat.zero_add, List.length_map, List.take_length] at h1
  refine ⟨eII (splitRows l), σ, ?_, h11, h⟩
  rw [h1]
  refine .obj h2 ha' ?_
  rw [List.map_append, List.map_append]
  have := (h3.snoc h4 h5).frz
  rw [List.map_append, List.map_append] at this
  exact this
def s33 (vs : List PV) (σ : Sto) (Q : KV) : Prop := ∃ rows p, vs = [.obj p] ∧ σ p = some (.list (rows.map eI)) ∧ rsz rows ≤ big ∧ Q (eI (joinRows rows)) σ
theorem s33_ap {rows : List (List Int)} {p : Nat} (h0 : σ p = some (.list (rows.map eI))) (h1 : rsz rows ≤ big) (h : Q (eI (joinRows rows)) σ) : s33 [.obj p] σ Q := ⟨rows, p, rfl, h0, h1, h⟩
theorem flat_len (rs : List (List Int)) : (rs.flatMap fun r => 10 :: r).length = rsz rs := by
 induction rs with
 | nil => rfl
 | cons x rs ih => rw [List.flatMap_cons, rsz_cons, List.length_append, ih]; rfl
theorem k33 (h : s33 vs σ Q) : Bd Sx 1 b33 2 vs σ Q := by
 obtain ⟨rows, p, rfl, h0, h1, h⟩ := h
 refine ⟨rfl, ?_⟩
 have hb : big = 16777216 := rfl
 have hl := rsz_len rows
 unfold b33; simp [-Bool.exists_bool]
 intro a ha
 have hpa : p ≠ a := fun e => by subst e; rw [h0] at ha; cases ha
 rw [exec_for]
 simp [-Bool.exists_bool, set_ne hpa, h0]
 refine ⟨by omega, by omega, ?_⟩
 refine for_inv (fun k loc τ => ∃ x acc, loc = [.obj p, .obj a, x] ∧ τ = σ.set a (.list (acc.map .int)) ∧ acc.length ≤ rsz (rows.take k) ∧ (if k = 0 then acc = [] else acc ++ (rows.drop k).flatMap (fun r => 10 :: r) = joinRows rows)) (fun _ _ _ _ => trivial) _ 0 _ _ ⟨.undef, [], rfl, rfl, by simp, by rw [if_pos rfl]⟩ ?_ ?_
 ·rintro k x hx loc τ K ⟨x1, acc, rfl, rfl, hz, he⟩ hK1 hK2
  rw [List.getElem?_map] at hx
  obtain ⟨q, hq, rfl⟩ := Option.map_eq_some_iff.mp hx
  obtain ⟨hlt, rfl⟩ := List.getElem?_eq_some_iff.mp hq
  have hk : k < rows.length := by simpa using hlt
  rw [Nat.zero_add] at he hK2 hz
  have hd : rows.drop k = rows[k] :: rows.drop (k + 1) := List.drop_eq_getElem_cons hk
  have hs : rsz rows = rsz (rows.take k) + rsz (rows.drop k) := by rw [← rsz_append, List.take_append_drop]
  rw [hd, rsz_cons] at hs
  simp [-Bool.exists_bool, eN, set_ne hpa, h0]
  by_cases hk0 : 0 < k
  ·rw [if_pos hk0]
   rw [if_neg (by omega)] at he
   refine ⟨by omega, rows[k], List.getElem?_eq_getElem hk, ?_⟩
   refine ⟨by omega, hK2 _ _ ⟨_, acc ++ [10] ++ rows[k], rfl, by simp, ?_, ?_⟩⟩
   ·rw [take_succ_map hk, rsz_append, rsz_cons]; simp; omega
   ·rw [if_neg (by omega), ← he, hd, List.flatMap_cons]; simp
  ·rw [if_neg hk0]
   have hk0 : k = 0 := by omega
   subst hk0
   rw [if_pos rfl] at he
   subst he
   refine ⟨rows[0], List.getElem?_eq_getElem hk, ?_⟩
   simp [-Bool.exists_bool]
   refine ⟨by omega, hK2 _ _ ⟨_, rows[0], rfl, rfl, ?_, ?_⟩⟩
   ·rw [take_succ_map hk, rsz_append, rsz_cons]; simp; omega
   ·rw [if_neg (by omega)]
    match rows, hk with
    | r :: rs, _ => rw [joinRows_cons]; rfl
 ·rintro loc τ ⟨x1, acc, rfl, rfl, hz, he⟩
  simp [-Bool.exists_bool]
  rw [Nat.zero_add, List.length_map, List.length_range] at he
  have : acc = joinRows rows := by
   by_cases h0 : rows.length = 0
   ·have := List.length_eq_zero_iff.mp h0; subst this
    rw [if_pos h0] at he; rw [he]; rfl
   ·rw [if_neg h0, List.drop_eq_nil_of_le (Nat.le_refl _)] at he
    simpa using he
  subst this
  exact Wk.frz ha h
def s38 (vs : List PV) (σ : Sto) (Q : KV) : Prop := ∃ rows p f col way L, vs = [.obj p, .obj f] ∧ σ p = some (.list (rows.map eI)) ∧ σ f = some (fillO col way L) ∧ rows ≠ [] ∧ rsz rows ≤ 4001 ∧ 0 ≤ col ∧ col ≤ 20 ∧ Q (eII (filledP col way L rows)) σ
theorem s38_ap {rows : List (List Int)} {p f : Nat} {col : Int} {way : Nat} {L : List Int} (h0 : σ p = some (.list (rows.map eI))) (h1 : σ f = some (fillO col way L)) (h2 : rows ≠ []) (h3 : rsz rows ≤ 4001) (h4 : 0 ≤ col) (h5 : col ≤ 20) (h : Q (eII (filledP col way L rows)) σ) : s38 [.obj p, .obj f] σ Q :=
 ⟨rows, p, f, col, way, L, rfl, h0, h1, h2, h3, h4, h5, h⟩
theorem k38 (h19 : Sx 19 = s19) (h22 : Sx 22 = s22) (h27 : Sx 27 = s27) (h30 : Sx 30 = s30) (h37 : Sx 37 = s37) (h : s38 vs σ Q) : Bd Sx 2 b38 11 vs σ Q := by
 obtain ⟨rows, p, f, col, way, L, rfl, h0, h1, h2, h3, h4, h5, h⟩ := h
 refine ⟨rfl, ?_⟩
 have hb : big = 16777216 := rfl
 have hpos := List.length_pos_iff.mpr h2
 unfold b38; simp [-Bool.exists_bool, h37]
 refine s37_ap h0 h1 h2 ?_
 simp [-Bool.exists_bool, h0]
 refine ⟨rows[0], List.getElem?_eq_getElem hpos, ?_⟩
 rw [exec_for]
 simp [-Bool.exists_bool, h0]
 obtain ⟨hl1, hl2⟩ := leads_len (L := L) (rows := rows) (M := 4000) fun r hr => by have := rsz_mem hr; have := leadOf_len L r; omega
 have hw := wordsOf_len (L := L) h2
 have hwo : wordsOf L rows = rows[0].drop (leadsOf L rows).1.length ++ rows.tail.flatMap fun r => 10 :: r.drop (leadsOf L rows).2.length := by
  match rows, hpos with
  | r :: rs, _ => rfl
 have hfd : filledP col way L rows = (partsOf col L rows).zipIdx.map fun p => laidRow col way (leadsOf L rows).1 (leadsOf L rows).2 (partsOf col L rows).length p.2 p.1 := rfl
 rw [hfd] at h
 have hpd : partsOf col L rows = rowsOf (col - cols (leadsOf L rows).1) (col - cols (leadsOf L rows).2) (piecesOf (wordsOf L rows)) := rfl
 generalize hfst : (leadsOf L rows).1 = first at *
 generalize hrst : (leadsOf L rows).2 = rest at *
 rw [show (rows.map eI).tail = rows.tail.map eI by cases rows <;> rfl]
 refine for_inv (fun k loc τ => ∃ x, loc = [.obj p, .obj f, eI first, eI rest, eI (rows[0].drop first.length ++ (rows.tail.take k).flatMap fun r => 10 :: r.drop rest.length), x, .undef, .undef, .undef, .undef, .undef, .undef, .undef] ∧ τ = σ) (fun _ _ _ _ => trivial) _ 0 _ _ ⟨.undef, by simp, rfl⟩ ?_ ?_
 ·rintro k x hx loc τ K ⟨x1, rfl, rfl⟩ hK1 hK2
  rw [List.getElem?_map] at hx
  obtain ⟨q, hq, rfl⟩ := Option.map_eq_some_iff.mp hx
  obtain ⟨hlt, rfl⟩ := List.getElem?_eq_some_iff.mp hq
  rw [Nat.zero_add] at hK2 ⊢
  have hlen : (rows[0].drop first.length ++ (rows.tail.take (k + 1)).flatMap fun r => 10 :: r.drop rest.length).length ≤ 4000 := by
   have := congrArg List.length hwo
   rw [← List.take_append_drop (k + 1) rows.tail, List.flatMap_append, ← List.append_assoc, List.length_append] at this
   omega
  rw [take_succ_map hlt, List.flatMap_append, ← List.append_assoc] at hlen hK2
  simp only [List.flatMap_cons, List.flatMap_nil, List.append_nil] at hlen hK2
  rw [List.length_append] at hlen
  generalize (rows[0].drop first.length ++ (rows.tail.take k).flatMap fun r => 10 :: r.drop rest.length) = acc at *
  generalize rows.tail[k] = row at *
  simp only [List.length_cons, List.length_drop] at hlen
  simp [-Bool.exists_bool]
  refine ⟨by omega, by omega, by omega, ?_⟩
  exact hK2 _ _ ⟨eI row, by simp, rfl⟩
 ·rintro loc τ ⟨x1, rfl, rfl⟩
  rw [List.take_of_length_le (by simp), ← hwo]
  have c1 := cols_bound first 0 (by omega)
  have c2 := cols_bound rest 0 (by omega)
  have e1 : cols first = first.foldl colB 0 := rfl
  have e2 : cols rest = rest.foldl colB 0 := rfl
  have ok := okRow_pieces (l := wordsOf L rows) (by omega)
  have okp : ∀ part ∈ partsOf col L rows, okRow part := by rw [hpd]; exact okRow.rows _ _ _ _ ok
  have hml : (partsOf col L rows).length ≤ 4000 := by
   have a1 := parts_len (parts := partsOf col L rows) (by rw [hpd]; exact rowsF_ne _ _ _ _)
   rw [hpd, rowsOf_flat] at a1
   have := ok.len
   have := ok.2
   rw [← hpd] at a1
   omega
  simp [-Bool.exists_bool, h1, fillO, h30]
  refine s30_ap (by omega) ?_
  simp [-Bool.exists_bool, h1, fillO, h30]
  refine s30_ap (by omega) ?_
  simp [-Bool.exists_bool, h1, fillO, h19, h22]
  intro a ha
  refine ⟨by omega, s22_ap (fun p hp => (ok.1 p hp).1) (by have := ok.len; have := ok.2; omega) ?_⟩
  rw [← hpd]
  generalize partsOf col L rows = parts at *
  have hfa : f ≠ a := fun e => by subst e; rw [h1] at ha; cases ha
  rw [exec_for]
  simp [-Bool.exists_bool]
  refine ⟨by omega, by omega, ?_⟩
  refine for_inv (fun k loc τ' => ∃ x y z, loc = [.obj p, .obj f, eI first, eI rest, eI (wordsOf L rows), x1, .int (col - cols first), .int (col - cols rest), .obj a, eRows parts, x, y, z] ∧ τ' = τ.set a (.list (((parts.zipIdx.map fun p => laidRow col way first rest parts.length p.2 p.1).take k).map eI))) (fun _ _ _ _ => trivial) _ 0 _ _ ⟨.undef, .undef, .undef, rfl, by simp⟩ ?_ ?_
  ·rintro k x hx loc τ K ⟨x2, y2, z2, rfl, rfl⟩ hK1 hK2
   rw [List.getElem?_map] at hx
   obtain ⟨q, hq, rfl⟩ := Option.map_eq_some_iff.mp hx
   obtain ⟨hlt, rfl⟩ := List.getElem?_eq_some_iff.mp hq
   have hk : k < parts.length := by simpa using hlt
   rw [Nat.zero_add] at hK2 ⊢
   rw [take_succ_map (by simpa using hk)] at hK2
   have hkk : (parts.zipIdx.map fun p => laidRow col way first rest parts.length p.2 p.1)[k]'(by simpa using hk) = laidRow col way first rest parts.length k parts[k] := by simp
   rw [hkk] at hK2
   have okk := okp parts[k] (List.getElem_mem hk)
   have q1 := placedRow_len okk (width := col - cols first) (W := 20) (by omega) way (k + 1 == parts.length)
   have q2 := placedRow_len okk (width := col - cols rest) (W := 20) (by omega) way (k + 1 == parts.length)
   have hlr := okk.len
   have hlw := okk.2
   have hacc : ((parts.zipIdx.map fun p => laidRow col way first rest parts.length p.2 p.1).take k).length ≤ k := List.length_take_le _ _
   generalize ((parts.zipIdx.map fun p => laidRow col way first rest parts.length p.2 p.1).take k) = acc at *
   have hbq : ((k : Int) == (parts.length : Int) - 1) = (k + 1 == parts.length) := by
    by_cases e : k + 1 = parts.length
    ·rw [beq_iff_eq.mpr e, beq_iff_eq]; omega
    ·rw [beq_eq_false_iff_ne.mpr e, beq_eq_false_iff_ne]; omega
   simp [-Bool.exists_bool, eN, -Prod.exists, hbq]
   by_cases hk0 : k = 0
   ·rw [if_pos hk0, if_pos hk0]
    refine ⟨parts[k], List.getElem?_eq_getElem hk, ?_⟩
    simp [-Bool.exists_bool, set_ne hfa, h1, fillO, h27]
    refine s27_ap okk (by omega) (by omega) ?_
    simp [-Bool.exists_bool]
    refine ⟨by omega, by omega, hK2 _ _ ⟨.int k, eI first, .int (col - cols first), rfl, ?_⟩⟩
    rw [show laidRow col way first rest parts.length k parts[k] = first ++ placedRow parts[k] (col - cols first) way (k + 1 == parts.length) by unfold laidRow; rw [if_pos hk0]]
    simp
   ·rw [if_neg hk0, if_neg hk0]
    refine ⟨parts[k], List.getElem?_eq_getElem hk, ?_⟩
    simp [-Bool.exists_bool, set_ne hfa, h1, fillO, h27]
    refine s27_ap okk (by omega) (by omega) ?_
    simp [-Bool.exists_bool]
    refine ⟨by omega, by omega, hK2 _ _ ⟨.int k, eI rest, .int (col - cols rest), rfl, ?_⟩⟩
    rw [show laidRow col way first rest parts.length k parts[k] = rest ++ placedRow parts[k] (col - cols rest) way (k + 1 == parts.length) by unfold laidRow; rw [if_neg hk0]]
    simp
  ·rintro loc τ' ⟨x2, y2, z2, rfl, rfl⟩
   rw [List.take_of_length_le (by simp)]
   generalize (parts.zipIdx.map fun p => laidRow col way first rest parts.length p.2 p.1) = out at *
   simp [-Bool.exists_bool]
   exact Wk.frz ha h
def s39 (vs : List PV) (σ : Sto) (Q : KV) : Prop := ∃ l f col way L, vs = [eI l, .obj f] ∧ σ f = some (fillO col way L) ∧ l.length ≤ 4000 ∧ 0 ≤ col ∧ col ≤ 20 ∧ Q (eI (filledT col way L l)) σ
theorem s39_ap {l : List Int} {f : Nat} {col : Int} {way : Nat} {L : List Int} (h1 : σ f = some (fillO col way L)) (h3 : l.length ≤ 4000) (h4 : 0 ≤ col) (h5 : col ≤ 20) (h : Q (eI (filledT col way L l)) σ) : s39 [eI l, .obj f] σ Q :=
 ⟨l, f, col, way, L, rfl, h1, h3, h4, h5, h⟩
theorem filledG_nil {col : Int} {way : Nat} {L : List Int} {par : List (List Int)} : filledG col way L par [] = if par = [] then [] else filledP col way L par := by unfold filledG; rfl
theorem filledG_cons {col : Int} {way : Nat} {L : List Int} {par rs : List (List Int)} {r : List Int} : filledG col way L par (r :: rs) = if isPart L r then (if par = [] then [] else filledP col way L par) ++ r :: filledG col way L [] rs else filledG col way L (par ++ [r]) rs := by
 conv => lhs; unfold filledG
theorem k39 (h32 : Sx 32 = s32) (h33 : Sx 33 = s33) (h34 : Sx 34 = s34) (h38 : Sx 38 = s38) (h : s39 vs σ Q) : Bd Sx 2 b39 3 vs σ Q := by
 obtain ⟨l, f, col, way, L, rfl, h1, h3, h4, h5, h⟩ := h
 refine ⟨rfl, ?_⟩
 have hb : big = 16777216 := rfl
 have hsz := filledG_size (way := way) (L := L) (M := 4000) (W := 20) h5 (splitRows l) [] (by rw [split_rsz]; simp [rsz]; omega) (fun r hr => by
  have := rsz_mem (show r ∈ splitRows l by simpa using hr); rw [split_rsz] at this; have := leadOf_len L r; omega)
 rw [show rsz ([] : List (List Int)) = 0 from rfl, Nat.zero_add, split_rsz] at hsz
 have hsz2 : (l.length + 1) * (4000 + 2 * 20 + 5) ≤ 4001 * 4045 := Nat.mul_le_mul (by omega) (by omega)
 unfold b39; simp [-Bool.exists_bool, h32]
 intro a ha q hq
 have hqa : q ≠ a := fun e => by subst e; simp at hq
 have hq' : σ q = Option.none := by rw [set_ne hqa] at hq; exact hq
 have hfa : f ≠ a := fun e => by subst e; rw [h1] at ha; cases ha
 have hfq : f ≠ q := fun e => by subst e; rw [h1] at hq'; cases hq'
 rw [exec_for]
 simp [-Bool.exists_bool, h32]
 refine s32_ap (by omega) ?_
 simp [-Bool.exists_bool]
 have hjr : filledT col way L l = joinRows (filledG col way L [] (splitRows l)) := rfl
 rw [hjr] at h
 have hrs : rsz (splitRows l) ≤ 4001 := by rw [split_rsz]; omega
 generalize splitRows l = rows at *
 refine for_inv (fun k loc τ => ∃ x q par out, loc = [eI l, .obj f, .obj a, .obj q, x] ∧ τ a = some (.list (out.map eI)) ∧ τ q = some (.list (par.map eI)) ∧ q ≠ a ∧ σ q = Option.none ∧ (∀ b o, σ b = some o → τ b = some o) ∧
  out ++ filledG col way L par (rows.drop k) = filledG col way L [] rows ∧ rsz par + rsz (rows.drop k) ≤ 4001) (fun _ _ _ _ => trivial) _ 0 _ _ ⟨.undef, q, [], [], rfl, by rw [set_ne (Ne.symm hqa)]; simp, by simp, hqa, hq', fun b o e => ?_, rfl, by simp [rsz]; unfold rsz at hrs; omega⟩ ?_ ?_
 ·rw [set_ne (fun z => by subst z; rw [hq'] at e; cases e), set_ne (fun z => by subst z; rw [ha] at e; cases e)]; exact e
 ·rintro k x hx loc τ K ⟨x1, q, par, out, rfl, i1, i2, i3, i4, i5, i6, i7⟩ hK1 hK2
  rw [List.getElem?_map] at hx
  obtain ⟨r, hr, rfl⟩ := Option.map_eq_some_iff.mp hx
  obtain ⟨hlt, rfl⟩ := List.getElem?_eq_some_iff.mp hr
  rw [Nat.zero_add] at hK2 i6 i7
  have hd : rows.drop k = rows[k] :: rows.drop (k + 1) := List.drop_eq_getElem_cons hlt
  rw [hd] at i6 i7
  rw [rsz_cons] at i7
  generalize rows[k] = row at *
  generalize rows.drop (k + 1) = tl at *
  simp [-Bool.exists_bool, h34]
  refine s34_ap (i5 f _ h1) ?_
  simp [-Bool.exists_bool, i1, i2]
  have hex : ∀ (τ' : Sto) (c : Nat) (o : AObj), σ c = Option.none → (∀ b o, σ b = some o → τ' b = some o) → ∀ b o', σ b = some o' → (τ'.set c o) b = some o' := fun τ' c o hc h b o' e => by
   rw [set_ne (fun z => by subst z; rw [hc] at e; cases e)]; exact h b o' e
  have hol : ∀ x : List (List Int), x.length ≤ rsz x := rsz_len
  have e6 := congrArg rsz i6
  rw [rsz_append] at e6
  rw [filledG_cons] at i6 e6
  by_cases hp : ((leadOf L row).length : Int) = row.length
  ·have hpb : isPart L row = true := by unfold isPart; rw [beq_iff_eq]; omega
   rw [if_pos hp]; rw [if_pos hpb] at i6 e6
   rw [rsz_append, rsz_cons] at e6
   by_cases hl : 0 < par.length
   ·have hne : par ≠ [] := List.length_pos_iff.mp hl
    rw [if_pos hl]; rw [if_neg hne] at i6 e6
    rw [h38]
    refine s38_ap i2 (i5 f _ h1) hne (by omega) h4 h5 ?_
    have o1 := hol out
    have o2 := hol (filledP col way L par)
    simp [-Bool.exists_bool, i1]
    refine ⟨by omega, fun y hy => ?_⟩
    have hya : y ≠ a := fun e => by subst e; simp at hy
    have hy1 : τ y = Option.none := by rw [set_ne hya] at hy; exact hy
    have hys : σ y = Option.none := by
     cases e : σ y with
     | none => rfl
     | some o => rw [i5 y o e] at hy1; cases hy1
    rw [set_ne (Ne.symm hya)]
    simp [-Bool.exists_bool]
    refine ⟨by omega, hK2 _ _ ⟨eI row, y, [], out ++ filledP col way L par ++ [row], rfl, by simp, ?_, hya, hys, hex _ _ _ ha (hex _ _ _ hys (hex _ _ _ ha i5)), ?_, ?_⟩⟩
    ·rw [set_ne hya]; simp
    ·rw [← i6]; simp
    ·rw [show rsz ([] : List (List Int)) = 0 from rfl]; omega
   ·have hne : par = [] := List.length_eq_zero_iff.mp (by omega)
    rw [if_neg hl]; rw [if_pos hne] at i6 e6
    have o1 := hol out
    subst hne
    refine ⟨by omega, hK2 _ _ ⟨eI row, q, [], out ++ [row], rfl, by simp, ?_, i3, i4, hex _ _ _ ha i5, ?_, ?_⟩⟩
    ·rw [set_ne i3]; exact i2
    ·rw [← i6]; simp
    ·omega
  ·have hpb : isPart L row = false := by unfold isPart; rw [beq_eq_false_iff_ne]; omega
   rw [if_neg hp]; rw [hpb, if_neg (by decide)] at i6 e6
   have o1 := hol par
   refine ⟨by omega, hK2 _ _ ⟨eI row, q, par ++ [row], out, rfl, ?_, by simp, i3, i4, hex _ _ _ i4 i5, ?_, ?_⟩⟩
   ·rw [set_ne (Ne.symm i3)]; exact i1
   ·exact i6
   ·rw [rsz_append, rsz_cons, show rsz ([] : List (List Int)) = 0 from rfl]; omega
 ·rintro loc τ ⟨x1, q, par, out, rfl, i1, i2, i3, i4, i5, i6, i7⟩
  rw [Nat.zero_add, List.length_map, List.drop_eq_nil_of_le (Nat.le_refl _)] at i6 i7
  simp [-Bool.exists_bool, i1, i2]
  rw [filledG_nil] at i6
  have hdrop : ∀ τ' : Sto, (∀ b o, σ b = some o → τ' b = some o) → Wk (eI (joinRows (filledG col way L [] rows))) τ' Q := fun τ' h' => Wk.drop h' h
  have e6 := congrArg rsz i6
  rw [rsz_append] at e6
  by_cases hl : 0 < par.length
  ·have hne : par ≠ [] := List.length_pos_iff.mp hl
   rw [if_pos hl]; rw [if_neg hne] at i6 e6
   rw [h38]
   refine s38_ap i2 (i5 f _ h1) hne (by omega) h4 h5 ?_
   have o1 := rsz_len out
   have o2 := rsz_len (filledP col way L par)
   simp [-Bool.exists_bool, i1, h33]
   refine ⟨by omega, s33_ap (rows := out ++ filledP col way L par) (by simp) (by rw [i6]; omega) ?_⟩
   rw [i6]
   exact hdrop _ fun b o e => by rw [set_ne (fun z => by subst z; rw [ha] at e; cases e)]; exact i5 b o e
  ·have hne : par = [] := List.length_eq_zero_iff.mp (by omega)
   rw [if_neg hl]; rw [if_pos hne, List.append_nil] at i6
   rw [h33]
   refine s33_ap i1 (by rw [i6]; omega) ?_
   rw [i6]
   exact hdrop _ i5
end
end Mine
end
section
namespace Mine
theorem spansAt_nil (n : Nat) : spansAt n [] = [] := rfl
theorem spansAt_bl {n : Nat} {c : Int} {r : List Int} (h : isBl c = true) : spansAt n (c :: r) = spansAt (n + 1) r := by
 have := parse_bl [c] r (fun x hx => by rcases List.mem_cons.mp hx with rfl | hx; exact h; cases hx)
 unfold spansAt
 rw [show c :: r = [c] ++ r from rfl, this]
 show spansP (n + ((parse r).1.length + 1)) _ = _
 rw [show n + ((parse r).1.length + 1) = n + 1 + (parse r).1.length by omega]
theorem spansAt_word {n : Nat} {l : List Int} (h : l.takeWhile nBl ≠ []) : spansAt n l = (n, n + (l.takeWhile nBl).length) :: spansAt (n + (l.takeWhile nBl).length) (l.dropWhile nBl) := by
 have := parse_word (l.takeWhile nBl) (l.dropWhile nBl) h (fun c hc => by simpa [nBl] using all_take c hc) (fun c hc => by simpa [nBl] using head_drop hc)
 rw [List.takeWhile_append_dropWhile] at this
 unfold spansAt
 rw [this]
 rfl
def Asc (m : Nat) : Nat → List (Nat × Nat) → Prop
 | n, [] => n ≤ m
 | n, s :: r => n ≤ s.1 ∧ s.1 ≤ s.2 ∧ Asc m s.2 r
theorem Asc.le {m : Nat} : ∀ {n : Nat} {l : List (Nat × Nat)}, Asc m n l → n ≤ m
 | _, [], h => h
 | _, _ :: _, ⟨h1, h2, h3⟩ => Nat.le_trans h1 (Nat.le_trans h2 h3.le)
theorem Asc.up {m n n' : Nat} (hn : n' ≤ n) : ∀ {l : List (Nat × Nat)}, Asc m n l → Asc m n' l
 | [], h => Nat.le_trans hn h
 | _ :: _, ⟨h1, h2⟩ => ⟨Nat.le_trans hn h1, h2⟩
theorem spansP_asc : ∀ (ps : List (List Int × List Int)) (n : Nat), Asc (n + (ps.flatMap fun p => p.1 ++ p.2).length) n (spansP n ps)
 | [], n => Nat.le_refl _
 | p :: ps, n => by
  have := spansP_asc ps (n + p.1.length + p.2.length)
  refine ⟨Nat.le_refl _, Nat.le_add_right _ _, ?_⟩
  rw [List.flatMap_cons, List.length_append, List.length_append]
  rw [show n + (p.1.length + p.2.length + (ps.flatMap fun p => p.1 ++ p.2).length) = n + p.1.length + p.2.length + (ps.flatMap fun p => p.1 ++ p.2).length by omega]
  exact this.up (Nat.le_add_right _ _)
theorem spansOf_asc (l : List Int) : Asc l.length 0 (spansOf l) := by
 obtain ⟨_, _, h3⟩ := parse_ok l
 have := spansP_asc (parse l).2 (parse l).1.length
 rw [← List.length_append, h3] at this
 unfold spansOf spansAt
 rw [Nat.zero_add]
 exact this.up (Nat.zero_le _)
theorem Asc.get {m : Nat} : ∀ {l : List (Nat × Nat)} {n j : Nat} {s : Nat × Nat}, Asc m n l → l[j]? = some s → n ≤ s.1 ∧ s.1 ≤ s.2 ∧ Asc m s.2 (l.drop (j + 1))
 | [], _, _, _, _, h => by simp at h
 | x :: l, n, 0, s, ⟨h1, h2, h3⟩, h => by
  cases h; exact ⟨h1, h2, h3⟩
 | x :: l, n, j + 1, s, ⟨h1, h2, h3⟩, h => by
  obtain ⟨a, b, c⟩ := h3.get (show l[j]? = some s by simpa using h)
  exact ⟨by omega, b, c⟩
def Chn (old new : List Int) : Nat → Nat → List ((Nat × Nat) × (Nat × Nat)) → Prop
 | n, m, [] => n ≤ old.length ∧ m ≤ new.length
 | n, m, k :: r => n ≤ k.1.1 ∧ k.1.1 ≤ k.1.2 ∧ m ≤ k.2.1 ∧ k.2.1 ≤ k.2.2 ∧ sub old k.1.1 k.1.2 = sub new k.2.1 k.2.2 ∧ Chn old new k.1.2 k.2.2 r
theorem Chn.le {old new : List Int} : ∀ {l : List ((Nat × Nat) × (Nat × Nat))} {n m : Nat}, Chn old new n m l → n ≤ old.length ∧ m ≤ new.length
 | [], _, _, h => h
 | _ :: _, _, _, ⟨h1, h2, h3, h4, _, h5⟩ => by have := h5.le; omega
theorem Chn.up {old new : List Int} {n m n' m' : Nat} (hn : n' ≤ n) (hm : m' ≤ m) : ∀ {l : List ((Nat × Nat) × (Nat × Nat))}, Chn old new n m l → Chn old new n' m' l
 | [], ⟨a, b⟩ => ⟨by omega, by omega⟩
 | _ :: _, ⟨h1, h2, h3, h4⟩ => ⟨by omega, h2, by omega, h4⟩
theorem seek_some {old w : List Int} {spans : List (Nat × Nat)} {n m : Nat} (h : seek old w spans n = some m) : n ≤ m ∧ ∃ s, spans[m]? = some s ∧ sub old s.1 s.2 = w := by
 unfold seek at h
 obtain ⟨i, hi, rfl⟩ := Option.map_eq_some_iff.mp h
 obtain ⟨hl, hp, _⟩ := List.findIdx?_eq_some_iff_getElem.mp hi
 rw [List.getElem_take, List.getElem_drop] at hp
 have hl2 : n + i < spans.length := by rw [List.length_take, List.length_drop] at hl; omega
 exact ⟨by omega, _, List.getElem?_eq_getElem hl2, by simpa using hp⟩
theorem keptF_chn {old new : List Int} {spans : List (Nat × Nat)} : ∀ (ns : List (Nat × Nat)) (i n m : Nat), Asc old.length n (spans.drop i) → Asc new.length m ns → Chn old new n m (keptF old new spans i ns)
 | [], i, n, m, h1, h2 => ⟨h1.le, h2⟩
 | s :: ns, i, n, m, h1, ⟨h2, h3, h4⟩ => by
  unfold keptF
  split
  ·rename_i j e
   obtain ⟨hj, t, ht, hw⟩ := seek_some e
   have hg := h1.get (show (spans.drop i)[j - i]? = some t by rw [List.getElem?_drop, show i + (j - i) = j by omega]; exact ht)
   obtain ⟨a, b, c⟩ := hg
   rw [List.drop_drop, show i + (j - i + 1) = j + 1 by omega] at c
   have hd : spans.getD j (0, 0) = t := by simp [List.getD, ht]
   rw [hd]
   exact ⟨a, b, h2, h3, hw, keptF_chn ns (j + 1) _ _ c h4⟩
  ·exact keptF_chn ns i n m h1 (h4.up (by omega))
theorem kept_chn (old new : List Int) : Chn old new 0 0 (keptOf old new) := keptF_chn _ 0 0 0 (by rw [List.drop_zero]; exact spansOf_asc old) (spansOf_asc new)
theorem Chn.snoc {old new : List Int} : ∀ {l : List ((Nat × Nat) × (Nat × Nat))} {n m : Nat}, Chn old new n m l → Chn old new n m (l ++ [((old.length, old.length), (new.length, new.length))])
 | [], n, m, ⟨a, b⟩ => ⟨a, Nat.le_refl _, b, Nat.le_refl _, by simp [sub], Nat.le_refl _, Nat.le_refl _⟩
 | _ :: _, _, _, ⟨h1, h2, h3, h4, h5, h6⟩ => ⟨h1, h2, h3, h4, h5, h6.snoc⟩
section
variable {Sx : Spec} {σ : Sto} {Q : KV} {vs : List PV}
def s42 (vs : List PV) (σ : Sto) (Q : KV) : Prop := ∃ l, vs = [eI l] ∧ l.length < big ∧ Q (eL eS (spansOf l)) σ
theorem s42_ap {l : List Int} (h1 : l.length < big) (h : Q (eL eS (spansOf l)) σ) : s42 [eI l] σ Q := ⟨l, rfl, h1, h⟩
theorem in_bl {x : Int} : (!decide (x = 9) && (!decide (x = 10) && !decide (x = 32))) = nBl x := by
 unfold nBl isBl
 by_cases h1 : x = 32 <;> by_cases h2 : x = 9 <;> by_cases h3 : x = 10 <;> simp [h1, h2, h3]
theorem k42 (h : s42 vs σ Q) : Bd Sx 1 b42 3 vs σ Q := by
 obtain ⟨l, rfl, hl, h⟩ := h
 refine ⟨rfl, ?_⟩
 unfold b42; simp [-Bool.exists_bool]
 intro a ha
 rw [exec_while]
 refine while_K (fun n loc τ => ∃ k acc x, n = l.length - k ∧ k ≤ l.length ∧ loc = [eI l, .obj a, .int (k : Nat), x] ∧ τ = σ.set a (.list (acc.map eS)) ∧ acc.length ≤ k ∧ acc ++ spansAt k (l.drop k) = spansOf l) _ ⟨0, [], .undef, rfl, Nat.zero_le _, rfl, rfl, Nat.zero_le _, rfl⟩ ?_
 rintro n loc τ R ⟨k, acc, x, rfl, hk, rfl, rfl, hz, he⟩ hF hT
 simp [-Bool.exists_bool]
 by_cases hlt : k < l.length
 ·rw [decide_eq_true hlt]
  refine hT fun K hK1 hK2 => ?_
  simp [-Bool.exists_bool]
  rw [exec_while]
  refine scan_up k l.length (pk l nBl) (fun j => [eI l, .obj a, .int j, .int k]) rfl (fun k hk => pk_out hk) (fun j R _ hR => ?_) (fun j R _ hk hR => ?_) (fun m hm1 h1 h2 => ?_)
  ·simp [-Bool.exists_bool]
   simp only [in_bl]
   exact test_if hR
  ·simp [-Bool.exists_bool]
   exact hR
  ·obtain ⟨s1, s2⟩ := scan_pk hm1 h1 h2
   have hml : m ≤ l.length := by
    refine Nat.le_of_not_lt fun q => ?_
    have := pk_lt (h1 (m - 1) (by omega) (by omega)); omega
   simp [-Bool.exists_bool]
   have h2b : 2 ≤ big := by decide
   by_cases hkm : k < m
   ·rw [if_pos hkm]
    refine ⟨h2b, by omega, hK2 (l.length - m) _ _ (by omega) ⟨m, acc ++ [(k, m)], .int k, rfl, hml, rfl, by simp [eS, eN], by simp; omega, ?_⟩⟩
    have hne : (l.drop k).takeWhile nBl ≠ [] := by
     rw [s1]
     intro z
     have := congrArg List.length z
     rw [List.length_drop, List.length_take, List.length_nil] at this; omega
    have e := spansAt_word (n := k) hne
    rw [s2, s1, List.length_drop, List.length_take, show k + (min m l.length - k) = m by omega] at e
    rw [← he, e]; simp
   ·rw [if_neg hkm]
    have hkm : m = k := by omega
    subst hkm
    refine hK2 (l.length - (m + 1)) _ _ (by omega) ⟨m + 1, acc, .int m, rfl, by omega, rfl, rfl, by omega, ?_⟩
    have hb : isBl l[m] = true := by
     unfold pk at h2
     rw [List.getElem?_eq_getElem hlt] at h2
     simpa [nBl] using h2
    rw [← he, List.drop_eq_getElem_cons hlt, spansAt_bl hb]
 ·rw [decide_eq_false hlt]
  refine hF ?_
  simp
  rw [show l.drop k = [] from List.drop_eq_nil_of_le (by omega), spansAt_nil, List.append_nil] at he
  subst he
  exact Wk.frz ha h
def s43 (vs : List PV) (σ : Sto) (Q : KV) : Prop := ∃ old new, vs = [eI old, eI new] ∧ old.length < big ∧ new.length < big ∧ Q (eL eK (keptOf old new)) σ
theorem s43_ap {old new : List Int} (h1 : old.length < big) (h2 : new.length < big) (h : Q (eL eK (keptOf old new)) σ) : s43 [eI old, eI new] σ Q := ⟨old, new, rfl, h1, h2, h⟩
theorem Asc.len {m : Nat} : ∀ {n : Nat} {l : List (Nat × Nat)}, Asc m n l → (∀ s ∈ l, s.1 < s.2) → n + l.length ≤ m
 | _, [], h, _ => h
 | _, s :: _, ⟨h1, h2, h3⟩, h => by
  have := h3.len fun x hx => h x (List.mem_cons_of_mem _ hx)
  have := h s List.mem_cons_self
  rw [List.length_cons]; omega
theorem spansP_pos : ∀ (ps : List (List Int × List Int)) (n : Nat), (∀ p ∈ ps, p.1 ≠ []) → ∀ s ∈ spansP n ps, s.1 < s.2
 | [], _, _, s, h => by cases h
 | p :: ps, n, hp, s, h => by
  unfold spansP at h
  rcases List.mem_cons.mp h with rfl | h
  ·have := List.length_pos_iff.mpr (hp p List.mem_cons_self)
   show n < n + _; omega
  ·exact spansP_pos ps _ (fun x hx => hp x (List.mem_cons_of_mem _ hx)) s h
theorem spansOf_len (l : List Int) : (spansOf l).length ≤ l.length := by
 have := (spansOf_asc l).len (spansP_pos _ _ fun p hp => ((parse_ok l).1 p hp).1)
 omega
theorem keptF_len {old new : List Int} {spans : List (Nat × Nat)} : ∀ (ns : List (Nat × Nat)) (i : Nat), (keptF old new spans i ns).length ≤ ns.length
 | [], _ => Nat.le_refl _
 | s :: ns, i => by
  unfold keptF
  split
  ·have := keptF_len (old := old) (new := new) (spans := spans) ns; simp; exact this _
  ·have := keptF_len (old := old) (new := new) (spans := spans) ns i; simp; omega
def seekP (old w : List Int) (spans : List (Nat × Nat)) (n j : Nat) : Bool := decide (j < min spans.length (n + 4)) && !(sub old (spans.getD j (0, 0)).1 (spans.getD j (0, 0)).2 == w)
theorem seek_scan {old w : List Int} {spans : List (Nat × Nat)} {n m : Nat} (h0 : n ≤ m) (h1 : ∀ j, n ≤ j → j < m → seekP old w spans n j = true) (h2 : seekP old w spans n m = false) :
  (m < min spans.length (n + 4) → seek old w spans n = some m) ∧ (¬ m < min spans.length (n + 4) → seek old w spans n = none) := by
 have hl : ((spans.drop n).take 4).length = min 4 (spans.length - n) := by rw [List.length_take, List.length_drop]
 have hg : ∀ i (hi : i < ((spans.drop n).take 4).length), ((spans.drop n).take 4)[i] = spans.getD (n + i) (0, 0) := fun i hi => by
  rw [List.getElem_take, List.getElem_drop]
  rw [hl] at hi
  simp [List.getD, List.getElem?_eq_getElem (show n + i < spans.length by omega)]
 constructor
 ·intro hm
  unfold seek
  have : ((spans.drop n).take 4).findIdx? (fun s => sub old s.1 s.2 == w) = some (m - n) := by
   rw [List.findIdx?_eq_some_iff_getElem]
   refine ⟨by rw [hl]; omega, ?_, fun j hj => ?_⟩
   ·rw [hg, show n + (m - n) = m by omega]
    unfold seekP at h2
    rw [decide_eq_true hm] at h2
    simpa using h2
   ·rw [hg]
    have := h1 (n + j) (by omega) (by omega)
    unfold seekP at this
    rw [Bool.and_eq_true] at this
    simpa using this.2
  rw [this]
  show some (n + (m - n)) = some m
  rw [show n + (m - n) = m by omega]
 ·intro hm
  unfold seek
  rw [List.findIdx?_eq_none_iff.mpr]; rfl
  intro x hx
  obtain ⟨i, hi, rfl⟩ := List.getElem_of_mem hx
  rw [hg]
  have hi' := hi
  rw [hl] at hi'
  have := h1 (n + i) (by omega) (by omega)
  unfold seekP at this
  rw [Bool.and_eq_true] at this
  simpa using this.2
theorem keptF_some {old new : List Int} {sp r : List (Nat × Nat)} {n m : Nat} {s : Nat × Nat} (h : seek old (sub new s.1 s.2) sp n = some m) : keptF old new sp n (s :: r) = (sp.getD m (0, 0), s) :: keptF old new sp (m + 1) r := by
 conv => lhs; unfold keptF
 rw [h]
theorem keptF_none {old new : List Int} {sp r : List (Nat × Nat)} {n : Nat} {s : Nat × Nat} (h : seek old (sub new s.1 s.2) sp n = none) : keptF old new sp n (s :: r) = keptF old new sp n r := by
 conv => lhs; unfold keptF
 rw [h]
theorem k43 (h42 : Sx 42 = s42) (h : s43 vs σ Q) : Bd Sx 2 b43 6 vs σ Q := by
 obtain ⟨old, new, rfl, h1, h2, h⟩ := h
 refine ⟨rfl, ?_⟩
 have hb : big = 16777216 := rfl
 have hal := spansOf_asc old
 have han := spansOf_asc new
 have hln := spansOf_len new
 unfold b43; simp [-Bool.exists_bool, h42]
 intro a ha
 refine s42_ap h1 ?_
 rw [exec_for]
 simp [-Bool.exists_bool, h42]
 refine s42_ap h2 ?_
 rw [items_eL]
 have hko : keptOf old new = keptF old new (spansOf old) 0 (spansOf new) := rfl
 rw [hko] at h
 generalize spansOf old = sp at *
 generalize spansOf new = sn at *
 refine for_inv (fun k loc τ => ∃ n acc x y z, loc = [eI old, eI new, .obj a, eL eS sp, .int (n : Nat), x, y, z] ∧ τ = σ.set a (.list (acc.map eK)) ∧ acc.length ≤ k ∧ acc ++ keptF old new sp n (sn.drop k) = keptF old new sp 0 sn) (fun _ _ _ _ => trivial) _ 0 _ _ ⟨0, [], .undef, .undef, .undef, rfl, rfl, Nat.zero_le _, rfl⟩ ?_ ?_
 ·rintro k x hx loc τ K ⟨n, acc, x1, y1, z1, rfl, rfl, hz, he⟩ hK1 hK2
  rw [List.getElem?_map] at hx
  obtain ⟨s, hs, rfl⟩ := Option.map_eq_some_iff.mp hx
  obtain ⟨hlt, rfl⟩ := List.getElem?_eq_some_iff.mp hs
  rw [Nat.zero_add] at hK2 he hz
  rw [List.drop_eq_getElem_cons hlt] at he
  generalize sn[k] = s at *
  simp [-Bool.exists_bool]
  rw [exec_while]
  refine scan_up n (n + 4) (seekP old (sub new s.1 s.2) sp n) (fun j => [eI old, eI new, .obj a, eL eS sp, .int (n : Nat), eN s.1, eN s.2, .int (j : Nat)]) rfl (fun j hj => by unfold seekP; rw [decide_eq_false (by omega)]; rfl) (fun j R _ hR => ?_) (fun j R _ hk hR => ?_) (fun m hm1 m1 m2 => ?_)
  ·simp [-Bool.exists_bool, -Prod.exists, eN]
   unfold seekP at hR
   by_cases hj : j < min sp.length (n + 4)
   ·rw [if_pos (by omega)]
    have hg : sp[j]? = some sp[j] := List.getElem?_eq_getElem (by omega)
    rw [decide_eq_true hj, show sp.getD j (0, 0) = sp[j] by simp [List.getD, hg]] at hR
    exact ⟨_, hg, _, hg, by simpa [sub] using hR⟩
   ·rw [if_neg (by omega)]
    rw [decide_eq_false hj] at hR
    exact hR
  ·simp [-Bool.exists_bool]
   exact hR
  ·obtain ⟨sk1, sk2⟩ := seek_scan hm1 m1 m2
   simp [-Bool.exists_bool, -Prod.exists, eN]
   by_cases hj : m < min sp.length (n + 4)
   ·rw [if_pos (by omega)]
    have hg : sp[m]? = some sp[m] := List.getElem?_eq_getElem (by omega)
    rw [keptF_some (sk1 hj), show sp.getD m (0, 0) = sp[m] by simp [List.getD, hg]] at he
    exact ⟨_, hg, by decide, by omega, hK2 _ _ ⟨m + 1, acc ++ [(sp[m], s)], _, _, _, rfl, by simp [eK, eS, eN], by simp; omega, by rw [← he]; simp⟩⟩
   ·rw [if_neg (by omega)]
    rw [keptF_none (sk2 hj)] at he
    exact hK2 _ _ ⟨n, acc, _, _, _, rfl, rfl, by omega, he⟩
 ·rintro loc τ ⟨n, acc, x1, y1, z1, rfl, rfl, hz, he⟩
  simp [-Bool.exists_bool]
  rw [Nat.zero_add, List.length_map, List.drop_eq_nil_of_le (Nat.le_refl _)] at he
  rw [show keptF old new sp n [] = [] from rfl, List.append_nil] at he
  subst he
  exact Wk.frz ha h
def s44 (vs : List PV) (σ : Sto) (Q : KV) : Prop := ∃ (s e : Nat) (old own : List Int), vs = [.int s, .int e, eI old, eI own] ∧ s ≤ e ∧ e ≤ old.length ∧ Q (eE (narrow s e old own)) σ
theorem s44_ap {s e : Nat} {old own : List Int} (h1 : s ≤ e) (h2 : e ≤ old.length) (h : Q (eE (narrow s e old own)) σ) : s44 [.int s, .int e, eI old, eI own] σ Q := ⟨s, e, old, own, rfl, h1, h2, h⟩
theorem pk2_lt {a b : List Int} {k : Nat} (h : pk2 a b k = true) : k < a.length ∧ k < b.length := by
 refine ⟨Nat.lt_of_not_le fun q => ?_, Nat.lt_of_not_le fun q => ?_⟩
 ·rw [pk2_out (.inl q)] at h; cases h
 ·rw [pk2_out (.inr q)] at h; cases h
theorem comSt_scan_len {a b : List Int} {m : Nat} (h1 : ∀ j, j < m → pk2 a b j = true) (h2 : pk2 a b m = false) : (comSt a b).length = m := by
 rw [comSt_scan a b m h1 h2, List.length_take]
 rcases Nat.eq_zero_or_pos m with h | h
 ·omega
 ·have := (pk2_lt (h1 (m - 1) (by omega))).1; omega
theorem sub_get {l : List Int} {s e k : Nat} (h : s + k < e) : (sub l s e)[k]? = l[s + k]? := by
 unfold sub
 rw [List.getElem?_drop, List.getElem?_take, if_pos h]
theorem sub_len {l : List Int} {s e : Nat} (h : e ≤ l.length) : (sub l s e).length = e - s := by
 unfold sub
 rw [List.length_drop, List.length_take]; omega
theorem k44 (h : s44 vs σ Q) : Bd Sx 4 b44 2 vs σ Q := by
 obtain ⟨s, e, old, own, rfl, h1, h2, h⟩ := h
 refine ⟨rfl, ?_⟩
 unfold b44; simp [-Bool.exists_bool]
 rw [exec_while]
 have hsl := sub_len (s := s) h2
 refine scan_up 0 own.length (pk2 (sub old s e) own) (fun j => [.int (s : Nat), .int (e : Nat), eI old, eI own, .int (j : Nat), .undef]) rfl (fun j hj => pk2_out (.inr hj)) (fun j R _ hR => ?_) (fun j R _ hk hR => ?_) (fun m hm1 m1 m2 => ?_)
 ·simp [-Bool.exists_bool]
  by_cases q1 : s + j < e
  ·rw [if_pos (by omega)]
   by_cases q2 : j < own.length
   ·rw [if_pos q2, ← Int.natCast_add, sub_nat]
    refine ⟨old[s + j], List.getElem?_eq_getElem (by omega), own[j], List.getElem?_eq_getElem q2, ?_⟩
    unfold pk2 at hR
    rw [sub_get q1, List.getElem?_eq_getElem (show s + j < old.length by omega), List.getElem?_eq_getElem q2] at hR
    simpa using hR
   ·rw [if_neg q2]; rw [pk2_out (.inr (by omega))] at hR; exact hR
  ·rw [if_neg (by omega)]; rw [pk2_out (.inl (by omega))] at hR; exact hR
 ·simp [-Bool.exists_bool]
  exact hR
 ·simp [-Bool.exists_bool]
  have hca := comSt_scan_len (fun j hj => m1 j (by omega) hj) m2
  have hmle : m ≤ e - s ∧ m ≤ own.length := by
   rcases Nat.eq_zero_or_pos m with hz | hz
   ·omega
   ·have := pk2_lt (m1 (m - 1) (by omega) (by omega)); omega
  rw [exec_while]
  have hl1 : ((sub old s e).drop m).reverse.length = e - s - m := by rw [List.length_reverse, List.length_drop]; omega
  have hl2 : (own.drop m).reverse.length = own.length - m := by rw [List.length_reverse, List.length_drop]
  refine scan_up 0 own.length (pk2 ((sub old s e).drop m).reverse (own.drop m).reverse) (fun j => [.int (s : Nat), .int (e : Nat), eI old, eI own, .int (m : Nat), .int (j : Nat)]) rfl (fun j hj => pk2_out (.inr (by omega))) (fun j R _ hR => ?_) (fun j R _ hk hR => ?_) (fun m' hm1' m1' m2' => ?_)
  ·simp [-Bool.exists_bool]
   by_cases q1 : j < e - s - m
   ·rw [if_pos (by omega)]
    by_cases q2 : j < own.length - m
    ·rw [if_pos (by omega), show (e : Int) - j - 1 = ((e - j - 1 : Nat) : Int) by omega, sub_nat]
     refine ⟨old[e - j - 1], List.getElem?_eq_getElem (by omega), ?_⟩
     rw [show (own.length : Int) - j - 1 = ((own.length - j - 1 : Nat) : Int) by omega, sub_nat]
     refine ⟨own[own.length - j - 1], List.getElem?_eq_getElem (by omega), ?_⟩
     unfold pk2 at hR
     have g1 : ((sub old s e).drop m).reverse[j]? = some old[e - j - 1] := by
      rw [List.getElem?_reverse (by rw [List.length_drop]; omega), List.getElem?_drop, List.length_drop, sub_get (by omega)]
      rw [show s + (m + ((sub old s e).length - m - 1 - j)) = e - j - 1 by omega]
      exact List.getElem?_eq_getElem (by omega)
     have g2 : (own.drop m).reverse[j]? = some own[own.length - j - 1] := by
      rw [List.getElem?_reverse (by rw [List.length_drop]; omega), List.getElem?_drop, List.length_drop]
      rw [show m + (own.length - m - 1 - j) = own.length - j - 1 by omega]
      exact List.getElem?_eq_getElem (by omega)
     rw [g1, g2] at hR
     simpa using hR
    ·rw [if_neg (by omega)]; rw [pk2_out (.inr (by omega))] at hR; exact hR
   ·rw [if_neg (by omega)]; rw [pk2_out (.inl (by omega))] at hR; exact hR
  ·simp [-Bool.exists_bool]
   exact hR
  ·have hcb := comSt_scan_len (fun j hj => m1' j (by omega) hj) m2'
   have hmle' : m' ≤ e - s - m ∧ m' ≤ own.length - m := by
    rcases Nat.eq_zero_or_pos m' with hz | hz
    ·omega
    ·have := pk2_lt (m1' (m' - 1) (by omega) (by omega)); omega
   simp [-Bool.exists_bool]
   rw [show (own.length : Int) - m' = ((own.length - m' : Nat) : Int) by omega]
   simp [-Bool.exists_bool]
   refine ⟨by decide, Wk.same ?_⟩
   unfold narrow at h
   rw [hca] at h
   simp only [hcb] at h
   have he : eE (s + m, e - m', sub own m (own.length - m')) = .tup [.int (s + m), .int (e - m'), eI ((own.take (own.length - m')).drop m)] := by
    unfold eE eN sub
    dsimp only
    rw [Int.natCast_add, show ((e - m' : Nat) : Int) = (e : Int) - m' by omega]
   rw [he] at h
   exact h
def s45 (vs : List PV) (σ : Sto) (Q : KV) : Prop := ∃ old new, vs = [eI old, eI new] ∧ old.length < big ∧ new.length + 1 < big ∧ Q (eL eE (editsOf old new)) σ
theorem s45_ap {old new : List Int} (h1 : old.length < big) (h2 : new.length + 1 < big) (h : Q (eL eE (editsOf old new)) σ) : s45 [eI old, eI new] σ Q := ⟨old, new, rfl, h1, h2, h⟩
theorem editsF_cons {old new : List Int} {n m : Nat} {k : (Nat × Nat) × (Nat × Nat)} {r : List ((Nat × Nat) × (Nat × Nat))} : editsF old new n m (k :: r) = (if sub old n k.1.1 = sub new m k.2.1 then [] else [narrow n k.1.1 old (sub new m k.2.1)]) ++ editsF old new k.1.2 k.2.2 r := by
 conv => lhs; unfold editsF
theorem k45 (h43 : Sx 43 = s43) (h44 : Sx 44 = s44) (h : s45 vs σ Q) : Bd Sx 2 b45 7 vs σ Q := by
 obtain ⟨old, new, rfl, h1, h2, h⟩ := h
 refine ⟨rfl, ?_⟩
 have hb : big = 16777216 := rfl
 have hc := (kept_chn old new).snoc
 have hkl : (keptOf old new).length ≤ new.length := Nat.le_trans (keptF_len _ _) (spansOf_len new)
 unfold b45; simp [-Bool.exists_bool]
 intro a ha
 rw [exec_for]
 simp [-Bool.exists_bool, h43]
 refine s43_ap h1 (by omega) ?_
 have hcat : ∀ (k : List ((Nat × Nat) × (Nat × Nat))) (τ : Sto) (Q : KV), k.length + 1 ≤ big → Q (eL eK (k ++ [((old.length, old.length), (new.length, new.length))])) τ →
   binA false .add (eL eK k) (.list [.tup [.tup [.int (old.length : Nat), .int (old.length : Nat)], .tup [.int (new.length : Nat), .int (new.length : Nat)]]]) τ Q := fun k τ Q h1 h2 =>
  (show binA false .add (eL eK k) (eL eK [((old.length, old.length), (new.length, new.length))]) τ Q by rw [bin_cat]; exact ⟨h1, h2⟩)
 have hed : editsOf old new = editsF old new 0 0 (keptOf old new ++ [((old.length, old.length), (new.length, new.length))]) := rfl
 rw [hed] at h
 generalize keptOf old new = kp at *
 refine ⟨by decide, by decide, hcat _ _ _ (by omega) ?_⟩
 have hkl' : (kp ++ [((old.length, old.length), (new.length, new.length))]).length < big := by rw [List.length_append]; simp; omega
 generalize kp ++ [((old.length, old.length), (new.length, new.length))] = ks at *
 rw [items_eL]
 refine for_inv (fun k loc τ => ∃ n m acc x y z w, loc = [eI old, eI new, .obj a, .int (n : Nat), .int (m : Nat), x, y, z, w] ∧ τ = σ.set a (.list (acc.map eE)) ∧ acc.length ≤ k ∧ acc ++ editsF old new n m (ks.drop k) = editsF old new 0 0 ks ∧ Chn old new n m (ks.drop k)) (fun _ _ _ _ => trivial) _ 0 _ _ ⟨0, 0, [], .undef, .undef, .undef, .undef, rfl, rfl, Nat.zero_le _, rfl, hc⟩ ?_ ?_
 ·rintro k x hx loc τ K ⟨n, m, acc, x1, y1, z1, w1, rfl, rfl, hz, he, hch⟩ hK1 hK2
  rw [List.getElem?_map] at hx
  obtain ⟨s, hs, rfl⟩ := Option.map_eq_some_iff.mp hx
  obtain ⟨hlt, rfl⟩ := List.getElem?_eq_some_iff.mp hs
  rw [Nat.zero_add] at hK2 he hz hch
  rw [List.drop_eq_getElem_cons hlt] at he hch
  rw [editsF_cons] at he
  generalize ks[k] = s at *
  obtain ⟨⟨b, e⟩, ⟨f, l⟩⟩ := s
  obtain ⟨c1, c2, c3, c4, c5, c6⟩ := hch
  dsimp only at c1 c2 c3 c4 c5 c6 he
  have cle := c6.le
  simp [-Bool.exists_bool, eK, eS, eN, h44]
  by_cases hq : sub old n b = sub new m f
  ·rw [if_pos hq] at he
   rw [if_pos (show List.drop n (List.take b old) = List.drop m (List.take f new) from hq)]
   exact hK2 _ _ ⟨e, l, acc, _, _, _, _, rfl, rfl, by omega, by rw [← he]; simp, c6⟩
  ·rw [if_neg hq] at he
   rw [if_neg (show ¬ List.drop n (List.take b old) = List.drop m (List.take f new) from hq)]
   refine s44_ap c1 (by omega) ?_
   simp [-Bool.exists_bool]
   refine ⟨by omega, hK2 _ _ ⟨e, l, acc ++ [narrow n b old (sub new m f)], _, _, _, _, rfl, by simp [sub], by simp; omega, by rw [← he]; simp, c6⟩⟩
 ·rintro loc τ ⟨n, m, acc, x1, y1, z1, w1, rfl, rfl, hz, he, hch⟩
  simp [-Bool.exists_bool]
  rw [Nat.zero_add, List.length_map, List.drop_eq_nil_of_le (Nat.le_refl _)] at he
  rw [show editsF old new n m [] = [] from rfl, List.append_nil] at he
  subst he
  exact Wk.frz ha h
end
end Mine
end
section
namespace Mine
def cap : Nat := 2000000
def gapO (c : Nat) (gs ge : Int) : AObj := .inst 1 [(4, .int 8), (5, .obj c), (6, .int gs), (7, .int ge)]
structure GA (σ : Sto) (t c : Nat) (pre gap post : List Int) : Prop where
 ht : σ t = some (gapO c pre.length ((pre.length + gap.length : Nat) : Int))
 hc : σ c = some (.list ((pre ++ gap ++ post).map .int))
 ne : t ≠ c
 sz : pre.length + gap.length + post.length ≤ cap + 8
def Fr (A : Nat → Prop) (σ σ' : Sto) : Prop := ∀ a, ¬A a → σ' a = σ a
theorem Fr.trans {A : Nat → Prop} {σ σ' σ'' : Sto} (h : Fr A σ σ') (h' : Fr A σ' σ'') : Fr A σ σ'' := fun a ha => (h' a ha).trans (h a ha)
theorem Fr.refl {A : Nat → Prop} {σ : Sto} : Fr A σ σ := fun _ _ => rfl
theorem Fr.set {A : Nat → Prop} {σ σ' : Sto} {a : Nat} {o : AObj} (h : Fr A σ σ') (ha : A a) : Fr A σ (σ'.set a o) := fun b hb => (set_ne fun e => hb (by subst e; exact ha)).trans (h b hb)
theorem Fr.up {A B : Nat → Prop} {σ σ' : Sto} (h : Fr A σ σ') (hab : ∀ a, A a → B a) : Fr B σ σ' := fun a ha => h a fun x => ha (hab a x)
def gtc (t c : Nat) : Nat → Prop := fun a => a = t ∨ a = c
section
variable {Sx : Spec} {σ : Sto} {Q : KV} {vs : List PV}
def s52 (vs : List PV) (σ : Sto) (Q : KV) : Prop := ∃ t c pre gap post, vs = [.obj t] ∧ GA σ t c pre gap post ∧ Q (.int ((pre ++ post).length : Nat)) σ
theorem s52_ap {t c : Nat} {pre gap post : List Int} (h0 : GA σ t c pre gap post) (h : Q (.int ((pre ++ post).length : Nat)) σ) : s52 [.obj t] σ Q := ⟨t, c, pre, gap, post, rfl, h0, h⟩
theorem k52 (h : s52 vs σ Q) : Bd Sx 1 b52 0 vs σ Q := by
 obtain ⟨t, c, pre, gap, post, rfl, h0, h⟩ := h
 refine ⟨rfl, ?_⟩
 have hc := h0.hc
 have ht := h0.ht
 have hll : (pre ++ gap ++ post).length = pre.length + gap.length + post.length := by simp; omega
 generalize hl : (pre ++ gap ++ post) = l at *
 generalize hge : pre.length + gap.length = ge at *
 unfold b52; simp [-Bool.exists_bool, ht, gapO, hc]
 refine Wk.same ?_
 have : (l.length : Int) - ge + pre.length = ((pre ++ post).length : Nat) := by rw [List.length_append]; omega
 rw [this]; exact h
def s53 (vs : List PV) (σ : Sto) (Q : KV) : Prop := ∃ (t c : Nat) (pre gap post : List Int) (n : Nat) (x : Int), vs = [.obj t, .int n] ∧ GA σ t c pre gap post ∧ (pre ++ post)[n]? = some x ∧ Q (.int x) σ
theorem s53_ap {t c n : Nat} {x : Int} {pre gap post : List Int} (h0 : GA σ t c pre gap post) (h1 : (pre ++ post)[n]? = some x) (h : Q (.int x) σ) : s53 [.obj t, .int n] σ Q := ⟨t, c, pre, gap, post, n, x, rfl, h0, h1, h⟩
theorem k53 (h : s53 vs σ Q) : Bd Sx 2 b53 0 vs σ Q := by
 obtain ⟨t, c, pre, gap, post, n, x, rfl, h0, h1, h⟩ := h
 refine ⟨rfl, ?_⟩
 have hc := h0.hc
 have ht := h0.ht
 generalize hl : (pre ++ gap ++ post) = l at *
 generalize hge : pre.length + gap.length = ge at *
 unfold b53; simp [-Bool.exists_bool, ht, gapO, hc]
 by_cases q : n < pre.length
 ·rw [if_pos q]
  rw [List.getElem?_append_left q] at h1
  refine ⟨x, ?_, Wk.same h⟩
  rw [← hl, List.append_assoc, List.getElem?_append_left q]; exact h1
 ·rw [if_neg q]
  rw [List.getElem?_append_right (by omega)] at h1
  rw [show (n : Int) - pre.length + ge = ((n + gap.length : Nat) : Int) by omega, sub_nat]
  refine ⟨x, ?_, Wk.same h⟩
  rw [← hl, List.getElem?_append_right (by rw [List.length_append]; omega), List.length_append, show n + gap.length - (pre.length + gap.length) = n - pre.length by omega]; exact h1
theorem drop_app {α : Type} {a b : List α} {n : Nat} (h : a.length ≤ n) : (a ++ b).drop n = b.drop (n - a.length) := by
 rw [List.drop_append, List.drop_eq_nil_of_le h, List.nil_append]
theorem take_app {α : Type} {a b : List α} {n : Nat} (h : n ≤ a.length) : (a ++ b).take n = a.take n := by
 rw [List.take_append, show n - a.length = 0 by omega]; simp
theorem take_cat {α : Type} {a b : List α} {k : Nat} : (a ++ b).take (a.length + k) = a ++ b.take k := by
 rw [List.take_append, List.take_of_length_le (by omega), show a.length + k - a.length = k by omega]
theorem drop_cat {α : Type} {a b : List α} {k : Nat} : (a ++ b).drop (a.length + k) = b.drop k := by
 rw [drop_app (by omega), show a.length + k - a.length = k by omega]
theorem take_cat0 {α : Type} {a b : List α} : (a ++ b).take a.length = a := by rw [take_app (Nat.le_refl _), List.take_length]
theorem drop_cat0 {α : Type} {a b : List α} : (a ++ b).drop a.length = b := by rw [drop_app (Nat.le_refl _), Nat.sub_self, List.drop_zero]
theorem cut {α : Type} (l : List α) {n : Nat} (h : n ≤ l.length) : ∃ a b, l = a ++ b ∧ a.length = n := ⟨l.take n, l.drop n, (List.take_append_drop n l).symm, by rw [List.length_take]; omega⟩
def s54 (vs : List PV) (σ : Sto) (Q : KV) : Prop := ∃ (t c : Nat) (pre gap post : List Int) (s e : Nat), vs = [.obj t, .int s, .int e] ∧ GA σ t c pre gap post ∧ s ≤ e ∧ e ≤ (pre ++ post).length ∧ Q (eI (sub (pre ++ post) s e)) σ
theorem s54_ap {t c s e : Nat} {pre gap post : List Int} (h0 : GA σ t c pre gap post) (h1 : s ≤ e) (h2 : e ≤ (pre ++ post).length) (h : Q (eI (sub (pre ++ post) s e)) σ) : s54 [.obj t, .int s, .int e] σ Q := ⟨t, c, pre, gap, post, s, e, rfl, h0, h1, h2, h⟩
theorem k54 (h : s54 vs σ Q) : Bd Sx 3 b54 1 vs σ Q := by
 obtain ⟨t, c, pre, gap, post, s, e, rfl, h0, h1, h2, h⟩ := h
 refine ⟨rfl, ?_⟩
 have hc := h0.hc
 have ht := h0.ht
 have hsz := h0.sz
 have hcap : cap = 2000000 := rfl
 have hb : big = 16777216 := rfl
 rw [List.length_append] at h2
 generalize hl : (pre ++ gap ++ post) = l at *
 generalize hge : pre.length + gap.length = ge at *
 unfold b54; simp [-Bool.exists_bool, ht, gapO, hc]
 by_cases q : e ≤ pre.length
 ·rw [if_pos q]
  refine Wk.same ?_
  have : (l.take e).drop s = sub (pre ++ post) s e := by
   unfold sub; rw [← hl, List.append_assoc, take_app q, take_app q]
  rw [this]; exact h
 ·rw [if_neg q]
  by_cases q2 : pre.length ≤ s
  ·rw [if_pos q2, slice_both (by omega) (by omega), show ((e : Int) + (ge - pre.length)).toNat = e + gap.length by omega, show ((s : Int) + (ge - pre.length)).toNat = s + gap.length by omega]
   refine Wk.same ?_
   have : (l.take (e + gap.length)).drop (s + gap.length) = sub (pre ++ post) s e := by
    unfold sub
    subst hl
    clear h hc ht h0
    (apply List.ext_getElem?; intro i; simp only [List.getElem?_drop, List.getElem?_take, List.getElem?_append, List.length_append, List.length_drop, List.length_take]; grind)
   rw [this]; exact h
  ·rw [if_neg q2, slice_both (by omega) (by omega), bin_cat, show ((e : Int) + (ge - pre.length)).toNat = e + gap.length by omega, show (ge : Int).toNat = ge by omega]
   have : (l.take pre.length).drop s ++ (l.take (e + gap.length)).drop ge = sub (pre ++ post) s e := by
    unfold sub
    subst hl hge
    clear h hc ht h0
    (apply List.ext_getElem?; intro i; simp only [List.getElem?_drop, List.getElem?_take, List.getElem?_append, List.length_append, List.length_drop, List.length_take]; grind)
   rw [this]
   refine ⟨?_, Wk.same h⟩
   simp only [List.length_drop, List.length_take]; omega
theorem sets_X {l y X : List Int} {c : Nat} {i j : Int} {K : Sto → Prop} (hc : σ c = some (.list (l.map .int))) (h1 : 0 ≤ i) (h2 : i ≤ j) (h3 : j ≤ l.length) (h4 : l.length + y.length ≤ big) (hX : l.take i.toNat ++ y ++ l.drop j.toNat = X) (hk : K (σ.set c (.list (X.map .int)))) : setsA (.obj c) (eL PV.int y) (.int i) (.int j) σ K := by
 rw [setsA_eL hc]
 refine ⟨h1, h2, by rw [List.length_map]; exact h3, by rw [List.length_map]; exact h4, ?_⟩
 rw [← List.map_take, ← List.map_drop, ← List.map_append, ← List.map_append, hX]; exact hk
def s55 (vs : List PV) (σ : Sto) (Q : KV) : Prop := ∃ (t c : Nat) (pre gap post : List Int) (n : Nat), vs = [.obj t, .int n] ∧ GA σ t c pre gap post ∧ n ≤ pre.length + post.length ∧
 ∀ σ' gap', GA σ' t c ((pre ++ post).take n) gap' ((pre ++ post).drop n) → gap'.length = gap.length → Fr (gtc t c) σ σ' → Q .none σ'
theorem s55_ap {t c n : Nat} {pre gap post : List Int} (h0 : GA σ t c pre gap post) (h1 : n ≤ pre.length + post.length) (h : ∀ σ' gap', GA σ' t c ((pre ++ post).take n) gap' ((pre ++ post).drop n) → gap'.length = gap.length → Fr (gtc t c) σ σ' → Q .none σ') : s55 [.obj t, .int n] σ Q := ⟨t, c, pre, gap, post, n, rfl, h0, h1, h⟩
theorem k55 (h : s55 vs σ Q) : Bd Sx 2 b55 1 vs σ Q := by
 obtain ⟨t, c, pre, gap, post, n, rfl, h0, h1, h⟩ := h
 refine ⟨rfl, ?_⟩
 have hc := h0.hc
 have ht := h0.ht
 have hsz := h0.sz
 have hne := h0.ne
 have hcap : cap = 2000000 := rfl
 have hb : big = 16777216 := rfl
 have hll : (pre ++ gap ++ post).length = pre.length + gap.length + post.length := by simp; omega
 generalize hl : (pre ++ gap ++ post) = l at *
 generalize hge : pre.length + gap.length = ge at *
 generalize hgs : pre.length = gs at *
 unfold b55; simp [-Bool.exists_bool, ht, gapO, hc]
 by_cases q : n < gs
 ·rw [if_pos q]
  obtain ⟨p1, p2, rfl, hn⟩ := cut pre (show n ≤ pre.length by omega)
  rw [List.length_append] at hgs
  obtain ⟨G, hG⟩ : ∃ G, G = (p2 ++ gap).take gap.length := ⟨_, rfl⟩
  have hGl : G.length = gap.length := by rw [hG, List.length_take, List.length_append]; omega
  obtain ⟨X, hX⟩ : ∃ X, X = p1 ++ G ++ (p2 ++ post) := ⟨_, rfl⟩
  have hmv : (l.take gs).drop n = p2 := by
   rw [← hl, List.append_assoc, take_app (by rw [List.length_append]; omega), List.take_of_length_le (by rw [List.length_append]; omega), ← hn, drop_cat0]
  rw [hmv]
  refine sets_X hc (by omega) (by omega) (by omega) (by omega) (X := X) ?_ ?_
  ·rw [show ((ge : Int) - ((min gs l.length - n : Nat) : Int)).toNat = p1.length + gap.length by omega, show (ge : Int).toNat = ge by omega, hX, hG, ← hl]
   have e1 : ((p1 ++ p2) ++ gap ++ post).take (p1.length + gap.length) = p1 ++ (p2 ++ gap).take gap.length := by
    rw [List.append_assoc p1, List.append_assoc p1, take_cat, take_app (by rw [List.length_append]; omega)]
   have e2 : ((p1 ++ p2) ++ gap ++ post).drop ge = post := by
    rw [show ge = ((p1 ++ p2) ++ gap).length by rw [List.length_append, List.length_append]; omega, drop_cat0]
   rw [e1, e2]; simp
  simp [-Bool.exists_bool, set_ne hne, ht, gapO]
  have hsp : (p1 ++ p2 ++ post).take n = p1 ∧ (p1 ++ p2 ++ post).drop n = p2 ++ post := by
   rw [List.append_assoc, ← hn]; exact ⟨take_cat0, drop_cat0⟩
  rw [hsp.1, hsp.2] at h
  refine Wk.same (h _ G ⟨?_, ?_, hne, ?_⟩ hGl ?_)
  ·rw [set_self]
   unfold gapO
   rw [hGl, hn, show ((n + gap.length : Nat) : Int) = (ge : Int) - ((min gs l.length - n : Nat) : Int) by omega]
  ·rw [set_ne (Ne.symm hne), set_self, hX]
  ·rw [List.length_append]; omega
  ·exact (Fr.refl.set (.inr rfl)).set (.inl rfl)
 ·rw [if_neg q]
  obtain ⟨p1, p2, rfl, hn⟩ := cut post (show n - gs ≤ post.length by omega)
  rw [List.length_append] at h1 hsz hll
  rw [slice_both (by omega) (by omega), show (ge : Int).toNat = ge by omega, show ((ge : Int) + n - gs).toNat = ge + p1.length by omega]
  have hmv : (l.take (ge + p1.length)).drop ge = p1 := by
   rw [← hl, show ge = (pre ++ gap).length by rw [List.length_append]; omega, take_cat, drop_cat0, take_app (Nat.le_refl _), List.take_length]
  rw [hmv]
  simp [-Bool.exists_bool, ht, gapO]
  obtain ⟨G, hG⟩ : ∃ G, G = (gap ++ p1).drop p1.length := ⟨_, rfl⟩
  have hGl : G.length = gap.length := by rw [hG, List.length_drop, List.length_append]; omega
  obtain ⟨X, hX⟩ : ∃ X, X = (pre ++ p1) ++ G ++ p2 := ⟨_, rfl⟩
  refine sets_X hc (by omega) (by omega) (by omega) (by omega) (X := X) ?_ ?_
  ·rw [show ((gs : Int) + p1.length).toNat = pre.length + p1.length by omega, show (gs : Int).toNat = pre.length by omega, hX, hG, ← hl]
   have e1 : (pre ++ gap ++ (p1 ++ p2)).take pre.length = pre := by rw [List.append_assoc, take_cat0]
   have e2 : (pre ++ gap ++ (p1 ++ p2)).drop (pre.length + p1.length) = (gap ++ p1).drop p1.length ++ p2 := by
    rw [List.append_assoc, drop_cat, ← List.append_assoc, List.drop_append_of_le_length (by rw [List.length_append]; omega)]
   rw [e1, e2]; simp
  simp [-Bool.exists_bool, set_ne hne, ht, gapO]
  have hsp : (pre ++ (p1 ++ p2)).take n = pre ++ p1 ∧ (pre ++ (p1 ++ p2)).drop n = p2 := by
   rw [show n = (pre ++ p1).length by rw [List.length_append]; omega, ← List.append_assoc]; exact ⟨take_cat0, drop_cat0⟩
  rw [hsp.1, hsp.2] at h
  refine Wk.same (h _ G ⟨?_, ?_, hne, ?_⟩ hGl ?_)
  ·rw [set_self]
   unfold gapO
   rw [hGl, List.length_append, show pre.length + p1.length = n by omega, show ((n + gap.length : Nat) : Int) = (ge : Int) + (p1.length : Nat) by omega]
  ·rw [set_ne (Ne.symm hne), set_self, hX]
  ·rw [List.length_append]; omega
  ·exact (Fr.refl.set (.inr rfl)).set (.inl rfl)
def s56 (vs : List PV) (σ : Sto) (Q : KV) : Prop := ∃ (t c : Nat) (pre gap post : List Int) (n : Nat), vs = [.obj t, .int n] ∧ GA σ t c pre gap post ∧ pre.length + post.length + n ≤ cap ∧
 ∀ σ' gap', GA σ' t c pre gap' post → n ≤ gap'.length → Fr (gtc t c) σ σ' → Q .none σ'
theorem s56_ap {t c n : Nat} {pre gap post : List Int} (h0 : GA σ t c pre gap post) (h1 : pre.length + post.length + n ≤ cap) (h : ∀ σ' gap', GA σ' t c pre gap' post → n ≤ gap'.length → Fr (gtc t c) σ σ' → Q .none σ') : s56 [.obj t, .int n] σ Q := ⟨t, c, pre, gap, post, n, rfl, h0, h1, h⟩
theorem k56 (h : s56 vs σ Q) : Bd Sx 2 b56 1 vs σ Q := by
 obtain ⟨t, c, pre, gap, post, n, rfl, h0, h1, h⟩ := h
 refine ⟨rfl, ?_⟩
 have hc := h0.hc
 have ht := h0.ht
 have hsz := h0.sz
 have hne := h0.ne
 have hcap : cap = 2000000 := rfl
 have hb : big = 16777216 := rfl
 have hll : (pre ++ gap ++ post).length = pre.length + gap.length + post.length := by simp; omega
 generalize hl : (pre ++ gap ++ post) = l at *
 generalize hge : pre.length + gap.length = ge at *
 generalize hgs : pre.length = gs at *
 unfold b56; simp [-Bool.exists_bool, ht, gapO, hc]
 by_cases q : n ≤ gap.length
 ·rw [if_neg (by omega)]
  refine Wk.same (h σ gap h0 q Fr.refl)
 ·rw [if_pos (by omega)]
  refine ⟨by decide, by omega, by omega, by omega, ?_⟩
  obtain ⟨X, hX⟩ : ∃ X, X = pre ++ (gap ++ List.replicate (n - gap.length + 8) 0) ++ post := ⟨_, rfl⟩
  rw [show ((n : Int) - (ge - gs) + 8).toNat = n - gap.length + 8 by omega]
  refine sets_X hc (by omega) (by omega) (by omega) (by rw [List.length_replicate]; omega) (X := X) ?_ ?_
  ·rw [show (ge : Int).toNat = (pre ++ gap).length by rw [List.length_append]; omega, ← hl, take_cat0, drop_cat0, hX]; simp
  simp [-Bool.exists_bool, set_ne hne, ht, gapO]
  refine Wk.same (h _ (gap ++ List.replicate (n - gap.length + 8) 0) ⟨?_, ?_, hne, ?_⟩ ?_ ?_)
  ·rw [set_self]
   unfold gapO
   rw [List.length_append, List.length_replicate, hgs, show ((gs + (gap.length + (n - gap.length + 8)) : Nat) : Int) = (ge : Int) + (n - (ge - gs)) + 8 by omega]
  ·rw [set_ne (Ne.symm hne), set_self, hX]
  ·rw [List.length_append, List.length_replicate]; omega
  ·rw [List.length_append, List.length_replicate]; omega
  ·exact (Fr.refl.set (.inr rfl)).set (.inl rfl)
def s57 (vs : List PV) (σ : Sto) (Q : KV) : Prop := ∃ (t c : Nat) (pre gap post cs : List Int) (n : Nat), vs = [.obj t, .int n, eI cs] ∧ GA σ t c pre gap post ∧ n ≤ pre.length + post.length ∧ pre.length + post.length + cs.length ≤ cap ∧
 ∀ σ' gap', GA σ' t c ((pre ++ post).take n ++ cs) gap' ((pre ++ post).drop n) → Fr (gtc t c) σ σ' → Q .none σ'
theorem s57_ap {t c n : Nat} {pre gap post cs : List Int} (h0 : GA σ t c pre gap post) (h1 : n ≤ pre.length + post.length) (h2 : pre.length + post.length + cs.length ≤ cap) (h : ∀ σ' gap', GA σ' t c ((pre ++ post).take n ++ cs) gap' ((pre ++ post).drop n) → Fr (gtc t c) σ σ' → Q .none σ') : s57 [.obj t, .int n, eI cs] σ Q := ⟨t, c, pre, gap, post, cs, n, rfl, h0, h1, h2, h⟩
theorem k57 (h55 : Sx 55 = s55) (h56 : Sx 56 = s56) (h : s57 vs σ Q) : Bd Sx 3 b57 0 vs σ Q := by
 obtain ⟨t, c, pre, gap, post, cs, n, rfl, h0, h1, h2, h⟩ := h
 refine ⟨rfl, ?_⟩
 have hcap : cap = 2000000 := rfl
 have hb : big = 16777216 := rfl
 unfold b57; simp [-Bool.exists_bool, h0.ht, gapO, h56]
 refine s56_ap h0 h2 fun σ1 g1 G1 hg1 F1 => ?_
 simp [-Bool.exists_bool, G1.ht, gapO, h55]
 refine s55_ap G1 h1 fun σ2 g2 G2 hg2 F2 => ?_
 have ht := G2.ht
 have hc := G2.hc
 have hne := G2.ne
 have hsz := G2.sz
 have hab : (pre ++ post).length = pre.length + post.length := List.length_append
 have hA : ((pre ++ post).take n).length = n := by rw [List.length_take]; omega
 have hB : ((pre ++ post).drop n).length = pre.length + post.length - n := by rw [List.length_drop]; omega
 generalize (pre ++ post).take n = A at *
 generalize (pre ++ post).drop n = B at *
 have hll : (A ++ g2 ++ B).length = n + g2.length + B.length := by simp; omega
 generalize hl : (A ++ g2 ++ B) = l at *
 generalize hge : A.length + g2.length = ge at *
 rw [hA] at ht
 simp [-Bool.exists_bool, ht, gapO]
 obtain ⟨X, hX⟩ : ∃ X, X = (A ++ cs) ++ g2.drop cs.length ++ B := ⟨_, rfl⟩
 refine sets_X hc (by omega) (by omega) (by omega) (by omega) (X := X) ?_ ?_
 ·rw [show (n : Int).toNat = A.length by omega, show ((n : Int) + cs.length).toNat = A.length + cs.length by omega, ← hl]
  have e1 : (A ++ g2 ++ B).take A.length = A := by rw [List.append_assoc, take_cat0]
  have e2 : (A ++ g2 ++ B).drop (A.length + cs.length) = g2.drop cs.length ++ B := by rw [List.append_assoc, drop_cat, List.drop_append_of_le_length (by omega)]
  rw [e1, e2, hX]; simp
 simp [-Bool.exists_bool, set_ne hne, ht, gapO]
 refine Wk.same (h _ (g2.drop cs.length) ⟨?_, ?_, hne, ?_⟩ ?_)
 ·rw [set_self]
  unfold gapO
  rw [List.length_append, List.length_drop, hA, show n + cs.length + (g2.length - cs.length) = ge by omega]; rfl
 ·rw [set_ne (Ne.symm hne), set_self, hX]
 ·rw [List.length_append, List.length_drop]; omega
 ·exact ((F1.trans F2).set (.inr rfl)).set (.inl rfl)
def s58 (vs : List PV) (σ : Sto) (Q : KV) : Prop := ∃ (t c : Nat) (pre gap post : List Int) (s e : Nat), vs = [.obj t, .int s, .int e] ∧ GA σ t c pre gap post ∧ s ≤ e ∧ e ≤ pre.length + post.length ∧
 ∀ σ' gap', GA σ' t c ((pre ++ post).take s) gap' ((pre ++ post).drop e) → Fr (gtc t c) σ σ' → Q (eI (sub (pre ++ post) s e)) σ'
theorem s58_ap {t c s e : Nat} {pre gap post : List Int} (h0 : GA σ t c pre gap post) (h1 : s ≤ e) (h2 : e ≤ pre.length + post.length) (h : ∀ σ' gap', GA σ' t c ((pre ++ post).take s) gap' ((pre ++ post).drop e) → Fr (gtc t c) σ σ' → Q (eI (sub (pre ++ post) s e)) σ') : s58 [.obj t, .int s, .int e] σ Q := ⟨t, c, pre, gap, post, s, e, rfl, h0, h1, h2, h⟩
theorem k58 (h54 : Sx 54 = s54) (h55 : Sx 55 = s55) (h : s58 vs σ Q) : Bd Sx 3 b58 1 vs σ Q := by
 obtain ⟨t, c, pre, gap, post, s, e, rfl, h0, h1, h2, h⟩ := h
 refine ⟨rfl, ?_⟩
 have hcap : cap = 2000000 := rfl
 have hb : big = 16777216 := rfl
 have hgo : ∀ n m : Int, gapO c n m = .inst 1 [(4, .int 8), (5, .obj c), (6, .int n), (7, .int m)] := fun _ _ => rfl
 unfold b58; simp [-Bool.exists_bool, h0.ht, hgo, h54]
 refine s54_ap h0 h1 (by rw [List.length_append]; exact h2) ?_
 generalize sub (pre ++ post) s e = gone at *
 have fin : ∀ (σ1 : Sto) (p1 g1 q1 : List Int), GA σ1 t c p1 g1 q1 → p1 ++ q1 = pre ++ post → s ≤ p1.length → p1.length ≤ e → Fr (gtc t c) σ σ1 →
   Wk (eL PV.int gone) (σ1.set t (.inst 1 [(4, .int 8), (5, .obj c), (6, .int s), (7, .int (((p1.length + g1.length : Nat) : Int) + e - p1.length))])) Q := fun σ1 p1 g1 q1 G he hs1 hs2 F => by
  have hlen : p1.length + q1.length = pre.length + post.length := by rw [← List.length_append, ← List.length_append, he]
  have hsz := G.sz
  obtain ⟨a1, a2, rfl, ha⟩ := cut p1 hs1
  rw [List.length_append] at hs2 hlen hs1
  obtain ⟨b1, b2, rfl, hb'⟩ := cut q1 (show e - (a1.length + a2.length) ≤ q1.length by omega)
  have ht1 : (pre ++ post).take s = a1 := by rw [← he, List.append_assoc, ← ha, take_cat0]
  have ht2 : (pre ++ post).drop e = b2 := by
   rw [← he, ← List.append_assoc, show e = (a1 ++ a2 ++ b1).length by rw [List.length_append, List.length_append]; omega, drop_cat0]
  rw [ht1, ht2] at h
  refine Wk.same (h _ (a2 ++ g1 ++ b1) ⟨?_, ?_, G.ne, ?_⟩ (F.set (.inl rfl)))
  ·rw [set_self, hgo]
   rw [List.length_append, List.length_append, List.length_append, ha, show ((s + (a2.length + g1.length + b1.length) : Nat) : Int) = ((s + a2.length + g1.length : Nat) : Int) + e - ((s + a2.length : Nat) : Int) by omega]
  ·rw [set_ne (Ne.symm G.ne), G.hc]; simp
  ·rw [List.length_append, List.length_append] at hsz
   rw [List.length_append, List.length_append]; omega
 simp [-Bool.exists_bool, h0.ht, hgo, h55]
 by_cases q1 : e < pre.length
 ·rw [if_pos q1]
  refine s55_ap h0 h2 fun σ1 g1 G1 hg1 F1 => ?_
  have hA : ((pre ++ post).take e).length = e := by rw [List.length_take, List.length_append]; omega
  have ht := G1.ht
  have hf := fin σ1 _ _ _ G1 (List.take_append_drop _ _) (by omega) (by omega) F1
  rw [hA] at ht hf
  generalize hge : e + g1.length = ge at *
  simp [-Bool.exists_bool, ht, hgo]
  rw [if_neg (by omega)]
  rw [show (ge : Int) + e - e = ge by omega] at hf
  exact hf
 ·rw [if_neg q1]
  by_cases q2 : pre.length < s
  ·rw [if_pos q2]
   refine s55_ap h0 (by omega) fun σ1 g1 G1 hg1 F1 => ?_
   have hA : ((pre ++ post).take s).length = s := by rw [List.length_take, List.length_append]; omega
   have ht := G1.ht
   have hf := fin σ1 _ _ _ G1 (List.take_append_drop _ _) (by omega) (by omega) F1
   rw [hA] at ht hf
   generalize hge : s + g1.length = ge at *
   simp [-Bool.exists_bool, ht, hgo]
   exact hf
  ·rw [if_neg q2]
   exact fin σ pre gap post h0 rfl (by omega) (by omega) Fr.refl
end
end Mine
end
section
namespace Mine
def markO (n : Int) (bv : PV) (p : Int) : AObj := .inst 2 [(8, .int n), (9, .bool false), (10, bv), (11, .int p)]
def rowsD : Nat → List Nat → List (Int × PV)
 | _, [] => []
 | k, a :: r => ((k : Int) + 1, .obj a) :: rowsD (k + 1) r
def keysD : Nat → Nat → List Int
 | _, 0 => []
 | k, n + 1 => ((k : Int) + 1) :: keysD (k + 1) n
theorem rowsD_keys : ∀ (ms : List Nat) (k : Nat), (rowsD k ms).map (·.1) = keysD k ms.length
 | [], _ => rfl
 | a :: r, k => by show _ :: _ = _ :: _; rw [rowsD_keys r (k + 1)]
theorem rowsD_len : ∀ (ms : List Nat) (k : Nat), (rowsD k ms).length = ms.length
 | [], _ => rfl
 | a :: r, k => by show _ + 1 = _ + 1; rw [rowsD_len r (k + 1)]
theorem keysD_len : ∀ (n k : Nat), (keysD k n).length = n
 | 0, _ => rfl
 | n + 1, k => by show _ + 1 = _ + 1; rw [keysD_len n (k + 1)]
theorem keysD_get : ∀ (n k i : Nat), i < n → (keysD k n)[i]? = some (((k + i : Nat) : Int) + 1)
 | n + 1, k, 0, _ => by simp [keysD]
 | n + 1, k, i + 1, h => by
  have := keysD_get n (k + 1) i (by omega)
  rw [show k + 1 + i = k + (i + 1) by omega] at this
  simpa [keysD] using this
theorem rowsD_find : ∀ (ms : List Nat) (k i a : Nat), ms[i]? = some a → ((rowsD k ms).find? fun x => x.1 == ((k + i : Nat) : Int) + 1) = some (((k + i : Nat) : Int) + 1, .obj a)
 | [], _, _, _, h => by simp at h
 | b :: r, k, 0, a, h => by
  cases h
  simp [rowsD]
 | b :: r, k, i + 1, a, h => by
  have := rowsD_find r (k + 1) i a (by simpa using h)
  rw [show k + 1 + i = k + (i + 1) by omega] at this
  unfold rowsD
  rw [List.find?_cons, beq_eq_false_iff_ne.mpr (by simp; omega)]
  exact this
theorem rowsD_fresh : ∀ (ms : List Nat) (k : Nat) (n : Int), (k : Int) + ms.length < n → (rowsD k ms).any (·.1 == n) = false
 | [], _, _, _ => rfl
 | a :: r, k, n, h => by
  unfold rowsD
  rw [List.any_cons, rowsD_fresh r (k + 1) n (by rw [List.length_cons] at h; omega), beq_eq_false_iff_ne.mpr (by rw [List.length_cons] at h; simp; omega)]; rfl
theorem rowsD_snoc : ∀ (ms : List Nat) (k a : Nat), rowsD k (ms ++ [a]) = rowsD k ms ++ [(((k + ms.length : Nat) : Int) + 1, .obj a)]
 | [], k, a => rfl
 | b :: r, k, a => by
  show _ :: rowsD (k + 1) (r ++ [a]) = _
  rw [rowsD_snoc r (k + 1) a, List.length_cons, show k + 1 + r.length = k + (r.length + 1) by omega]; rfl
theorem sort_keys : ∀ (n k : Nat), sortI (keysD k n) = keysD k n
 | 0, _ => rfl
 | 1, _ => rfl
 | n + 2, k => by
  have ih := sort_keys (n + 1) (k + 1)
  unfold keysD
  show insD _ (sortI (keysD (k + 1) (n + 1))) = _
  rw [ih]
  unfold keysD insD
  rw [if_pos (by omega)]
structure MA (σ : Sto) (m d b : Nat) (ms ps : List Nat) : Prop where
 hm : σ m = some (.inst 3 [(12, .obj d)])
 hd : σ d = some (.dict (rowsD 0 ms))
 len : ms.length = ps.length
 at_ : ∀ (i : Nat) a p, ms[i]? = some a → ps[i]? = some p → σ a = some (markO (i + 1) (.obj b) p)
 nd : ms.Nodup
 md : m ≠ d
 mm : m ∉ ms
 dm : d ∉ ms
 sz : ms.length < 60
theorem set_same {σ : Sto} {a : Nat} {o : AObj} (h : σ a = some o) : σ.set a o = σ := by
 funext x; unfold Sto.set; split
 ·rename_i e; subst e; exact h.symm
 ·rfl
theorem MA.fr {σ τ : Sto} {m d b : Nat} {ms ps : List Nat} {A : Nat → Prop} (h : MA σ m d b ms ps) (F : Fr A σ τ) (h1 : ¬A m) (h2 : ¬A d) (h3 : ∀ a ∈ ms, ¬A a) : MA τ m d b ms ps :=
 ⟨(F _ h1).trans h.hm, (F _ h2).trans h.hd, h.len, fun i a p ha hp => (F _ (h3 a (List.mem_of_getElem? ha))).trans (h.at_ i a p ha hp), h.nd, h.md, h.mm, h.dm, h.sz⟩
theorem MA.set {σ : Sto} {m d b k a : Nat} {ms ps : List Nat} (h : MA σ m d b ms ps) (ha : ms[k]? = some a) (v : Nat) : MA (σ.set a (markO (k + 1) (.obj b) v)) m d b ms (ps.set k v) := by
 have hin := List.mem_of_getElem? ha
 refine ⟨(set_ne fun e => h.mm (by rw [e]; exact hin)).trans h.hm, (set_ne fun e => h.dm (by rw [e]; exact hin)).trans h.hd, by rw [List.length_set]; exact h.len, fun i x p hx hp => ?_, h.nd, h.md, h.mm, h.dm, h.sz⟩
 obtain ⟨hi, rfl⟩ := List.getElem?_eq_some_iff.mp hx
 obtain ⟨hk, rfl⟩ := List.getElem?_eq_some_iff.mp ha
 by_cases e : i = k
 ·subst e
  rw [set_self]
  rw [List.getElem?_set_self (by rw [← h.len]; exact hi)] at hp
  cases hp; rfl
 ·rw [set_ne (fun q => e ((List.getElem_inj h.nd).mp q))]
  rw [List.getElem?_set_ne (Ne.symm e)] at hp
  exact h.at_ i _ p hx hp
theorem mp_succ {f : Nat → Nat} {ps : List Nat} {k : Nat} (h : k < ps.length) : (ps.take (k + 1)).map f ++ ps.drop (k + 1) = ((ps.take k).map f ++ ps.drop k).set k (f ps[k]) := by
 rw [take_succ_map h, List.map_append, List.append_assoc]
 rw [List.set_append_right _ _ (by rw [List.length_map, List.length_take]; omega), List.length_map, List.length_take, show k - min k ps.length = 0 by omega]
 rw [List.drop_eq_getElem_cons h]; rfl
theorem mk_loop {body : List PV → Sto → KO → Prop} {KQ : KO} {t : Tgt} {σ : Sto} {m d b : Nat} {ms ps : List Nat} (f : Nat → Nat) (base : PV → PV → List PV) (h : MA σ m d b ms ps) (x0 y0 : PV)
  (hstep : ∀ (k a p : Nat) τ x y (K : KO), ms[k]? = some a → τ m = some (.inst 3 [(12, .obj d)]) → τ d = some (.dict (rowsD 0 ms)) → τ a = some (markO (k + 1) (.obj b) (p : Nat)) → (∀ x y, K (.next (base x y)) (τ.set a (markO (k + 1) (.obj b) (f p : Nat)))) → bindA t (.int (((k : Nat) : Int) + 1)) (base x y) fun loc' => body loc' τ K)
  (hq : ∀ τ x y, MA τ m d b ms (ps.map f) → Fr (· ∈ ms) σ τ → KQ (.next (base x y)) τ) : forA body t (fun _ => True) ((keysD 0 ms.length).map .int) (base x0 y0) σ KQ := by
 have hl := h.len
 refine for_inv (fun k loc τ => ∃ x y, loc = base x y ∧ MA τ m d b ms ((ps.take k).map f ++ ps.drop k) ∧ Fr (· ∈ ms) σ τ) (fun _ _ _ _ => trivial) _ 0 _ _ ⟨x0, y0, rfl, by simpa using h, Fr.refl⟩ ?_ ?_
 ·rintro k x hx loc τ K ⟨x1, y1, rfl, M, F⟩ hK1 hK2
  rw [Nat.zero_add] at hK2 M
  have hk : k < ms.length := by
   have := (List.getElem?_eq_some_iff.mp hx).1
   rw [List.length_map, keysD_len] at this; exact this
  rw [List.getElem?_map, keysD_get _ _ _ hk, Nat.zero_add] at hx
  cases hx
  have ha : ms[k]? = some ms[k] := List.getElem?_eq_getElem hk
  have hp : ((ps.take k).map f ++ ps.drop k)[k]? = some (ps[k]'(by omega)) := by
   rw [List.getElem?_append_right (by rw [List.length_map, List.length_take]; omega), List.length_map, List.length_take, show k - min k ps.length = 0 by omega, List.getElem?_drop, Nat.add_zero, List.getElem?_eq_getElem (by omega)]
  refine hstep k ms[k] (ps[k]'(by omega)) τ x1 y1 K ha M.hm M.hd (M.at_ k _ _ ha hp) fun x y => hK2 _ _ ⟨x, y, rfl, ?_, F.set (List.getElem_mem hk)⟩
  rw [mp_succ (by omega)]
  exact M.set ha _
 ·rintro loc τ ⟨x1, y1, rfl, M, F⟩
  rw [Nat.zero_add, List.length_map, keysD_len, List.take_of_length_le (by omega), List.drop_eq_nil_of_le (by omega), List.append_nil] at M
  exact hq τ x1 y1 M F
section
variable {Sx : Spec} {σ : Sto} {Q : KV} {vs : List PV}
def s65 (vs : List PV) (σ : Sto) (Q : KV) : Prop := ∃ (a : Nat) (n : Int), vs = [.obj a, .int n, .bool false] ∧ σ a = some (.inst 2 []) ∧ Q .none (σ.set a (markO n .none 0))
theorem s65_ap {a : Nat} {n : Int} (h0 : σ a = some (.inst 2 [])) (h : Q .none (σ.set a (markO n .none 0))) : s65 [.obj a, .int n, .bool false] σ Q := ⟨a, n, rfl, h0, h⟩
theorem k65 (h : s65 vs σ Q) : Bd Sx 3 b65 0 vs σ Q := by
 obtain ⟨a, n, rfl, h0, h⟩ := h
 refine ⟨rfl, ?_⟩
 unfold b65; simp [-Bool.exists_bool, h0]
 exact Wk.same h
def s69 (vs : List PV) (σ : Sto) (Q : KV) : Prop := ∃ (m : Nat), vs = [.obj m] ∧ σ m = some (.inst 3 []) ∧ ∀ d, σ d = Option.none → Q .none ((σ.set d (.dict [])).set m (.inst 3 [(12, .obj d)]))
theorem s69_ap {m : Nat} (h0 : σ m = some (.inst 3 [])) (h : ∀ d, σ d = Option.none → Q .none ((σ.set d (.dict [])).set m (.inst 3 [(12, .obj d)]))) : s69 [.obj m] σ Q := ⟨m, rfl, h0, h⟩
theorem k69 (h : s69 vs σ Q) : Bd Sx 1 b69 0 vs σ Q := by
 obtain ⟨m, rfl, h0, h⟩ := h
 refine ⟨rfl, ?_⟩
 unfold b69; simp [-Bool.exists_bool]
 intro d hd
 rw [set_ne (fun e => by subst e; rw [h0] at hd; cases hd), h0]
 simp [-Bool.exists_bool]
 exact Wk.same (h d hd)
def s70 (vs : List PV) (σ : Sto) (Q : KV) : Prop := ∃ (m d : Nat) (ms : List Nat), vs = [.obj m] ∧ σ m = some (.inst 3 [(12, .obj d)]) ∧ σ d = some (.dict (rowsD 0 ms)) ∧ ms.length < 60 ∧ Q (eI (keysD 0 ms.length)) σ
theorem s70_ap {m d : Nat} {ms : List Nat} (h0 : σ m = some (.inst 3 [(12, .obj d)])) (h1 : σ d = some (.dict (rowsD 0 ms))) (h2 : ms.length < 60) (h : Q (eI (keysD 0 ms.length)) σ) : s70 [.obj m] σ Q := ⟨m, d, ms, rfl, h0, h1, h2, h⟩
theorem k70 (h : s70 vs σ Q) : Bd Sx 1 b70 0 vs σ Q := by
 obtain ⟨m, d, ms, rfl, h0, h1, h2, h⟩ := h
 refine ⟨rfl, ?_⟩
 unfold b70; simp [-Bool.exists_bool, h0]
 unfold bltA
 simp only [h1]
 rw [rowsD_len, rowsD_keys, sort_keys]
 exact ⟨by omega, Wk.same h⟩
def s71 (vs : List PV) (σ : Sto) (Q : KV) : Prop := ∃ (m d a : Nat) (ms : List Nat) (bv : PV) (p0 pos : Int), vs = [.obj m, .obj a, .int pos] ∧ σ m = some (.inst 3 [(12, .obj d)]) ∧ σ d = some (.dict (rowsD 0 ms)) ∧ ms.length < 59 ∧ σ a = some (markO ((ms.length : Nat) + 1) bv p0) ∧
 Q .none ((σ.set d (.dict (rowsD 0 (ms ++ [a])))).set a (markO ((ms.length : Nat) + 1) bv pos))
theorem k71 (h : s71 vs σ Q) : Bd Sx 3 b71 0 vs σ Q := by
 obtain ⟨m, d, a, ms, bv, p0, pos, rfl, h0, h1, h2, h3, h⟩ := h
 refine ⟨rfl, ?_⟩
 have had : a ≠ d := fun e => by subst e; rw [h1] at h3; cases h3
 unfold b71; simp [-Bool.exists_bool, -List.any_eq_false, h0, h1, h3, markO, set_ne had]
 rw [rowsD_len]
 refine ⟨rowsD_fresh ms 0 _ (by omega), ?_, ?_⟩
 ·have hb : big = 16777216 := rfl
  omega
 ·have := rowsD_snoc ms 0 a
  rw [Nat.zero_add] at this
  rw [← this]
  exact Wk.same h
def insF (s e p : Nat) : Nat := if s < p then p + (e - s) else p
def delF (s e p : Nat) : Nat := if e < p then p - (e - s) else if s < p then s else p
def repF (s e n p : Nat) : Nat := if e ≤ p then p + n - (e - s) else if s < p then s else p
def s74 (vs : List PV) (σ : Sto) (Q : KV) : Prop := ∃ (m d b : Nat) (ms ps : List Nat) (s e : Nat), vs = [.obj m, .int s, .int e, .bool false] ∧ MA σ m d b ms ps ∧ s ≤ e ∧ ∀ σ', MA σ' m d b ms (ps.map (insF s e)) → Fr (· ∈ ms) σ σ' → Q .none σ'
theorem s74_ap {m d b s e : Nat} {ms ps : List Nat} (M : MA σ m d b ms ps) (h1 : s ≤ e) (h : ∀ σ', MA σ' m d b ms (ps.map (insF s e)) → Fr (· ∈ ms) σ σ' → Q .none σ') : s74 [.obj m, .int s, .int e, .bool false] σ Q := ⟨m, d, b, ms, ps, s, e, rfl, M, h1, h⟩
theorem k74 (h70 : Sx 70 = s70) (h : s74 vs σ Q) : Bd Sx 4 b74 2 vs σ Q := by
 obtain ⟨m, d, b, ms, ps, s, e, rfl, M, h1, h⟩ := h
 refine ⟨rfl, ?_⟩
 unfold b74; simp only [execs_cons, exec_for]
 simp [-Bool.exists_bool, M.hm, h70]
 refine s70_ap M.hm M.hd M.sz ?_
 rw [items_eL]
 refine mk_loop (insF s e) (fun x y => [.obj m, .int s, .int e, .bool false, x, y]) M .undef .undef (fun k a p τ x y K ha hm hd hA hK => ?_) (fun τ x y M' F => ?_)
 ·have hf := rowsD_find ms 0 k a ha
  rw [Nat.zero_add] at hf
  simp [-Bool.exists_bool, hm, hd]
  refine ⟨.obj a, ⟨_, hf⟩, ?_⟩
  simp [-Bool.exists_bool, hA, markO]
  by_cases q : s < p
  ·rw [if_pos q]
   have := hK (.int (k + 1)) (.obj a)
   rw [show insF s e p = p + (e - s) by unfold insF; rw [if_pos q], show ((p + (e - s) : Nat) : Int) = (p : Int) + e - s by omega] at this
   exact this
  ·rw [if_neg q]
   have := hK (.int (k + 1)) (.obj a)
   rw [show insF s e p = p by unfold insF; rw [if_neg q], set_same hA] at this
   exact this
 ·simp [-Bool.exists_bool]
  exact Wk.same (h τ M' F)
def s75 (vs : List PV) (σ : Sto) (Q : KV) : Prop := ∃ (m d b : Nat) (ms ps : List Nat) (s e : Nat), vs = [.obj m, .int s, .int e] ∧ MA σ m d b ms ps ∧ s ≤ e ∧ ∀ σ', MA σ' m d b ms (ps.map (delF s e)) → Fr (· ∈ ms) σ σ' → Q .none σ'
theorem s75_ap {m d b s e : Nat} {ms ps : List Nat} (M : MA σ m d b ms ps) (h1 : s ≤ e) (h : ∀ σ', MA σ' m d b ms (ps.map (delF s e)) → Fr (· ∈ ms) σ σ' → Q .none σ') : s75 [.obj m, .int s, .int e] σ Q := ⟨m, d, b, ms, ps, s, e, rfl, M, h1, h⟩
theorem k75 (h70 : Sx 70 = s70) (h : s75 vs σ Q) : Bd Sx 3 b75 2 vs σ Q := by
 obtain ⟨m, d, b, ms, ps, s, e, rfl, M, h1, h⟩ := h
 refine ⟨rfl, ?_⟩
 unfold b75; simp only [execs_cons, exec_for]
 simp [-Bool.exists_bool, M.hm, h70]
 refine s70_ap M.hm M.hd M.sz ?_
 rw [items_eL]
 refine mk_loop (delF s e) (fun x y => [.obj m, .int s, .int e, x, y]) M .undef .undef (fun k a p τ x y K ha hm hd hA hK => ?_) (fun τ x y M' F => ?_)
 ·have hf := rowsD_find ms 0 k a ha
  rw [Nat.zero_add] at hf
  simp [-Bool.exists_bool, hm, hd]
  refine ⟨.obj a, ⟨_, hf⟩, ?_⟩
  simp [-Bool.exists_bool, hA, markO]
  have := hK (.int (k + 1)) (.obj a)
  unfold delF at this
  by_cases q : e < p
  ·rw [if_pos q]
   rw [if_pos q, show ((p - (e - s) : Nat) : Int) = (p : Int) - (e - s) by omega] at this
   exact this
  ·rw [if_neg q]
   rw [if_neg q] at this
   by_cases q2 : s < p
   ·rw [if_pos q2]; rw [if_pos q2] at this; exact this
   ·rw [if_neg q2]; rw [if_neg q2, set_same hA] at this; exact this
 ·simp [-Bool.exists_bool]
  exact Wk.same (h τ M' F)
def s76 (vs : List PV) (σ : Sto) (Q : KV) : Prop := ∃ (m d b : Nat) (ms ps : List Nat) (s e n : Nat), vs = [.obj m, .int s, .int e, .int n] ∧ MA σ m d b ms ps ∧ s ≤ e ∧ ∀ σ', MA σ' m d b ms (ps.map (repF s e n)) → Fr (· ∈ ms) σ σ' → Q .none σ'
theorem s76_ap {m d b s e n : Nat} {ms ps : List Nat} (M : MA σ m d b ms ps) (h1 : s ≤ e) (h : ∀ σ', MA σ' m d b ms (ps.map (repF s e n)) → Fr (· ∈ ms) σ σ' → Q .none σ') : s76 [.obj m, .int s, .int e, .int n] σ Q := ⟨m, d, b, ms, ps, s, e, n, rfl, M, h1, h⟩
theorem k76 (h70 : Sx 70 = s70) (h : s76 vs σ Q) : Bd Sx 4 b76 2 vs σ Q := by
 obtain ⟨m, d, b, ms, ps, s, e, n, rfl, M, h1, h⟩ := h
 refine ⟨rfl, ?_⟩
 unfold b76; simp only [execs_cons, exec_for]
 simp [-Bool.exists_bool, M.hm, h70]
 refine s70_ap M.hm M.hd M.sz ?_
 rw [items_eL]
 refine mk_loop (repF s e n) (fun x y => [.obj m, .int s, .int e, .int n, x, y]) M .undef .undef (fun k a p τ x y K ha hm hd hA hK => ?_) (fun τ x y M' F => ?_)
 ·have hf := rowsD_find ms 0 k a ha
  rw [Nat.zero_add] at hf
  simp [-Bool.exists_bool, hm, hd]
  refine ⟨.obj a, ⟨_, hf⟩, ?_⟩
  simp [-Bool.exists_bool, hA, markO]
  have := hK (.int (k + 1)) (.obj a)
  unfold repF at this
  by_cases q : e ≤ p
  ·rw [if_pos q]
   rw [if_pos q, show ((p + n - (e - s) : Nat) : Int) = (p : Int) + n - (e - s) by omega] at this
   exact this
  ·rw [if_neg q]
   rw [if_neg q] at this
   by_cases q2 : s < p
   ·rw [if_pos q2]; rw [if_pos q2] at this; exact this
   ·rw [if_neg q2]; rw [if_neg q2, set_same hA] at this; exact this
 ·simp [-Bool.exists_bool]
  exact Wk.same (h τ M' F)
end
end Mine
end
section
namespace Mine
structure BX where
 b : Nat
 t : Nat
 c : Nat
 m : Nat
 d : Nat
 ms : List Nat
def inX (X : BX) (a : Nat) : Prop := a = X.b ∨ a = X.t ∨ a = X.c ∨ a = X.m ∨ a = X.d ∨ a ∈ X.ms
def bufO (t m : Nat) (point zv : Nat) (tk ctk : Int) : AObj := .inst 4 [(8, .int 1), (13, .str 4), (14, .obj t), (15, .obj m), (16, .int point), (17, .int 1), (18, .int zv), (19, .none), (20, .bool true), (21, .bool false), (22, .int tk), (23, .int ctk), (24, .int 1), (25, eI []),
 (26, .none), (27, .none), (28, .none), (29, .none), (30, .none), (31, .none)]
structure BZ (σ : Sto) (X : BX) (text : List Int) (point zv : Nat) (tk ctk : Int) (ps : List Nat) : Prop where
 hb : σ X.b = some (bufO X.t X.m point zv tk ctk)
 hg : ∃ pre gap post, GA σ X.t X.c pre gap post ∧ pre ++ post = text
 hm : MA σ X.m X.d X.b X.ms ps
 nd : (X.b :: X.t :: X.c :: X.m :: X.d :: X.ms).Nodup
section
variable {σ σ' : Sto} {X : BX} {text : List Int} {point zv : Nat} {tk ctk : Int} {ps : List Nat}
theorem BZ.ne (B : BZ σ X text point zv tk ctk ps) : (X.b ≠ X.t ∧ X.b ≠ X.c ∧ X.b ≠ X.m ∧ X.b ≠ X.d ∧ X.b ∉ X.ms) ∧ (X.t ≠ X.c ∧ X.t ≠ X.m ∧ X.t ≠ X.d ∧ X.t ∉ X.ms) ∧ (X.c ≠ X.m ∧ X.c ≠ X.d ∧ X.c ∉ X.ms) := by
 have := B.nd
 simp only [List.nodup_cons, List.mem_cons, not_or] at this
 obtain ⟨h1, h2, h3, _⟩ := this
 exact ⟨h1, h2, h3⟩
theorem BZ.gFr (B : BZ σ X text point zv tk ctk ps) (F : Fr (gtc X.t X.c) σ σ') {pre gap post : List Int} (G : GA σ' X.t X.c pre gap post) : BZ σ' X (pre ++ post) point zv tk ctk ps := by
 obtain ⟨⟨a1, a2, a3, a4, a5⟩, ⟨b1, b2, b3, b4⟩, ⟨c1, c2, c3⟩⟩ := B.ne
 refine ⟨(F _ ?_).trans B.hb, ⟨pre, gap, post, G, rfl⟩, B.hm.fr F ?_ ?_ ?_, B.nd⟩
 ·rintro (e | e); exact a1 e; exact a2 e
 ·rintro (e | e); exact b2 e.symm; exact c1 e.symm
 ·rintro (e | e); exact b3 e.symm; exact c2 e.symm
 ·rintro a ha (e | e)
  ·exact b4 (e ▸ ha)
  ·exact c3 (e ▸ ha)
theorem BZ.bSet (B : BZ σ X text point zv tk ctk ps) (point' zv' : Nat) (tk' ctk' : Int) : BZ (σ.set X.b (bufO X.t X.m point' zv' tk' ctk')) X text point' zv' tk' ctk' ps := by
 obtain ⟨⟨a1, a2, a3, a4, a5⟩, ⟨b1, b2, b3, b4⟩, ⟨c1, c2, c3⟩⟩ := B.ne
 obtain ⟨pre, gap, post, G, e⟩ := B.hg
 have F : Fr (· = X.b) σ (σ.set X.b (bufO X.t X.m point' zv' tk' ctk')) := Fr.refl.set rfl
 exact ⟨set_self, ⟨pre, gap, post, ⟨(F _ (Ne.symm a1)).trans G.ht, (F _ (Ne.symm a2)).trans G.hc, G.ne, G.sz⟩, e⟩, B.hm.fr F (Ne.symm a3) (Ne.symm a4) (fun a ha e => a5 (e ▸ ha)), B.nd⟩
theorem BZ.mFr {ps' : List Nat} (B : BZ σ X text point zv tk ctk ps) (F : Fr (· ∈ X.ms) σ σ') (M : MA σ' X.m X.d X.b X.ms ps') : BZ σ' X text point zv tk ctk ps' := by
 obtain ⟨⟨a1, a2, a3, a4, a5⟩, ⟨b1, b2, b3, b4⟩, ⟨c1, c2, c3⟩⟩ := B.ne
 obtain ⟨pre, gap, post, G, e⟩ := B.hg
 exact ⟨(F _ a5).trans B.hb, ⟨pre, gap, post, ⟨(F _ b4).trans G.ht, (F _ c3).trans G.hc, G.ne, G.sz⟩, e⟩, M, B.nd⟩
theorem BZ.fr {A : Nat → Prop} (B : BZ σ X text point zv tk ctk ps) (F : Fr A σ σ') (h : ∀ a, inX X a → ¬A a) : BZ σ' X text point zv tk ctk ps := by
 obtain ⟨pre, gap, post, G, e⟩ := B.hg
 exact ⟨(F _ (h _ (.inl rfl))).trans B.hb, ⟨pre, gap, post, ⟨(F _ (h _ (.inr (.inl rfl)))).trans G.ht, (F _ (h _ (.inr (.inr (.inl rfl))))).trans G.hc, G.ne, G.sz⟩, e⟩,
  B.hm.fr F (h _ (.inr (.inr (.inr (.inl rfl))))) (h _ (.inr (.inr (.inr (.inr (.inl rfl)))))) (fun a ha => h a (.inr (.inr (.inr (.inr (.inr ha)))))), B.nd⟩
theorem gtc_inX : ∀ a, gtc X.t X.c a → inX X a := fun a h => h.elim (fun e => .inr (.inl e)) (fun e => .inr (.inr (.inl e)))
theorem ms_inX : ∀ a, a ∈ X.ms → inX X a := fun a h => .inr (.inr (.inr (.inr (.inr h))))
end
section
variable {Sx : Spec} {σ : Sto} {Q : KV} {vs : List PV}
def s80 (vs : List PV) (σ : Sto) (Q : KV) : Prop := ∃ (b t m point zv : Nat) (tk ctk : Int), vs = [.obj b] ∧ σ b = some (bufO t m point zv tk ctk) ∧ Q (.int 1) σ
theorem s80_ap {b t m point zv : Nat} {tk ctk : Int} (h0 : σ b = some (bufO t m point zv tk ctk)) (h : Q (.int 1) σ) : s80 [.obj b] σ Q := ⟨b, t, m, point, zv, tk, ctk, rfl, h0, h⟩
theorem k80 (h : s80 vs σ Q) : Bd Sx 1 b80 0 vs σ Q := by
 obtain ⟨b, t, m, point, zv, tk, ctk, rfl, h0, h⟩ := h
 refine ⟨rfl, ?_⟩
 unfold b80; simp [-Bool.exists_bool, h0, bufO]
 exact Wk.same h
def s81 (vs : List PV) (σ : Sto) (Q : KV) : Prop := ∃ (b t m point zv : Nat) (tk ctk : Int), vs = [.obj b] ∧ σ b = some (bufO t m point zv tk ctk) ∧ Q (.int zv) σ
theorem s81_ap {b t m point zv : Nat} {tk ctk : Int} (h0 : σ b = some (bufO t m point zv tk ctk)) (h : Q (.int zv) σ) : s81 [.obj b] σ Q := ⟨b, t, m, point, zv, tk, ctk, rfl, h0, h⟩
theorem k81 (h : s81 vs σ Q) : Bd Sx 1 b81 0 vs σ Q := by
 obtain ⟨b, t, m, point, zv, tk, ctk, rfl, h0, h⟩ := h
 refine ⟨rfl, ?_⟩
 unfold b81; simp [-Bool.exists_bool, h0, bufO]
 exact Wk.same h
def s82 (vs : List PV) (σ : Sto) (Q : KV) : Prop := ∃ X text point zv tk ctk ps, vs = [.obj X.b] ∧ BZ σ X text point zv tk ctk ps ∧ Q (.int text.length) σ
theorem s82_ap {X : BX} {text : List Int} {point zv : Nat} {tk ctk : Int} {ps : List Nat} (B : BZ σ X text point zv tk ctk ps) (h : Q (.int text.length) σ) : s82 [.obj X.b] σ Q := ⟨X, text, point, zv, tk, ctk, ps, rfl, B, h⟩
theorem k82 (h52 : Sx 52 = s52) (h : s82 vs σ Q) : Bd Sx 1 b82 0 vs σ Q := by
 obtain ⟨X, text, point, zv, tk, ctk, ps, rfl, B, h⟩ := h
 obtain ⟨pre, gap, post, G, e⟩ := B.hg
 refine ⟨rfl, ?_⟩
 unfold b82; simp [-Bool.exists_bool, B.hb, bufO, G.ht, gapO, h52]
 refine s52_ap G ?_
 rw [e]; exact Wk.same h
def s83 (vs : List PV) (σ : Sto) (Q : KV) : Prop := ∃ X text point tk ctk ps, ∃ (p : Nat) (x : Int), vs = [.obj X.b, .int p] ∧ BZ σ X text point (text.length + 1) tk ctk ps ∧ 1 ≤ p ∧ text[p - 1]? = some x ∧ Q (.int x) σ
theorem s83_ap {X : BX} {text : List Int} {point : Nat} {tk ctk : Int} {ps : List Nat} {p : Nat} {x : Int} (B : BZ σ X text point (text.length + 1) tk ctk ps) (h1 : 1 ≤ p) (h2 : text[p - 1]? = some x) (h : Q (.int x) σ) : s83 [.obj X.b, .int p] σ Q := ⟨X, text, point, tk, ctk, ps, p, x, rfl, B, h1, h2, h⟩
theorem k83 (h53 : Sx 53 = s53) (h : s83 vs σ Q) : Bd Sx 2 b83 0 vs σ Q := by
 obtain ⟨X, text, point, tk, ctk, ps, p, x, rfl, B, h1, h2, h⟩ := h
 obtain ⟨pre, gap, post, G, e⟩ := B.hg
 refine ⟨rfl, ?_⟩
 have hl := (List.getElem?_eq_some_iff.mp h2).1
 have hb := B.hb
 generalize hz : text.length + 1 = zv at *
 unfold b83; simp [-Bool.exists_bool, hb, bufO, G.ht, gapO, h53]
 rw [if_neg (by omega), if_neg (by omega), show (p : Int) - 1 = ((p - 1 : Nat) : Int) by omega]
 exact s53_ap G (by rw [e]; exact h2) (Wk.same h)
def s84 (vs : List PV) (σ : Sto) (Q : KV) : Prop := ∃ X text point zv tk ctk ps, ∃ (s e : Nat), vs = [.obj X.b, .int s, .int e] ∧ BZ σ X text point zv tk ctk ps ∧ 1 ≤ s ∧ s ≤ e ∧ e ≤ text.length + 1 ∧ Q (eI (sub text (s - 1) (e - 1))) σ
theorem s84_ap {X : BX} {text : List Int} {point zv : Nat} {tk ctk : Int} {ps : List Nat} {s e : Nat} (B : BZ σ X text point zv tk ctk ps) (h1 : 1 ≤ s) (h2 : s ≤ e) (h3 : e ≤ text.length + 1) (h : Q (eI (sub text (s - 1) (e - 1))) σ) : s84 [.obj X.b, .int s, .int e] σ Q := ⟨X, text, point, zv, tk, ctk, ps, s, e, rfl, B, h1, h2, h3, h⟩
theorem k84 (h54 : Sx 54 = s54) (h : s84 vs σ Q) : Bd Sx 3 b84 0 vs σ Q := by
 obtain ⟨X, text, point, zv, tk, ctk, ps, s, e, rfl, B, h1, h2, h3, h⟩ := h
 obtain ⟨pre, gap, post, G, he⟩ := B.hg
 refine ⟨rfl, ?_⟩
 unfold b84; simp [-Bool.exists_bool, B.hb, bufO, G.ht, gapO, h54]
 rw [show (s : Int) - 1 = ((s - 1 : Nat) : Int) by omega, show (e : Int) - 1 = ((e - 1 : Nat) : Int) by omega]
 exact s54_ap G (by omega) (by rw [he]; omega) (by rw [he]; exact Wk.same h)
def s89 (vs : List PV) (σ : Sto) (Q : KV) : Prop := ∃ (b t m point zv : Nat) (tk ctk : Int), vs = [.obj b, .bool true] ∧ σ b = some (bufO t m point zv tk ctk) ∧ Q .none (σ.set b (bufO t m point zv (tk + 1) (tk + 1)))
theorem s89_ap {b t m point zv : Nat} {tk ctk : Int} (h0 : σ b = some (bufO t m point zv tk ctk)) (h : Q .none (σ.set b (bufO t m point zv (tk + 1) (tk + 1)))) : s89 [.obj b, .bool true] σ Q := ⟨b, t, m, point, zv, tk, ctk, rfl, h0, h⟩
theorem k89 (h : s89 vs σ Q) : Bd Sx 2 b89 0 vs σ Q := by
 obtain ⟨b, t, m, point, zv, tk, ctk, rfl, h0, h⟩ := h
 refine ⟨rfl, ?_⟩
 unfold b89; simp [-Bool.exists_bool, h0, bufO]
 exact Wk.same h
def s2 (vs : List PV) (σ : Sto) (Q : KV) : Prop := ∃ (b t m point zv : Nat) (tk ctk : Int), vs = [.obj b] ∧ σ b = some (bufO t m point zv tk ctk) ∧ Q .none σ
theorem s2_ap {b t m point zv : Nat} {tk ctk : Int} (h0 : σ b = some (bufO t m point zv tk ctk)) (h : Q .none σ) : s2 [.obj b] σ Q := ⟨b, t, m, point, zv, tk, ctk, rfl, h0, h⟩
theorem k2 (h : s2 vs σ Q) : Bd Sx 1 b2 0 vs σ Q := by
 obtain ⟨b, t, m, point, zv, tk, ctk, rfl, h0, h⟩ := h
 refine ⟨rfl, ?_⟩
 unfold b2; simp [-Bool.exists_bool, h0, bufO]
 exact Wk.same h
def s3 (vs : List PV) (σ : Sto) (Q : KV) : Prop := ∃ X text point zv tk ctk ps, ∃ g : Int, vs = [.obj X.b, .int g] ∧ BZ σ X text point zv tk ctk ps ∧ text.length + g ≤ 4194304 ∧ Q .none σ
theorem s3_ap {X : BX} {text : List Int} {point zv : Nat} {tk ctk : Int} {ps : List Nat} {g : Int} (B : BZ σ X text point zv tk ctk ps) (h1 : text.length + g ≤ 4194304) (h : Q .none σ) : s3 [.obj X.b, .int g] σ Q := ⟨X, text, point, zv, tk, ctk, ps, g, rfl, B, h1, h⟩
theorem k3 (h82 : Sx 82 = s82) (h : s3 vs σ Q) : Bd Sx 2 b3 0 vs σ Q := by
 obtain ⟨X, text, point, zv, tk, ctk, ps, g, rfl, B, h1, h⟩ := h
 refine ⟨rfl, ?_⟩
 unfold b3; simp [-Bool.exists_bool, B.hb, bufO, h82]
 refine s82_ap B ?_
 simp [-Bool.exists_bool]
 exact ⟨by omega, Wk.same h⟩
def s4 (vs : List PV) (σ : Sto) (Q : KV) : Prop := ∃ (b t m point zv : Nat) (tk ctk : Int) (s e : Nat), vs = [.obj b, .int s, .int e] ∧ σ b = some (bufO t m point zv tk ctk) ∧ 1 ≤ s ∧ 1 ≤ e ∧ s ≤ zv ∧ e ≤ zv ∧ Q (.tup [.int (min s e : Nat), .int (max s e : Nat)]) σ
theorem s4_ap {b t m point zv s e : Nat} {tk ctk : Int} (h0 : σ b = some (bufO t m point zv tk ctk)) (h1 : 1 ≤ s) (h2 : 1 ≤ e) (h3 : s ≤ zv) (h4 : e ≤ zv) (h : Q (.tup [.int (min s e : Nat), .int (max s e : Nat)]) σ) : s4 [.obj b, .int s, .int e] σ Q := ⟨b, t, m, point, zv, tk, ctk, s, e, rfl, h0, h1, h2, h3, h4, h⟩
theorem k4 (h : s4 vs σ Q) : Bd Sx 3 b4 2 vs σ Q := by
 obtain ⟨b, t, m, point, zv, tk, ctk, s, e, rfl, h0, h1, h2, h3, h4, h⟩ := h
 refine ⟨rfl, ?_⟩
 unfold b4; simp [-Bool.exists_bool, h0, bufO]
 refine ⟨by decide, by omega, by omega, by decide, Wk.same ?_⟩
 rw [show min (s : Int) e = ((min s e : Nat) : Int) by omega, show max (s : Int) e = ((max s e : Nat) : Int) by omega]
 exact h
def s5 (vs : List PV) (σ : Sto) (Q : KV) : Prop := ∃ (b t m point zv : Nat) (tk ctk : Int) (x y : PV), vs = [.obj b, x, y] ∧ σ b = some (bufO t m point zv tk ctk) ∧ Q .none σ
theorem s5_ap {b t m point zv : Nat} {tk ctk : Int} {x y : PV} (h0 : σ b = some (bufO t m point zv tk ctk)) (h : Q .none σ) : s5 [.obj b, x, y] σ Q := ⟨b, t, m, point, zv, tk, ctk, x, y, rfl, h0, h⟩
theorem k5 (h : s5 vs σ Q) : Bd Sx 3 b5 1 vs σ Q := by
 obtain ⟨b, t, m, point, zv, tk, ctk, x, y, rfl, h0, h⟩ := h
 refine ⟨rfl, ?_⟩
 unfold b5; simp only [execs_cons, exec_for]
 simp [-Bool.exists_bool, h0, bufO, forA]
 exact Wk.same h
def s6 (vs : List PV) (σ : Sto) (Q : KV) : Prop := ∃ (b t m point zv : Nat) (tk ctk : Int) (x y z : PV), vs = [.obj b, x, y, z] ∧ σ b = some (bufO t m point zv tk ctk) ∧ Q .none (σ.set b (bufO t m point zv (tk + 1) (tk + 1)))
theorem s6_ap {b t m point zv : Nat} {tk ctk : Int} {x y z : PV} (h0 : σ b = some (bufO t m point zv tk ctk)) (h : Q .none (σ.set b (bufO t m point zv (tk + 1) (tk + 1)))) : s6 [.obj b, x, y, z] σ Q := ⟨b, t, m, point, zv, tk, ctk, x, y, z, rfl, h0, h⟩
theorem k6 (h89 : Sx 89 = s89) (h : s6 vs σ Q) : Bd Sx 4 b6 1 vs σ Q := by
 obtain ⟨b, t, m, point, zv, tk, ctk, x, y, z, rfl, h0, h⟩ := h
 refine ⟨rfl, ?_⟩
 have hbo : ∀ a b c d e f, bufO a b c d e f = .inst 4 [(8, .int 1), (13, .str 4), (14, .obj a), (15, .obj b), (16, .int c), (17, .int 1), (18, .int d), (19, .none), (20, .bool true), (21, .bool false), (22, .int e), (23, .int f), (24, .int 1), (25, eI []), (26, .none), (27, .none), (28, .none), (29, .none), (30, .none), (31, .none)] := fun _ _ _ _ _ _ => rfl
 unfold b6; simp only [execs_cons, exec_for]
 simp [-Bool.exists_bool, h0, hbo, h89]
 refine s89_ap h0 ?_
 simp [-Bool.exists_bool, hbo]
 rw [exec_for]
 simp [-Bool.exists_bool, forA]
 exact Wk.same h
def s9 (vs : List PV) (σ : Sto) (Q : KV) : Prop := ∃ (b t m point zv : Nat) (tk ctk : Int) (x y : PV), vs = [.obj b, x, y] ∧ σ b = some (bufO t m point zv tk ctk) ∧ Q .none σ
theorem s9_ap {b t m point zv : Nat} {tk ctk : Int} {x y : PV} (h0 : σ b = some (bufO t m point zv tk ctk)) (h : Q .none σ) : s9 [.obj b, x, y] σ Q := ⟨b, t, m, point, zv, tk, ctk, x, y, rfl, h0, h⟩
theorem k9 (h : s9 vs σ Q) : Bd Sx 3 b9 0 vs σ Q := by
 obtain ⟨b, t, m, point, zv, tk, ctk, x, y, rfl, h0, h⟩ := h
 refine ⟨rfl, ?_⟩
 unfold b9; simp [-Bool.exists_bool, h0, bufO]
 exact Wk.same h
def s10 (vs : List PV) (σ : Sto) (Q : KV) : Prop := ∃ (b t m point zv : Nat) (tk ctk : Int) (x y z : PV), vs = [.obj b, x, y, z] ∧ σ b = some (bufO t m point zv tk ctk) ∧ Q .none σ
theorem s10_ap {b t m point zv : Nat} {tk ctk : Int} {x y z : PV} (h0 : σ b = some (bufO t m point zv tk ctk)) (h : Q .none σ) : s10 [.obj b, x, y, z] σ Q := ⟨b, t, m, point, zv, tk, ctk, x, y, z, rfl, h0, h⟩
theorem k10 (h : s10 vs σ Q) : Bd Sx 4 b10 0 vs σ Q := by
 obtain ⟨b, t, m, point, zv, tk, ctk, x, y, z, rfl, h0, h⟩ := h
 refine ⟨rfl, ?_⟩
 unfold b10; simp [-Bool.exists_bool, h0, bufO]
 exact Wk.same h
end
end Mine
end
section
namespace Mine
def movF (s e n p : Nat) : Nat := if p ≤ s then p else if e ≤ p then p + n - (e - s) else s
structure St where
 text : List Int
 point : Nat
 ps : List Nat
 tk : Int
 ctk : Int
abbrev BA (σ : Sto) (X : BX) (S : St) : Prop := BZ σ X S.text S.point (S.text.length + 1) S.tk S.ctk S.ps
def cutT (text : List Int) (s e : Nat) (cs : List Int) : List Int := text.take (s - 1) ++ cs ++ text.drop (e - 1)
def repS (s e : Nat) (cs : List Int) (S : St) : St :=
 if s = e ∧ cs = [] then S else ⟨cutT S.text s e cs, movF s e cs.length S.point, S.ps.map (movF s e cs.length), S.tk + 1, S.tk + 1⟩
section
variable {Sx : Spec} {σ : Sto} {Q : KV} {vs : List PV}
theorem bufO_eq (a b c d : Nat) (e f : Int) : bufO a b c d e f = .inst 4 [(8, .int 1), (13, .str 4), (14, .obj a), (15, .obj b), (16, .int c), (17, .int 1), (18, .int d), (19, .none), (20, .bool true), (21, .bool false), (22, .int e), (23, .int f), (24, .int 1), (25, eI []), (26, .none), (27, .none), (28, .none), (29, .none), (30, .none), (31, .none)] := rfl
theorem gapO_eq (c : Nat) (n m : Int) : gapO c n m = .inst 1 [(4, .int 8), (5, .obj c), (6, .int n), (7, .int m)] := rfl
def outP (s e p : Nat) : Nat := if s < p then max s (p + s - e) else p
def s7 (vs : List PV) (σ : Sto) (Q : KV) : Prop := ∃ X text point zv tk ctk ps, ∃ (s e : Nat), vs = [.obj X.b, .int s, .int e] ∧ BZ σ X text point zv tk ctk ps ∧ 1 ≤ s ∧ s ≤ e ∧ e ≤ text.length + 1 ∧ e ≤ zv ∧
 ∀ σ' gone, BZ σ' X (text.take (s - 1) ++ text.drop (e - 1)) (outP s e point) (zv - (e - s)) tk ctk ps → Fr (inX X) σ σ' → Q (eI gone) σ'
theorem s7_ap {X : BX} {text : List Int} {point zv : Nat} {tk ctk : Int} {ps : List Nat} {s e : Nat} (B : BZ σ X text point zv tk ctk ps) (h1 : 1 ≤ s) (h2 : s ≤ e) (h3 : e ≤ text.length + 1) (h4 : e ≤ zv)
  (h : ∀ σ' gone, BZ σ' X (text.take (s - 1) ++ text.drop (e - 1)) (outP s e point) (zv - (e - s)) tk ctk ps → Fr (inX X) σ σ' → Q (eI gone) σ') : s7 [.obj X.b, .int s, .int e] σ Q := ⟨X, text, point, zv, tk, ctk, ps, s, e, rfl, B, h1, h2, h3, h4, h⟩
theorem k7 (h58 : Sx 58 = s58) (h : s7 vs σ Q) : Bd Sx 3 b7 1 vs σ Q := by
 obtain ⟨X, text, point, zv, tk, ctk, ps, s, e, rfl, B, h1, h2, h3, h4, h⟩ := h
 obtain ⟨pre, gap, post, G, he⟩ := B.hg
 have hl := congrArg List.length he
 rw [List.length_append] at hl
 refine ⟨rfl, ?_⟩
 unfold b7; simp [-Bool.exists_bool, B.hb, bufO_eq, G.ht, gapO_eq, h58]
 rw [show (s : Int) - 1 = ((s - 1 : Nat) : Int) by omega, show (e : Int) - 1 = ((e - 1 : Nat) : Int) by omega]
 refine s58_ap G (by omega) (by omega) fun σ1 g1 G1 F1 => ?_
 have B1 := B.gFr F1 G1
 rw [he] at B1
 generalize sub (pre ++ post) (s - 1) (e - 1) = gone at *
 simp [-Bool.exists_bool, B1.hb, bufO_eq]
 have F1' : Fr (inX X) σ σ1 := F1.up gtc_inX
 by_cases q : s < point
 ·rw [if_pos q]
  have := h _ gone (B1.bSet (outP s e point) (zv - (e - s)) tk ctk) (F1'.set (.inl rfl))
  rw [bufO_eq, show ((outP s e point : Nat) : Int) = max (s : Int) (point - (e - s)) by unfold outP; rw [if_pos q]; omega, show ((zv - (e - s) : Nat) : Int) = (zv : Int) - (e - s) by omega] at this
  exact Wk.same this
 ·rw [if_neg q]
  have := h _ gone (B1.bSet (outP s e point) (zv - (e - s)) tk ctk) (F1'.set (.inl rfl))
  rw [bufO_eq, show outP s e point = point by unfold outP; rw [if_neg q], show ((zv - (e - s) : Nat) : Int) = (zv : Int) - (e - s) by omega] at this
  exact Wk.same this
def inP (s n p : Nat) : Nat := if s < p then p + n else p
def s8 (vs : List PV) (σ : Sto) (Q : KV) : Prop := ∃ X text point zv tk ctk ps, ∃ (p : Nat) (cs : List Int), vs = [.obj X.b, .int p, eI cs] ∧ BZ σ X text point zv tk ctk ps ∧ 1 ≤ p ∧ p ≤ text.length + 1 ∧ text.length + cs.length ≤ cap ∧
 ∀ σ', BZ σ' X (text.take (p - 1) ++ cs ++ text.drop (p - 1)) (inP p cs.length point) (zv + cs.length) tk ctk ps → Fr (inX X) σ σ' → Q .none σ'
theorem s8_ap {X : BX} {text : List Int} {point zv : Nat} {tk ctk : Int} {ps : List Nat} {p : Nat} {cs : List Int} (B : BZ σ X text point zv tk ctk ps) (h1 : 1 ≤ p) (h2 : p ≤ text.length + 1) (h3 : text.length + cs.length ≤ cap)
  (h : ∀ σ', BZ σ' X (text.take (p - 1) ++ cs ++ text.drop (p - 1)) (inP p cs.length point) (zv + cs.length) tk ctk ps → Fr (inX X) σ σ' → Q .none σ') : s8 [.obj X.b, .int p, eI cs] σ Q := ⟨X, text, point, zv, tk, ctk, ps, p, cs, rfl, B, h1, h2, h3, h⟩
theorem k8 (h57 : Sx 57 = s57) (h : s8 vs σ Q) : Bd Sx 3 b8 0 vs σ Q := by
 obtain ⟨X, text, point, zv, tk, ctk, ps, p, cs, rfl, B, h1, h2, h3, h⟩ := h
 obtain ⟨pre, gap, post, G, he⟩ := B.hg
 have hl := congrArg List.length he
 rw [List.length_append] at hl
 refine ⟨rfl, ?_⟩
 unfold b8; simp [-Bool.exists_bool, B.hb, bufO_eq, G.ht, gapO_eq, h57]
 rw [show (p : Int) - 1 = ((p - 1 : Nat) : Int) by omega]
 refine s57_ap G (by omega) (by omega) fun σ1 g1 G1 F1 => ?_
 have B1 := B.gFr F1 G1
 rw [he] at B1
 have F1' : Fr (inX X) σ σ1 := F1.up gtc_inX
 have := h _ (B1.bSet (inP p cs.length point) (zv + cs.length) tk ctk) (F1'.set (.inl rfl))
 simp [-Bool.exists_bool, B1.hb, bufO_eq]
 by_cases q : p < point
 ·rw [if_pos q]
  rw [bufO_eq, show ((inP p cs.length point : Nat) : Int) = (point : Int) + cs.length by unfold inP; rw [if_pos q]; omega] at this
  exact Wk.same this
 ·rw [if_neg q]
  rw [bufO_eq, show inP p cs.length point = point by unfold inP; rw [if_neg q]] at this
  exact Wk.same this
def s11 (vs : List PV) (σ : Sto) (Q : KV) : Prop := ∃ X S, ∃ (p : Nat) (cs : List Int) (ipb : Bool), vs = [.obj X.b, .int p, eI cs, .bool false, .bool ipb] ∧ BA σ X S ∧ 1 ≤ p ∧ p ≤ S.text.length + 1 ∧ S.text.length + cs.length ≤ cap ∧
 (cs = [] → Q .none σ) ∧ (cs ≠ [] → ∀ σ', BA σ' X ⟨cutT S.text p p cs, if ipb then p + cs.length else inP p cs.length S.point, S.ps.map (insF p (p + cs.length)), S.tk + 1, S.tk + 1⟩ → Fr (inX X) σ σ' → Q .none σ')
theorem s11_ap {X : BX} {S : St} {p : Nat} {cs : List Int} {ipb : Bool} (B : BA σ X S) (h1 : 1 ≤ p) (h2 : p ≤ S.text.length + 1) (h3 : S.text.length + cs.length ≤ cap) (h4 : cs = [] → Q .none σ)
  (h : cs ≠ [] → ∀ σ', BA σ' X ⟨cutT S.text p p cs, if ipb then p + cs.length else inP p cs.length S.point, S.ps.map (insF p (p + cs.length)), S.tk + 1, S.tk + 1⟩ → Fr (inX X) σ σ' → Q .none σ') : s11 [.obj X.b, .int p, eI cs, .bool false, .bool ipb] σ Q := ⟨X, S, p, cs, ipb, rfl, B, h1, h2, h3, h4, h⟩
theorem cutT_len {text cs : List Int} {s e : Nat} (h1 : 1 ≤ s) (h2 : s ≤ e) (h3 : e ≤ text.length + 1) : (cutT text s e cs).length = text.length + cs.length - (e - s) := by
 unfold cutT
 rw [List.length_append, List.length_append, List.length_take, List.length_drop]; omega
theorem k11 (h2' : Sx 2 = s2) (h3' : Sx 3 = s3) (h4' : Sx 4 = s4) (h5' : Sx 5 = s5) (h6' : Sx 6 = s6) (h8 : Sx 8 = s8) (h10 : Sx 10 = s10) (h74 : Sx 74 = s74) (h : s11 vs σ Q) : Bd Sx 5 b11 0 vs σ Q := by
 obtain ⟨X, S, p, cs, ipb, rfl, B, h1, h2, h3, h4, h⟩ := h
 obtain ⟨text, point, ps, tk, ctk⟩ := S
 dsimp only at *
 replace B : BZ σ X text point (text.length + 1) tk ctk ps := B
 have hcap : cap = 2000000 := rfl
 refine ⟨rfl, ?_⟩
 unfold b11; simp [-Bool.exists_bool, h2']
 refine s2_ap B.hb ?_
 rw [h4']
 refine s4_ap B.hb h1 h1 h2 h2 ?_
 by_cases hc : cs = []
 ·subst hc
  simp [-Bool.exists_bool]
  exact Wk.same (h4 rfl)
 ·have hcl := List.length_pos_iff.mpr hc
  rw [if_neg hc, h3']
  refine s3_ap B (by omega) ?_
  rw [h5']
  refine s5_ap B.hb ?_
  rw [h8]
  refine s8_ap B h1 h2 h3 fun σ1 B1 F1 => ?_
  have hzv : text.length + 1 + cs.length = (cutT text p p cs).length + 1 := by rw [cutT_len h1 (Nat.le_refl _) h2]; omega
  have tail : ∀ (τ : Sto) (pt : Nat), BZ τ X (cutT text p p cs) pt (text.length + 1 + cs.length) tk ctk ps → Fr (inX X) σ τ → pt = (if ipb then p + cs.length else inP p cs.length point) →
    Sx 74 [.obj X.m, .int p, .int ((p : Int) + cs.length), .bool false] τ fun _ σ₁ => Sx 10 [.obj X.b, .int p, .int cs.length, .bool false] σ₁ fun _ σ₁ => Sx 6 [.obj X.b, .int p, .int ((p : Int) + cs.length), .int 0] σ₁ fun _ σ₁ => Wk .none σ₁ Q := fun τ pt B1 F1 hp => by
   rw [h74, ← Int.natCast_add]
   refine s74_ap B1.hm (by omega) fun σ2 M2 F2 => ?_
   have B2 := B1.mFr F2 M2
   rw [h10]
   refine s10_ap B2.hb ?_
   rw [h6']
   refine s6_ap B2.hb ?_
   have B3 := B2.bSet pt (text.length + 1 + cs.length) (tk + 1) (tk + 1)
   subst hp
   refine Wk.same (h hc _ ?_ ((F1.trans (F2.up ms_inX)).set (.inl rfl)))
   show BZ _ X (cutT text p p cs) _ ((cutT text p p cs).length + 1) _ _ _
   rw [← hzv]
   exact B3
  cases ipb with
  | true =>
   rw [if_pos rfl]
   have B2 := B1.bSet (p + cs.length) (text.length + 1 + cs.length) tk ctk
   have ht := tail _ _ B2 (F1.set (.inl rfl)) rfl
   have hmb : X.m ≠ X.b := Ne.symm B.ne.1.2.2.1
   rw [bufO_eq] at ht
   simp [-Bool.exists_bool, B1.hb, bufO_eq, set_ne hmb, B1.hm.hm]
   simpa using ht
  | false =>
   simp [-Bool.exists_bool, B1.hb, bufO_eq, B1.hm.hm]
   exact tail _ _ B1 F1 rfl
theorem movF_ins {p n q : Nat} : insF p (p + n) q = movF p p n q ∧ inP p n q = movF p p n q := by
 unfold insF inP movF
 constructor
 ·split <;> split <;> (try split) <;> omega
 ·split <;> split <;> (try split) <;> omega
theorem movF_del {s e q : Nat} (h : s < e) (h1 : 1 ≤ s) : delF s e q = movF s e 0 q ∧ outP s e q = movF s e 0 q := by
 unfold delF outP movF
 constructor
 ·split <;> (try split) <;> (try split) <;> (try split) <;> omega
 ·split <;> (try split) <;> (try split) <;> omega
theorem movF_rep {s e n q : Nat} (h : s < e) (h1 : 1 ≤ s) : repF s e n q = movF s e n q ∧ (if e ≤ q then q + n - (e - s) else inP s n (outP s e q)) = movF s e n q := by
 unfold repF outP inP movF
 constructor
 ·split <;> (try split) <;> (try split) <;> (try split) <;> omega
 ·by_cases q1 : e ≤ q
  ·rw [if_pos q1, if_neg (by omega), if_pos q1]
  ·rw [if_neg q1]
   by_cases q2 : s < q
   ·rw [if_pos q2, if_neg (by omega), if_neg (by omega), if_neg q1]; omega
   ·rw [if_neg q2, if_neg q2, if_pos (by omega)]
def s12 (vs : List PV) (σ : Sto) (Q : KV) : Prop := ∃ X S, ∃ (p : Nat) (cs : List Int), vs = [.obj X.b, .int p, eI cs, .bool false] ∧ BA σ X S ∧ 1 ≤ p ∧ p ≤ S.text.length + 1 ∧ S.text.length + cs.length ≤ cap ∧ ∀ σ', BA σ' X (repS p p cs S) → Fr (inX X) σ σ' → Q .none σ'
theorem s12_ap {X : BX} {S : St} {p : Nat} {cs : List Int} (B : BA σ X S) (h1 : 1 ≤ p) (h2 : p ≤ S.text.length + 1) (h3 : S.text.length + cs.length ≤ cap) (h : ∀ σ', BA σ' X (repS p p cs S) → Fr (inX X) σ σ' → Q .none σ') : s12 [.obj X.b, .int p, eI cs, .bool false] σ Q := ⟨X, S, p, cs, rfl, B, h1, h2, h3, h⟩
theorem k12 (h11 : Sx 11 = s11) (h : s12 vs σ Q) : Bd Sx 4 b12 0 vs σ Q := by
 obtain ⟨X, S, p, cs, rfl, B, h1, h2, h3, h⟩ := h
 refine ⟨rfl, ?_⟩
 unfold b12; simp [-Bool.exists_bool, h11]
 refine s11_ap B h1 h2 h3 (fun hc => Wk.same (h σ ?_ Fr.refl)) fun hc σ1 B1 F1 => Wk.same (h σ1 ?_ F1)
 ·unfold repS; rw [if_pos ⟨rfl, hc⟩]; exact B
 ·unfold repS; rw [if_neg fun z => hc z.2]
  have e1 : S.ps.map (insF p (p + cs.length)) = S.ps.map (movF p p cs.length) := List.map_congr_left fun q _ => movF_ins.1
  rw [← e1, ← movF_ins.2]
  exact B1
def s13 (vs : List PV) (σ : Sto) (Q : KV) : Prop := ∃ X S, ∃ (cs : List Int), vs = [.obj X.b, eI cs, .bool false] ∧ BA σ X S ∧ 1 ≤ S.point ∧ S.point ≤ S.text.length + 1 ∧ S.text.length + cs.length ≤ cap ∧ cs ≠ [] ∧
 ∀ σ', BA σ' X ⟨cutT S.text S.point S.point cs, S.point + cs.length, S.ps.map (insF S.point (S.point + cs.length)), S.tk + 1, S.tk + 1⟩ → Fr (inX X) σ σ' → Q .none σ'
theorem s13_ap {X : BX} {S : St} {cs : List Int} (B : BA σ X S) (h1 : 1 ≤ S.point) (h2 : S.point ≤ S.text.length + 1) (h3 : S.text.length + cs.length ≤ cap) (h4 : cs ≠ []) (h : ∀ σ', BA σ' X ⟨cutT S.text S.point S.point cs, S.point + cs.length, S.ps.map (insF S.point (S.point + cs.length)), S.tk + 1, S.tk + 1⟩ → Fr (inX X) σ σ' → Q .none σ') : s13 [.obj X.b, eI cs, .bool false] σ Q := ⟨X, S, cs, rfl, B, h1, h2, h3, h4, h⟩
theorem k13 (h11 : Sx 11 = s11) (h : s13 vs σ Q) : Bd Sx 3 b13 0 vs σ Q := by
 obtain ⟨X, S, cs, rfl, B, h1, h2, h3, h4, h⟩ := h
 refine ⟨rfl, ?_⟩
 unfold b13; simp [-Bool.exists_bool, h11, B.hb, bufO_eq]
 exact s11_ap B h1 h2 h3 (fun hc => absurd hc h4) fun hc σ1 B1 F1 => Wk.same (h σ1 B1 F1)
def s14 (vs : List PV) (σ : Sto) (Q : KV) : Prop := ∃ X S, ∃ (s e : Nat), vs = [.obj X.b, .int s, .int e] ∧ BA σ X S ∧ 1 ≤ s ∧ s < e ∧ e ≤ S.text.length + 1 ∧ ∀ σ' gone, BA σ' X (repS s e [] S) → Fr (inX X) σ σ' → Q (eI gone) σ'
theorem s14_ap {X : BX} {S : St} {s e : Nat} (B : BA σ X S) (h1 : 1 ≤ s) (h2 : s < e) (h3 : e ≤ S.text.length + 1) (h : ∀ σ' gone, BA σ' X (repS s e [] S) → Fr (inX X) σ σ' → Q (eI gone) σ') : s14 [.obj X.b, .int s, .int e] σ Q := ⟨X, S, s, e, rfl, B, h1, h2, h3, h⟩
theorem k14 (h2' : Sx 2 = s2) (h4' : Sx 4 = s4) (h5' : Sx 5 = s5) (h6' : Sx 6 = s6) (h7 : Sx 7 = s7) (h9 : Sx 9 = s9) (h75 : Sx 75 = s75) (h : s14 vs σ Q) : Bd Sx 3 b14 3 vs σ Q := by
 obtain ⟨X, S, s, e, rfl, B, h1, h2, h3, h⟩ := h
 obtain ⟨text, point, ps, tk, ctk⟩ := S
 dsimp only at h3 h
 replace B : BZ σ X text point (text.length + 1) tk ctk ps := B
 refine ⟨rfl, ?_⟩
 unfold b14; simp [-Bool.exists_bool, h2']
 refine s2_ap B.hb ?_
 rw [h4']
 refine s4_ap B.hb h1 (by omega) (by omega) h3 ?_
 rw [show min s e = s by omega, show max s e = e by omega]
 simp [-Bool.exists_bool]
 rw [if_neg (by omega), h5']
 refine s5_ap B.hb ?_
 rw [h7]
 refine s7_ap B h1 (by omega) h3 h3 fun σ1 gone B1 F1 => ?_
 simp [-Bool.exists_bool, B1.hb, bufO_eq, B1.hm.hm, h75]
 refine s75_ap B1.hm (by omega) fun σ2 M2 F2 => ?_
 have B2 := B1.mFr F2 M2
 rw [h9]
 refine s9_ap B2.hb ?_
 rw [h6']
 refine s6_ap B2.hb ?_
 have B3 := B2.bSet (outP s e point) (text.length + 1 - (e - s)) (tk + 1) (tk + 1)
 refine Wk.same (h _ gone ?_ ((F1.trans (F2.up ms_inX)).set (.inl rfl)))
 unfold repS
 rw [if_neg (by omega)]
 have e1 : ps.map (delF s e) = ps.map (movF s e 0) := List.map_congr_left fun q _ => (movF_del h2 h1).1
 have e2 := (movF_del (q := point) h2 h1).2
 have e3 : cutT text s e [] = text.take (s - 1) ++ text.drop (e - 1) := by unfold cutT; rw [List.append_nil]
 have e4 := cutT_len (cs := []) h1 (Nat.le_of_lt h2) h3
 show BZ _ X (cutT text s e []) (movF s e 0 point) ((cutT text s e []).length + 1) _ _ (ps.map (movF s e 0))
 rw [show (cutT text s e []).length + 1 = text.length + 1 - (e - s) by rw [e4, List.length_nil]; omega, e3, ← e2, ← e1]
 exact B3
def s15 (vs : List PV) (σ : Sto) (Q : KV) : Prop := ∃ X S, ∃ (s e : Nat) (cs : List Int), vs = [.obj X.b, .int s, .int e, eI cs, .none] ∧ BA σ X S ∧ 1 ≤ s ∧ s ≤ e ∧ e ≤ S.text.length + 1 ∧ S.text.length + cs.length ≤ cap ∧ ∀ σ' v, BA σ' X (repS s e cs S) → Fr (inX X) σ σ' → Q v σ'
theorem s15_ap {X : BX} {S : St} {s e : Nat} {cs : List Int} (B : BA σ X S) (h1 : 1 ≤ s) (h2 : s ≤ e) (h3 : e ≤ S.text.length + 1) (h4 : S.text.length + cs.length ≤ cap) (h : ∀ σ' v, BA σ' X (repS s e cs S) → Fr (inX X) σ σ' → Q v σ') : s15 [.obj X.b, .int s, .int e, eI cs, .none] σ Q := ⟨X, S, s, e, cs, rfl, B, h1, h2, h3, h4, h⟩
theorem k15 (h2' : Sx 2 = s2) (h3' : Sx 3 = s3) (h4' : Sx 4 = s4) (h5' : Sx 5 = s5) (h6' : Sx 6 = s6) (h7 : Sx 7 = s7) (h8 : Sx 8 = s8) (h9 : Sx 9 = s9) (h10 : Sx 10 = s10) (h12 : Sx 12 = s12) (h14 : Sx 14 = s14) (h76 : Sx 76 = s76) (h : s15 vs σ Q) : Bd Sx 5 b15 4 vs σ Q := by
 obtain ⟨X, S, s, e, cs, rfl, B, h1, h2, h3, h4, h⟩ := h
 have hcap : cap = 2000000 := rfl
 refine ⟨rfl, ?_⟩
 unfold b15; simp [-Bool.exists_bool, h2']
 refine s2_ap B.hb ?_
 rw [h4']
 refine s4_ap B.hb h1 (by omega) (by omega) h3 ?_
 rw [show min s e = s by omega, show max s e = e by omega]
 simp [-Bool.exists_bool]
 by_cases hse : s = e
 ·subst hse
  rw [if_pos rfl, h12]
  refine s12_ap B h1 h3 h4 fun σ1 B1 F1 => ?_
  exact Wk.same (h σ1 _ B1 F1)
 rw [if_neg (by omega)]
 have hlt : s < e := by omega
 by_cases hc : cs = []
 ·subst hc
  rw [if_pos rfl, h14]
  refine s14_ap B h1 hlt h3 fun σ1 gone B1 F1 => ?_
  exact Wk.same (h σ1 _ B1 F1)
 rw [if_neg hc, h3']
 obtain ⟨text, point, ps, tk, ctk⟩ := S
 dsimp only at h3 h4 h
 replace B : BZ σ X text point (text.length + 1) tk ctk ps := B
 refine s3_ap B (by omega) ?_
 simp [-Bool.exists_bool, B.hb, bufO_eq, h5']
 refine s5_ap B.hb ?_
 rw [h7]
 refine s7_ap B h1 (by omega) h3 h3 fun σ1 gone B1 F1 => ?_
 simp [-Bool.exists_bool, h8]
 have hl1 : (text.take (s - 1) ++ text.drop (e - 1)).length = text.length - (e - s) := by rw [List.length_append, List.length_take, List.length_drop]; omega
 refine s8_ap B1 h1 (by omega) (by omega) fun σ2 B2 F2 => ?_
 have htx : (text.take (s - 1) ++ text.drop (e - 1)).take (s - 1) ++ cs ++ (text.take (s - 1) ++ text.drop (e - 1)).drop (s - 1) = cutT text s e cs := by
  have hls : (text.take (s - 1)).length = s - 1 := by rw [List.length_take]; omega
  unfold cutT
  generalize text.take (s - 1) = A at *
  rw [← hls, take_cat0, drop_cat0]
 rw [htx] at B2
 have hzv : text.length + 1 - (e - s) + cs.length = (cutT text s e cs).length + 1 := by rw [cutT_len h1 h2 h3]; omega
 rw [hzv] at B2
 have tail : ∀ (τ : Sto) (pt : Nat), BZ τ X (cutT text s e cs) pt ((cutT text s e cs).length + 1) tk ctk ps → Fr (inX X) σ τ → pt = movF s e cs.length point →
   Sx 76 [.obj X.m, .int s, .int e, .int cs.length] τ fun _ σ₁ => Sx 10 [.obj X.b, .int e, .int cs.length, .bool true] σ₁ fun _ σ₁ => Sx 9 [.obj X.b, .int s, .int e] σ₁ fun _ σ₁ => Sx 6 [.obj X.b, .int s, .int ((s : Int) + cs.length), .int ((e : Int) - s)] σ₁ fun _ σ₁ => Wk (eL PV.int gone) σ₁ Q := fun τ pt B1 F1 hp => by
  rw [h76]
  refine s76_ap B1.hm h2 fun σ3 M3 F3 => ?_
  have B3 := B1.mFr F3 M3
  rw [h10]
  refine s10_ap B3.hb ?_
  rw [h9]
  refine s9_ap B3.hb ?_
  rw [h6']
  refine s6_ap B3.hb ?_
  have B4 := B3.bSet pt ((cutT text s e cs).length + 1) (tk + 1) (tk + 1)
  refine Wk.same (h _ _ ?_ ((F1.trans (F3.up ms_inX)).set (.inl rfl)))
  unfold repS
  rw [if_neg (by omega)]
  have e1 : ps.map (repF s e cs.length) = ps.map (movF s e cs.length) := List.map_congr_left fun q _ => (movF_rep hlt h1).1
  show BZ _ X (cutT text s e cs) (movF s e cs.length point) ((cutT text s e cs).length + 1) _ _ (ps.map (movF s e cs.length))
  rw [← hp, ← e1]
  exact B4
 have hmv := (movF_rep (n := cs.length) (q := point) hlt h1).2
 generalize (cutT text s e cs).length + 1 = zv at *
 by_cases hp : e ≤ point
 ·rw [if_pos hp] at hmv ⊢
  have B3 := B2.bSet (point + cs.length - (e - s)) zv tk ctk
  have ht := tail _ _ B3 ((F1.trans F2).set (.inl rfl)) hmv
  have hmb : X.m ≠ X.b := Ne.symm B.ne.1.2.2.1
  rw [bufO_eq, show ((point + cs.length - (e - s) : Nat) : Int) = (point : Int) + cs.length - (e - s) by omega] at ht
  simp [-Bool.exists_bool, B2.hb, bufO_eq, set_ne hmb, B2.hm.hm]
  exact ht
 ·rw [if_neg hp] at hmv ⊢
  simp [-Bool.exists_bool, B2.hb, bufO_eq, B2.hm.hm]
  exact tail _ _ B2 (F1.trans F2) hmv
end
end Mine
end
section
namespace Mine
section
variable {Sx : Spec} {σ : Sto} {Q : KV} {vs : List PV}
@[simp] theorem g11' : theT.glob 11 = .int 10 := rfl
theorem lineStart_bd {t : List Int} {p : Nat} (h : 1 ≤ p) : 1 ≤ lineStart t p ∧ lineStart t p ≤ p := by
 unfold lineStart
 have := (List.takeWhile_sublist (l := (t.take (p - 1)).reverse) (· != 10)).length_le
 rw [List.length_reverse, List.length_take] at this
 omega
theorem lineEnd_bd {t : List Int} {p : Nat} (h : 1 ≤ p) (h2 : p ≤ t.length + 1) : p ≤ lineEnd t p ∧ lineEnd t p ≤ t.length + 1 := by
 unfold lineEnd
 have := (List.takeWhile_sublist (l := t.drop (p - 1)) (· != 10)).length_le
 rw [List.length_drop] at this
 omega
def s40 (vs : List PV) (σ : Sto) (Q : KV) : Prop := ∃ X S, ∃ (p : Nat), vs = [.obj X.b, .int p] ∧ BA σ X S ∧ 1 ≤ p ∧ p ≤ S.text.length + 1 ∧ Q (.int (lineStart S.text p : Nat)) σ
theorem s40_ap {X : BX} {S : St} {p : Nat} (B : BA σ X S) (h1 : 1 ≤ p) (h2 : p ≤ S.text.length + 1) (h : Q (.int (lineStart S.text p : Nat)) σ) : s40 [.obj X.b, .int p] σ Q := ⟨X, S, p, rfl, B, h1, h2, h⟩
theorem k40 (h80 : Sx 80 = s80) (h83 : Sx 83 = s83) (h : s40 vs σ Q) : Bd Sx 2 b40 1 vs σ Q := by
 obtain ⟨X, S, p, rfl, B, h1, h2, h⟩ := h
 obtain ⟨t, point, ps, tk, ctk⟩ := S
 dsimp only at h2 h
 replace B : BZ σ X t point (t.length + 1) tk ctk ps := B
 refine ⟨rfl, ?_⟩
 have hrl : (t.take (p - 1)).reverse.length = p - 1 := by rw [List.length_reverse, List.length_take]; omega
 unfold b40; simp [-Bool.exists_bool]
 rw [exec_while]
 refine scan_up (σ := σ) 0 (p - 1) (pk (t.take (p - 1)).reverse (· != 10)) (fun k => [.obj X.b, .int p, .int ((p : Int) - k)]) (by simp) (fun k hk => pk_out (by omega)) (fun k R _ hR => ?_) (fun k R _ hk hR => ?_) (fun m _ m1 m2 => ?_)
 ·simp [-Bool.exists_bool, B.hb, bufO_eq, h80, h83]
  refine s80_ap B.hb ?_
  simp [-Bool.exists_bool]
  by_cases q : k < p - 1
  ·rw [if_pos (by omega), show (p : Int) - k - 1 = ((p - k - 1 : Nat) : Int) by omega]
   have hg : t[p - k - 1 - 1]? = some (t[p - k - 1 - 1]'(by omega)) := List.getElem?_eq_getElem (by omega)
   simp [-Bool.exists_bool, -Int.natCast_add, B.hb, bufO_eq, h83]
   refine s83_ap B (by omega) hg ?_
   have e : pk (t.take (p - 1)).reverse (· != 10) k = (t[p - k - 1 - 1]'(by omega) != 10) := by
    unfold pk
    rw [List.getElem?_reverse (by rw [List.length_take]; omega), List.length_take, List.getElem?_take, if_pos (by omega), show min (p - 1) t.length - 1 - k = p - k - 1 - 1 by omega, hg]
   rw [e] at hR
   generalize t[p - k - 1 - 1]'(by omega) = x at *
   exact ⟨x != 10, by simp [bne], hR⟩
  ·rw [if_neg (by omega)]
   rw [pk_out (by omega)] at hR; exact hR
 ·simp [-Bool.exists_bool]
  rw [show (p : Int) - k - 1 = p - ((k + 1 : Nat) : Int) by omega]; exact hR
 ·simp [-Bool.exists_bool]
  have e := (scan_pk0 _ m (fun j hj => m1 j (by omega) hj) m2).1
  have hm : m ≤ p - 1 := by
   rcases Nat.eq_zero_or_pos m with z | z
   ·omega
   ·have := pk_lt (m1 (m - 1) (by omega) (by omega)); omega
  have : lineStart t p = p - m := by unfold lineStart; rw [e, List.length_take]; omega
  rw [this, show ((p - m : Nat) : Int) = (p : Int) - m by omega] at h
  exact Wk.same h
def s41 (vs : List PV) (σ : Sto) (Q : KV) : Prop := ∃ X S, ∃ (p : Nat), vs = [.obj X.b, .int p] ∧ BA σ X S ∧ 1 ≤ p ∧ p ≤ S.text.length + 1 ∧ Q (.int (lineEnd S.text p : Nat)) σ
theorem s41_ap {X : BX} {S : St} {p : Nat} (B : BA σ X S) (h1 : 1 ≤ p) (h2 : p ≤ S.text.length + 1) (h : Q (.int (lineEnd S.text p : Nat)) σ) : s41 [.obj X.b, .int p] σ Q := ⟨X, S, p, rfl, B, h1, h2, h⟩
theorem k41 (h81 : Sx 81 = s81) (h83 : Sx 83 = s83) (h : s41 vs σ Q) : Bd Sx 2 b41 1 vs σ Q := by
 obtain ⟨X, S, p, rfl, B, h1, h2, h⟩ := h
 obtain ⟨t, point, ps, tk, ctk⟩ := S
 dsimp only at h2 h
 replace B : BZ σ X t point (t.length + 1) tk ctk ps := B
 refine ⟨rfl, ?_⟩
 have hrl : (t.drop (p - 1)).length = t.length - (p - 1) := List.length_drop
 unfold b41; simp [-Bool.exists_bool]
 rw [exec_while]
 refine scan_up (σ := σ) 0 (t.length - (p - 1)) (pk (t.drop (p - 1)) (· != 10)) (fun k => [.obj X.b, .int p, .int ((p + k : Nat) : Int)]) (by simp) (fun k hk => pk_out (by omega)) (fun k R _ hR => ?_) (fun k R _ hk hR => ?_) (fun m _ m1 m2 => ?_)
 ·simp [-Bool.exists_bool, -Int.natCast_add, B.hb, bufO_eq, h81, h83]
  refine s81_ap B.hb ?_
  simp [-Bool.exists_bool, -Int.natCast_add]
  by_cases q : k < t.length - (p - 1)
  ·rw [if_pos (by omega)]
   have hg : t[p + k - 1]? = some (t[p + k - 1]'(by omega)) := List.getElem?_eq_getElem (by omega)
   simp [-Bool.exists_bool, -Int.natCast_add, B.hb, bufO_eq, h83]
   refine s83_ap B (by omega) hg ?_
   have e : pk (t.drop (p - 1)) (· != 10) k = (t[p + k - 1]'(by omega) != 10) := by
    unfold pk
    rw [List.getElem?_drop, show p - 1 + k = p + k - 1 by omega, hg]
   rw [e] at hR
   generalize t[p + k - 1]'(by omega) = x at *
   exact ⟨x != 10, by simp [bne], hR⟩
  ·rw [if_neg (by omega)]
   rw [pk_out (by omega)] at hR; exact hR
 ·simp [-Bool.exists_bool, -Int.natCast_add]
  rw [show ((p + k : Nat) : Int) + 1 = ((p + (k + 1) : Nat) : Int) by omega]; exact hR
 ·simp [-Bool.exists_bool, -Int.natCast_add]
  have e := (scan_pk0 _ m (fun j hj => m1 j (by omega) hj) m2).1
  have hm : m ≤ t.length - (p - 1) := by
   rcases Nat.eq_zero_or_pos m with z | z
   ·omega
   ·have := pk_lt (m1 (m - 1) (by omega) (by omega)); omega
  have : lineEnd t p = p + m := by unfold lineEnd; rw [e, List.length_take]; omega
  rw [this] at h
  exact Wk.same h
def s48 (vs : List PV) (σ : Sto) (Q : KV) : Prop := ∃ X S, ∃ (p f : Nat) (col : Int) (way : Nat) (L : List Int), vs = [.obj X.b, .int p, .obj f] ∧ BA σ X S ∧ σ f = some (fillO col way L) ∧ 1 ≤ p ∧ p ≤ S.text.length + 1 ∧ Q (.bool (isPart L (rowAt S.text p))) σ
theorem s48_ap {X : BX} {S : St} {p f : Nat} {col : Int} {way : Nat} {L : List Int} (B : BA σ X S) (h0 : σ f = some (fillO col way L)) (h1 : 1 ≤ p) (h2 : p ≤ S.text.length + 1) (h : Q (.bool (isPart L (rowAt S.text p))) σ) : s48 [.obj X.b, .int p, .obj f] σ Q := ⟨X, S, p, f, col, way, L, rfl, B, h0, h1, h2, h⟩
theorem k48 (h34 : Sx 34 = s34) (h40 : Sx 40 = s40) (h41 : Sx 41 = s41) (h84 : Sx 84 = s84) (h : s48 vs σ Q) : Bd Sx 3 b48 1 vs σ Q := by
 obtain ⟨X, S, p, f, col, way, L, rfl, B, h0, h1, h2, h⟩ := h
 refine ⟨rfl, ?_⟩
 have l1 := lineStart_bd (t := S.text) h1
 have l2 := lineEnd_bd h1 h2
 unfold b48; simp [-Bool.exists_bool, B.hb, bufO_eq, h40]
 refine s40_ap B h1 h2 ?_
 rw [h41]
 refine s41_ap B h1 h2 ?_
 rw [h84]
 refine s84_ap B l1.1 (by omega) l2.2 ?_
 simp [-Bool.exists_bool, h34]
 refine s34_ap h0 ?_
 simp [-Bool.exists_bool]
 refine Wk.same ?_
 have e : isPart L (rowAt S.text p) = (((leadOf L (sub S.text (lineStart S.text p - 1) (lineEnd S.text p - 1))).length : Int) == ((sub S.text (lineStart S.text p - 1) (lineEnd S.text p - 1)).length : Int)) := by
  unfold isPart rowAt
  generalize (leadOf L _).length = a
  generalize (sub S.text _ _).length = b
  by_cases q : a = b
  ·subst q; simp
  ·rw [beq_eq_false_iff_ne.mpr q, beq_eq_false_iff_ne.mpr (by omega)]
 rw [e] at h
 exact h
end
def EdOk (n : Nat) : Nat → List (Nat × Nat × List Int) → Prop
 | lo, [] => lo ≤ n
 | lo, e :: r => lo ≤ e.1 ∧ e.1 ≤ e.2.1 ∧ EdOk n e.2.1 r
def ownSz (es : List (Nat × Nat × List Int)) : Nat := (es.map fun e => e.2.2.length).sum
theorem EdOk.up {n lo lo' : Nat} (h : lo' ≤ lo) : ∀ {es : List (Nat × Nat × List Int)}, EdOk n lo es → EdOk n lo' es
 | [], h1 => Nat.le_trans h h1
 | _ :: _, ⟨h1, h2⟩ => ⟨Nat.le_trans h h1, h2⟩
theorem EdOk.le {n : Nat} : ∀ {lo : Nat} {es : List (Nat × Nat × List Int)}, EdOk n lo es → lo ≤ n
 | _, [], h => h
 | _, _ :: _, ⟨h1, h2, h3⟩ => Nat.le_trans h1 (Nat.le_trans h2 h3.le)
theorem comSt_len2 : ∀ (a b : List Int), (comSt a b).length ≤ b.length
 | [], b => by simp [comSt]
 | x :: a, [] => by simp [comSt]
 | x :: a, y :: b => by unfold comSt; split <;> simp [comSt_len2 a b]
theorem narrow_ok {s e : Nat} {old own : List Int} (h : s ≤ e) (h2 : e ≤ old.length) : s ≤ (narrow s e old own).1 ∧ (narrow s e old own).1 ≤ (narrow s e old own).2.1 ∧ (narrow s e old own).2.1 ≤ e ∧ (narrow s e old own).2.2.length ≤ own.length := by
 unfold narrow
 dsimp only
 have h1 := comSt_len (sub old s e) own
 rw [sub_len h2] at h1
 have h3 := comSt_len ((sub old s e).drop (comSt (sub old s e) own).length).reverse (own.drop (comSt (sub old s e) own).length).reverse
 rw [List.length_reverse, List.length_drop, sub_len h2] at h3
 generalize (comSt (sub old s e) own).length = a at *
 generalize (comSt ((sub old s e).drop a).reverse (own.drop a).reverse).length = b at *
 refine ⟨by omega, by omega, by omega, ?_⟩
 unfold sub
 rw [List.length_drop, List.length_take]; omega
theorem editsF_ok {old new : List Int} : ∀ (ks : List ((Nat × Nat) × (Nat × Nat))) (n m : Nat), Chn old new n m ks → EdOk old.length n (editsF old new n m ks) ∧ ownSz (editsF old new n m ks) + m ≤ new.length
 | [], n, m, ⟨h1, h2⟩ => ⟨h1, by simp [editsF, ownSz]; exact h2⟩
 | k :: ks, n, m, ⟨h1, h2, h3, h4, h5, h6⟩ => by
  obtain ⟨i1, i2⟩ := editsF_ok ks _ _ h6
  have hle := h6.le
  rw [editsF_cons]
  split
  ·exact ⟨i1.up (by omega), by rw [List.nil_append]; omega⟩
  ·obtain ⟨a1, a2, a3, a4⟩ := narrow_ok (own := sub new m k.2.1) h1 (show k.1.1 ≤ old.length by omega)
   rw [sub_len (by omega)] at a4
   refine ⟨⟨a1, a2, i1.up (by omega)⟩, ?_⟩
   unfold ownSz at *
   simp only [List.singleton_append, List.map_cons, List.sum_cons]
   omega
theorem edits_ok (old new : List Int) : EdOk old.length 0 (editsOf old new) ∧ ownSz (editsOf old new) ≤ new.length := by
 have := editsF_ok _ _ _ (kept_chn old new).snoc
 unfold editsOf
 omega
theorem EdOk.drop {n : Nat} : ∀ {lo : Nat} {es : List (Nat × Nat × List Int)}, EdOk n lo es → ∀ k, ∃ lo', EdOk n lo' (es.drop k)
 | lo, es, h, 0 => ⟨lo, h⟩
 | lo, [], h, k + 1 => ⟨lo, h⟩
 | _, _ :: _, ⟨_, _, h⟩, k + 1 => h.drop k
theorem ownSz_drop (es : List (Nat × Nat × List Int)) (k : Nat) : ownSz (es.drop k) ≤ ownSz es := by
 have : ownSz es = ownSz (es.take k) + ownSz (es.drop k) := by unfold ownSz; rw [← List.sum_append, ← List.map_append, List.take_append_drop]
 omega
def runE (s : Nat) (es : List (Nat × Nat × List Int)) (S : St) : St := es.foldr (fun e S => repS (s + e.1) (s + e.2.1) e.2.2 S) S
theorem repS_len {s e : Nat} {cs : List Int} {S : St} (h1 : 1 ≤ s) (h2 : s ≤ e) (h3 : e ≤ S.text.length + 1) : (repS s e cs S).text.length = S.text.length + cs.length - (e - s) := by
 unfold repS
 split
 ·rename_i h; obtain ⟨rfl, rfl⟩ := h; simp
 ·exact cutT_len h1 h2 h3
theorem runE_len {s n : Nat} {S : St} (h1 : 1 ≤ s) (hS : s - 1 + n ≤ S.text.length) : ∀ (es : List (Nat × Nat × List Int)) (lo : Nat), EdOk n lo es → s - 1 + lo ≤ (runE s es S).text.length ∧ (runE s es S).text.length ≤ S.text.length + ownSz es
 | [], lo, h => ⟨by show _ ≤ S.text.length; have : lo ≤ n := h; omega, by show S.text.length ≤ _; simp [ownSz]⟩
 | e :: es, lo, ⟨a1, a2, a3⟩ => by
  obtain ⟨i1, i2⟩ := runE_len h1 hS es _ a3
  show _ ≤ (repS (s + e.1) (s + e.2.1) e.2.2 (runE s es S)).text.length ∧ (repS (s + e.1) (s + e.2.1) e.2.2 (runE s es S)).text.length ≤ _
  rw [repS_len (by omega) (by omega) (by omega)]
  have : ownSz (e :: es) = e.2.2.length + ownSz es := by simp [ownSz]
  omega
section
variable {Sx : Spec} {σ : Sto} {Q : KV} {vs : List PV}
def s46 (vs : List PV) (σ : Sto) (Q : KV) : Prop := ∃ X S, ∃ (s e : Nat) (cs : List Int), vs = [.obj X.b, .int s, .int e, eI cs] ∧ BA σ X S ∧ 1 ≤ s ∧ s ≤ e ∧ e ≤ S.text.length + 1 ∧ S.text.length + cs.length + cs.length ≤ cap ∧
 ∀ σ', BA σ' X (runE s (editsOf (sub S.text (s - 1) (e - 1)) cs) S) → Fr (inX X) σ σ' → Q (.bool (decide (editsOf (sub S.text (s - 1) (e - 1)) cs ≠ []))) σ'
theorem s46_ap {X : BX} {S : St} {s e : Nat} {cs : List Int} (B : BA σ X S) (h1 : 1 ≤ s) (h2 : s ≤ e) (h3 : e ≤ S.text.length + 1) (h4 : S.text.length + cs.length + cs.length ≤ cap)
  (h : ∀ σ', BA σ' X (runE s (editsOf (sub S.text (s - 1) (e - 1)) cs) S) → Fr (inX X) σ σ' → Q (.bool (decide (editsOf (sub S.text (s - 1) (e - 1)) cs ≠ []))) σ') : s46 [.obj X.b, .int s, .int e, eI cs] σ Q := ⟨X, S, s, e, cs, rfl, B, h1, h2, h3, h4, h⟩
theorem k46 (h15 : Sx 15 = s15) (h45 : Sx 45 = s45) (h84 : Sx 84 = s84) (h : s46 vs σ Q) : Bd Sx 4 b46 4 vs σ Q := by
 obtain ⟨X, S, s, e, cs, rfl, B, h1, h2, h3, h4, h⟩ := h
 refine ⟨rfl, ?_⟩
 have hcap : cap = 2000000 := rfl
 have hb : big = 16777216 := rfl
 have hsl : (sub S.text (s - 1) (e - 1)).length = e - 1 - (s - 1) := sub_len (by omega)
 obtain ⟨ok1, ok2⟩ := edits_ok (sub S.text (s - 1) (e - 1)) cs
 rw [hsl] at ok1
 unfold b46; simp [-Bool.exists_bool, B.hb, bufO_eq, h84]
 refine s84_ap B h1 h2 h3 ?_
 rw [h45]
 refine s45_ap (by omega) (by omega) ?_
 generalize editsOf (sub S.text (s - 1) (e - 1)) cs = es at *
 rw [exec_for]
 simp [-Bool.exists_bool, h15]
 rw [← List.map_reverse]
 refine for_inv (fun k loc τ => ∃ x y z, loc = [.obj X.b, .int s, .int e, eI cs, eL eE es, x, y, z] ∧ BA τ X (runE s (es.drop (es.length - k)) S) ∧ Fr (inX X) σ τ) (fun _ _ _ _ => trivial) _ 0 _ _ ⟨.undef, .undef, .undef, rfl, by rw [List.drop_eq_nil_of_le (by omega)]; exact B, Fr.refl⟩ ?_ ?_
 ·rintro k x hx loc τ K ⟨x1, y1, z1, rfl, B1, F1⟩ hK1 hK2
  rw [Nat.zero_add] at hK2 B1
  rw [List.getElem?_map] at hx
  obtain ⟨q, hq, rfl⟩ := Option.map_eq_some_iff.mp hx
  have hk : k < es.length := by have := (List.getElem?_eq_some_iff.mp hq).1; rw [List.length_reverse] at this; exact this
  rw [List.getElem?_reverse hk] at hq
  obtain ⟨hlt, rfl⟩ := List.getElem?_eq_some_iff.mp hq
  have hd : es.drop (es.length - (k + 1)) = es[es.length - 1 - k] :: es.drop (es.length - k) := by
   rw [show es.length - (k + 1) = es.length - 1 - k by omega, List.drop_eq_getElem_cons hlt, show es.length - 1 - k + 1 = es.length - k by omega]
  obtain ⟨lo, hlo⟩ := ok1.drop (es.length - (k + 1))
  have hszd := ownSz_drop es (es.length - (k + 1))
  rw [hd] at hlo hszd hK2
  generalize es[es.length - 1 - k] = ed at *
  generalize es.drop (es.length - k) = r at *
  obtain ⟨a1, a2, a3⟩ := hlo
  have hrl := runE_len (S := S) (n := e - 1 - (s - 1)) h1 (by omega) r _ a3
  have hle := a3.le
  have hsz : ownSz (ed :: r) = ed.2.2.length + ownSz r := by simp [ownSz]
  simp [-Bool.exists_bool, eE, eN]
  rw [← Int.natCast_add, ← Int.natCast_add]
  refine s15_ap B1 (by omega) (by omega) (by omega) (by omega) fun σ2 v B2 F2 => ?_
  exact hK2 _ _ ⟨_, _, _, rfl, B2, F1.trans F2⟩
 ·rintro loc τ ⟨x1, y1, z1, rfl, B1, F1⟩
  rw [Nat.zero_add, List.length_map, List.length_reverse, Nat.sub_self, List.drop_zero] at B1
  simp [-Bool.exists_bool]
  have := h τ B1 F1
  have e : decide (es ≠ []) = decide (0 < es.length) := by
   cases es <;> simp
  rw [e] at this
  exact Wk.same this
end
def oldF (S : St) (lo hi : Nat) : List Int := sub S.text (lineStart S.text lo - 1) (hi - 1)
def fillE (col : Int) (way : Nat) (L : List Int) (lo hi : Nat) (S : St) : List (Nat × Nat × List Int) := editsOf (oldF S lo hi) (filledT col way L (oldF S lo hi))
def fillR (col : Int) (way : Nat) (L : List Int) (lo hi : Nat) (S : St) : St := runE (lineStart S.text lo) (fillE col way L lo hi S) S
def skipF (L t : List Int) : Nat → Nat → Nat
 | 0, p => p
 | n + 1, p => if p < t.length + 1 ∧ isPart L (rowAt t p) = true then skipF L t n (lineEnd t p + 1) else p
def upF (L t : List Int) : Nat → Nat → Nat
 | 0, p => p
 | n + 1, p => if 1 < p ∧ isPart L (rowAt t (p - 1)) = false then upF L t n (lineStart t (p - 1)) else p
def downF (L t : List Int) : Nat → Nat → Nat
 | 0, p => p
 | n + 1, p => if p < t.length + 1 ∧ isPart L (rowAt t (p + 1)) = false then downF L t n (lineEnd t (p + 1)) else p
def topP (L t : List Int) (p : Nat) : Nat := skipF L t (t.length + 2) (lineStart t p)
def parA (L t : List Int) (p : Nat) : Nat × Nat :=
 if t.length + 1 ≤ topP L t p ∨ isPart L (rowAt t (topP L t p)) = true then (p, p) else (upF L t (t.length + 2) (topP L t p), downF L t (t.length + 2) (lineEnd t (topP L t p)))
theorem skipF_bd {L t : List Int} : ∀ (n p : Nat), 1 ≤ p → p ≤ skipF L t n p
 | 0, p, _ => Nat.le_refl _
 | n + 1, p, h => by
  unfold skipF
  split
  ·rename_i q
   have := lineEnd_bd h (by omega : p ≤ t.length + 1)
   have := skipF_bd (L := L) (t := t) n (lineEnd t p + 1) (by omega)
   omega
  ·exact Nat.le_refl _
theorem upF_bd {L t : List Int} : ∀ (n p : Nat), 1 ≤ p → 1 ≤ upF L t n p ∧ upF L t n p ≤ p
 | 0, p, h => ⟨h, Nat.le_refl _⟩
 | n + 1, p, h => by
  unfold upF
  split
  ·rename_i q
   have := lineStart_bd (t := t) (p := p - 1) (by omega)
   have := upF_bd (L := L) (t := t) n (lineStart t (p - 1)) (by omega)
   omega
  ·exact ⟨h, Nat.le_refl _⟩
theorem downF_bd {L t : List Int} : ∀ (n p : Nat), p ≤ t.length + 1 → p ≤ downF L t n p ∧ downF L t n p ≤ t.length + 1
 | 0, p, h => ⟨Nat.le_refl _, h⟩
 | n + 1, p, h => by
  unfold downF
  split
  ·rename_i q
   have := lineEnd_bd (t := t) (p := p + 1) (by omega) (by omega)
   have := downF_bd (L := L) (t := t) n (lineEnd t (p + 1)) (by omega)
   omega
  ·exact ⟨Nat.le_refl _, h⟩
section
variable {Sx : Spec} {σ : Sto} {Q : KV} {vs : List PV}
def s47 (vs : List PV) (σ : Sto) (Q : KV) : Prop := ∃ X S, ∃ (s e f : Nat) (col : Int) (way : Nat) (L : List Int), vs = [.obj X.b, .int s, .int e, .obj f] ∧ BA σ X S ∧ σ f = some (fillO col way L) ∧ 1 ≤ s ∧ 1 ≤ e ∧ s ≤ S.text.length + 1 ∧ e ≤ S.text.length + 1 ∧ 0 ≤ col ∧ col ≤ 20 ∧
 S.text.length ≤ 4000 ∧ (filledT col way L (oldF S (min s e) (max s e))).length ≤ 900000 ∧
 ∀ σ', BA σ' X (fillR col way L (min s e) (max s e) S) → Fr (inX X) σ σ' → Q (.bool (decide (fillE col way L (min s e) (max s e) S ≠ []))) σ'
theorem s47_ap {X : BX} {S : St} {s e f : Nat} {col : Int} {way : Nat} {L : List Int} (B : BA σ X S) (h0 : σ f = some (fillO col way L)) (h1 : 1 ≤ s) (h2 : 1 ≤ e) (h3 : s ≤ S.text.length + 1) (h4 : e ≤ S.text.length + 1) (h5 : 0 ≤ col) (h6 : col ≤ 20) (h7 : S.text.length ≤ 4000)
  (h8 : (filledT col way L (oldF S (min s e) (max s e))).length ≤ 900000) (h : ∀ σ', BA σ' X (fillR col way L (min s e) (max s e) S) → Fr (inX X) σ σ' → Q (.bool (decide (fillE col way L (min s e) (max s e) S ≠ []))) σ') :
  s47 [.obj X.b, .int s, .int e, .obj f] σ Q := ⟨X, S, s, e, f, col, way, L, rfl, B, h0, h1, h2, h3, h4, h5, h6, h7, h8, h⟩
theorem k47 (h4' : Sx 4 = s4) (h39 : Sx 39 = s39) (h40 : Sx 40 = s40) (h46 : Sx 46 = s46) (h84 : Sx 84 = s84) (h : s47 vs σ Q) : Bd Sx 4 b47 2 vs σ Q := by
 obtain ⟨X, S, s, e, f, col, way, L, rfl, B, h0, h1, h2, h3, h4, h5, h6, h7, h8, h⟩ := h
 refine ⟨rfl, ?_⟩
 have hcap : cap = 2000000 := rfl
 have l1 := lineStart_bd (t := S.text) (p := min s e) (by omega)
 unfold b47; simp [-Bool.exists_bool, h4']
 refine s4_ap B.hb h1 h2 h3 h4 ?_
 generalize hlo : min s e = lo at *
 generalize hhi : max s e = hi at *
 simp [-Bool.exists_bool, h40]
 refine s40_ap B (by omega) (by omega) ?_
 simp [-Bool.exists_bool, B.hb, bufO_eq, h84]
 refine s84_ap B l1.1 (by omega) (by omega) ?_
 rw [h39]
 have hol : (oldF S lo hi).length ≤ 4000 := by unfold oldF; rw [sub_len (by omega)]; omega
 refine s39_ap h0 hol h5 h6 ?_
 rw [h46]
 refine s46_ap B l1.1 (by omega) (by omega) ?_ fun σ1 B1 F1 => ?_
 ·show _ + (filledT col way L (oldF S lo hi)).length + (filledT col way L (oldF S lo hi)).length ≤ cap
  omega
 ·exact Wk.same (h σ1 B1 F1)
def s49 (vs : List PV) (σ : Sto) (Q : KV) : Prop := ∃ X S, ∃ (p f : Nat) (col : Int) (way : Nat) (L : List Int), vs = [.obj X.b, .int p, .obj f] ∧ BA σ X S ∧ σ f = some (fillO col way L) ∧ 1 ≤ p ∧ p ≤ S.text.length + 1 ∧ Q (.tup [.int (parA L S.text p).1, .int (parA L S.text p).2]) σ
theorem s49_ap {X : BX} {S : St} {p f : Nat} {col : Int} {way : Nat} {L : List Int} (B : BA σ X S) (h0 : σ f = some (fillO col way L)) (h1 : 1 ≤ p) (h2 : p ≤ S.text.length + 1) (h : Q (.tup [.int (parA L S.text p).1, .int (parA L S.text p).2]) σ) : s49 [.obj X.b, .int p, .obj f] σ Q := ⟨X, S, p, f, col, way, L, rfl, B, h0, h1, h2, h⟩
theorem k49 (h40 : Sx 40 = s40) (h41 : Sx 41 = s41) (h48 : Sx 48 = s48) (h : s49 vs σ Q) : Bd Sx 3 b49 3 vs σ Q := by
 obtain ⟨X, S, p, f, col, way, L, rfl, B, h0, h1, h2, h⟩ := h
 obtain ⟨t, point, ps, tk, ctk⟩ := S
 dsimp only at h2 h
 have BB := B
 replace B : BZ σ X t point (t.length + 1) tk ctk ps := B
 refine ⟨rfl, ?_⟩
 have l1 := lineStart_bd (t := t) h1
 unfold b49; simp [-Bool.exists_bool, h40]
 refine s40_ap BB h1 h2 ?_
 simp [-Bool.exists_bool]
 rw [exec_while]
 have h2b : 2 ≤ big := by decide
 refine while_K (fun n loc τ => ∃ (q : Nat), n = t.length + 2 - q ∧ 1 ≤ q ∧ loc = [.obj X.b, .int p, .obj f, .int q, .undef, .undef] ∧ τ = σ ∧ ∃ k, t.length + 2 - q ≤ k ∧ skipF L t k q = topP L t p) _ ⟨lineStart t p, rfl, l1.1, rfl, rfl, t.length + 2, by omega, rfl⟩ ?_
 rintro n loc τ R ⟨q, rfl, hq1, rfl, rfl, k, hk, he⟩ hF hT
 have key : ¬(q < t.length + 1 ∧ isPart L (rowAt t q) = true) → R false τ := fun hn => hF (by
  have hq : topP L t p = q := by
   rw [← he]
   cases k with
   | zero => rfl
   | succ k => unfold skipF; rw [if_neg hn]
  unfold parA at h
  rw [hq] at h
  simp [-Bool.exists_bool, B.hb, bufO_eq, h48]
  by_cases hlt : q < t.length + 1
  ·have hp : isPart L (rowAt t q) = false := by
    cases e : isPart L (rowAt t q) with
    | false => rfl
    | true => exact absurd ⟨hlt, e⟩ hn
   rw [if_neg (by rw [hp]; simp; omega)] at h
   rw [if_neg (by omega)]
   refine s48_ap BB h0 hq1 (show q ≤ t.length + 1 by omega) ⟨_, rfl, ?_⟩
   rw [show isPart L (rowAt (St.text ⟨t, point, ps, tk, ctk⟩) q) = false from hp]
   simp [-Bool.exists_bool]
   clear hF hT
   rw [exec_while]
   refine while_K (fun n loc τ' => ∃ (st : Nat), n = st ∧ 1 ≤ st ∧ st ≤ t.length + 1 ∧ loc = [.obj X.b, .int p, .obj f, .int q, .int st, .undef] ∧ τ' = τ ∧ ∃ k, st ≤ k ∧ upF L t k st = upF L t (t.length + 2) q) _ ⟨q, rfl, hq1, by omega, rfl, rfl, t.length + 2, by omega, rfl⟩ ?_
   rintro st loc τ' R ⟨_, rfl, hs1, hs2, rfl, rfl, k2, hk2, he2⟩ hF hT
   have key2 : ¬(1 < st ∧ isPart L (rowAt t (st - 1)) = false) → R false τ' := fun hn2 => hF (by
    have hst : upF L t (t.length + 2) q = st := by
     rw [← he2]
     cases k2 with
     | zero => rfl
     | succ k => unfold upF; rw [if_neg hn2]
    rw [hst] at h
    simp [-Bool.exists_bool, h41]
    refine s41_ap BB hq1 (show q ≤ t.length + 1 by omega) ?_
    have le := lineEnd_bd hq1 (by omega : q ≤ t.length + 1)
    simp [-Bool.exists_bool]
    clear hF hT
    rw [exec_while]
    refine while_K (fun n loc τ'' => ∃ (en : Nat), n = t.length + 2 - en ∧ 1 ≤ en ∧ en ≤ t.length + 1 ∧ loc = [.obj X.b, .int p, .obj f, .int q, .int st, .int en] ∧ τ'' = τ' ∧ ∃ k, t.length + 2 - en ≤ k ∧ downF L t k en = downF L t (t.length + 2) (lineEnd t q)) _ ⟨lineEnd t q, rfl, by omega, le.2, rfl, rfl, t.length + 2, by omega, rfl⟩ ?_
    rintro n loc τ'' R ⟨en, rfl, hen1, hen2, rfl, rfl, k3, hk3, he3⟩ hF hT
    obtain ⟨k3, rfl⟩ : ∃ k', k3 = k' + 1 := ⟨k3 - 1, by omega⟩
    unfold downF at he3
    have key3 : ¬(en < t.length + 1 ∧ isPart L (rowAt t (en + 1)) = false) → R false τ'' := fun hn3 => hF (by
     rw [if_neg hn3] at he3
     unfold downF at h
     rw [← he3] at h
     simp [-Bool.exists_bool]
     exact ⟨h2b, Wk.same h⟩)
    simp [-Bool.exists_bool, B.hb, bufO_eq, h48]
    by_cases hlt3 : en < t.length + 1
    ·rw [if_pos (by omega), show (en : Int) + 1 = ((en + 1 : Nat) : Int) by omega]
     refine s48_ap BB h0 (by omega) (show en + 1 ≤ t.length + 1 by omega) ?_
     simp [-Bool.exists_bool]
     show R (!isPart L (rowAt t (en + 1))) τ''
     cases hp3 : isPart L (rowAt t (en + 1)) with
     | true => exact key3 (by rw [hp3]; simp)
     | false =>
      rw [if_pos ⟨hlt3, hp3⟩] at he3
      have le3 := lineEnd_bd (t := t) (p := en + 1) (by omega) (by omega)
      refine hT fun K hK1 hK2 => ?_
      simp [-Bool.exists_bool, h40, h41]
      rw [show (en : Int) + 1 = ((en + 1 : Nat) : Int) by omega]
      refine s41_ap BB (by omega) (show en + 1 ≤ t.length + 1 by omega) ?_
      exact hK2 (t.length + 2 - lineEnd t (en + 1)) _ _ (by omega) ⟨lineEnd t (en + 1), rfl, by omega, by omega, rfl, rfl, k3, by omega, he3⟩
    ·rw [if_neg (by omega)]
     exact key3 (fun z => hlt3 z.1))
   simp [-Bool.exists_bool, B.hb, bufO_eq, h48]
   by_cases hlt2 : 1 < st
   ·rw [if_pos (by omega), show (st : Int) - 1 = ((st - 1 : Nat) : Int) by omega]
    refine s48_ap BB h0 (by omega) (show st - 1 ≤ t.length + 1 by omega) ?_
    simp [-Bool.exists_bool]
    show R (!isPart L (rowAt t (st - 1))) τ'
    cases hp2 : isPart L (rowAt t (st - 1)) with
    | true => exact key2 (by rw [hp2]; simp)
    | false =>
     obtain ⟨k2, rfl⟩ : ∃ k', k2 = k' + 1 := ⟨k2 - 1, by omega⟩
     unfold upF at he2
     rw [if_pos ⟨hlt2, hp2⟩] at he2
     have le2 := lineStart_bd (t := t) (p := st - 1) (by omega)
     refine hT fun K hK1 hK2 => ?_
     simp [-Bool.exists_bool, h40]
     rw [show (st : Int) - 1 = ((st - 1 : Nat) : Int) by omega]
     refine s40_ap BB (by omega) (show st - 1 ≤ t.length + 1 by omega) ?_
     exact hK2 (lineStart t (st - 1)) _ _ (by omega) ⟨lineStart t (st - 1), rfl, le2.1, by omega, rfl, rfl, k2, by omega, by rw [he2]; unfold upF; rfl⟩
   ·rw [if_neg (by omega)]
    exact key2 (fun z => hlt2 z.1)
  ·rw [if_pos (.inl (by omega))] at h
   rw [if_pos (by omega)]
   exact ⟨h2b, Wk.same h⟩)
 simp [-Bool.exists_bool, B.hb, bufO_eq, h48]
 by_cases hlt : q < t.length + 1
 ·rw [if_pos (by omega)]
  refine s48_ap BB h0 hq1 (show q ≤ t.length + 1 by omega) ⟨_, rfl, ?_⟩
  obtain ⟨k, rfl⟩ : ∃ k', k = k' + 1 := ⟨k - 1, by omega⟩
  unfold skipF at he
  have le := lineEnd_bd hq1 (by omega : q ≤ t.length + 1)
  show R (isPart L (rowAt t q)) τ
  cases hp : isPart L (rowAt t q) with
  | true =>
   rw [if_pos ⟨hlt, hp⟩] at he
   refine hT fun K hK1 hK2 => ?_
   simp [-Bool.exists_bool, h41]
   refine s41_ap BB hq1 (show q ≤ t.length + 1 by omega) ?_
   simp [-Bool.exists_bool]
   exact hK2 (t.length + 2 - (lineEnd t q + 1)) _ _ (by omega) ⟨lineEnd t q + 1, rfl, by omega, rfl, rfl, k, by omega, he⟩
  | false => exact key (by rw [hp]; simp)
 ·rw [if_neg (by omega)]
  exact key (fun z => hlt z.1)
theorem parA_bd {L t : List Int} {p : Nat} (h1 : 1 ≤ p) (h2 : p ≤ t.length + 1) : 1 ≤ (parA L t p).1 ∧ (parA L t p).1 ≤ (parA L t p).2 ∧ (parA L t p).2 ≤ t.length + 1 := by
 unfold parA
 split
 ·exact ⟨h1, Nat.le_refl _, h2⟩
 ·rename_i q
  have l1 := lineStart_bd (t := t) h1
  have a := skipF_bd (L := L) (t := t) (t.length + 2) (lineStart t p) l1.1
  have a' : lineStart t p ≤ topP L t p := a
  have b := lineEnd_bd (t := t) (p := topP L t p) (by omega) (by omega)
  have c := upF_bd (L := L) (t := t) (t.length + 2) (topP L t p) (by omega)
  have d := downF_bd (L := L) (t := t) (t.length + 2) (lineEnd t (topP L t p)) b.2
  dsimp only
  omega
def s50 (vs : List PV) (σ : Sto) (Q : KV) : Prop := ∃ X S, ∃ (f : Nat) (col : Int) (way : Nat) (L : List Int), vs = [.obj X.b, .obj f] ∧ BA σ X S ∧ σ f = some (fillO col way L) ∧ 1 ≤ S.point ∧ S.point ≤ S.text.length + 1 ∧ 0 ≤ col ∧ col ≤ 20 ∧ S.text.length ≤ 4000 ∧
 ((parA L S.text S.point).1 = (parA L S.text S.point).2 → Q (.bool false) σ) ∧
 ((parA L S.text S.point).1 ≠ (parA L S.text S.point).2 → (filledT col way L (oldF S (parA L S.text S.point).1 (parA L S.text S.point).2)).length ≤ 900000 ∧
  ∀ σ', BA σ' X (fillR col way L (parA L S.text S.point).1 (parA L S.text S.point).2 S) → Fr (inX X) σ σ' → Q (.bool (decide (fillE col way L (parA L S.text S.point).1 (parA L S.text S.point).2 S ≠ []))) σ')
theorem s50_ap {X : BX} {S : St} {f : Nat} {col : Int} {way : Nat} {L : List Int} (B : BA σ X S) (h0 : σ f = some (fillO col way L)) (h1 : 1 ≤ S.point) (h2 : S.point ≤ S.text.length + 1) (h3 : 0 ≤ col) (h4 : col ≤ 20) (h5 : S.text.length ≤ 4000)
  (h6 : (parA L S.text S.point).1 = (parA L S.text S.point).2 → Q (.bool false) σ)
  (h : (parA L S.text S.point).1 ≠ (parA L S.text S.point).2 → (filledT col way L (oldF S (parA L S.text S.point).1 (parA L S.text S.point).2)).length ≤ 900000 ∧
  ∀ σ', BA σ' X (fillR col way L (parA L S.text S.point).1 (parA L S.text S.point).2 S) → Fr (inX X) σ σ' → Q (.bool (decide (fillE col way L (parA L S.text S.point).1 (parA L S.text S.point).2 S ≠ []))) σ') : s50 [.obj X.b, .obj f] σ Q :=
 ⟨X, S, f, col, way, L, rfl, B, h0, h1, h2, h3, h4, h5, h6, h⟩
theorem k50 (h47 : Sx 47 = s47) (h49 : Sx 49 = s49) (h : s50 vs σ Q) : Bd Sx 2 b50 2 vs σ Q := by
 obtain ⟨X, S, f, col, way, L, rfl, B, h0, h1, h2, h3, h4, h5, h6, h⟩ := h
 refine ⟨rfl, ?_⟩
 have bd := parA_bd (L := L) h1 h2
 unfold b50; simp [-Bool.exists_bool, B.hb, bufO_eq, h49]
 refine s49_ap B h0 h1 h2 ?_
 generalize (parA L S.text S.point).1 = lo at *
 generalize (parA L S.text S.point).2 = hi at *
 simp [-Bool.exists_bool]
 by_cases q : lo = hi
 ·rw [if_pos (by omega)]; exact Wk.same (h6 q)
 ·rw [if_neg (by omega), h47]
  obtain ⟨h7, h8⟩ := h q
  have e1 : min lo hi = lo := by omega
  have e2 : max lo hi = hi := by omega
  refine s47_ap B h0 bd.1 (by omega) (by omega) bd.2.2 h3 h4 h5 (by rw [e1, e2]; exact h7) fun σ1 B1 F1 => ?_
  rw [e1, e2] at B1 ⊢
  exact Wk.same (h8 σ1 B1 F1)
end
end Mine
end
section
namespace Mine
section
variable {Sx : Spec} {σ : Sto} {Q : KV} {vs : List PV}
def s51 (vs : List PV) (σ : Sto) (Q : KV) : Prop := ∃ (t : Nat), vs = [.obj t, eI [], .int 8] ∧ σ t = some (.inst 1 []) ∧ ∀ σ' c, σ c = Option.none → GA σ' t c [] (List.replicate 8 0) [] → Fr (gtc t c) σ σ' → Q .none σ'
theorem s51_ap {t : Nat} (h0 : σ t = some (.inst 1 [])) (h : ∀ σ' c, σ c = Option.none → GA σ' t c [] (List.replicate 8 0) [] → Fr (gtc t c) σ σ' → Q .none σ') : s51 [.obj t, eI [], .int 8] σ Q := ⟨t, rfl, h0, h⟩
theorem bin_catT {α : Type} {e : α → PV} {x y : List α} : binA true .add (eL e x) (eL e y) σ Q = alloc true ((x ++ y).map e) σ Q := by
 rw [List.map_append]; rfl
theorem k51 (h : s51 vs σ Q) : Bd Sx 3 b51 0 vs σ Q := by
 obtain ⟨t, rfl, h0, h⟩ := h
 refine ⟨rfl, ?_⟩
 unfold b51; simp [-Bool.exists_bool, h0]
 refine ⟨by decide, by decide, ?_⟩
 show binA true BOp.add (eL PV.int []) (eL PV.int [0, 0, 0, 0, 0, 0, 0, 0]) _ _
 rw [bin_catT, alloc_true]
 refine ⟨by decide, fun c hc => ?_⟩
 have hct : c ≠ t := fun e => by subst e; simp at hc
 have hc0 : σ c = Option.none := by rw [set_ne hct] at hc; exact hc
 simp [-Bool.exists_bool, set_ne (Ne.symm hct)]
 refine Wk.same (h _ c hc0 ⟨?_, ?_, Ne.symm hct, by decide⟩ ?_)
 ·rw [set_self]; rfl
 ·rw [set_ne hct, set_self]; rfl
 ·exact ((Fr.refl.set (.inl rfl)).set (.inr rfl)).set (.inl rfl)
def drawV (deck : List Nat) (m : Nat) : Nat := match deck with
 | [] => 0
 | n :: _ => n % m
theorem drawV_lt {deck : List Nat} {m : Nat} (h : 0 < m) : drawV deck m < m := by
 unfold drawV; split
 ·exact h
 ·exact Nat.mod_lt _ h
def s91 (vs : List PV) (σ : Sto) (Q : KV) : Prop := ∃ (dk m : Nat) (deck : List Nat), vs = [.obj dk, .int m] ∧ 0 < m ∧ σ dk = some (.list (deck.map eN)) ∧ Q (.int (drawV deck m)) (σ.set dk (.list (deck.tail.map eN)))
theorem s91_ap {dk m : Nat} {deck : List Nat} (h0 : 0 < m) (h1 : σ dk = some (.list (deck.map eN))) (h : Q (.int (drawV deck m)) (σ.set dk (.list (deck.tail.map eN)))) : s91 [.obj dk, .int m] σ Q := ⟨dk, m, deck, rfl, h0, h1, h⟩
theorem ivs_eN : ∀ l : List Nat, ivs (l.map eN) = some (l.map Int.ofNat)
 | [] => rfl
 | n :: l => by
  rw [List.map_cons]
  unfold eN
  rw [ivs_cons]
  have := ivs_eN l
  unfold eN at this
  rw [this]; rfl
theorem k91 (h : s91 vs σ Q) : Bd Sx 2 b91 0 vs σ Q := by
 obtain ⟨dk, m, deck, rfl, h0, h1, h⟩ := h
 refine ⟨rfl, ?_⟩
 unfold b91; simp [-Bool.exists_bool]
 have hv : valEq σ (.obj dk) (.list []) = some (!decide (deck ≠ [])) := by
  simp only [valEq, elems, h1, listEq, ivs_eN, ivs_nil]
  cases deck <;> simp
 refine ⟨_, hv, ?_⟩
 cases deck with
 | nil =>
  simp
  have := Wk.same h
  rw [show List.map eN ([] : List Nat).tail = List.map eN [] from rfl, set_same h1] at this
  exact this
 | cons n deck =>
  simp [-Bool.exists_bool, h1, popA, eN]
  refine ⟨by omega, ?_⟩
  rw [show (n : Int).fmod m = ((n % m : Nat) : Int) by rw [Int.fmod_eq_emod_of_nonneg _ (by omega)]; rfl]
  exact Wk.same h
def s77 (vs : List PV) (σ : Sto) (Q : KV) : Prop := ∃ (b : Nat), vs = [.obj b, .int 1, .str 4, .int 8] ∧ σ b = some (.inst 4 []) ∧ ∀ σ' t c m d, σ t = Option.none → σ c = Option.none → σ m = Option.none → σ d = Option.none → BA σ' ⟨b, t, c, m, d, []⟩ ⟨[], 1, [], 1, 1⟩ → Fr (inX ⟨b, t, c, m, d, []⟩) σ σ' → Q .none σ'
theorem s77_ap {b : Nat} (h0 : σ b = some (.inst 4 [])) (h : ∀ σ' t c m d, σ t = Option.none → σ c = Option.none → σ m = Option.none → σ d = Option.none → BA σ' ⟨b, t, c, m, d, []⟩ ⟨[], 1, [], 1, 1⟩ → Fr (inX ⟨b, t, c, m, d, []⟩) σ σ' → Q .none σ') : s77 [.obj b, .int 1, .str 4, .int 8] σ Q := ⟨b, rfl, h0, h⟩
theorem k77 (h51 : Sx 51 = s51) (h69 : Sx 69 = s69) (h : s77 vs σ Q) : Bd Sx 4 b77 0 vs σ Q := by
 obtain ⟨b, rfl, h0, h⟩ := h
 refine ⟨rfl, ?_⟩
 unfold b77; simp [-Bool.exists_bool, h0, h51, h69]
 intro t ht
 have hbt : b ≠ t := fun e => by subst e; simp at ht
 have ht0 : σ t = Option.none := by rw [set_ne (Ne.symm hbt)] at ht; exact ht
 show s51 [.obj t, eI [], .int 8] _ _
 refine s51_ap set_self fun σ1 c hc G F => ?_
 have hct := G.ne
 have hbc : b ≠ c := fun e => by subst e; rw [set_ne hbt, set_self] at hc; cases hc
 have hc0 : σ c = Option.none := by rw [set_ne (Ne.symm hct), set_ne (Ne.symm hbc)] at hc; exact hc
 have hb1 : σ1 b = some (.inst 4 [(8, .int 1), (13, .str 4)]) := by
  rw [F b (fun z => z.elim hbt hbc), set_ne hbt, set_self]
 have f1 : ∀ x, x ≠ b → x ≠ t → x ≠ c → σ1 x = σ x := fun x h1 h2 h3 => by
  rw [F x (fun z => z.elim h2 h3), set_ne h2, set_ne h1]
 simp [-Bool.exists_bool, hb1]
 intro m hm
 have hbm : b ≠ m := fun e => by subst e; simp at hm
 rw [set_ne (Ne.symm hbm)] at hm
 have htm : t ≠ m := fun e => by subst e; rw [G.ht] at hm; cases hm
 have hcm : c ≠ m := fun e => by subst e; rw [G.hc] at hm; cases hm
 have hm0 : σ m = Option.none := by rw [f1 m (Ne.symm hbm) (Ne.symm htm) (Ne.symm hcm)] at hm; exact hm
 refine s69_ap set_self fun d hd => ?_
 have hdm : d ≠ m := fun e => by subst e; simp at hd
 rw [set_ne hdm] at hd
 have hdb : d ≠ b := fun e => by subst e; simp at hd
 rw [set_ne hdb] at hd
 have hdt : d ≠ t := fun e => by subst e; rw [G.ht] at hd; cases hd
 have hdc : d ≠ c := fun e => by subst e; rw [G.hc] at hd; cases hd
 have hd0 : σ d = Option.none := by rw [f1 d hdb hdt hdc] at hd; exact hd
 simp [-Bool.exists_bool, set_ne hbm, set_ne (Ne.symm hdb)]
 refine Wk.same (h _ t c m d ht0 hc0 hm0 hd0 ⟨?_, ⟨[], List.replicate 8 0, [], ⟨?_, ?_, hct, by decide⟩, rfl⟩, ⟨?_, ?_, rfl, fun i a p ha => ?_, List.nodup_nil, Ne.symm hdm, by simp, by simp, by simp⟩, ?_⟩ fun x hx => ?_)
 ·rw [set_self]; rfl
 ·show (Sto.set _ b _) t = _
  rw [set_ne (Ne.symm hbt), set_ne htm, set_ne (Ne.symm hdt), set_ne htm, set_ne (Ne.symm hbt)]; exact G.ht
 ·show (Sto.set _ b _) c = _
  rw [set_ne (Ne.symm hbc), set_ne hcm, set_ne (Ne.symm hdc), set_ne hcm, set_ne (Ne.symm hbc)]; exact G.hc
 ·show (Sto.set _ b _) m = _
  rw [set_ne (Ne.symm hbm), set_self]
 ·show (Sto.set _ b _) d = _
  rw [set_ne hdb, set_ne hdm, set_self]; rfl
 ·simp at ha
 ·simp [hbt, hbc, hbm, Ne.symm hdb, hct, htm, Ne.symm hdt, hcm, Ne.symm hdc, Ne.symm hdm]
 ·unfold inX at hx
  simp only [not_or] at hx
  obtain ⟨x1, x2, x3, x4, x5, _⟩ := hx
  rw [set_ne x1, set_ne x4, set_ne x5, set_ne x4, set_ne x1, f1 x x1 x2 x3]
def s90 (vs : List PV) (σ : Sto) (Q : KV) : Prop := ∃ X S, ∃ (a p : Nat), vs = [.obj a, .obj X.b, .int p] ∧ BA σ X S ∧ σ a = some (markO ((X.ms.length : Nat) + 1) .none 0) ∧ X.ms.length < 59 ∧ 1 ≤ p ∧ p ≤ S.text.length + 1 ∧
 ∀ σ', BA σ' { X with ms := X.ms ++ [a] } { S with ps := S.ps ++ [p] } → Fr (fun x => inX X x ∨ x = a) σ σ' → Q .none σ'
theorem s90_ap {X : BX} {S : St} {a p : Nat} (B : BA σ X S) (h0 : σ a = some (markO ((X.ms.length : Nat) + 1) .none 0)) (h1 : X.ms.length < 59) (h2 : 1 ≤ p) (h3 : p ≤ S.text.length + 1)
  (h : ∀ σ', BA σ' { X with ms := X.ms ++ [a] } { S with ps := S.ps ++ [p] } → Fr (fun x => inX X x ∨ x = a) σ σ' → Q .none σ') : s90 [.obj a, .obj X.b, .int p] σ Q := ⟨X, S, a, p, rfl, B, h0, h1, h2, h3, h⟩
theorem k90 (h71 : Sx 71 = s71) (h82 : Sx 82 = s82) (h : s90 vs σ Q) : Bd Sx 3 b90 0 vs σ Q := by
 obtain ⟨X, S, a, p, rfl, B, h0, h1, h2, h3, h⟩ := h
 refine ⟨rfl, ?_⟩
 obtain ⟨pre, gap, post, G, e⟩ := B.hg
 have hab : a ≠ X.b := fun e => by rw [e, B.hb] at h0; cases h0
 have hat : a ≠ X.t := fun e => by rw [e, G.ht] at h0; cases h0
 have hac : a ≠ X.c := fun e => by rw [e, G.hc] at h0; cases h0
 have ham : a ≠ X.m := fun e => by rw [e, B.hm.hm] at h0; cases h0
 have had : a ≠ X.d := fun e => by rw [e, B.hm.hd] at h0; cases h0
 have hams : a ∉ X.ms := fun z => by
  obtain ⟨i, hi, e⟩ := List.getElem_of_mem z
  have := B.hm.at_ i a _ (by rw [List.getElem?_eq_getElem hi, e]) (List.getElem?_eq_getElem (by rw [← B.hm.len]; exact hi))
  rw [h0] at this
  cases this
 have hmo : ∀ n bv p, markO n bv p = .inst 2 [(8, .int n), (9, .bool false), (10, bv), (11, .int p)] := fun _ _ _ => rfl
 have F1 : Fr (· = a) σ (σ.set a (markO ((X.ms.length : Nat) + 1) (.obj X.b) 0)) := Fr.refl.set rfl
 have hinX : ∀ x, inX X x → ¬ x = a := fun x hx e => by
  subst e
  rcases hx with e | e | e | e | e | e
  ·exact hab e
  ·exact hat e
  ·exact hac e
  ·exact ham e
  ·exact had e
  ·exact hams e
 have B1 := B.fr F1 hinX
 have ha1 : (σ.set a (markO ((X.ms.length : Nat) + 1) (.obj X.b) 0)) a = some (markO ((X.ms.length : Nat) + 1) (.obj X.b) 0) := set_self
 unfold b90; simp [-Bool.exists_bool, h0, hmo]
 rw [← hmo]
 generalize σ.set a (markO ((X.ms.length : Nat) + 1) (.obj X.b) 0) = τ at *
 simp [-Bool.exists_bool, B1.hb, bufO_eq, B1.hm.hm, h71, h82]
 refine s82_ap B1 ?_
 simp [-Bool.exists_bool]
 rw [show min (max (p : Int) 1) ((S.text.length : Int) + 1) = p by omega]
 refine ⟨X.m, X.d, a, X.ms, .obj X.b, 0, p, rfl, B1.hm.hm, B1.hm.hd, h1, ha1, ?_⟩
 obtain ⟨⟨a1, a2, a3, a4, a5⟩, ⟨b1, b2, b3, b4⟩, ⟨c1, c2, c3⟩⟩ := B.ne
 have hg1 := B1.hg
 obtain ⟨pre1, gap1, post1, G1, e1⟩ := hg1
 have M := B1.hm
 have hnd := B.nd
 have fx : ∀ x, x ≠ X.d → x ≠ a → ((τ.set X.d (.dict (rowsD 0 (X.ms ++ [a])))).set a (markO ((X.ms.length : Nat) + 1) (.obj X.b) p)) x = τ x := fun x h1 h2 => by
  rw [set_ne h2, set_ne h1]
 refine Wk.same (h _ ⟨?_, ⟨pre1, gap1, post1, ⟨?_, ?_, G1.ne, G1.sz⟩, e1⟩, ⟨?_, ?_, ?_, fun i x q hx hq => ?_, ?_, M.md, ?_, ?_, ?_⟩, ?_⟩ ?_)
 ·exact (fx _ a4 (Ne.symm hab)).trans B1.hb
 ·exact (fx _ b3 (Ne.symm hat)).trans G1.ht
 ·exact (fx _ c2 (Ne.symm hac)).trans G1.hc
 ·exact (fx _ M.md (Ne.symm ham)).trans M.hm
 ·show (Sto.set _ a _) X.d = _
  rw [set_ne (Ne.symm had), set_self]
 ·show (X.ms ++ [a]).length = (S.ps ++ [p]).length
  rw [List.length_append, List.length_append, M.len]; rfl
 ·replace hx : (X.ms ++ [a])[i]? = some x := hx
  replace hq : (S.ps ++ [p])[i]? = some q := hq
  have hil := (List.getElem?_eq_some_iff.mp hx).1
  rw [List.length_append] at hil
  by_cases hi : i < X.ms.length
  ·rw [List.getElem?_append_left hi] at hx
   rw [List.getElem?_append_left (by rw [← M.len]; exact hi)] at hq
   have hxm := List.mem_of_getElem? hx
   have := M.at_ i x q hx hq
   rw [fx x (fun e => M.dm (e ▸ hxm)) (fun e => hams (e ▸ hxm))]
   exact this
  ·have hi : i = X.ms.length := by simp at hil; omega
   subst hi
   rw [List.getElem?_append_right (Nat.le_refl _), Nat.sub_self] at hx
   rw [List.getElem?_append_right (by rw [M.len]; exact Nat.le_refl _), M.len, Nat.sub_self] at hq
   cases hx; cases hq
   rw [set_self]
 ·exact List.nodup_append.mpr ⟨M.nd, by simp, fun x hx y hy e => by
   rw [List.mem_singleton] at hy
   subst hy e
   exact hams hx⟩
 ·show X.m ∉ X.ms ++ [a]
  simp [M.mm, Ne.symm ham]
 ·show X.d ∉ X.ms ++ [a]
  simp [M.dm, Ne.symm had]
 ·show (X.ms ++ [a]).length < 60
  rw [List.length_append]; simp; omega
 ·show (X.b :: X.t :: X.c :: X.m :: X.d :: (X.ms ++ [a])).Nodup
  rw [show X.b :: X.t :: X.c :: X.m :: X.d :: (X.ms ++ [a]) = (X.b :: X.t :: X.c :: X.m :: X.d :: X.ms) ++ [a] from rfl]
  exact List.nodup_append.mpr ⟨hnd, by simp, fun x hx y hy e => by
   rw [List.mem_singleton] at hy
   subst hy e
   simp only [List.mem_cons] at hx
   exact hinX _ hx rfl⟩
 ·exact ((F1.up fun x e => .inr e).set (.inl (.inr (.inr (.inr (.inr (.inl rfl))))))).set (.inr rfl)
end
end Mine
end
section
namespace Mine
def aheadN (l : List Int) (p : Nat) : Nat := ((l.take (p - 1)).filter nBl).length
def withinB (l : List Int) (p : Nat) : Bool := decide (1 < p ∧ p ≤ l.length) && (nBl (l.getD (p - 2) 32) && nBl (l.getD (p - 1) 32))
section
variable {Sx : Spec} {σ : Sto} {Q : KV} {vs : List PV}
def s92 (vs : List PV) (σ : Sto) (Q : KV) : Prop := ∃ c, vs = [.int c] ∧ Q (.bool (nBl c)) σ
@[simp] theorem s92_ap {c : Int} : s92 [.int c] σ Q = Q (.bool (nBl c)) σ := by simp [s92]
theorem k92 (h : s92 vs σ Q) : Bd Sx 1 b92 0 vs σ Q := by
 obtain ⟨c, rfl, h⟩ := h
 refine ⟨rfl, ?_⟩
 unfold b92; simp [-Bool.exists_bool]
 simp only [in_bl]
 first | exact Wk.same h | exact ⟨by decide, Wk.same h⟩
def s93 (vs : List PV) (σ : Sto) (Q : KV) : Prop := ∃ (l : List Int) (p : Nat), vs = [eI l, .int p] ∧ 1 ≤ p ∧ l.length ≤ big ∧ Q (.int (aheadN l p)) σ
theorem s93_ap {l : List Int} {p : Nat} (h1 : 1 ≤ p) (h2 : l.length ≤ big) (h : Q (.int (aheadN l p)) σ) : s93 [eI l, .int p] σ Q := ⟨l, p, rfl, h1, h2, h⟩
theorem flatMap_if {l : List Int} {p : Int → Bool} {f : Int → PV} : l.flatMap (fun c => if p c then [f c] else []) = (l.filter p).map f := by
 induction l with
 | nil => rfl
 | cons c l ih =>
  rw [List.flatMap_cons, ih, List.filter_cons]
  by_cases h : p c = true
  ·rw [if_pos h, if_pos h]; rfl
  ·rw [if_neg h, if_neg h]; rfl
theorem k93 (h92 : Sx 92 = s92) (h : s93 vs σ Q) : Bd Sx 2 b93 0 vs σ Q := by
 obtain ⟨l, p, rfl, h1, h2, h⟩ := h
 refine ⟨rfl, ?_⟩
 unfold b93; simp [-Bool.exists_bool]
 rw [ev_comp]
 simp [-Bool.exists_bool]
 rw [show (p : Int) - 1 = ((p - 1 : Nat) : Int) by omega]
 simp [-Bool.exists_bool]
 rw [← List.map_take]
 refine each_map PV.int (fun c => if nBl c then [.int 1] else []) (l.take (p - 1)) [] (fun c _ R hR => ?_) ?_
 ·simp [-Bool.exists_bool, h92]
  by_cases q : nBl c = true
  ·rw [if_pos q]; rw [if_pos q] at hR; exact hR
  ·rw [if_neg q]; rw [if_neg q] at hR; exact hR
 ·rw [List.nil_append, flatMap_if]
  refine ⟨?_, ?_⟩
  ·rw [List.length_map]
   have := List.length_filter_le nBl (l.take (p - 1))
   rw [List.length_take] at this; omega
  ·rw [show PV.list (((l.take (p - 1)).filter nBl).map fun c => PV.int 1) = eL (fun _ => PV.int 1) ((l.take (p - 1)).filter nBl) from rfl, len_eL]
   exact Wk.same h
def s94 (vs : List PV) (σ : Sto) (Q : KV) : Prop := ∃ (l : List Int) (p : Nat), vs = [eI l, .int p] ∧ Q (.bool (withinB l p)) σ
theorem s94_ap {l : List Int} {p : Nat} (h : Q (.bool (withinB l p)) σ) : s94 [eI l, .int p] σ Q := ⟨l, p, rfl, h⟩
theorem k94 (h92 : Sx 92 = s92) (h : s94 vs σ Q) : Bd Sx 2 b94 0 vs σ Q := by
 obtain ⟨l, p, rfl, h⟩ := h
 refine ⟨rfl, ?_⟩
 unfold b94; simp [-Bool.exists_bool, h92]
 unfold withinB at h
 by_cases q : 1 < p ∧ p ≤ l.length
 ·rw [if_pos (by omega), if_pos q.2]
  rw [decide_eq_true q, Bool.true_and] at h
  rw [show (p : Int) - 2 = ((p - 2 : Nat) : Int) by omega, sub_nat]
  have g1 : l[p - 2]? = some (l[p - 2]'(by omega)) := List.getElem?_eq_getElem (by omega)
  have g2 : l[p - 1]? = some (l[p - 1]'(by omega)) := List.getElem?_eq_getElem (by omega)
  rw [show l.getD (p - 2) 32 = l[p - 2]'(by omega) by simp [List.getD, g1], show l.getD (p - 1) 32 = l[p - 1]'(by omega) by simp [List.getD, g2]] at h
  refine ⟨_, g1, ?_⟩
  rw [s92_ap]
  refine ⟨_, rfl, ?_⟩
  by_cases q1 : nBl (l[p - 2]'(by omega)) = true
  ·rw [if_pos q1]
   rw [q1, Bool.true_and] at h
   rw [show (p : Int) - 1 = ((p - 1 : Nat) : Int) by omega, sub_nat]
   exact ⟨_, g2, by rw [s92_ap]; exact Wk.same h⟩
  ·rw [if_neg q1]
   rw [show nBl (l[p - 2]'(by omega)) = false by simpa using q1, Bool.false_and] at h
   exact Wk.same h
 ·rw [decide_eq_false q, Bool.false_and] at h
  by_cases q1 : 1 < p
  ·rw [if_pos (by omega), if_neg (by omega)]; exact Wk.same h
  ·rw [if_neg (by omega)]; exact Wk.same h
def keptAt (old new : List Int) (x : Nat × Nat) : Prop := 1 ≤ x.1 ∧ 1 ≤ x.2 ∧ aheadN old x.1 = aheadN new x.2 ∧ (withinB old x.1 = true → withinB new x.2 = true)
def s95 (vs : List PV) (σ : Sto) (Q : KV) : Prop := ∃ (old new : List Int) (bs ps : List Nat), vs = [eI old, eI new, eL eN bs, eL eN ps] ∧ old.length ≤ big ∧ new.length ≤ big ∧ (∀ x ∈ bs.zip ps, keptAt old new x) ∧ old.filter nBl = new.filter nBl ∧ Q (.bool true) σ
theorem s95_ap {old new : List Int} {bs ps : List Nat} (h1 : old.length ≤ big) (h2 : new.length ≤ big) (h3 : ∀ x ∈ bs.zip ps, keptAt old new x) (h4 : old.filter nBl = new.filter nBl) (h : Q (.bool true) σ) : s95 [eI old, eI new, eL eN bs, eL eN ps] σ Q := ⟨old, new, bs, ps, rfl, h1, h2, h3, h4, h⟩
theorem comp_words {l : List Int} {loc : List PV} {K : KV} (h92 : Sx 92 = s92) (hl : loc.length = 6) (h1 : l.length ≤ big) (h : K (eI (l.filter nBl)) σ) (e : ME) (hev : ∀ Q, evalA theT Sx e loc σ Q = Q (eI l) σ) : evalA theT Sx (.comp false 1 (.var 6) (.var 6) (.expr e) [.call 92 [.var 6]]) loc σ K := by
 rw [ev_comp]
 rw [evi_expr, hev, items_eL]
 refine each_map PV.int (fun c => if nBl c then [.int c] else []) l [] (fun c _ R hR => ?_) ?_
 ·have g : (loc ++ List.replicate 1 PV.undef).set 6 (.int c) = loc ++ [.int c] := by
   rw [List.set_append_right _ _ (by omega), hl]; rfl
  have g6 : (loc ++ [PV.int c])[6]? = some (.int c) := by rw [List.getElem?_append_right (by omega), hl]; rfl
  rw [bindA_var]
  refine ⟨by rw [List.length_append, hl]; decide, ?_⟩
  rw [g]
  simp [-Bool.exists_bool, h92, g6]
  by_cases q : nBl c = true
  ·rw [if_pos q]; rw [if_pos q] at hR; exact hR
  ·rw [if_neg q]; rw [if_neg q] at hR; exact hR
 ·rw [List.nil_append, flatMap_if, alloc_map]
  have := List.length_filter_le nBl l
  exact ⟨by omega, h⟩
theorem k95 (h92 : Sx 92 = s92) (h93 : Sx 93 = s93) (h94 : Sx 94 = s94) (h : s95 vs σ Q) : Bd Sx 4 b95 2 vs σ Q := by
 obtain ⟨old, new, bs, ps, rfl, h1, h2, h3, h4, h⟩ := h
 refine ⟨rfl, ?_⟩
 unfold b95; simp only [execs_cons, exec_for]
 simp [-Bool.exists_bool]
 refine for_inv (fun k loc τ => ∃ x y, loc = [eI old, eI new, eL eN bs, eL eN ps, x, y] ∧ τ = σ) (fun _ _ _ _ => trivial) _ 0 _ _ ⟨.undef, .undef, rfl, rfl⟩ ?_ ?_
 ·rintro k x hx loc τ K ⟨x1, y1, rfl, rfl⟩ hK1 hK2
  rw [List.getElem?_map] at hx
  obtain ⟨q, hq, rfl⟩ := Option.map_eq_some_iff.mp hx
  obtain ⟨k1, k2, k3, k4⟩ := h3 q (List.mem_of_getElem? hq)
  simp [-Bool.exists_bool, eN, h93, h94]
  refine s93_ap k1 h1 ?_
  refine s93_ap k2 h2 ?_
  refine ⟨false, by simp [k3], ?_⟩
  rw [if_neg (by decide)]
  refine s94_ap ⟨_, rfl, ?_⟩
  by_cases w : withinB old q.1 = true
  ·rw [if_pos w]
   refine s94_ap ⟨_, rfl, ?_⟩
   rw [if_pos (k4 w)]
   exact hK2 _ _ ⟨_, _, rfl, rfl⟩
  ·rw [if_neg w]
   exact hK2 _ _ ⟨_, _, rfl, rfl⟩
 ·rintro loc τ ⟨x1, y1, rfl, rfl⟩
  simp [-Bool.exists_bool]
  refine comp_words h92 rfl h1 ?_ (.var 0) (fun Q => by simp)
  refine comp_words h92 rfl h2 ?_ (.var 1) (fun Q => by simp)
  refine ⟨true, by rw [veq_eI, h4]; simp, Wk.same h⟩
end
end Mine
end
section
namespace Mine
theorem comSt_split : ∀ (x y : List Int), ∃ x' y', x = comSt x y ++ x' ∧ y = comSt x y ++ y'
 | [], y => ⟨[], y, by simp [comSt], by simp [comSt]⟩
 | a :: x, [] => ⟨a :: x, [], by simp [comSt], by simp [comSt]⟩
 | a :: x, b :: y => by
  unfold comSt
  split
  ·rename_i h; subst h
   obtain ⟨x', y', h1, h2⟩ := comSt_split x y
   exact ⟨x', y', by rw [List.cons_append, ← h1], by rw [List.cons_append, ← h2]⟩
  ·exact ⟨a :: x, b :: y, rfl, rfl⟩
theorem narrow_spec {s e : Nat} {old own : List Int} (h1 : s ≤ e) (h2 : e ≤ old.length) : ∃ p mo mn q, sub old s e = p ++ mo ++ q ∧ own = p ++ mn ++ q ∧ narrow s e old own = (s + p.length, s + p.length + mo.length, mn) := by
 have hl := sub_len (s := s) h2
 unfold narrow
 dsimp only
 generalize sub old s e = o at *
 obtain ⟨x', y', e1, e2⟩ := comSt_split o own
 generalize hp : comSt o own = p at *
 have d1 : o.drop p.length = x' := by rw [e1, drop_cat0]
 have d2 : own.drop p.length = y' := by rw [e2, drop_cat0]
 rw [d1, d2]
 obtain ⟨x2, y2, e3, e4⟩ := comSt_split x'.reverse y'.reverse
 generalize hc : comSt x'.reverse y'.reverse = c at *
 have f1 : x' = x2.reverse ++ c.reverse := by rw [← List.reverse_append, ← e3, List.reverse_reverse]
 have f2 : y' = y2.reverse ++ c.reverse := by rw [← List.reverse_append, ← e4, List.reverse_reverse]
 refine ⟨p, x2.reverse, y2.reverse, c.reverse, by rw [e1, f1, List.append_assoc], by rw [e2, f2, List.append_assoc], ?_⟩
 have hol : o.length = p.length + (x2.length + c.length) := by rw [e1, f1]; simp
 have hwl : own.length = p.length + (y2.length + c.length) := by rw [e2, f2]; simp
 have hs : sub own p.length (own.length - c.length) = y2.reverse := by
  unfold sub
  rw [show own.length - c.length = p.length + y2.length by omega, e2, f2, ← List.append_assoc]
  rw [show p.length + y2.length = (p ++ y2.reverse).length by simp, take_cat0, drop_cat0]
 rw [hs]
 refine Prod.ext rfl (Prod.ext ?_ rfl)
 show e - c.length = s + p.length + x2.reverse.length
 rw [List.length_reverse]; omega
theorem cut_append {U mo V mn : List Int} : cutT (U ++ mo ++ V) (U.length + 1) (U.length + mo.length + 1) mn = U ++ mn ++ V := by
 unfold cutT
 rw [show U.length + 1 - 1 = U.length by omega, show U.length + mo.length + 1 - 1 = (U ++ mo).length by rw [List.length_append]; omega, drop_cat0, List.append_assoc U mo V, take_cat0]
theorem repS_text {U mo V mn : List Int} {S : St} (h : S.text = U ++ mo ++ V) : (repS (U.length + 1) (U.length + mo.length + 1) mn S).text = U ++ mn ++ V := by
 unfold repS
 split
 ·rename_i q
  obtain ⟨q1, rfl⟩ := q
  have : mo = [] := List.length_eq_zero_iff.mp (by omega)
  subst this
  exact h
 ·show cutT S.text _ _ _ = _
  rw [h, cut_append]
def moveBy (f : Nat → Nat) (S S' : St) : Prop := S'.point = f S.point ∧ S'.ps = S.ps.map f
theorem moveBy.id (S : St) : moveBy (fun p => p) S S := ⟨rfl, by simp⟩
theorem moveBy.trans {f g : Nat → Nat} {S S' S'' : St} (h : moveBy f S S') (h' : moveBy g S' S'') : moveBy (fun p => g (f p)) S S'' := ⟨by rw [h'.1, h.1], by rw [h'.2, h.2]; simp [Function.comp_def]⟩
theorem movF_id {s p : Nat} : movF s s 0 p = p := by unfold movF; split <;> (try split) <;> omega
theorem repS_move {s e : Nat} {cs : List Int} {S : St} : moveBy (movF s e cs.length) S (repS s e cs S) := by
 unfold repS
 split
 ·rename_i h; obtain ⟨rfl, rfl⟩ := h
  refine ⟨movF_id.symm, ?_⟩
  have : S.ps.map (movF s s ([] : List Int).length) = S.ps.map fun p => p := List.map_congr_left fun p _ => movF_id
  rw [this]; simp
 ·exact ⟨rfl, rfl⟩
structure Shf (lo n n' : Nat) (f : Nat → Nat) : Prop where
 ahead : ∀ p, p ≤ lo → f p = p
 behind : ∀ p, lo + n < p → f p = p + n' - n
 within : ∀ p, lo ≤ p → p ≤ lo + n → lo ≤ f p ∧ f p ≤ lo + n'
theorem Shf.id (lo n : Nat) : Shf lo n n fun p => p := ⟨fun _ _ => rfl, fun p _ => by omega, fun p h1 h2 => ⟨h1, h2⟩⟩
theorem movF_shf {lo n a b w : Nat} (h1 : a ≤ b) (h2 : b ≤ n) : Shf lo n (n + w - (b - a)) (movF (lo + a) (lo + b) w) := by
 refine ⟨fun p h => ?_, fun p h => ?_, fun p h h' => ?_⟩
 ·unfold movF; split <;> (try split) <;> omega
 ·unfold movF; split <;> (try split) <;> omega
 ·unfold movF; constructor <;> split <;> (try split) <;> omega
theorem Shf.trans {lo n n' n'' : Nat} {f g : Nat → Nat} (h : Shf lo n n' f) (h' : Shf lo n' n'' g) : Shf lo n n'' fun p => g (f p) := by
 refine ⟨fun p hp => ?_, fun p hp => ?_, fun p h1 h2 => ?_⟩
 ·rw [h.ahead p hp, h'.ahead p hp]
 ·have := h.behind p hp
  rw [this, h'.behind _ (by omega)]; omega
 ·have := h.within p h1 h2
  exact h'.within _ this.1 this.2
theorem sub_app {X o Y : List Int} : sub (X ++ o ++ Y) X.length (X.length + o.length) = o := by
 unfold sub
 rw [List.append_assoc, take_cat, take_app (Nat.le_refl _), List.take_length, drop_cat0]
theorem sub_take_drop {l : List Int} {n k : Nat} (h : n ≤ k) (h2 : k ≤ l.length) : l.take n ++ sub l n k ++ l.drop k = l := by
 unfold sub
 have : l.take n ++ (l.take k).drop n = l.take k := by
  have e := List.take_append_drop n (l.take k)
  rw [List.take_take, Nat.min_eq_left h] at e
  exact e
 rw [this, List.take_append_drop]
theorem drop_sub {l : List Int} {n k : Nat} (h : n ≤ k) (h2 : k ≤ l.length) : sub l n k ++ l.drop k = l.drop n := by
 have e := sub_take_drop h h2
 have := congrArg (List.drop n) e
 rw [List.append_assoc] at this
 rw [← this]
 have hl : (l.take n).length = n := by rw [List.length_take]; omega
 generalize l.take n = A at *
 rw [← hl, drop_cat0, hl]
theorem take_sub {l : List Int} {n k : Nat} (h : n ≤ k) : l.take n ++ sub l n k = l.take k := by
 unfold sub
 have e := List.take_append_drop n (l.take k)
 rw [List.take_take, Nat.min_eq_left h] at e
 exact e
theorem runE_app {s : Nat} {a b : List (Nat × Nat × List Int)} {S : St} : runE s (a ++ b) S = runE s a (runE s b S) := by unfold runE; rw [List.foldr_append]
theorem runE_one {s : Nat} {e : Nat × Nat × List Int} {S : St} : runE s [e] S = repS (s + e.1) (s + e.2.1) e.2.2 S := rfl
theorem seg_run {A C old Y own : List Int} {n k : Nat} {S : St} (h1 : n ≤ k) (h2 : k ≤ old.length) (hS : S.text = A ++ (old.take k ++ Y) ++ C) :
  ∃ f, (runE (A.length + 1) (if sub old n k = own then [] else [narrow n k old own]) S).text = A ++ (old.take n ++ own ++ Y) ++ C ∧ moveBy f S (runE (A.length + 1) (if sub old n k = own then [] else [narrow n k old own]) S) ∧
   Shf (A.length + 1) (k + Y.length) (n + own.length + Y.length) f := by
 have hk : old.take k = old.take n ++ sub old n k := (take_sub h1).symm
 have hnl : (old.take n).length = n := by rw [List.length_take]; omega
 by_cases q : sub old n k = own
 ·rw [if_pos q]
  refine ⟨fun p => p, ?_, moveBy.id S, ?_⟩
  ·show S.text = _
   rw [hS, hk, q]
  ·have : own.length = k - n := by rw [← q, sub_len h2]
   rw [show n + own.length + Y.length = k + Y.length by omega]
   exact Shf.id _ _
 ·rw [if_neg q]
  obtain ⟨p, mo, mn, r, e1, e2, e3⟩ := narrow_spec (own := own) h1 h2
  rw [e3, runE_one]
  dsimp only
  have hsl := sub_len (s := n) h2
  rw [e1] at hsl
  simp only [List.length_append] at hsl
  have hT : S.text = (A ++ old.take n ++ p) ++ mo ++ (r ++ Y ++ C) := by rw [hS, hk, e1]; simp
  have hUl : (A ++ old.take n ++ p).length = A.length + (n + p.length) := by simp [hnl]
  have hw : own.length = p.length + mn.length + r.length := by rw [e2]; simp; omega
  refine ⟨movF (A.length + 1 + (n + p.length)) (A.length + 1 + (n + p.length + mo.length)) mn.length, ?_, repS_move, ?_⟩
  ·have := repS_text (mn := mn) hT
   rw [hUl] at this
   rw [show A.length + 1 + (n + p.length) = A.length + (n + p.length) + 1 by omega, show A.length + 1 + (n + p.length + mo.length) = A.length + (n + p.length) + mo.length + 1 by omega, this, e2]
   simp
  ·have := movF_shf (lo := A.length + 1) (n := k + Y.length) (a := n + p.length) (b := n + p.length + mo.length) (w := mn.length) (by omega) (by omega)
   rw [show k + Y.length + mn.length - (n + p.length + mo.length - (n + p.length)) = n + own.length + Y.length by omega] at this
   exact this
def lastK (old new : List Int) : (Nat × Nat) × (Nat × Nat) := ((old.length, old.length), (new.length, new.length))
theorem editsF_run {A C old new : List Int} {S : St} (hS : S.text = A ++ old ++ C) : ∀ (ks : List ((Nat × Nat) × (Nat × Nat))) (n m : Nat), Chn old new n m (ks ++ [lastK old new]) →
  ∃ f, (runE (A.length + 1) (editsF old new n m (ks ++ [lastK old new])) S).text = A ++ (old.take n ++ new.drop m) ++ C ∧ moveBy f S (runE (A.length + 1) (editsF old new n m (ks ++ [lastK old new])) S) ∧
   Shf (A.length + 1) old.length (n + (new.length - m)) f
 | [], n, m, ⟨h1, h2, h3, h4, h5, h6⟩ => by
  rw [List.nil_append, editsF_cons]
  rw [show editsF old new (lastK old new).1.2 (lastK old new).2.2 [] = [] from rfl, List.append_nil]
  have e : sub new m (lastK old new).2.1 = new.drop m := by unfold sub lastK; simp
  rw [e]
  have := seg_run (A := A) (C := C) (old := old) (Y := []) (own := new.drop m) (S := S) (n := n) (k := old.length) h1 (Nat.le_refl _) (by rw [hS]; simp)
  obtain ⟨f, f1, f2, f3⟩ := this
  refine ⟨f, ?_, f2, ?_⟩
  ·rw [List.append_nil] at f1; exact f1
  ·rw [List.length_drop] at f3; exact f3
 | k :: ks, n, m, ⟨h1, h2, h3, h4, h5, h6⟩ => by
  have hle := h6.le
  obtain ⟨g, g1, g2, g3⟩ := editsF_run hS ks k.1.2 k.2.2 h6
  rw [List.cons_append, editsF_cons, runE_app]
  have hst : old.take k.1.2 ++ new.drop k.2.2 = old.take k.1.1 ++ new.drop k.2.1 := by
   rw [← take_sub (l := old) h2, h5, List.append_assoc, drop_sub h4 hle.2]
  rw [hst] at g1
  obtain ⟨f, f1, f2, f3⟩ := seg_run (own := sub new m k.2.1) h1 (show k.1.1 ≤ old.length by omega) g1
  refine ⟨_, ?_, g2.trans f2, g3.trans ?_⟩
  ·rw [f1, List.append_assoc (old.take n), drop_sub h3 (by omega)]
  ·rw [sub_len (by omega), List.length_drop] at f3
   have e1 : sub old k.1.1 k.1.2 = sub new k.2.1 k.2.2 := h5
   have e2 := congrArg List.length e1
   rw [sub_len (by omega), sub_len (by omega)] at e2
   rw [show k.1.2 + (new.length - k.2.2) = k.1.1 + (new.length - k.2.1) by omega, show n + (new.length - m) = n + (k.2.1 - m) + (new.length - k.2.1) by omega]
   exact f3
theorem edits_run {A C old new : List Int} {S : St} (hS : S.text = A ++ old ++ C) :
  ∃ f, (runE (A.length + 1) (editsOf old new) S).text = A ++ new ++ C ∧ moveBy f S (runE (A.length + 1) (editsOf old new) S) ∧ Shf (A.length + 1) old.length new.length f := by
 obtain ⟨f, f1, f2, f3⟩ := editsF_run (new := new) hS (keptOf old new) 0 0 (kept_chn old new).snoc
 refine ⟨f, ?_, f2, ?_⟩
 ·rw [List.take_zero, List.drop_zero, List.nil_append] at f1; exact f1
 ·rw [Nat.zero_add, Nat.sub_zero] at f3; exact f3
theorem edits_nil {old new : List Int} (h : editsOf old new = []) : old = new := by
 obtain ⟨f, f1, _, _⟩ := edits_run (A := []) (C := []) (old := old) (new := new) (S := ⟨old, 0, [], 0, 0⟩) (by simp)
 rw [h] at f1
 simpa [runE] using f1
end Mine
end
section
namespace Mine
def flatP (ps : List (List Int × List Int)) : List Int := ps.flatMap fun p => p.1 ++ p.2
theorem flatP_cons (p : List Int × List Int) (ps : List (List Int × List Int)) : flatP (p :: ps) = p.1 ++ p.2 ++ flatP ps := rfl
def wordsL (l : List Int) : List (List Int) := (parse l).2.map (·.1)
theorem spans_words : ∀ (ps : List (List Int × List Int)) (pre : List Int), (spansP pre.length ps).map (fun s => sub (pre ++ flatP ps) s.1 s.2) = ps.map (·.1)
 | [], _ => rfl
 | p :: ps, pre => by
  have ih := spans_words ps (pre ++ p.1 ++ p.2)
  unfold spansP
  rw [List.map_cons, List.map_cons]
  have e1 : sub (pre ++ flatP (p :: ps)) pre.length (pre.length + p.1.length) = p.1 := by
   rw [flatP_cons, List.append_assoc p.1, ← List.append_assoc pre]; exact sub_app
  rw [e1]
  rw [List.length_append, List.length_append] at ih
  rw [show pre ++ flatP (p :: ps) = pre ++ p.1 ++ p.2 ++ flatP ps by rw [flatP_cons]; simp, ih]
theorem spansOf_words (l : List Int) : (spansOf l).map (fun s => sub l s.1 s.2) = wordsL l := by
 obtain ⟨_, _, h3⟩ := parse_ok l
 have := spans_words (parse l).2 (parse l).1
 unfold spansOf spansAt wordsL
 rw [Nat.zero_add]
 have e : (parse l).1 ++ flatP (parse l).2 = l := h3
 rw [e] at this
 exact this
theorem kept_zip {old new : List Int} {sp : List (Nat × Nat)} : ∀ (ns : List (Nat × Nat)) (i : Nat), (sp.drop i).map (fun s => sub old s.1 s.2) = ns.map (fun s => sub new s.1 s.2) → keptF old new sp i ns = (sp.drop i).zip ns
 | [], i, h => by
  have : sp.drop i = [] := by
   cases e : sp.drop i with
   | nil => rfl
   | cons x y => rw [e] at h; cases h
  rw [this]; rfl
 | s :: ns, i, h => by
  cases e : sp.drop i with
  | nil => rw [e] at h; cases h
  | cons t r =>
   rw [e] at h
   simp only [List.map_cons, List.cons.injEq] at h
   have hi : i < sp.length := by
    refine Nat.lt_of_not_le fun q => ?_
    rw [List.drop_eq_nil_of_le q] at e; cases e
   have ht : sp[i] = t ∧ sp.drop (i + 1) = r := by
    rw [List.drop_eq_getElem_cons hi] at e
    injection e with e1 e2
    exact ⟨e1, e2⟩
   have hs : seek old (sub new s.1 s.2) sp i = some i := by
    unfold seek
    rw [e, show (t :: r).take 4 = t :: r.take 3 from rfl, List.findIdx?_cons, h.1]
    simp
   rw [keptF_some hs, show sp.getD i (0, 0) = t by simp [List.getD, List.getElem?_eq_getElem hi, ht.1], kept_zip ns (i + 1) (by rw [ht.2]; exact h.2), ht.2]
   rfl
theorem keptOf_zip {old new : List Int} (h : wordsL old = wordsL new) : keptOf old new = (spansOf old).zip (spansOf new) := by
 unfold keptOf
 rw [kept_zip _ 0 (by rw [List.drop_zero, spansOf_words, spansOf_words, h]), List.drop_zero]
theorem editsF_same {old : List Int} : ∀ (sp : List (Nat × Nat)) (n : Nat), editsF old old n n (sp.zip sp ++ [lastK old old]) = []
 | [], n => by
  rw [List.zip_nil_left, List.nil_append, editsF_cons, if_pos (show sub old n (lastK old old).1.1 = sub old n (lastK old old).2.1 from rfl)]; rfl
 | s :: sp, n => by
  rw [List.zip_cons_cons, List.cons_append, editsF_cons, if_pos rfl, List.nil_append]
  exact editsF_same sp _
theorem edits_nil_iff {old new : List Int} : editsOf old new = [] ↔ old = new := by
 refine ⟨edits_nil, fun h => ?_⟩
 subst h
 unfold editsOf
 rw [keptOf_zip rfl]
 exact editsF_same _ _
def blank (l : List Int) : Prop := ∀ c ∈ l, isBl c = true
theorem blank.filter {l : List Int} (h : blank l) : l.filter nBl = [] := by
 rw [List.filter_eq_nil_iff]
 intro c hc; simp [nBl, h c hc]
theorem blank.take {l : List Int} (h : blank l) (k : Nat) : blank (l.take k) := fun c hc => h c (List.take_subset _ _ hc)
def keptP (T T' : List Int) (f : Nat → Nat) : Prop := T.filter nBl = T'.filter nBl ∧ ∀ p, 1 ≤ p → 1 ≤ f p ∧ aheadN T p = aheadN T' (f p) ∧ (withinB T p = true → withinB T' (f p) = true)
theorem keptP.id (T : List Int) : keptP T T fun p => p := ⟨rfl, fun _ h => ⟨h, rfl, fun h => h⟩⟩
theorem keptP.trans {T T' T'' : List Int} {f g : Nat → Nat} (h : keptP T T' f) (h' : keptP T' T'' g) : keptP T T'' fun p => g (f p) :=
 ⟨h.1.trans h'.1, fun p hp => by
  obtain ⟨a, b, c⟩ := h.2 p hp
  obtain ⟨a', b', c'⟩ := h'.2 _ a
  exact ⟨a', b.trans b', fun w => c' (c w)⟩⟩
theorem getD_out' {α : Type} (l : List α) (d : α) {i : Nat} (h : l.length ≤ i) : l.getD i d = d := by simp [List.getD, List.getElem?_eq_none h]
def gB (T : List Int) (k : Nat) : Bool := nBl (T.getD k 32)
theorem within_iff {T : List Int} {p : Nat} : withinB T p = true ↔ 1 < p ∧ gB T (p - 2) = true ∧ gB T (p - 1) = true := by
 unfold withinB gB
 simp only [Bool.and_eq_true, decide_eq_true_eq]
 constructor
 ·rintro ⟨⟨a, b⟩, c, d⟩; exact ⟨a, c, d⟩
 ·rintro ⟨a, c, d⟩
  refine ⟨⟨a, Nat.le_of_not_lt fun q => ?_⟩, c, d⟩
  rw [show T.getD (p - 1) 32 = 32 from getD_out' _ _ (by omega)] at d
  cases d
theorem gB_app {U V : List Int} {k : Nat} : gB (U ++ V) k = if k < U.length then gB U k else gB V (k - U.length) := by
 unfold gB
 split
 ·rename_i h; simp [List.getD, List.getElem?_append_left h]
 ·rename_i h; simp [List.getD, List.getElem?_append_right (Nat.le_of_not_lt h)]
theorem gB_blank {l : List Int} (h : blank l) (k : Nat) : gB l k = false := by
 unfold gB
 rcases Nat.lt_or_ge k l.length with q | q
 ·rw [show l.getD k 32 = l[k] by simp [List.getD, List.getElem?_eq_getElem q]]
  simp [nBl, h _ (List.getElem_mem q)]
 ·rw [getD_out' _ _ q]; rfl
theorem kept_one {U mo V mn : List Int} (h1 : blank mo) (h2 : blank mn) (adj : mo ≠ [] ∨ U = [] ∨ gB U (U.length - 1) = false ∨ gB V 0 = false) : keptP (U ++ mo ++ V) (U ++ mn ++ V) (movF (U.length + 1) (U.length + mo.length + 1) mn.length) := by
 refine ⟨by simp only [List.filter_append, h1.filter, h2.filter], fun p hp => ?_⟩
 have hm : ∀ q, movF (U.length + 1) (U.length + mo.length + 1) mn.length q = if q ≤ U.length + 1 then q else if U.length + mo.length + 1 ≤ q then q + mn.length - mo.length else U.length + 1 := fun q => by
  unfold movF; rw [show U.length + mo.length + 1 - (U.length + 1) = mo.length by omega]
 rw [hm]
 have gT : ∀ (x : List Int) (k : Nat), blank x → gB (U ++ x ++ V) k = if k < U.length then gB U k else if k < U.length + x.length then false else gB V (k - U.length - x.length) := fun x k hx => by
  rw [gB_app, gB_app, List.length_append]
  by_cases a1 : k < U.length
  ·rw [if_pos (by omega), if_pos a1, if_pos a1]
  ·rw [if_neg a1, if_neg a1]
   by_cases a2 : k < U.length + x.length
   ·rw [if_pos a2, if_pos a2, gB_blank hx]
   ·rw [if_neg a2, if_neg a2, Nat.sub_sub]
 refine ⟨?_, ?_, fun w => ?_⟩
 ·split
  ·exact hp
  ·split <;> omega
 ·unfold aheadN
  split
  ·rename_i q
   rw [List.append_assoc, List.append_assoc, take_app (by omega), take_app (by omega)]
  ·rename_i q
   split
   ·rename_i q2
    have e : ∀ x : List Int, blank x → ∀ k, (((U ++ x ++ V).take (U.length + x.length + k)).filter nBl).length = (U.filter nBl).length + ((V.take k).filter nBl).length := fun x hx k => by
     rw [← List.length_append, take_cat]
     simp [hx.filter]
    rw [show p - 1 = U.length + mo.length + (p - 1 - U.length - mo.length) by omega, e mo h1, show p + mn.length - mo.length - 1 = U.length + mn.length + (p - 1 - U.length - mo.length) by omega, e mn h2]
   ·rename_i q2
    rw [show p - 1 = U.length + (p - 1 - U.length) by omega, List.append_assoc, take_cat, take_app (by omega), show U.length + 1 - 1 = U.length by omega, List.append_assoc, take_cat0]
    simp [(h1.take _).filter]
 ·rw [within_iff] at w ⊢
  obtain ⟨w1, w2, w3⟩ := w
  rw [gT mo _ h1] at w2 w3
  by_cases q1 : p ≤ U.length
  ·rw [if_pos (by omega)] at w2 w3
   rw [if_pos (by omega), gT mn _ h2, gT mn _ h2, if_pos (by omega), if_pos (by omega)]
   exact ⟨w1, w2, w3⟩
  ·by_cases q2 : U.length + mo.length + 2 ≤ p
   ·rw [if_neg (by omega), if_neg (by omega)] at w2 w3
    rw [if_neg (by omega), if_pos (by omega), gT mn _ h2, gT mn _ h2, if_neg (by omega), if_neg (by omega), if_neg (by omega), if_neg (by omega)]
    rw [show p + mn.length - mo.length - 2 - U.length - mn.length = p - 2 - U.length - mo.length by omega, show p + mn.length - mo.length - 1 - U.length - mn.length = p - 1 - U.length - mo.length by omega]
    exact ⟨by omega, w2, w3⟩
   ·exfalso
    rw [if_neg (by omega)] at w3
    split at w3
    ·cases w3
    rename_i q3
    have hp2 : p = U.length + mo.length + 1 := by omega
    subst hp2
    by_cases hmo : mo = []
    ·subst hmo
     simp only [List.length_nil, Nat.add_zero] at w1 w2 w3
     rw [if_pos (by omega)] at w2
     rcases adj with a | a | a | a
     ·exact a rfl
     ·subst a; simp at w1
     ·rw [show U.length + 1 - 2 = U.length - 1 by omega, a] at w2; cases w2
     ·rw [show U.length + 1 - 1 - U.length - 0 = 0 by omega, a] at w3; cases w3
    ·have hl := List.length_pos_iff.mpr hmo
     rw [if_neg (by omega), if_pos (by omega)] at w2
     cases w2
end Mine
end
section
namespace Mine
theorem blank.app {a b : List Int} (h : blank (a ++ b)) : blank a ∧ blank b := ⟨fun c hc => h c (List.mem_append_left _ hc), fun c hc => h c (List.mem_append_right _ hc)⟩
theorem gB_last {U p : List Int} (h : blank p) (hp : p ≠ []) : gB (U ++ p) ((U ++ p).length - 1) = false := by
 have := List.length_pos_iff.mpr hp
 rw [gB_app, List.length_append, if_neg (by omega)]
 exact gB_blank h _
theorem gB_first {q V : List Int} (h : blank q) (hq : q ≠ []) : gB (q ++ V) 0 = false := by
 have := List.length_pos_iff.mpr hq
 rw [gB_app, if_pos this]
 exact gB_blank h _
theorem seg_kept {A C old Y own : List Int} {n k : Nat} {S : St} (h1 : n ≤ k) (h2 : k ≤ old.length) (hS : S.text = A ++ (old.take k ++ Y) ++ C) (b1 : blank (sub old n k)) (b2 : blank own)
  (adj : sub old n k ≠ [] ∨ sub old n k = own ∨ A ++ old.take n = [] ∨ gB (A ++ old.take n) ((A ++ old.take n).length - 1) = false ∨ gB (Y ++ C) 0 = false) :
  ∃ f, (runE (A.length + 1) (if sub old n k = own then [] else [narrow n k old own]) S).text = A ++ (old.take n ++ own ++ Y) ++ C ∧ moveBy f S (runE (A.length + 1) (if sub old n k = own then [] else [narrow n k old own]) S) ∧
   Shf (A.length + 1) (k + Y.length) (n + own.length + Y.length) f ∧ keptP S.text (A ++ (old.take n ++ own ++ Y) ++ C) f := by
 have hk : old.take k = old.take n ++ sub old n k := (take_sub h1).symm
 have hnl : (old.take n).length = n := by rw [List.length_take]; omega
 by_cases q : sub old n k = own
 ·rw [if_pos q]
  have ht : S.text = A ++ (old.take n ++ own ++ Y) ++ C := by rw [hS, hk, q]
  refine ⟨fun p => p, ht, moveBy.id S, ?_, by rw [ht]; exact keptP.id _⟩
  have : own.length = k - n := by rw [← q, sub_len h2]
  rw [show n + own.length + Y.length = k + Y.length by omega]
  exact Shf.id _ _
 ·rw [if_neg q]
  obtain ⟨p, mo, mn, r, e1, e2, e3⟩ := narrow_spec (own := own) h1 h2
  rw [e3, runE_one]
  dsimp only
  have hsl := sub_len (s := n) h2
  rw [e1] at hsl b1 q adj
  rw [e2] at b2
  simp only [List.length_append] at hsl
  have hT : S.text = (A ++ old.take n ++ p) ++ mo ++ (r ++ Y ++ C) := by rw [hS, hk, e1]; simp
  have hUl : (A ++ old.take n ++ p).length = A.length + (n + p.length) := by simp [hnl]
  have hw : own.length = p.length + mn.length + r.length := by rw [e2]; simp; omega
  have hT' : A ++ (old.take n ++ own ++ Y) ++ C = (A ++ old.take n ++ p) ++ mn ++ (r ++ Y ++ C) := by rw [e2]; simp
  obtain ⟨b1', bq⟩ := b1.app
  obtain ⟨bp, bmo⟩ := b1'.app
  have bmn := (b2.app.1).app.2
  refine ⟨movF (A.length + 1 + (n + p.length)) (A.length + 1 + (n + p.length + mo.length)) mn.length, ?_, repS_move, ?_, ?_⟩
  ·have := repS_text (mn := mn) hT
   rw [hUl] at this
   rw [show A.length + 1 + (n + p.length) = A.length + (n + p.length) + 1 by omega, show A.length + 1 + (n + p.length + mo.length) = A.length + (n + p.length) + mo.length + 1 by omega, this, hT']
  ·have := movF_shf (lo := A.length + 1) (n := k + Y.length) (a := n + p.length) (b := n + p.length + mo.length) (w := mn.length) (by omega) (by omega)
   rw [show k + Y.length + mn.length - (n + p.length + mo.length - (n + p.length)) = n + own.length + Y.length by omega] at this
   exact this
  ·rw [hT, hT', show A.length + 1 + (n + p.length) = (A ++ old.take n ++ p).length + 1 by omega, show A.length + 1 + (n + p.length + mo.length) = (A ++ old.take n ++ p).length + mo.length + 1 by omega]
   refine kept_one bmo bmn ?_
   by_cases z1 : mo = []
   ·by_cases z2 : p = []
    ·by_cases z3 : r = []
     ·subst z1 z2 z3
      rcases adj with a | a | a | a | a
      ·exact absurd rfl a
      ·exact absurd a.symm (fun z => q (by rw [z]))
      ·right; left; simpa using a
      ·right; right; left; simpa using a
      ·right; right; right; simpa using a
     ·right; right; right
      rw [List.append_assoc]; exact gB_first bq z3
    ·right; right; left
     exact gB_last bp z2
   ·exact .inl z1
def gapsOk : List (List Int × List Int) → List (List Int × List Int) → Prop
 | [p], [p'] => blank p.2 ∧ blank p'.2 ∧ (p.2 = [] → p'.2 = [])
 | p :: r, p' :: r' => blank p.2 ∧ blank p'.2 ∧ p.2 ≠ [] ∧ gapsOk r r'
 | _, _ => True
theorem same_words_run {A C old new : List Int} {S : St} (hS : S.text = A ++ old ++ C) : ∀ (ps ps' : List (List Int × List Int)) (pre pre' b b' : List Int), ps.map (·.1) = ps'.map (·.1) → old = pre ++ b ++ flatP ps → new = pre' ++ b' ++ flatP ps' →
  blank b → blank b' → gapsOk ps ps' → (b ≠ [] ∨ b = b' ∨ A ++ pre = [] ∨ gB (A ++ pre) ((A ++ pre).length - 1) = false ∨ gB (flatP ps' ++ C) 0 = false) →
  ∃ f, (runE (A.length + 1) (editsF old new pre.length pre'.length ((spansP (pre ++ b).length ps).zip (spansP (pre' ++ b').length ps') ++ [lastK old new])) S).text = A ++ (pre ++ b' ++ flatP ps') ++ C ∧
   moveBy f S (runE (A.length + 1) (editsF old new pre.length pre'.length ((spansP (pre ++ b).length ps).zip (spansP (pre' ++ b').length ps') ++ [lastK old new])) S) ∧
   Shf (A.length + 1) old.length (pre.length + b'.length + (flatP ps').length) f ∧ keptP S.text (A ++ (pre ++ b' ++ flatP ps') ++ C) f
 | [], ps', pre, pre', b, b', hw, ho, hn, hb, hb', hg, adj => by
  have : ps' = [] := by cases ps' with
   | nil => rfl
   | cons x y => cases hw
  subst this
  rw [show spansP (pre ++ b).length ([] : List (List Int × List Int)) = [] from rfl, List.zip_nil_left, List.nil_append, editsF_cons]
  rw [show editsF old new (lastK old new).1.2 (lastK old new).2.2 [] = [] from rfl, List.append_nil]
  simp only [flatP, List.flatMap_nil, List.append_nil] at ho hn adj ⊢
  have e1 : sub old pre.length (lastK old new).1.1 = b := by
   show sub old pre.length old.length = b
   rw [ho, List.length_append]
   have := sub_app (X := pre) (o := b) (Y := [])
   rw [List.append_nil] at this; exact this
  have e2 : sub new pre'.length (lastK old new).2.1 = b' := by
   show sub new pre'.length new.length = b'
   rw [hn, List.length_append]
   have := sub_app (X := pre') (o := b') (Y := [])
   rw [List.append_nil] at this; exact this
  have e3 : old.take pre.length = pre := by rw [ho, take_cat0]
  have ol : old.length = pre.length + b.length := by rw [ho, List.length_append]
  rw [e2]
  have e1' : sub old pre.length old.length = b := e1
  have := seg_kept (A := A) (C := C) (old := old) (Y := []) (own := b') (S := S) (n := pre.length) (k := old.length) (by omega) (Nat.le_refl _) (by rw [hS]; simp) (by rw [e1']; exact hb) hb' (by
   rw [e1', e3]
   rw [List.nil_append] at adj ⊢
   exact adj)
  rw [e3] at this
  obtain ⟨f, f1, f2, f3, f4⟩ := this
  rw [List.append_nil] at f1 f4
  exact ⟨f, f1, f2, f3, f4⟩
 | p :: ps, ps', pre, pre', b, b', hw, ho, hn, hb, hb', hg, adj => by
  cases ps' with
  | nil => cases hw
  | cons p' ps' =>
   simp only [List.map_cons, List.cons.injEq] at hw
   obtain ⟨hw1, hw2⟩ := hw
   have hbp : blank p.2 ∧ blank p'.2 ∧ (p.2 ≠ [] ∨ p.2 = p'.2) ∧ gapsOk ps ps' := by
    cases ps with
    | nil =>
     cases ps' with
     | nil =>
      obtain ⟨a1, a2, a3⟩ := hg
      refine ⟨a1, a2, ?_, trivial⟩
      by_cases z : p.2 = []
      ·right; rw [z, a3 z]
      ·exact .inl z
     | cons x y => cases hw2
    | cons x y =>
     cases ps' with
     | nil => cases hw2
     | cons x' y' =>
      obtain ⟨a1, a2, a3, a4⟩ := hg
      exact ⟨a1, a2, .inl a3, a4⟩
   obtain ⟨g1, g2, g3, g4⟩ := hbp
   have ih := same_words_run (new := new) hS ps ps' (pre ++ b ++ p.1) (pre' ++ b' ++ p'.1) p.2 p'.2 hw2 (by rw [ho, flatP_cons]; simp) (by rw [hn, flatP_cons]; simp) g1 g2 g4 (g3.elim .inl fun z => .inr (.inl z))
   obtain ⟨g, i1, i2, i3, i4⟩ := ih
   unfold spansP
   rw [List.zip_cons_cons, List.cons_append, editsF_cons, runE_app]
   dsimp only
   rw [show (pre ++ b).length + p.1.length = (pre ++ b ++ p.1).length by simp only [List.length_append], show (pre' ++ b').length + p'.1.length = (pre' ++ b' ++ p'.1).length by simp only [List.length_append], show (pre ++ b ++ p.1).length + p.2.length = (pre ++ b ++ p.1 ++ p.2).length by simp only [List.length_append], show (pre' ++ b' ++ p'.1).length + p'.2.length = (pre' ++ b' ++ p'.1 ++ p'.2).length by simp only [List.length_append]]
   generalize hS1 : runE (A.length + 1) (editsF old new (pre ++ b ++ p.1).length (pre' ++ b' ++ p'.1).length ((spansP (pre ++ b ++ p.1 ++ p.2).length ps).zip (spansP (pre' ++ b' ++ p'.1 ++ p'.2).length ps') ++ [lastK old new])) S = S1 at *
   have ho2 : old = pre ++ b ++ flatP (p :: ps) := ho
   have e1 : sub old pre.length (pre ++ b).length = b := by rw [ho, List.length_append]; exact sub_app
   have e2 : sub new pre'.length (pre' ++ b').length = b' := by rw [hn, List.length_append]; exact sub_app
   have e3 : old.take pre.length = pre := by rw [ho, List.append_assoc, take_cat0]
   have e4 : old.take (pre ++ b).length = pre ++ b := by rw [ho, take_cat0]
   have hle : (pre ++ b).length ≤ old.length := by rw [ho, List.length_append (as := pre ++ b)]; omega
   have hY : pre ++ b ++ p.1 ++ p'.2 ++ flatP ps' = (pre ++ b) ++ flatP (p' :: ps') := by rw [flatP_cons, hw1]; simp
   have := seg_kept (A := A) (C := C) (old := old) (Y := flatP (p' :: ps')) (own := b') (S := S1) (n := pre.length) (k := (pre ++ b).length) (by rw [List.length_append]; omega) hle (by rw [i1, hY, e4]) (by rw [e1]; exact hb) hb' (by
    rw [e1, e3]
    exact adj)
   rw [e2]
   rw [e3] at this
   obtain ⟨f, f1, f2, f3, f4⟩ := this
   refine ⟨_, f1, i2.trans f2, i3.trans ?_, ?_⟩
   ·have hl := congrArg List.length hY
    simp only [List.length_append] at hl f3 ⊢
    rw [show pre.length + b.length + p.1.length + p'.2.length + (flatP ps').length = pre.length + b.length + (flatP (p' :: ps')).length by omega]
    exact f3
   ·rw [← i1] at i4
    exact i4.trans f4
end Mine
end
section
namespace Mine
def GapsNE : List (List Int × List Int) → Prop
 | p :: q :: r => p.2 ≠ [] ∧ GapsNE (q :: r)
 | _ => True
theorem parse_gaps : ∀ l : List Int, GapsNE (parse l).2
 | [] => trivial
 | c :: r => by
  have ih := parse_gaps r
  unfold parse
  split
  ·exact ih
  ·split
   ·rename_i w g ps e1 e2
    rw [e2] at ih
    cases ps with
    | nil => exact trivial
    | cons q ps => exact ih
   ·rename_i hn
    cases e : (parse r).2 with
    | nil => exact trivial
    | cons q ps =>
     refine ⟨fun z => ?_, ?_⟩
     ·obtain ⟨w, g⟩ := q
      exact hn w g ps z e
     ·rw [← e]; exact ih
theorem gapsOk_of : ∀ (ps ps' : List (List Int × List Int)), ps.map (·.1) = ps'.map (·.1) → (∀ p ∈ ps, blank p.2) → (∀ p ∈ ps', blank p.2) → GapsNE ps → (∀ p p', ps.getLast? = some p → ps'.getLast? = some p' → p.2 = [] → p'.2 = []) → gapsOk ps ps'
 | [], _, _, _, _, _, _ => trivial
 | _ :: _, [], h, _, _, _, _ => by cases h
 | [p], [p'], _, h1, h2, _, h4 => ⟨h1 p List.mem_cons_self, h2 p' List.mem_cons_self, h4 p p' rfl rfl⟩
 | [_], _ :: _ :: _, h, _, _, _, _ => by simp at h
 | _ :: _ :: _, [_], h, _, _, _, _ => by simp at h
 | p :: q :: r, p' :: q' :: r', h, h1, h2, h3, h4 => by
  simp only [List.map_cons, List.cons.injEq] at h
  exact ⟨h1 p List.mem_cons_self, h2 p' List.mem_cons_self, h3.1, gapsOk_of (q :: r) (q' :: r') (by simp only [List.map_cons, List.cons.injEq]; exact h.2) (fun x hx => h1 x (List.mem_cons_of_mem _ hx)) (fun x hx => h2 x (List.mem_cons_of_mem _ hx)) h3.2
   fun x x' hx hx' => h4 x x' (by rw [List.getLast?_cons_cons]; exact hx) (by rw [List.getLast?_cons_cons]; exact hx')⟩
def endsW (l : List Int) : Prop := l ≠ [] ∧ gB l (l.length - 1) = true
theorem endsW_app {a b : List Int} (h : b ≠ []) : endsW (a ++ b) ↔ endsW b := by
 have hb := List.length_pos_iff.mpr h
 unfold endsW
 rw [gB_app, List.length_append, if_neg (by omega), show a.length + b.length - 1 - a.length = b.length - 1 by omega]
 simp [h]
theorem flatP_snoc (ps : List (List Int × List Int)) (p : List Int × List Int) : flatP (ps ++ [p]) = flatP ps ++ (p.1 ++ p.2) := by unfold flatP; simp
theorem endsW_blank {l : List Int} (h : blank l) : ¬ endsW l := fun ⟨_, h2⟩ => by rw [gB_blank h] at h2; cases h2
theorem endsW_word {w : List Int} (h : w ≠ []) (h2 : ∀ c ∈ w, isBl c = false) : endsW w := by
 have := List.length_pos_iff.mpr h
 refine ⟨h, ?_⟩
 unfold gB
 rw [show w.getD (w.length - 1) 32 = w[w.length - 1]'(by omega) by simp [List.getD, List.getElem?_eq_getElem (show w.length - 1 < w.length by omega)]]
 simp [nBl, h2 _ (List.getElem_mem (show w.length - 1 < w.length by omega))]
theorem last_gap {l : List Int} {p : List Int × List Int} (h : (parse l).2.getLast? = some p) : p.2 = [] ↔ endsW l := by
 obtain ⟨h1, h2, h3⟩ := parse_ok l
 have hne : (parse l).2 ≠ [] := fun z => by rw [z] at h; cases h
 have hp : p ∈ (parse l).2 := List.mem_of_getLast? h
 have e : (parse l).2 = (parse l).2.dropLast ++ [p] := by
  have := List.dropLast_concat_getLast hne
  rw [List.getLast?_eq_some_getLast hne] at h
  injection h with h
  rw [← h]; exact this.symm
 have hl : l = ((parse l).1 ++ flatP (parse l).2.dropLast) ++ (p.1 ++ p.2) := by
  have h3' : (parse l).1 ++ flatP (parse l).2 = l := h3
  rw [e, flatP_snoc] at h3'
  rw [List.append_assoc]; exact h3'.symm
 obtain ⟨p1, p2, p3⟩ := h1 p hp
 rw [hl, endsW_app (by simp [p1])]
 constructor
 ·intro z
  rw [z, List.append_nil]; exact endsW_word p1 p2
 ·intro z
  refine Classical.byContradiction fun q => ?_
  rw [endsW_app q] at z
  exact endsW_blank p3 z
theorem same_words_edits {A C old new : List Int} {S : St} (hS : S.text = A ++ old ++ C) (hw : wordsL old = wordsL new) (hA : A = [] ∨ gB A (A.length - 1) = false) (he : endsW old → endsW new) :
  ∃ f, (runE (A.length + 1) (editsOf old new) S).text = A ++ new ++ C ∧ moveBy f S (runE (A.length + 1) (editsOf old new) S) ∧ Shf (A.length + 1) old.length new.length f ∧ keptP S.text (A ++ new ++ C) f := by
 obtain ⟨o1, o2, o3⟩ := parse_ok old
 obtain ⟨n1, n2, n3⟩ := parse_ok new
 have hg : gapsOk (parse old).2 (parse new).2 := gapsOk_of _ _ hw (fun p hp => (o1 p hp).2.2) (fun p hp => (n1 p hp).2.2) (parse_gaps old) fun p p' hp hp' z => (last_gap hp').mpr (he ((last_gap hp).mp z))
 have := same_words_run (new := new) hS (parse old).2 (parse new).2 [] [] (parse old).1 (parse new).1 hw o3.symm n3.symm o2 n2 hg (by
  rcases hA with h | h
  ·right; right; left; rw [h]; rfl
  ·right; right; right; left; rw [List.append_nil]; exact h)
 have e : editsOf old new = editsF old new ([] : List Int).length ([] : List Int).length ((spansP ([] ++ (parse old).1).length (parse old).2).zip (spansP ([] ++ (parse new).1).length (parse new).2) ++ [lastK old new]) := by
  unfold editsOf
  rw [keptOf_zip hw]
  unfold spansOf spansAt
  simp only [List.nil_append, Nat.zero_add, List.length_nil]
  rfl
 rw [e]
 obtain ⟨f, f1, f2, f3, f4⟩ := this
 have hn : [] ++ (parse new).1 ++ flatP (parse new).2 = new := n3
 rw [hn] at f1 f4
 have hl := congrArg List.length hn
 simp only [List.length_append, List.length_nil] at hl f3
 rw [show 0 + (parse new).1.length + (flatP (parse new).2).length = new.length by omega] at f3
 exact ⟨f, f1, f2, f3, f4⟩
theorem wordsL_bl {c : Int} {r : List Int} (h : isBl c = true) : wordsL (c :: r) = wordsL r := by
 unfold wordsL
 conv => lhs; unfold parse
 rw [if_pos h]
theorem wordsL_blank : ∀ {b r : List Int}, blank b → wordsL (b ++ r) = wordsL r
 | [], _, _ => rfl
 | c :: b, r, h => by
  rw [List.cons_append, wordsL_bl (h c List.mem_cons_self)]
  exact wordsL_blank fun x hx => h x (List.mem_cons_of_mem _ hx)
def consW (x : Int) (q : List Int × List (List Int × List Int)) : List Int × List (List Int × List Int) := match q.1, q.2 with
 | [], (w, g) :: ps => ([], (x :: w, g) :: ps)
 | b, ps => ([], ([x], b) :: ps)
theorem consW_ne {x : Int} {q : List Int × List (List Int × List Int)} (h : q.1 ≠ []) : (consW x q).2.map (·.1) = [x] :: q.2.map (·.1) := by
 obtain ⟨q1, q2⟩ := q
 cases q1 with
 | nil => exact absurd rfl h
 | cons y ys => rfl
theorem parse_cons_nb {c : Int} {r : List Int} (h : isBl c = false) : parse (c :: r) = consW c (parse r) := by
 conv => lhs; unfold parse
 rw [h]; rfl
theorem parse_nil_words {a : List Int} (h : a ≠ []) (h2 : (parse a).1 = []) : ∃ w g ps, (parse a).2 = (w, g) :: ps := by
 cases e : (parse a).2 with
 | nil =>
  have := (parse_ok a).2.2
  rw [h2, e] at this
  exact absurd this.symm h
 | cons p ps => exact ⟨p.1, p.2, ps, rfl⟩
theorem words_split_aux : ∀ (a b : List Int) (c : Int), isBl c = true → wordsL (a ++ c :: b) = wordsL a ++ wordsL b ∧ ((parse (a ++ c :: b)).1 = [] ↔ a ≠ [] ∧ (parse a).1 = [])
 | [], b, c, h => by
  refine ⟨by rw [List.nil_append, wordsL_bl h]; rfl, ?_⟩
  rw [List.nil_append]
  unfold parse
  rw [if_pos h]
  simp
 | x :: a, b, c, h => by
  obtain ⟨i1, i2⟩ := words_split_aux a b c h
  rw [List.cons_append]
  cases hx : isBl x with
  | true =>
   refine ⟨by rw [wordsL_bl hx, wordsL_bl hx, i1], ?_⟩
   have e : ∀ r, (parse (x :: r)).1 = x :: (parse r).1 := fun r => by
    conv => lhs; unfold parse
    rw [if_pos hx]
   rw [e, e]; simp
  | false =>
   refine ⟨?_, ?_⟩
   rotate_left
   ·rw [parse_nb hx, parse_nb hx]; simp
   unfold wordsL at i1 ⊢
   rw [parse_cons_nb hx, parse_cons_nb hx]
   by_cases ha : a ≠ [] ∧ (parse a).1 = []
   ·obtain ⟨w, g, ps, e⟩ := parse_nil_words ha.1 ha.2
    have e1 := i2.mpr ha
    obtain ⟨w', g', ps', e'⟩ := parse_nil_words (show a ++ c :: b ≠ [] by simp) e1
    rw [e, e'] at i1
    unfold consW
    rw [ha.2, e1, e, e']
    simp only [List.map_cons, List.cons_append, List.cons.injEq] at i1 ⊢
    exact ⟨⟨trivial, i1.1⟩, i1.2⟩
   ·have e1 : (parse (a ++ c :: b)).1 ≠ [] := fun z => ha (i2.mp z)
    rw [consW_ne e1, i1]
    by_cases ha1 : a = []
    ·subst ha1; rfl
    ·have : (parse a).1 ≠ [] := fun z => ha ⟨ha1, z⟩
     rw [consW_ne this]; rfl
theorem wordsL_split {a b : List Int} {c : Int} (h : isBl c = true) : wordsL (a ++ c :: b) = wordsL a ++ wordsL b := (words_split_aux a b c h).1
theorem wordsL_join : ∀ (rows : List (List Int)), wordsL (joinRows rows) = rows.flatMap wordsL
 | [] => rfl
 | [r] => by simp [joinRows]
 | r :: q :: rs => by
  have e : joinRows (r :: q :: rs) = r ++ 10 :: joinRows (q :: rs) := rfl
  rw [e, wordsL_split (by decide), wordsL_join (q :: rs)]; rfl
end Mine
end
section
namespace Mine
theorem join_cons_split (c : Int) (h : List Int) (t : List (List Int)) : joinRows ((c :: h) :: t) = c :: joinRows (h :: t) := by cases t <;> rfl
theorem join_split : ∀ l : List Int, joinRows (splitRows l) = l
 | [] => rfl
 | c :: r => by
  have ih := join_split r
  unfold splitRows
  split
  ·rename_i h; subst h
   cases e : splitRows r with
   | nil => exact absurd e (splitRows_ne r)
   | cons x xs => rw [e] at ih; show 10 :: joinRows (x :: xs) = _; rw [ih]
  ·split
   ·rename_i x xs e; rw [e] at ih; rw [join_cons_split, ih]
   ·rename_i e; exact absurd e (splitRows_ne r)
theorem split_no10 : ∀ (l : List Int), ∀ r ∈ splitRows l, (10 : Int) ∉ r
 | [], r, h => by simp [splitRows] at h; subst h; simp
 | c :: l, r, h => by
  have ih := split_no10 l
  unfold splitRows at h
  split at h
  ·rcases List.mem_cons.mp h with rfl | h
   ·simp
   ·exact ih r h
  ·rename_i hc
   split at h
   ·rename_i x xs e
    rw [e] at ih
    rcases List.mem_cons.mp h with rfl | h
    ·have := ih x List.mem_cons_self
     simp [this, Ne.symm hc]
    ·exact ih r (List.mem_cons_of_mem _ h)
   ·rename_i e; exact absurd e (splitRows_ne l)
theorem split_of_no10 : ∀ r : List Int, (10 : Int) ∉ r → splitRows r = [r]
 | [], _ => rfl
 | c :: r, h => by
  have hc : c ≠ 10 := fun e => h (by simp [e])
  have ih := split_of_no10 r fun z => h (List.mem_cons_of_mem _ z)
  unfold splitRows
  rw [if_neg hc, ih]
theorem split_app : ∀ (a b : List Int), (10 : Int) ∉ a → splitRows (a ++ 10 :: b) = a :: splitRows b
 | [], b, _ => by
  show splitRows (10 :: b) = _
  conv => lhs; unfold splitRows
  rw [if_pos rfl]
 | c :: a, b, h => by
  have hc : c ≠ 10 := fun e => h (by simp [e])
  have ih := split_app a b fun z => h (List.mem_cons_of_mem _ z)
  rw [List.cons_append]
  conv => lhs; unfold splitRows
  rw [if_neg hc, ih]
theorem split_join : ∀ (rows : List (List Int)), rows ≠ [] → (∀ r ∈ rows, (10 : Int) ∉ r) → splitRows (joinRows rows) = rows
 | [], h, _ => absurd rfl h
 | [r], _, h => split_of_no10 r (h r List.mem_cons_self)
 | r :: q :: rs, _, h => by
  show splitRows (r ++ 10 :: joinRows (q :: rs)) = _
  rw [split_app _ _ (h r List.mem_cons_self), split_join (q :: rs) (by simp) fun x hx => h x (List.mem_cons_of_mem _ hx)]
def wOk (row : List Piece) : Prop := ∀ p ∈ row, p.1 ≠ [] ∧ ∀ c ∈ p.1, isBl c = false
def zipG : List Piece → List Int → List (List Int × List Int)
 | [], _ => []
 | [p], _ => [(p.1, [])]
 | p :: q :: r, g :: gs => (p.1, List.replicate g.toNat 32) :: zipG (q :: r) gs
 | p :: _ :: _, [] => [(p.1, [])]
theorem rowCodes_zip : ∀ (row : List Piece) (gaps : List Int), rowCodes row gaps = flatP (zipG row gaps)
 | [], _ => by simp [rowCodes, zipG, flatP]
 | [p], gaps => by rw [rowCodes_one]; simp [zipG, flatP]
 | p :: q :: r, [] => by simp [rowCodes, zipG, flatP]
 | p :: q :: r, g :: gs => by
  rw [rowCodes_cons2, rowCodes_zip (q :: r) gs]; rfl
theorem blank_rep (n : Nat) : blank (List.replicate n 32) := fun c hc => by rw [(List.mem_replicate.mp hc).2]; rfl
theorem zipG_ok : ∀ (row : List Piece) (gaps : List Int), wOk row → ∀ p ∈ zipG row gaps, p.1 ≠ [] ∧ (∀ c ∈ p.1, isBl c = false) ∧ blank p.2
 | [], _, _, p, h => by simp [zipG] at h
 | [x], _, hw, p, h => by
  simp [zipG] at h; subst h
  exact ⟨(hw x List.mem_cons_self).1, (hw x List.mem_cons_self).2, fun c hc => by cases hc⟩
 | x :: y :: r, [], hw, p, h => by
  simp [zipG] at h; subst h
  exact ⟨(hw x List.mem_cons_self).1, (hw x List.mem_cons_self).2, fun c hc => by cases hc⟩
 | x :: y :: r, g :: gs, hw, p, h => by
  unfold zipG at h
  rcases List.mem_cons.mp h with rfl | h
  ·exact ⟨(hw x List.mem_cons_self).1, (hw x List.mem_cons_self).2, blank_rep _⟩
  ·exact zipG_ok (y :: r) gs (fun z hz => hw z (List.mem_cons_of_mem _ hz)) p h
theorem zipG_fst : ∀ (row : List Piece) (gaps : List Int), row.length ≤ gaps.length + 1 → (zipG row gaps).map (·.1) = row.map (·.1)
 | [], _, _ => rfl
 | [x], _, _ => rfl
 | x :: y :: r, [], h => by simp at h
 | x :: y :: r, g :: gs, h => by
  unfold zipG
  rw [List.map_cons, zipG_fst (y :: r) gs (by simp at h ⊢; omega)]; rfl
theorem zipG_ne : ∀ (row : List Piece) (gaps : List Int), (∀ g ∈ gaps, 1 ≤ g) → GapsNE (zipG row gaps)
 | [], _, _ => trivial
 | [_], _, _ => trivial
 | _ :: _ :: _, [], _ => trivial
 | x :: y :: r, g :: gs, h => by
  have hg := h g List.mem_cons_self
  have ih := zipG_ne (y :: r) gs fun z hz => h z (List.mem_cons_of_mem _ hz)
  unfold zipG
  cases e : zipG (y :: r) gs with
  | nil => exact trivial
  | cons a as =>
   rw [e] at ih
   refine ⟨fun z => ?_, ih⟩
   have : (List.replicate g.toNat (32 : Int)).length = 0 := by
    show (x.1, List.replicate g.toNat (32 : Int)).2.length = 0
    rw [z]; rfl
   rw [List.length_replicate] at this
   omega
theorem parse_flat : ∀ (X : List (List Int × List Int)), (∀ p ∈ X, p.1 ≠ [] ∧ (∀ c ∈ p.1, isBl c = false) ∧ blank p.2) → GapsNE X → parse (flatP X) = ([], X)
 | [], _, _ => rfl
 | p :: r, h, hg => by
  obtain ⟨a1, a2, a3⟩ := h p List.mem_cons_self
  have ih := parse_flat r (fun x hx => h x (List.mem_cons_of_mem _ hx)) (by cases r with
   | nil => trivial
   | cons q r => exact hg.2)
  have e : flatP (p :: r) = p.1 ++ (p.2 ++ flatP r) := by rw [flatP_cons, List.append_assoc]
  rw [e, parse_word p.1 _ a1 a2 ?_, parse_bl p.2 _ a3, ih, List.append_nil]
  intro c hc
  by_cases hp : p.2 = []
  ·cases r with
   | nil => rw [hp] at hc; cases hc
   | cons q r => exact absurd hp hg.1
  ·cases e2 : p.2 with
   | nil => exact absurd e2 hp
   | cons x xs =>
    rw [e2] at hc a3
    cases hc
    exact a3 _ List.mem_cons_self
theorem rowCodes_words {row : List Piece} {gaps : List Int} (h1 : wOk row) (h2 : ∀ g ∈ gaps, 1 ≤ g) (h3 : row.length ≤ gaps.length + 1) : wordsL (rowCodes row gaps) = row.map (·.1) := by
 unfold wordsL
 rw [rowCodes_zip, parse_flat _ (zipG_ok row gaps h1) (zipG_ne row gaps h2), zipG_fst _ _ h3]
theorem rowCodes_ends : ∀ {row : List Piece} {gaps : List Int}, wOk row → row ≠ [] → row.length ≤ gaps.length + 1 → endsW (rowCodes row gaps)
 | [], _, _, h, _ => absurd rfl h
 | [p], gaps, hw, _, _ => by rw [rowCodes_one]; exact endsW_word (hw p List.mem_cons_self).1 (hw p List.mem_cons_self).2
 | _ :: _ :: _, [], _, _, h => by simp at h
 | p :: q :: r, g :: gs, hw, _, h => by
  have ih := rowCodes_ends (row := q :: r) (gaps := gs) (fun z hz => hw z (List.mem_cons_of_mem _ hz)) (by simp) (by simp at h ⊢; omega)
  rw [rowCodes_cons2, endsW_app ih.1]; exact ih
theorem spread_pos {row : List Piece} (h : okRow row) (width : Int) : ∀ g ∈ spreadGaps row width, 1 ≤ g := fun g hg => (spread_mem (W := width.toNat) h (by omega) g hg).1
theorem own_len {row : List Piece} : row.length ≤ (ownGaps row).length + 1 := by unfold ownGaps; rw [List.length_map]; omega
theorem placed_form {row : List Piece} (h : okRow row) (width : Int) (way : Nat) (last : Bool) : ∃ k gaps, placedRow row width way last = List.replicate k 32 ++ rowCodes row gaps ∧ (∀ g ∈ gaps, 1 ≤ g) ∧ row.length ≤ gaps.length + 1 := by
 unfold placedRow
 split
 ·exact ⟨0, _, rfl, spread_pos h width, spread_len⟩
 ·split
  ·exact ⟨0, _, rfl, fun g hg => (h.gaps g hg).1, own_len⟩
  ·split
   ·exact ⟨_, _, rfl, fun g hg => (h.gaps g hg).1, own_len⟩
   ·exact ⟨_, _, rfl, fun g hg => (h.gaps g hg).1, own_len⟩
theorem placed_words {row : List Piece} (h : okRow row) (hw : wOk row) (width : Int) (way : Nat) (last : Bool) : wordsL (placedRow row width way last) = row.map (·.1) := by
 obtain ⟨k, gaps, e, g1, g2⟩ := placed_form h width way last
 rw [e, wordsL_blank (blank_rep k), rowCodes_words hw g1 g2]
theorem placed_ends {row : List Piece} (h : okRow row) (hw : wOk row) (hn : row ≠ []) (width : Int) (way : Nat) (last : Bool) : endsW (placedRow row width way last) := by
 obtain ⟨k, gaps, e, g1, g2⟩ := placed_form h width way last
 have := rowCodes_ends hw hn g2
 rw [e, endsW_app this.1]; exact this
theorem wOk_pieces (l : List Int) : wOk (piecesOf l) := fun p hp => by
 unfold piecesOf at hp
 obtain ⟨q, hq, rfl⟩ := List.mem_map.mp hp
 have := (parse_ok l).1 q hq
 exact ⟨this.1, this.2.1⟩
theorem pieces_words (l : List Int) : (piecesOf l).map (·.1) = wordsL l := by unfold piecesOf wordsL; rw [List.map_map]; rfl
theorem wOk_rows : ∀ (n : Nat) (w0 w : Int) (ps : List Piece), wOk ps → ∀ part ∈ rowsF n w0 w ps, wOk part
 | 0, _, _, _, _, _, h => by cases h
 | n + 1, w0, w, ps, hp, part, h => by
  unfold rowsF at h
  split at h
  ·cases h
  ·rcases List.mem_cons.mp h with rfl | h
   ·exact fun p hx => hp p (List.take_subset _ _ hx)
   ·exact wOk_rows n w w _ (fun p hx => hp p (List.drop_subset _ _ hx)) part h
theorem isLd_nil {c : Int} (h : isLd [] c = true) : isBl c = true := by
 unfold isLd at h
 unfold isBl
 simp at h ⊢
 rcases h with h | h <;> simp [h]
theorem lead_blank (row : List Int) : blank (leadOf [] row) := fun c hc => isLd_nil (all_take c hc)
theorem lead_drop {row : List Int} {k : Nat} (h : k ≤ (leadOf [] row).length) : wordsL (row.drop k) = wordsL row := by
 have e : row = row.take k ++ row.drop k := (List.take_append_drop k row).symm
 have hb : blank (row.take k) := by
  have : row.take k = (leadOf [] row).take k := by
   have := List.takeWhile_append_dropWhile (p := isLd []) (l := row)
   have e2 : row = leadOf [] row ++ row.dropWhile (isLd []) := this.symm
   conv => lhs; rw [e2]
   exact take_app h
  rw [this]; exact (lead_blank row).take k
 conv => rhs; rw [e]
 rw [wordsL_blank hb]
theorem comSt_mem {x : Int} : ∀ {a b : List Int}, x ∈ comSt a b → x ∈ a
 | [], _, h => by simp [comSt] at h
 | _ :: _, [], h => by simp [comSt] at h
 | c :: a, d :: b, h => by
  unfold comSt at h
  split at h
  ·rcases List.mem_cons.mp h with rfl | h
   ·exact List.mem_cons_self
   ·exact List.mem_cons_of_mem _ (comSt_mem h)
  ·cases h
theorem fold_len {L : List Int} : ∀ (rs : List (List Int)) (a : List Int), (rs.foldl (fun a r => comSt a (leadOf L r)) a).length ≤ a.length ∧ (∀ r ∈ rs, (rs.foldl (fun a r => comSt a (leadOf L r)) a).length ≤ (leadOf L r).length) ∧ ∀ x ∈ rs.foldl (fun a r => comSt a (leadOf L r)) a, x ∈ a
 | [], a => ⟨Nat.le_refl _, fun r h => (by cases h), fun x h => h⟩
 | q :: rs, a => by
  obtain ⟨h1, h2, h3⟩ := fold_len rs (comSt a (leadOf L q))
  rw [List.foldl_cons]
  refine ⟨Nat.le_trans h1 (comSt_len _ _), fun r hr => ?_, fun x hx => comSt_mem (h3 x hx)⟩
  rcases List.mem_cons.mp hr with rfl | hr
  ·exact Nat.le_trans h1 (comSt_len2 _ _)
  ·exact h2 r hr
theorem leads_tail {L : List Int} {r0 : List Int} {rs : List (List Int)} (h : rs ≠ []) : (∀ r ∈ rs, (leadsOf L (r0 :: rs)).2.length ≤ (leadOf L r).length) ∧ ∀ x ∈ (leadsOf L (r0 :: rs)).2, x ∈ leadOf L (rs.headD []) := by
 match rs, h with
 | r1 :: rs, _ =>
  obtain ⟨h1, h2, h3⟩ := fold_len (L := L) rs (leadOf L r1)
  refine ⟨fun r hr => ?_, h3⟩
  rcases List.mem_cons.mp hr with rfl | hr
  ·exact h1
  ·exact h2 r hr
theorem leads_blank (rows : List (List Int)) : blank (leadsOf [] rows).1 ∧ blank (leadsOf [] rows).2 := by
 match rows with
 | [] => exact ⟨fun c h => (by cases h), fun c h => by cases h⟩
 | [r] =>
  refine ⟨lead_blank r, ?_⟩
  show blank (if _ then _ else _)
  split
  ·exact lead_blank r
  ·exact fun c h => by cases h
 | r0 :: r1 :: rs =>
  refine ⟨lead_blank r0, fun c hc => lead_blank r1 c ((leads_tail (L := []) (r0 := r0) (rs := r1 :: rs) (by simp)).2 c hc)⟩
theorem wordsOf_words {rows : List (List Int)} (h : rows ≠ []) : wordsL (wordsOf [] rows) = rows.flatMap wordsL := by
 match rows, h with
 | [r], _ =>
  unfold wordsOf
  simp only [List.headD_cons, List.tail_cons, List.flatMap_nil, List.append_nil, List.flatMap_cons]
  exact lead_drop (Nat.le_refl _)
 | r0 :: r1 :: rs, _ =>
  have hl := (leads_tail (L := []) (r0 := r0) (rs := r1 :: rs) (by simp)).1
  unfold wordsOf
  simp only [List.headD_cons, List.tail_cons]
  generalize (leadsOf [] (r0 :: r1 :: rs)).2.length = k at *
  have h0 : wordsL (r0.drop (leadsOf [] (r0 :: r1 :: rs)).1.length) = wordsL r0 := lead_drop (Nat.le_refl _)
  generalize r0.drop (leadsOf [] (r0 :: r1 :: rs)).1.length = x at *
  have e : ∀ (q : List (List Int)) (y : List Int), wordsL (y ++ q.flatMap fun r => 10 :: r.drop k) = wordsL y ++ q.flatMap fun r => wordsL (r.drop k) := by
   intro q
   induction q with
   | nil => intro y; simp
   | cons z q ih =>
    intro y
    rw [List.flatMap_cons, List.cons_append, wordsL_split (by decide), ih, List.flatMap_cons]
  have key : ∀ q : List (List Int), (∀ r ∈ q, k ≤ (leadOf [] r).length) → q.flatMap (fun r => wordsL (r.drop k)) = q.flatMap wordsL := by
   intro q
   induction q with
   | nil => intro _; rfl
   | cons z q ih =>
    intro hq
    rw [List.flatMap_cons, List.flatMap_cons, lead_drop (hq z List.mem_cons_self), ih fun r hr => hq r (List.mem_cons_of_mem _ hr)]
  rw [e, h0, key _ hl]; rfl
theorem laid_words {col : Int} {way n i : Nat} {first rest : List Int} {part : List Piece} (h1 : blank first) (h2 : blank rest) (h3 : okRow part) (h4 : wOk part) : wordsL (laidRow col way first rest n i part) = part.map (·.1) := by
 unfold laidRow
 split
 ·rw [wordsL_blank h1, placed_words h3 h4]
 ·rw [wordsL_blank h2, placed_words h3 h4]
theorem flat_idx {col : Int} {way n : Nat} {first rest : List Int} (h1 : blank first) (h2 : blank rest) : ∀ (parts : List (List Piece)) (k : Nat), (∀ p ∈ parts, okRow p ∧ wOk p) →
  ((parts.zipIdx k).map fun p => laidRow col way first rest n p.2 p.1).flatMap wordsL = parts.flatten.map (·.1)
 | [], _, _ => rfl
 | p :: parts, k, h => by
  have hp := h p List.mem_cons_self
  rw [List.zipIdx_cons, List.map_cons, List.flatMap_cons, laid_words h1 h2 hp.1 hp.2, flat_idx h1 h2 parts (k + 1) fun x hx => h x (List.mem_cons_of_mem _ hx), List.flatten_cons, List.map_append]
theorem parts_facts {col : Int} {L : List Int} {rows : List (List Int)} (hn : rows ≠ []) (hs : rsz rows ≤ 4001) : ∀ p ∈ partsOf col L rows, okRow p ∧ wOk p ∧ p ≠ [] := fun p hp => by
 have hw := wordsOf_len (L := L) hn
 exact ⟨okRow.rows _ _ _ _ (okRow_pieces (by omega)) p hp, wOk_rows _ _ _ _ (wOk_pieces _) p hp, rowsF_ne _ _ _ _ p hp⟩
theorem filledP_words {col : Int} {way : Nat} {rows : List (List Int)} (hn : rows ≠ []) (hs : rsz rows ≤ 4001) : (filledP col way [] rows).flatMap wordsL = rows.flatMap wordsL := by
 obtain ⟨b1, b2⟩ := leads_blank rows
 unfold filledP
 rw [flat_idx b1 b2 _ 0 fun p hp => ⟨(parts_facts hn hs p hp).1, (parts_facts hn hs p hp).2.1⟩]
 have : (partsOf col [] rows).flatten = piecesOf (wordsOf [] rows) := rowsOf_flat _ _ _
 rw [this, pieces_words, wordsOf_words hn]
theorem filledG_words {col : Int} {way : Nat} : ∀ (rows par : List (List Int)), rsz par + rsz rows ≤ 4001 → (filledG col way [] par rows).flatMap wordsL = (par ++ rows).flatMap wordsL
 | [], par, hs => by
  rw [filledG_nil]
  split
  ·rename_i h; subst h; rfl
  ·rename_i h
   rw [List.append_nil, filledP_words h (by simp [rsz] at hs; unfold rsz; omega)]
 | r :: rows, par, hs => by
  rw [rsz_cons] at hs
  rw [filledG_cons]
  split
  ·rw [List.flatMap_append, List.flatMap_cons, filledG_words rows [] (by simp [rsz] at *; omega), List.nil_append, List.flatMap_append, List.flatMap_cons]
   congr 1
   split
   ·rename_i h; subst h; rfl
   ·rename_i h; exact filledP_words h (by omega)
  ·rw [filledG_words rows (par ++ [r]) (by rw [rsz_append, rsz_cons]; simp [rsz] at *; omega)]; simp
theorem filledT_words {col : Int} {way : Nat} {l : List Int} (hl : l.length ≤ 4000) : wordsL (filledT col way [] l) = wordsL l := by
 unfold filledT
 rw [wordsL_join, filledG_words _ _ (by rw [split_rsz]; simp [rsz]; omega), List.nil_append, ← wordsL_join, join_split]
end Mine
end
section
namespace Mine
theorem join_snoc (init : List (List Int)) (r : List Int) (h : init ≠ []) : joinRows (init ++ [r]) = joinRows init ++ 10 :: r := by
 match init, h with
 | q :: qs, _ => rw [List.cons_append, joinRows_cons, joinRows_cons]; simp
theorem last_split {α : Type} {l : List α} {x : α} (h : l.getLast? = some x) : l = l.dropLast ++ [x] := by
 have hne : l ≠ [] := fun z => by subst z; cases h
 rw [List.getLast?_eq_some_getLast hne] at h
 injection h with h
 rw [← h]; exact (List.dropLast_concat_getLast hne).symm
theorem join_ends {rows : List (List Int)} {r : List Int} (h : rows.getLast? = some r) (he : endsW r) : endsW (joinRows rows) := by
 rw [last_split h]
 by_cases hi : rows.dropLast = []
 ·rw [hi]; exact he
 ·rw [join_snoc _ _ hi, show joinRows rows.dropLast ++ 10 :: r = (joinRows rows.dropLast ++ [10]) ++ r by simp, endsW_app he.1]; exact he
theorem ends_last {rows : List (List Int)} (hn : rows ≠ []) (h : endsW (joinRows rows)) : ∃ r, rows.getLast? = some r ∧ endsW r := by
 have hl := List.getLast?_eq_some_getLast hn
 refine ⟨_, hl, ?_⟩
 rw [last_split hl] at h
 generalize rows.getLast hn = r at *
 by_cases hi : rows.dropLast = []
 ·rw [hi] at h; exact h
 ·rw [join_snoc _ _ hi, show joinRows rows.dropLast ++ 10 :: r = (joinRows rows.dropLast ++ [10]) ++ r by simp] at h
  by_cases hr : r = []
  ·subst hr
   rw [List.append_nil, endsW_app (by simp)] at h
   exact absurd h (endsW_blank (fun c hc => by simp at hc; subst hc; rfl))
  ·exact (endsW_app hr).mp h
theorem ends_words {r : List Int} (h : endsW r) : wordsL r ≠ [] := fun z => by
 obtain ⟨_, h2, h3⟩ := parse_ok r
 unfold wordsL at z
 have : (parse r).2 = [] := List.map_eq_nil_iff.mp z
 rw [this] at h3
 simp at h3
 rw [← h3] at h
 exact endsW_blank h2 h
theorem laid_ends {col : Int} {way n i : Nat} {first rest : List Int} {part : List Piece} (h3 : okRow part) (h4 : wOk part) (h5 : part ≠ []) : endsW (laidRow col way first rest n i part) := by
 unfold laidRow
 split
 ·have := placed_ends h3 h4 h5 (col - cols first) way (i + 1 == n)
  rw [endsW_app this.1]; exact this
 ·have := placed_ends h3 h4 h5 (col - cols rest) way (i + 1 == n)
  rw [endsW_app this.1]; exact this
theorem filledP_ne {col : Int} {way : Nat} {L : List Int} {rows : List (List Int)} (hw : wordsL (wordsOf L rows) ≠ []) : filledP col way L rows ≠ [] := by
 intro z
 unfold filledP at z
 have z1 := List.map_eq_nil_iff.mp z
 have hp : (partsOf col L rows).flatten = piecesOf (wordsOf L rows) := rowsOf_flat _ _ _
 have z2 : partsOf col L rows = [] := by
  have := congrArg List.length z1
  rw [List.length_zipIdx] at this
  exact List.length_eq_zero_iff.mp this
 rw [z2] at hp
 have : (piecesOf (wordsOf L rows)).map (·.1) = [] := by rw [← hp]; rfl
 rw [pieces_words] at this
 exact hw this
theorem filledP_ends {col : Int} {way : Nat} {L : List Int} {rows : List (List Int)} (hn : rows ≠ []) (hs : rsz rows ≤ 4001) : ∀ r ∈ filledP col way L rows, endsW r := fun r hr => by
 unfold filledP at hr
 obtain ⟨p, hp, rfl⟩ := List.mem_map.mp hr
 have hm := List.fst_mem_of_mem_zipIdx hp
 obtain ⟨a, b, c⟩ := parts_facts hn hs p.1 hm
 exact laid_ends a b c
theorem part_ends {row : List Int} (h : endsW row) : isPart [] row = false := by
 unfold isPart
 rw [beq_eq_false_iff_ne]
 intro z
 have e : row.takeWhile (isLd []) = row := by
  have := List.takeWhile_append_dropWhile (p := isLd []) (l := row)
  have hl := congrArg List.length this
  rw [List.length_append] at hl
  have z' : (row.takeWhile (isLd [])).length = row.length := z
  have : row.dropWhile (isLd []) = [] := List.length_eq_zero_iff.mp (by omega)
  have h2 := List.takeWhile_append_dropWhile (p := isLd []) (l := row)
  rw [this, List.append_nil] at h2; exact h2
 have hb : blank row := by
  rw [← e]; exact lead_blank row
 exact endsW_blank hb h
theorem filledG_last {col : Int} {way : Nat} : ∀ (rows par : List (List Int)) (r : List Int), rsz par + rsz rows ≤ 4001 → rows.getLast? = some r → endsW r → ∃ x, (filledG col way [] par rows).getLast? = some x ∧ endsW x
 | [], _, _, _, h, _ => by cases h
 | [q], par, r, hs, h, he => by
  have hq : q = r := by simpa using h
  subst hq
  rw [rsz_cons] at hs
  have hs' : rsz (par ++ [q]) ≤ 4001 := by rw [rsz_append, rsz_cons]; omega
  rw [filledG_cons, part_ends he, if_neg (by decide), filledG_nil, if_neg (by simp)]
  have hne : filledP col way [] (par ++ [q]) ≠ [] := filledP_ne (by
   rw [wordsOf_words (by simp), List.flatMap_append]
   intro z
   have := (List.append_eq_nil_iff.mp z).2
   simp at this
   exact ends_words he this)
  exact ⟨_, List.getLast?_eq_some_getLast hne, filledP_ends (by simp) hs' _ (List.getLast_mem hne)⟩
 | q :: q' :: rows, par, r, hs, h, he => by
  rw [rsz_cons] at hs
  rw [List.getLast?_cons_cons] at h
  rw [filledG_cons]
  split
  ·obtain ⟨x, hx, hxe⟩ := filledG_last (col := col) (way := way) (q' :: rows) [] r (by simp [rsz] at *; omega) h he
   refine ⟨x, ?_, hxe⟩
   rw [List.getLast?_append]
   cases e : filledG col way [] [] (q' :: rows) with
   | nil => rw [e] at hx; cases hx
   | cons y ys => rw [e] at hx; rw [List.getLast?_cons_cons, hx]; rfl
  ·exact filledG_last (q' :: rows) (par ++ [q]) r (by rw [rsz_append, rsz_cons]; simp [rsz] at *; omega) h he
theorem filledT_ends {col : Int} {way : Nat} {l : List Int} (hl : l.length ≤ 4000) (h : endsW l) : endsW (filledT col way [] l) := by
 have hj : endsW (joinRows (splitRows l)) := by rw [join_split]; exact h
 obtain ⟨r, hr, he⟩ := ends_last (splitRows_ne l) hj
 obtain ⟨x, hx, hxe⟩ := filledG_last (col := col) (way := way) (splitRows l) [] r (by rw [split_rsz]; simp [rsz]; omega) hr he
 exact join_ends hx hxe
theorem filledT_len {col : Int} {way : Nat} {L l : List Int} {M W : Nat} (hc : col ≤ W) (hl : l.length ≤ 4000) (hM : ∀ r ∈ splitRows l, (leadOf L r).length ≤ M) : (filledT col way L l).length ≤ (l.length + 1) * (M + 2 * W + 5) := by
 have := filledG_size (way := way) hc (splitRows l) [] (L := L) (M := M) (by rw [split_rsz]; simp [rsz]; omega) (by simpa using hM)
 rw [split_rsz, show rsz ([] : List (List Int)) = 0 from rfl, Nat.zero_add] at this
 unfold filledT
 exact Nat.le_trans joinRows_len this
theorem region_kept {col : Int} {way : Nat} {S : St} {lo hi : Nat} (h1 : 1 ≤ lo) (h2 : lo ≤ hi) (h3 : hi ≤ S.text.length + 1) (h4 : S.text.length ≤ 4000) :
  ∃ f, (fillR col way [] lo hi S).text = S.text.take (lineStart S.text lo - 1) ++ filledT col way [] (oldF S lo hi) ++ S.text.drop (hi - 1) ∧ moveBy f S (fillR col way [] lo hi S) ∧
   Shf (lineStart S.text lo) (oldF S lo hi).length (filledT col way [] (oldF S lo hi)).length f ∧ keptP S.text (fillR col way [] lo hi S).text f := by
 have l1 := lineStart_bd (t := S.text) h1
 have ho : (oldF S lo hi).length ≤ 4000 := by unfold oldF; rw [sub_len (by omega)]; omega
 have hS : S.text = S.text.take (lineStart S.text lo - 1) ++ oldF S lo hi ++ S.text.drop (hi - 1) := (sub_take_drop (by omega) (by omega)).symm
 have hAl : (S.text.take (lineStart S.text lo - 1)).length = lineStart S.text lo - 1 := by rw [List.length_take]; omega
 have hA : S.text.take (lineStart S.text lo - 1) = [] ∨ gB (S.text.take (lineStart S.text lo - 1)) ((S.text.take (lineStart S.text lo - 1)).length - 1) = false := by
  by_cases q : lineStart S.text lo = 1
  ·left; rw [q]; rfl
  ·right
   rw [hAl]
   unfold gB
   have hx : S.text[lineStart S.text lo - 1 - 1]? = some 10 := by
    have hrl : (S.text.take (lo - 1)).reverse.length = lo - 1 := by rw [List.length_reverse, List.length_take]; omega
    have hk : ((S.text.take (lo - 1)).reverse.takeWhile (· != 10)).length < lo - 1 := by
     unfold lineStart at q
     have := (List.takeWhile_sublist (l := (S.text.take (lo - 1)).reverse) (· != 10)).length_le
     omega
    have e := List.takeWhile_append_dropWhile (p := (· != (10 : Int))) (l := (S.text.take (lo - 1)).reverse)
    cases hd : (S.text.take (lo - 1)).reverse.dropWhile (· != 10) with
    | nil =>
     rw [hd, List.append_nil] at e
     have := congrArg List.length e
     omega
    | cons y ys =>
     have hy : y = 10 := by
      have := head_drop (p := (· != (10 : Int))) (l := (S.text.take (lo - 1)).reverse) (c := y) (by rw [hd]; rfl)
      simpa using this
     rw [hd, hy] at e
     have hg : (S.text.take (lo - 1)).reverse[((S.text.take (lo - 1)).reverse.takeWhile (· != 10)).length]? = some 10 := by
      conv => lhs; rw [← e]
      rw [List.getElem?_append_right (by rw [e]; exact Nat.le_refl _)]
      rw [e, Nat.sub_self]; rfl
     rw [List.getElem?_reverse (by rw [List.length_take]; omega), List.length_take, List.getElem?_take, if_pos (by omega)] at hg
     unfold lineStart
     rw [show lo - ((S.text.take (lo - 1)).reverse.takeWhile (· != 10)).length - 1 - 1 = min (lo - 1) S.text.length - 1 - ((S.text.take (lo - 1)).reverse.takeWhile (· != 10)).length by omega]
     exact hg
   have : (S.text.take (lineStart S.text lo - 1)).getD (lineStart S.text lo - 1 - 1) 32 = 10 := by
    rw [List.getD, List.getElem?_take, if_pos (by omega), hx]; rfl
   rw [this]; rfl
 obtain ⟨f, f1, f2, f3, f4⟩ := same_words_edits (new := filledT col way [] (oldF S lo hi)) hS (filledT_words ho).symm hA (filledT_ends ho)
 rw [hAl, show lineStart S.text lo - 1 + 1 = lineStart S.text lo by omega] at f1 f2 f3
 refine ⟨f, f1, f2, f3, ?_⟩
 have f1' : (fillR col way [] lo hi S).text = _ := f1
 rw [f1']; exact f4
end Mine
end
section
namespace Mine
def preR (R : List (List Int)) : List Int := R.flatMap fun r => r ++ [10]
def postR (R : List (List Int)) : List Int := R.flatMap fun r => 10 :: r
theorem preR_len (R : List (List Int)) : (preR R).length = rsz R := by
 induction R with
 | nil => rfl
 | cons r R ih => unfold preR at *; rw [List.flatMap_cons, rsz_cons, List.length_append, ih]; simp
theorem preR_app (A B : List (List Int)) : preR (A ++ B) = preR A ++ preR B := by unfold preR; rw [List.flatMap_append]
theorem join_decomp : ∀ (R1 : List (List Int)) (r : List Int) (R2 : List (List Int)), joinRows (R1 ++ r :: R2) = preR R1 ++ r ++ postR R2
 | [], r, R2 => by rw [List.nil_append, joinRows_cons]; rfl
 | q :: R1, r, R2 => by
  have ih := join_decomp R1 r R2
  have e : joinRows ((q :: R1) ++ r :: R2) = q ++ 10 :: joinRows (R1 ++ r :: R2) := by
   cases R1 <;> rfl
  rw [e, ih]
  unfold preR; simp
theorem tw_all {p : Int → Bool} : ∀ {l r : List Int}, (∀ c ∈ l, p c = true) → (∀ c, r.head? = some c → p c = false) → (l ++ r).takeWhile p = l
 | [], [], _, _ => rfl
 | [], c :: r, _, h => by rw [List.nil_append, List.takeWhile_cons, h c rfl]; rfl
 | c :: l, r, h, h2 => by
  rw [List.cons_append, List.takeWhile_cons, h c List.mem_cons_self]
  show c :: (l ++ r).takeWhile p = _
  rw [tw_all (fun x hx => h x (List.mem_cons_of_mem _ hx)) h2]
theorem line_facts {pre r post : List Int} {k : Nat} (h1 : pre = [] ∨ pre.getLast? = some 10) (h2 : (10 : Int) ∉ r) (h3 : post = [] ∨ post.head? = some 10) (hk : k ≤ r.length) :
  lineStart (pre ++ r ++ post) (pre.length + 1 + k) = pre.length + 1 ∧ lineEnd (pre ++ r ++ post) (pre.length + 1 + k) = pre.length + r.length + 1 ∧ rowAt (pre ++ r ++ post) (pre.length + 1 + k) = r := by
 have n10 : ∀ c ∈ r, (c != 10) = true := fun c hc => by
  rw [bne_iff_ne]; exact fun e => h2 (e ▸ hc)
 have e1 : lineStart (pre ++ r ++ post) (pre.length + 1 + k) = pre.length + 1 := by
  unfold lineStart
  have ht : (pre ++ r ++ post).take (pre.length + 1 + k - 1) = pre ++ r.take k := by
   rw [show pre.length + 1 + k - 1 = pre.length + k by omega, List.append_assoc, take_cat, take_app hk]
  rw [ht, List.reverse_append, tw_all]
  ·rw [List.length_reverse, List.length_take]; omega
  ·intro c hc
   exact n10 c (List.take_subset _ _ (List.mem_reverse.mp hc))
  ·intro c hc
   rcases h1 with h1 | h1
   ·subst h1; cases hc
   ·rw [List.head?_reverse, h1] at hc; cases hc; rfl
 have e2 : lineEnd (pre ++ r ++ post) (pre.length + 1 + k) = pre.length + r.length + 1 := by
  unfold lineEnd
  have ht : (pre ++ r ++ post).drop (pre.length + 1 + k - 1) = r.drop k ++ post := by
   rw [show pre.length + 1 + k - 1 = pre.length + k by omega, List.append_assoc, drop_cat, List.drop_append_of_le_length hk]
  rw [ht, tw_all]
  ·rw [List.length_drop]; omega
  ·exact fun c hc => n10 c (List.drop_subset _ _ hc)
  ·intro c hc
   rcases h3 with h3 | h3
   ·subst h3; cases hc
   ·rw [h3] at hc; cases hc; rfl
 refine ⟨e1, e2, ?_⟩
 unfold rowAt
 rw [e1, e2, show pre.length + 1 - 1 = pre.length by omega, show pre.length + r.length + 1 - 1 = pre.length + r.length by omega]
 exact sub_app
theorem preR_last (R : List (List Int)) : preR R = [] ∨ (preR R).getLast? = some 10 := by
 by_cases h : R = []
 ·left; subst h; rfl
 ·right
  rw [← List.dropLast_concat_getLast h, preR_app]
  unfold preR
  simp
theorem postR_head (R : List (List Int)) : postR R = [] ∨ (postR R).head? = some 10 := by
 cases R with
 | nil => left; rfl
 | cons r R => right; rfl
theorem row_facts {R1 R2 : List (List Int)} {r : List Int} {k : Nat} (h : (10 : Int) ∉ r) (hk : k ≤ r.length) :
  lineStart (joinRows (R1 ++ r :: R2)) (rsz R1 + 1 + k) = rsz R1 + 1 ∧ lineEnd (joinRows (R1 ++ r :: R2)) (rsz R1 + 1 + k) = rsz R1 + r.length + 1 ∧ rowAt (joinRows (R1 ++ r :: R2)) (rsz R1 + 1 + k) = r := by
 have := line_facts (preR_last R1) h (postR_head R2) hk
 rw [preR_len] at this
 rw [join_decomp]; exact this
theorem join_len {R : List (List Int)} (h : R ≠ []) : (joinRows R).length + 1 = rsz R := by
 match R, h with
 | r :: rs, _ => rw [joinRows_cons, rsz_cons, List.length_append, flat_len]; omega
theorem locate : ∀ (R : List (List Int)) (p : Nat), p < rsz R → ∃ R1 r R2 k, R = R1 ++ r :: R2 ∧ p = rsz R1 + k ∧ k ≤ r.length
 | [], p, h => by simp [rsz] at h
 | r :: R, p, h => by
  by_cases q : p ≤ r.length
  ·exact ⟨[], r, R, p, rfl, by simp [rsz], q⟩
  ·rw [rsz_cons] at h
   obtain ⟨R1, x, R2, k, e, hp, hk⟩ := locate R (p - (r.length + 1)) (by omega)
   exact ⟨r :: R1, x, R2, k, by rw [e]; rfl, by rw [rsz_cons]; omega, hk⟩
variable {L : List Int}
def no10 (R : List (List Int)) : Prop := ∀ r ∈ R, (10 : Int) ∉ r
theorem skip_rows : ∀ (Z : List (List Int)) (R1 : List (List Int)) (q : List Int) (R2 : List (List Int)) (n : Nat), no10 (R1 ++ Z ++ q :: R2) → (∀ z ∈ Z, isPart L z = true) → isPart L q = false → Z.length < n →
  skipF L (joinRows (R1 ++ Z ++ q :: R2)) n (rsz R1 + 1) = rsz (R1 ++ Z) + 1
 | [], R1, q, R2, n, h0, _, hq, hn => by
  obtain ⟨n, rfl⟩ : ∃ m, n = m + 1 := ⟨n - 1, (by have h9 : 0 < n := (by simpa using hn); omega)⟩
  simp only [List.append_nil] at h0 ⊢
  have hf := row_facts (R1 := R1) (R2 := R2) (k := 0) (h0 q (by simp)) (Nat.zero_le _)
  unfold skipF
  rw [if_neg]
  rintro ⟨_, h⟩
  rw [Nat.add_zero] at hf
  rw [hf.2.2, hq] at h; cases h
 | z :: Z, R1, q, R2, n, h0, hz, hq, hn => by
  obtain ⟨n, rfl⟩ : ∃ m, n = m + 1 := ⟨n - 1, by simp at hn; omega⟩
  have hzp := hz z List.mem_cons_self
  have e : R1 ++ (z :: Z) ++ q :: R2 = R1 ++ z :: (Z ++ q :: R2) := by simp
  have e2 : R1 ++ (z :: Z) ++ q :: R2 = (R1 ++ [z]) ++ Z ++ q :: R2 := by simp
  have hf := row_facts (R1 := R1) (R2 := Z ++ q :: R2) (r := z) (k := 0) (h0 z (by simp)) (Nat.zero_le _)
  rw [Nat.add_zero, ← e] at hf
  have hl := join_len (R := R1 ++ (z :: Z) ++ q :: R2) (by simp)
  have hs : rsz (R1 ++ (z :: Z) ++ q :: R2) = rsz R1 + (z.length + 1 + rsz Z) + (q.length + 1 + rsz R2) := by rw [rsz_append, rsz_append, rsz_cons, rsz_cons]
  unfold skipF
  rw [if_pos ⟨by omega, by rw [hf.2.2]; exact hzp⟩, hf.2.1, show rsz R1 + z.length + 1 + 1 = rsz (R1 ++ [z]) + 1 by rw [rsz_append, rsz_cons, show rsz ([] : List (List Int)) = 0 from rfl]; omega]
  have ih := skip_rows Z (R1 ++ [z]) q R2 n (by rw [← e2]; exact h0) (fun x hx => hz x (List.mem_cons_of_mem _ hx)) hq (by simp at hn; omega)
  rw [← e2] at ih
  rw [ih]; simp
theorem skip_all : ∀ (Z : List (List Int)) (R1 : List (List Int)) (n : Nat), no10 (R1 ++ Z) → Z ≠ [] → (∀ z ∈ Z, isPart L z = true) → Z.length ≤ n →
  (joinRows (R1 ++ Z)).length + 1 ≤ skipF L (joinRows (R1 ++ Z)) n (rsz R1 + 1)
 | [], _, _, _, h, _, _ => absurd rfl h
 | z :: Z, R1, n, h0, _, hz, hn => by
  obtain ⟨n, rfl⟩ : ∃ m, n = m + 1 := ⟨n - 1, by simp at hn; omega⟩
  have hzp := hz z List.mem_cons_self
  have e2 : R1 ++ z :: Z = (R1 ++ [z]) ++ Z := by simp
  have hf := row_facts (R1 := R1) (R2 := Z) (r := z) (k := 0) (h0 z (by simp)) (Nat.zero_le _)
  rw [Nat.add_zero] at hf
  have hl := join_len (R := R1 ++ z :: Z) (by simp)
  have hs : rsz (R1 ++ z :: Z) = rsz R1 + (z.length + 1 + rsz Z) := by rw [rsz_append, rsz_cons]
  unfold skipF
  split
  ·rw [hf.2.1, show rsz R1 + z.length + 1 + 1 = rsz (R1 ++ [z]) + 1 by rw [rsz_append, rsz_cons, show rsz ([] : List (List Int)) = 0 from rfl]; omega]
   by_cases hZ : Z = []
   ·subst hZ
    have := skipF_bd (L := L) (t := joinRows (R1 ++ [z])) n (rsz (R1 ++ [z]) + 1) (by omega)
    omega
   ·have ih := skip_all Z (R1 ++ [z]) n (by rw [← e2]; exact h0) hZ (fun x hx => hz x (List.mem_cons_of_mem _ hx)) (by simp at hn; omega)
    rw [← e2] at ih
    exact ih
  ·rename_i q
   rw [hf.2.2] at q
   have : ¬ (rsz R1 + 1 < (joinRows (R1 ++ z :: Z)).length + 1) := fun x => q ⟨x, hzp⟩
   omega
theorem up_rows : ∀ (N : List (List Int)) (R1 : List (List Int)) (R2 : List (List Int)) (n : Nat), no10 (R1 ++ N ++ R2) → R2 ≠ [] → (∀ z ∈ N, isPart L z = false) → (R1 = [] ∨ ∃ R0 z, R1 = R0 ++ [z] ∧ isPart L z = true) → N.length < n →
  upF L (joinRows (R1 ++ N ++ R2)) n (rsz (R1 ++ N) + 1) = rsz R1 + 1 := by
 intro N
 generalize hm : N.length = m
 induction m generalizing N with
 | zero =>
  intro R1 R2 n h0 h2 _ hR hn
  have := List.length_eq_zero_iff.mp hm; subst this
  obtain ⟨n, rfl⟩ : ∃ m, n = m + 1 := ⟨n - 1, by omega⟩
  simp only [List.append_nil] at h0 ⊢
  unfold upF
  rw [if_neg]
  rintro ⟨h1, h⟩
  rcases hR with hR | ⟨R0, z, rfl, hz⟩
  ·subst hR; simp [rsz] at h1
  ·have e : R0 ++ [z] ++ R2 = R0 ++ z :: R2 := by simp
   have hf := row_facts (R1 := R0) (R2 := R2) (r := z) (k := z.length) (h0 z (by simp)) (Nat.le_refl _)
   rw [← e] at hf
   rw [show rsz (R0 ++ [z]) + 1 - 1 = rsz R0 + 1 + z.length by rw [rsz_append, rsz_cons, show rsz ([] : List (List Int)) = 0 from rfl]; omega, hf.2.2, hz] at h
   cases h
 | succ m ih =>
  intro R1 R2 n h0 h2 hN hR hn
  obtain ⟨n, rfl⟩ : ∃ m, n = m + 1 := ⟨n - 1, by omega⟩
  have hne : N ≠ [] := fun z => by subst z; cases hm
  obtain ⟨N', y, rfl⟩ : ∃ N' y, N = N' ++ [y] := ⟨N.dropLast, N.getLast hne, (List.dropLast_concat_getLast hne).symm⟩
  have hy := hN y (by simp)
  have e : R1 ++ (N' ++ [y]) ++ R2 = (R1 ++ N') ++ y :: R2 := by simp
  have e3 : R1 ++ (N' ++ [y]) ++ R2 = R1 ++ N' ++ (y :: R2) := by simp
  have hf := row_facts (R1 := R1 ++ N') (R2 := R2) (r := y) (k := y.length) (h0 y (by simp)) (Nat.le_refl _)
  rw [← e] at hf
  have hs : rsz (R1 ++ (N' ++ [y])) + 1 - 1 = rsz (R1 ++ N') + 1 + y.length := by
   rw [← List.append_assoc, rsz_append (R1 ++ N'), rsz_cons, show rsz ([] : List (List Int)) = 0 from rfl]; omega
  unfold upF
  rw [hs, if_pos ⟨by omega, by rw [hf.2.2]; exact hy⟩, hf.1]
  have := ih N' (by simp at hm; exact hm) R1 (y :: R2) n (by rw [← e3]; exact h0) (by simp) (fun z hz => hN z (List.mem_append_left _ hz)) hR (by omega)
  rw [← e3] at this
  exact this
theorem down_rows : ∀ (N : List (List Int)) (R1 : List (List Int)) (R2 : List (List Int)) (n : Nat), no10 (R1 ++ N ++ R2) → R1 ≠ [] → (∀ z ∈ N, isPart L z = false) → (R2 = [] ∨ ∃ z R3, R2 = z :: R3 ∧ isPart L z = true) → N.length < n →
  downF L (joinRows (R1 ++ N ++ R2)) n (rsz R1) = rsz (R1 ++ N)
 | [], R1, R2, n, h0, h1, _, hR, hn => by
  obtain ⟨n, rfl⟩ : ∃ m, n = m + 1 := ⟨n - 1, (by have h9 : 0 < n := (by simpa using hn); omega)⟩
  simp only [List.append_nil] at h0 ⊢
  unfold downF
  rw [if_neg]
  rintro ⟨h2, h⟩
  rcases hR with hR | ⟨z, R3, rfl, hz⟩
  ·subst hR
   rw [List.append_nil] at h2
   have := join_len h1; omega
  ·have hf := row_facts (R1 := R1) (R2 := R3) (r := z) (k := 0) (h0 z (by simp)) (Nat.zero_le _)
   rw [Nat.add_zero] at hf
   rw [hf.2.2, hz] at h; cases h
 | y :: N, R1, R2, n, h0, h1, hN, hR, hn => by
  obtain ⟨n, rfl⟩ : ∃ m, n = m + 1 := ⟨n - 1, by simp at hn; omega⟩
  have hy := hN y List.mem_cons_self
  have e : R1 ++ (y :: N) ++ R2 = R1 ++ y :: (N ++ R2) := by simp
  have e2 : R1 ++ (y :: N) ++ R2 = (R1 ++ [y]) ++ N ++ R2 := by simp
  have hf := row_facts (R1 := R1) (R2 := N ++ R2) (r := y) (k := 0) (h0 y (by simp)) (Nat.zero_le _)
  rw [Nat.add_zero, ← e] at hf
  have hl := join_len (R := R1 ++ (y :: N) ++ R2) (by simp)
  have hs : rsz (R1 ++ (y :: N) ++ R2) = rsz R1 + (y.length + 1 + rsz N) + rsz R2 := by rw [rsz_append, rsz_append, rsz_cons]
  unfold downF
  rw [if_pos ⟨by omega, by rw [hf.2.2]; exact hy⟩, hf.2.1, show rsz R1 + y.length + 1 = rsz (R1 ++ [y]) by rw [rsz_append, rsz_cons, show rsz ([] : List (List Int)) = 0 from rfl]; omega]
  have ih := down_rows N (R1 ++ [y]) R2 n (by rw [← e2]; exact h0) (by simp) (fun x hx => hN x (List.mem_cons_of_mem _ hx)) hR (by simp at hn; omega)
  rw [← e2] at ih
  rw [ih]; simp
structure Para (L : List Int) (R1 P R2 : List (List Int)) : Prop where
 no : no10 (R1 ++ P ++ R2)
 ne : P ≠ []
 np : ∀ z ∈ P, isPart L z = false
 up : R1 = [] ∨ ∃ R0 z, R1 = R0 ++ [z] ∧ isPart L z = true
 dn : R2 = [] ∨ ∃ z R3, R2 = z :: R3 ∧ isPart L z = true
def Loc (L : List Int) (R1 P : List (List Int)) (p : Nat) : Prop := (rsz R1 + 1 ≤ p ∧ p ≤ rsz (R1 ++ P)) ∨ ∃ R0 z Z k, R1 = R0 ++ z :: Z ∧ (∀ x ∈ z :: Z, isPart L x = true) ∧ p = rsz R0 + 1 + k ∧ k ≤ z.length
theorem rows_fuel {R : List (List Int)} (h : R ≠ []) : R.length < (joinRows R).length + 2 := by
 have := join_len h
 have := rsz_len R
 omega
theorem parA_of {R1 P R2 : List (List Int)} {p : Nat} (H : Para L R1 P R2) (hp : Loc L R1 P p) : parA L (joinRows (R1 ++ P ++ R2)) p = (rsz R1 + 1, rsz (R1 ++ P)) := by
 have hne : R1 ++ P ++ R2 ≠ [] := by simp [H.ne]
 have hfu := rows_fuel hne
 have hlen : (R1 ++ P ++ R2).length = R1.length + P.length + R2.length := by simp; omega
 have hjl := join_len hne
 have key : ∃ N1 q N2, P = N1 ++ q :: N2 ∧ topP L (joinRows (R1 ++ P ++ R2)) p = rsz (R1 ++ N1) + 1 := by
  rcases hp with ⟨h1, h2⟩ | ⟨R0, z, Z, k, rfl, hz, rfl, hk⟩
  ·rw [rsz_append] at h2
   obtain ⟨N1, q, N2, k, rfl, e, hk⟩ := locate P (p - (rsz R1 + 1)) (by omega)
   refine ⟨N1, q, N2, rfl, ?_⟩
   have ee : R1 ++ (N1 ++ q :: N2) ++ R2 = (R1 ++ N1) ++ q :: (N2 ++ R2) := by simp
   have ee2 : R1 ++ (N1 ++ q :: N2) ++ R2 = (R1 ++ N1) ++ [] ++ q :: (N2 ++ R2) := by simp
   have hf := row_facts (R1 := R1 ++ N1) (R2 := N2 ++ R2) (r := q) (k := k) (H.no q (by simp)) hk
   rw [← ee] at hf
   unfold topP
   rw [show p = rsz (R1 ++ N1) + 1 + k by rw [rsz_append]; omega, hf.1]
   have := skip_rows (L := L) [] (R1 ++ N1) q (N2 ++ R2) ((joinRows (R1 ++ (N1 ++ q :: N2) ++ R2)).length + 2) (by rw [← ee2]; exact H.no) (fun z hz => by cases hz) (H.np q (by simp)) (by simp)
   rw [← ee2, List.append_nil] at this
   exact this
  ·obtain ⟨q, N2, rfl⟩ : ∃ q N2, P = q :: N2 := by
    cases P with
    | nil => exact absurd rfl H.ne
    | cons q N2 => exact ⟨q, N2, rfl⟩
   refine ⟨[], q, N2, rfl, ?_⟩
   have ee : R0 ++ z :: Z ++ (q :: N2) ++ R2 = R0 ++ z :: (Z ++ q :: N2 ++ R2) := by simp
   have ee2 : R0 ++ z :: Z ++ (q :: N2) ++ R2 = R0 ++ (z :: Z) ++ q :: (N2 ++ R2) := by simp
   have hf := row_facts (R1 := R0) (R2 := Z ++ q :: N2 ++ R2) (r := z) (k := k) (H.no z (by simp)) hk
   rw [← ee] at hf
   unfold topP
   rw [hf.1]
   have := skip_rows (L := L) (z :: Z) R0 q (N2 ++ R2) ((joinRows (R0 ++ z :: Z ++ (q :: N2) ++ R2)).length + 2) (by rw [← ee2]; exact H.no) hz (H.np q (by simp)) (by simp at hfu ⊢; omega)
   rw [← ee2] at this
   rw [this]; simp
 obtain ⟨N1, q, N2, rfl, ht⟩ := key
 have ee : R1 ++ (N1 ++ q :: N2) ++ R2 = (R1 ++ N1) ++ q :: (N2 ++ R2) := by simp
 have hf := row_facts (R1 := R1 ++ N1) (R2 := N2 ++ R2) (r := q) (k := 0) (H.no q (by simp)) (Nat.zero_le _)
 rw [← ee, Nat.add_zero] at hf
 have hs : rsz (R1 ++ (N1 ++ q :: N2) ++ R2) = rsz (R1 ++ N1) + (q.length + 1 + rsz N2) + rsz R2 := by
  rw [show R1 ++ (N1 ++ q :: N2) ++ R2 = (R1 ++ N1) ++ (q :: N2) ++ R2 by simp, rsz_append, rsz_append (R1 ++ N1), rsz_cons]
 have hqp : 0 < q.length := by
  refine Nat.pos_of_ne_zero fun z => ?_
  have := List.length_eq_zero_iff.mp z
  have h9 := H.np q (by simp)
  rw [this] at h9; cases h9
 unfold parA
 rw [ht, if_neg (by
  rintro (h | h)
  ·omega
  ·rw [hf.2.2, H.np q (by simp)] at h; cases h), hf.2.1]
 have hu := up_rows (L := L) N1 R1 (q :: (N2 ++ R2)) ((joinRows (R1 ++ (N1 ++ q :: N2) ++ R2)).length + 2) (by have := H.no; rw [ee] at this; exact this) (by simp) (fun z hz => H.np z (by simp [hz])) H.up (by simp at hfu hlen ⊢; omega)
 rw [← ee] at hu
 have ee3 : R1 ++ (N1 ++ q :: N2) ++ R2 = (R1 ++ N1 ++ [q]) ++ N2 ++ R2 := by simp
 have hd := down_rows (L := L) N2 (R1 ++ N1 ++ [q]) R2 ((joinRows (R1 ++ (N1 ++ q :: N2) ++ R2)).length + 2) (by have := H.no; rw [ee3] at this; exact this) (by simp) (fun z hz => H.np z (by simp [hz])) H.dn (by simp at hfu hlen ⊢; omega)
 rw [← ee3] at hd
 rw [hu, show rsz (R1 ++ N1) + q.length + 1 = rsz (R1 ++ N1 ++ [q]) by rw [rsz_append (R1 ++ N1), rsz_cons, show rsz ([] : List (List Int)) = 0 from rfl]; omega, hd]
 simp
theorem last_np : ∀ (A : List (List Int)), ∃ R1 N1, A = R1 ++ N1 ∧ (∀ z ∈ N1, isPart L z = false) ∧ (R1 = [] ∨ ∃ R0 z, R1 = R0 ++ [z] ∧ isPart L z = true) := by
 intro A
 generalize hm : A.length = m
 induction m generalizing A with
 | zero =>
  have := List.length_eq_zero_iff.mp hm; subst this
  exact ⟨[], [], rfl, fun z h => (by cases h), .inl rfl⟩
 | succ m ih =>
  have hne : A ≠ [] := fun z => by subst z; cases hm
  obtain ⟨A', y, rfl⟩ : ∃ A' y, A = A' ++ [y] := ⟨A.dropLast, A.getLast hne, (List.dropLast_concat_getLast hne).symm⟩
  cases hy : isPart L y with
  | true => exact ⟨A' ++ [y], [], by simp, fun z h => (by cases h), .inr ⟨A', y, rfl, hy⟩⟩
  | false =>
   obtain ⟨R1, N1, rfl, h1, h2⟩ := ih A' (by simp at hm; exact hm)
   refine ⟨R1, N1 ++ [y], by simp, fun z hz => ?_, h2⟩
   rcases List.mem_append.mp hz with hz | hz
   ·exact h1 z hz
   ·rw [List.mem_singleton] at hz; subst hz; exact hy
theorem first_np : ∀ (B : List (List Int)), ∃ N2 R2, B = N2 ++ R2 ∧ (∀ z ∈ N2, isPart L z = false) ∧ (R2 = [] ∨ ∃ z R3, R2 = z :: R3 ∧ isPart L z = true)
 | [] => ⟨[], [], rfl, fun z h => (by cases h), .inl rfl⟩
 | y :: B => by
  cases hy : isPart L y with
  | true => exact ⟨[], y :: B, rfl, fun z h => (by cases h), .inr ⟨y, B, rfl, hy⟩⟩
  | false =>
   obtain ⟨N2, R2, rfl, h1, h2⟩ := first_np B
   exact ⟨y :: N2, R2, rfl, fun z hz => by
    rcases List.mem_cons.mp hz with rfl | hz
    ·exact hy
    ·exact h1 z hz, h2⟩
theorem first_part : ∀ (B : List (List Int)), (∀ z ∈ B, isPart L z = true) ∨ ∃ Z q B', B = Z ++ q :: B' ∧ (∀ z ∈ Z, isPart L z = true) ∧ isPart L q = false
 | [] => .inl fun z h => by cases h
 | y :: B => by
  cases hy : isPart L y with
  | false => exact .inr ⟨[], y, B, rfl, fun z h => (by cases h), hy⟩
  | true =>
   rcases first_part B with h | ⟨Z, q, B', rfl, h1, h2⟩
   ·exact .inl fun z hz => by
     rcases List.mem_cons.mp hz with rfl | hz
     ·exact hy
     ·exact h z hz
   ·exact .inr ⟨y :: Z, q, B', rfl, fun z hz => by
     rcases List.mem_cons.mp hz with rfl | hz
     ·exact hy
     ·exact h1 z hz, h2⟩
theorem parA_ex {R : List (List Int)} {p : Nat} (hne : R ≠ []) (h0 : no10 R) (h1 : 1 ≤ p) (h2 : p ≤ (joinRows R).length + 1) :
  parA L (joinRows R) p = (p, p) ∨ ∃ R1 P R2, R = R1 ++ P ++ R2 ∧ Para L R1 P R2 ∧ Loc L R1 P p := by
 have hjl := join_len hne
 obtain ⟨A, r, B, k, rfl, e, hk⟩ := locate R (p - 1) (by omega)
 rcases first_part (L := L) (r :: B) with hall | ⟨Z, q, B', hZ, hz, hq⟩
 ·left
  have hf := row_facts (R1 := A) (R2 := B) (r := r) (k := k) (h0 r (by simp)) hk
  have hfu := rows_fuel hne
  have := skip_all (L := L) (r :: B) A ((joinRows (A ++ r :: B)).length + 2) h0 (by simp) hall (by simp at hfu ⊢; omega)
  unfold parA topP
  rw [show p = rsz A + 1 + k by omega, hf.1, if_pos (.inl this)]
 ·right
  obtain ⟨R1, N1, hA, g1, g2⟩ := last_np (L := L) (A ++ Z)
  obtain ⟨N2, R2, rfl, g3, g4⟩ := first_np (L := L) B'
  have hR : A ++ r :: B = R1 ++ (N1 ++ q :: N2) ++ R2 := by rw [hZ, ← List.append_assoc, hA]; simp
  refine ⟨R1, N1 ++ q :: N2, R2, hR, ⟨by rw [← hR]; exact h0, by simp, fun z hz' => ?_, g2, g4⟩, ?_⟩
  ·rcases List.mem_append.mp hz' with h | h
   ·exact g1 z h
   ·rcases List.mem_cons.mp h with rfl | h
    ·exact hq
    ·exact g3 z h
  ·cases Z with
   | nil =>
    left
    rw [List.append_nil] at hA
    rw [List.nil_append] at hZ
    injection hZ with e1 e2
    subst e1
    rw [hA] at e
    rw [show R1 ++ (N1 ++ r :: N2) = (R1 ++ N1) ++ r :: N2 by simp, rsz_append (R1 ++ N1), rsz_cons]
    rw [rsz_append] at e ⊢
    omega
   | cons z Z =>
    right
    rw [List.cons_append] at hZ
    injection hZ with e1 e2
    subst e1
    have hN : N1 = [] := by
     refine Classical.byContradiction fun hn => ?_
     have l1 : (R1 ++ N1).getLast? = some (N1.getLast hn) := by rw [List.getLast?_append, List.getLast?_eq_some_getLast hn]; rfl
     rw [← hA, List.getLast?_append, List.getLast?_eq_some_getLast (show r :: Z ≠ [] by simp)] at l1
     replace l1 : some ((r :: Z).getLast (by simp)) = some (N1.getLast hn) := l1
     injection l1 with l1
     have a1 := g1 _ (List.getLast_mem hn)
     rw [← l1, hz _ (List.getLast_mem (by simp))] at a1
     cases a1
    rw [hN, List.append_nil] at hA
    exact ⟨A, r, Z, k, hA.symm, hz, by omega, hk⟩
end Mine
end
section
namespace Mine
def cod (row : List Piece) : List Int := rowCodes row (ownGaps row)
theorem laid_left {col : Int} {first rest : List Int} {n i : Nat} {part : List Piece} : laidRow col 0 first rest n i part = (if i = 0 then first else rest) ++ cod part := by
 have h : ∀ w l, placedRow part w 0 l = cod part := fun w l => by
  unfold placedRow
  rw [if_neg (by simp), if_pos (.inr (.inl rfl))]; rfl
 unfold laidRow
 rw [h, h]; split <;> rfl
def layL (first rest : List Int) : List (List Int) → List (List Int)
 | [] => []
 | c :: cs => (first ++ c) :: cs.map (rest ++ ·)
theorem lay_idx {first rest : List Int} : ∀ (parts : List (List Piece)) (k : Nat), 0 < k → ((parts.zipIdx k).map fun p => (if p.2 = 0 then first else rest) ++ cod p.1) = parts.map fun p => rest ++ cod p
 | [], _, _ => rfl
 | p :: parts, k, h => by
  rw [List.zipIdx_cons, List.map_cons, List.map_cons, lay_idx parts (k + 1) (by omega)]
  rw [if_neg (show ¬ (p, k).2 = 0 by show ¬ k = 0; omega)]
theorem filledP_left {col : Int} {L : List Int} {rows : List (List Int)} : filledP col 0 L rows = layL (leadsOf L rows).1 (leadsOf L rows).2 ((partsOf col L rows).map cod) := by
 unfold filledP
 simp only [laid_left]
 cases partsOf col L rows with
 | nil => rfl
 | cons p ps =>
  rw [List.zipIdx_cons, List.map_cons, lay_idx ps 1 (by decide)]
  simp [layL, List.map_map, Function.comp_def]
inductive EqBL : List Piece → List Piece → Prop
 | nil : EqBL [] []
 | one {p p' : Piece} (h : p.1 = p'.1) : EqBL [p] [p']
 | cons {p q q' : Piece} {r r' : List Piece} (h : EqBL (q :: r) (q' :: r')) : EqBL (p :: q :: r) (p :: q' :: r')
theorem EqBL.len : ∀ {a b : List Piece}, EqBL a b → a.length = b.length
 | _, _, .nil => rfl
 | _, _, .one _ => rfl
 | _, _, .cons h => by have := h.len; simp at this ⊢; exact this
theorem EqBL.nil_iff {a b : List Piece} (h : EqBL a b) : a = [] ↔ b = [] := by
 have := h.len
 constructor <;> intro e <;> subst e <;> simp at this
 ·exact List.length_eq_zero_iff.mp this.symm
 ·exact this
theorem cod_cons2 {p q : Piece} {r : List Piece} : cod (p :: q :: r) = p.1 ++ List.replicate p.2.toNat 32 ++ cod (q :: r) := rfl
theorem EqBL.cod : ∀ {a b : List Piece}, EqBL a b → cod a = cod b
 | _, _, .nil => rfl
 | _, _, .one h => by unfold Mine.cod; rw [rowCodes_one, rowCodes_one, h]
 | _, _, .cons (p := p) (q := q) (q' := q') (r := r) (r' := r') h => by
  rw [cod_cons2, cod_cons2, h.cod]
theorem EqBL.rowEndF {width : Int} : ∀ {a b : List Piece}, EqBL a b → ∀ (used : Int) (best n : Nat), rowEndF width used best n a = rowEndF width used best n b
 | _, _, .nil, _, _, _ => rfl
 | _, _, .one (p := p) (p' := p') h, used, best, n => by
  unfold Mine.rowEndF
  rw [h]
  simp only [true_or, if_true]
  unfold Mine.rowEndF
  rfl
 | _, _, .cons (p := p) (q := q) (q' := q') (r := r) (r' := r') h, used, best, n => by
  have ih := fun u b m => h.rowEndF (width := width) u b m
  unfold Mine.rowEndF
  rw [ih, ih]
  simp
theorem EqBL.split : ∀ {a b : List Piece}, EqBL a b → ∀ (k : Nat), (k < a.length → a.take k = b.take k ∧ EqBL (a.drop k) (b.drop k)) ∧ (a.length ≤ k → a.take k = a ∧ b.take k = b ∧ a.drop k = [] ∧ b.drop k = [])
 | _, _, .nil, k => ⟨fun h => (by cases h), fun _ => (by simp)⟩
 | _, _, .one h, k => by
  refine ⟨fun hk => ?_, fun hk => ?_⟩
  ·simp at hk; subst hk; exact ⟨rfl, .one h⟩
  ·obtain ⟨k, rfl⟩ : ∃ m, k = m + 1 := ⟨k - 1, by simp at hk; omega⟩
   simp
 | _, _, .cons (p := p) (q := q) (q' := q') (r := r) (r' := r') h, 0 => ⟨fun _ => ⟨rfl, .cons h⟩, fun hk => by simp at hk⟩
 | _, _, .cons (p := p) (q := q) (q' := q') (r := r) (r' := r') h, k + 1 => by
  obtain ⟨i1, i2⟩ := h.split k
  refine ⟨fun hk => ?_, fun hk => ?_⟩
  ·have := i1 (by simp at hk ⊢; omega)
   exact ⟨by rw [List.take_succ_cons, List.take_succ_cons, this.1], this.2⟩
  ·have := i2 (by simp at hk ⊢; omega)
   exact ⟨by rw [List.take_succ_cons, this.1], by rw [List.take_succ_cons, this.2.1], this.2.2.1, this.2.2.2⟩
theorem EqBL.rows : ∀ (n : Nat) (w0 w : Int) {a b : List Piece}, EqBL a b → (rowsF n w0 w a).map Mine.cod = (rowsF n w0 w b).map Mine.cod
 | 0, _, _, _, _, _ => rfl
 | n + 1, w0, w, a, b, h => by
  unfold rowsF
  by_cases ha : a = []
  ·rw [if_pos ha, if_pos (h.nil_iff.mp ha)]
  ·rw [if_neg ha, if_neg fun z => ha (h.nil_iff.mpr z)]
   have he : rowEnd w0 a = rowEnd w0 b := h.rowEndF 0 0 0
   rw [← he]
   obtain ⟨i1, i2⟩ := h.split (rowEnd w0 a)
   rw [List.map_cons, List.map_cons]
   by_cases hk : rowEnd w0 a < a.length
   ·rw [(i1 hk).1, EqBL.rows n w w (i1 hk).2]
   ·obtain ⟨j1, j2, j3, j4⟩ := i2 (by omega)
    rw [j1, j2, j3, j4, h.cod]
theorem rowEndF_break (width : Int) : ∀ (r : List Piece) (used : Int) (best n : Nat) (pre : List Piece), pre.length = n → best ≤ n → (0 < best → ∃ p, (pre ++ r)[best - 1]? = some p ∧ mayBreak p = true) →
  ∀ k, rowEndF width used best n r = k → k < n + r.length → 0 < k → ∃ p, (pre ++ r)[k - 1]? = some p ∧ mayBreak p = true
 | [], used, best, n, pre, hn, hb, hB, k, hk, hlt, h0 => by
  unfold rowEndF at hk; simp at hlt; omega
 | p :: r, used, best, n, pre, hn, hb, hB, k, hk, hlt, h0 => by
  have e : pre ++ p :: r = (pre ++ [p]) ++ r := by simp
  unfold rowEndF at hk
  split at hk
  ·subst hk; exact hB h0
  ·split at hk
   ·rename_i hq
    by_cases hr : r = []
    ·subst hr
     have hkn : k = n + 1 := by
      split at hk
      ·exact hk.symm
      ·unfold rowEndF at hk; exact hk.symm
     subst hkn; simp at hlt
    ·have hmb : mayBreak p = true := hq.resolve_left hr
     have hpn : (pre ++ p :: r)[n]? = some p := by rw [List.getElem?_append_right (by omega), hn, Nat.sub_self]; rfl
     split at hk
     ·subst hk; exact ⟨p, by rw [Nat.add_sub_cancel]; exact hpn, hmb⟩
     ·rw [e]
      exact rowEndF_break width r _ (n + 1) (n + 1) (pre ++ [p]) (by simp [hn]) (Nat.le_refl _) (fun _ => ⟨p, by rw [← e, Nat.add_sub_cancel]; exact hpn, hmb⟩) k hk (by simp at hlt; omega) h0
   ·rw [e]
    exact rowEndF_break width r _ best (n + 1) (pre ++ [p]) (by simp [hn]) (by omega) (fun h => by rw [← e]; exact hB h) k hk (by simp at hlt; omega) h0
theorem rowEnd_break {width : Int} {ps : List Piece} (h : rowEnd width ps < ps.length) (hn : ps ≠ []) : ∃ p, (ps.take (rowEnd width ps)).getLast? = some p ∧ mayBreak p = true := by
 have hp := rowEnd_pos (width := width) hn
 obtain ⟨p, hp1, hp2⟩ := rowEndF_break width ps 0 0 0 [] rfl (Nat.le_refl _) (fun h => by cases h) (rowEnd width ps) rfl (by simpa using h) hp
 refine ⟨p, ?_, hp2⟩
 rw [List.nil_append] at hp1
 rw [List.getLast?_eq_getElem?, List.length_take, Nat.min_eq_left (by omega), List.getElem?_take, if_pos (by omega)]
 exact hp1
def Brk : List (List Piece) → Prop
 | p :: q :: r => (∃ x, p.getLast? = some x ∧ mayBreak x = true) ∧ Brk (q :: r)
 | _ => True
theorem rowsF_brk : ∀ (n : Nat) (w0 w : Int) (ps : List Piece), ps.length ≤ n → Brk (rowsF n w0 w ps)
 | 0, _, _, _, _ => trivial
 | n + 1, w0, w, ps, hn => by
  unfold rowsF
  split
  ·exact trivial
  ·rename_i h
   have hp := rowEnd_pos (width := w0) h
   have ih := rowsF_brk n w w (ps.drop (rowEnd w0 ps)) (by rw [List.length_drop]; omega)
   cases e : rowsF n w w (ps.drop (rowEnd w0 ps)) with
   | nil => exact trivial
   | cons q r =>
    rw [e] at ih
    refine ⟨rowEnd_break (Nat.lt_of_not_le fun z => ?_) h, ih⟩
    rw [List.drop_eq_nil_of_le z] at e
    have : rowsF n w w [] = [] := by cases n <;> simp [rowsF]
    rw [this] at e; cases e
def setL : List (List Int × List Int) → List (List Int × List Int)
 | [] => []
 | [a] => [(a.1, [10])]
 | a :: b :: r => a :: setL (b :: r)
def joinG : List (List Piece) → List (List Int × List Int)
 | [] => []
 | [p] => zipG p (ownGaps p)
 | p :: q :: r => setL (zipG p (ownGaps p)) ++ joinG (q :: r)
theorem setL_flat : ∀ (row : List Piece), row ≠ [] → flatP (setL (zipG row (ownGaps row))) = cod row ++ [10]
 | [], h => absurd rfl h
 | [p], _ => by simp [ownGaps, zipG, setL, flatP, cod, rowCodes]
 | p :: q :: r, _ => by
  have ih := setL_flat (q :: r) (by simp)
  have e : zipG (p :: q :: r) (ownGaps (p :: q :: r)) = (p.1, List.replicate p.2.toNat 32) :: zipG (q :: r) (ownGaps (q :: r)) := rfl
  have hne : zipG (q :: r) (ownGaps (q :: r)) ≠ [] := by cases r <;> simp [zipG, ownGaps]
  rw [e]
  cases e2 : zipG (q :: r) (ownGaps (q :: r)) with
  | nil => exact absurd e2 hne
  | cons a as =>
   rw [e2] at ih
   show flatP (_ :: setL (a :: as)) = _
   rw [flatP_cons, ih]
   unfold cod
   rw [show ownGaps (p :: q :: r) = p.2 :: ownGaps (q :: r) from rfl, rowCodes_cons2]
   simp
theorem joinG_flat : ∀ (parts : List (List Piece)) (p : List Piece), (∀ x ∈ p :: parts, x ≠ []) → flatP (joinG (p :: parts)) = cod p ++ (parts.map cod).flatMap (fun r => 10 :: r)
 | [], p, _ => by
  show flatP (zipG p (ownGaps p)) = _
  rw [← rowCodes_zip]; simp [cod]
 | q :: parts, p, h => by
  have ih := joinG_flat parts q fun x hx => h x (List.mem_cons_of_mem _ hx)
  show flatP (setL _ ++ joinG (q :: parts)) = _
  rw [show ∀ a b, flatP (a ++ b) = flatP a ++ flatP b from fun a b => by unfold flatP; rw [List.flatMap_append], setL_flat p (h p List.mem_cons_self), ih]
  simp
end Mine
end
section
namespace Mine
def mkP (p : List Int × List Int) : Piece := (p.1, gapOf p.1 p.2)
def PG (p : Piece) : Prop := ∃ b, p.2 = gapOf p.1 b
def okWd (L : List Int) (p : Piece) : Prop := (∀ c, p.1.head? = some c → isLd L c = false) ∧ (endsS p.1 = true → p.1.getLast? = some 46)
theorem PG_pieces (l : List Int) : ∀ p ∈ piecesOf l, PG p := fun p hp => by
 unfold piecesOf at hp
 obtain ⟨q, _, rfl⟩ := List.mem_map.mp hp
 exact ⟨q.2, rfl⟩
theorem gap_rep {p : Piece} (h : PG p) : gapOf p.1 (List.replicate p.2.toNat 32) = p.2 := by
 obtain ⟨b, hb⟩ := h
 have h1 := gapOf_le p.1 b
 unfold gapOf at hb ⊢
 cases e : endsS p.1 with
 | false => rw [e] at hb; simpa using hb.symm
 | true =>
  rw [e, if_pos rfl] at hb
  rw [if_pos rfl]
  have hc : (List.replicate p.2.toNat (32 : Int)).contains 10 = false := by
   rw [List.contains_eq_mem, decide_eq_false_iff_not]
   intro hm
   have := (List.mem_replicate.mp hm).2
   omega
  rw [hc, Bool.false_or, List.length_replicate]
  split at hb
  ·rw [hb]; rfl
  ·rw [hb]; rfl
theorem gap_end {L : List Int} {p : Piece} (h : PG p) (hw : okWd L p) (hb : mayBreak p = true) : gapOf p.1 [10] = p.2 := by
 obtain ⟨b, hg⟩ := h
 unfold gapOf at hg ⊢
 cases e : endsS p.1 with
 | false => rw [e] at hg; simpa using hg.symm
 | true =>
  rw [e, if_pos rfl] at hg
  rw [if_pos rfl]
  have hl := hw.2 e
  unfold mayBreak at hb
  rw [hl] at hb
  simp only [bne_self_eq_false, Bool.or_false, decide_eq_true_eq] at hb
  rw [show (([10] : List Int).contains 10 || decide (1 < ([10] : List Int).length)) = true from rfl, if_pos rfl]
  split at hg
  ·exact hg.symm
  ·omega
theorem setL_mk {L : List Int} : ∀ (row : List Piece), (∀ p ∈ row, PG p ∧ okWd L p) → (∃ x, row.getLast? = some x ∧ mayBreak x = true) → (setL (zipG row (ownGaps row))).map mkP = row
 | [], _, ⟨_, h, _⟩ => by cases h
 | [p], h, ⟨x, hx, hb⟩ => by
  have : p = x := by simpa using hx
  subst this
  obtain ⟨a, b⟩ := h p List.mem_cons_self
  show [mkP (p.1, [10])] = [p]
  unfold mkP
  rw [gap_end a b hb]
 | p :: q :: r, h, ⟨x, hx, hb⟩ => by
  have ih := setL_mk (q :: r) (fun y hy => h y (List.mem_cons_of_mem _ hy)) ⟨x, by rw [List.getLast?_cons_cons] at hx; exact hx, hb⟩
  have hne : zipG (q :: r) (ownGaps (q :: r)) ≠ [] := by cases r <;> simp [zipG, ownGaps]
  have e : zipG (p :: q :: r) (ownGaps (p :: q :: r)) = (p.1, List.replicate p.2.toNat 32) :: zipG (q :: r) (ownGaps (q :: r)) := rfl
  rw [e]
  cases e2 : zipG (q :: r) (ownGaps (q :: r)) with
  | nil => exact absurd e2 hne
  | cons a as =>
   rw [e2] at ih
   show mkP _ :: (setL (a :: as)).map mkP = _
   rw [ih]
   unfold mkP
   rw [gap_rep (h p List.mem_cons_self).1]
theorem zipG_mk : ∀ (row : List Piece), (∀ p ∈ row, PG p) → EqBL row ((zipG row (ownGaps row)).map mkP)
 | [], _ => .nil
 | [p], _ => .one rfl
 | p :: q :: r, h => by
  have ih := zipG_mk (q :: r) fun y hy => h y (List.mem_cons_of_mem _ hy)
  have e : (zipG (p :: q :: r) (ownGaps (p :: q :: r))).map mkP = p :: (zipG (q :: r) (ownGaps (q :: r))).map mkP := by
   show mkP (p.1, List.replicate p.2.toNat 32) :: _ = _
   unfold mkP
   rw [gap_rep (h p List.mem_cons_self)]; rfl
  rw [e]
  cases e2 : (zipG (q :: r) (ownGaps (q :: r))).map mkP with
  | nil => rw [e2] at ih; cases ih
  | cons a as => rw [e2] at ih; exact .cons ih
theorem EqBL.app : ∀ (a : List Piece) {b b' : List Piece}, b ≠ [] → EqBL b b' → EqBL (a ++ b) (a ++ b')
 | [], _, _, _, h => h
 | p :: a, b, b', hb, h => by
  have ih := EqBL.app a hb h
  rw [List.cons_append, List.cons_append]
  cases e1 : a ++ b with
  | nil => exact absurd (List.append_eq_nil_iff.mp e1).2 hb
  | cons x xs =>
   rw [e1] at ih
   cases e2 : a ++ b' with
   | nil => rw [e2] at ih; cases ih
   | cons y ys => rw [e2] at ih; exact .cons ih
theorem joinG_mk {L : List Int} : ∀ (parts : List (List Piece)), (∀ x ∈ parts, x ≠ []) → (∀ x ∈ parts, ∀ p ∈ x, PG p ∧ okWd L p) → Brk parts → EqBL parts.flatten ((joinG parts).map mkP)
 | [], _, _, _ => .nil
 | [p], _, h, _ => by
  have := zipG_mk p fun x hx => (h p List.mem_cons_self x hx).1
  simpa [joinG] using this
 | p :: q :: r, hn, h, hb => by
  have ih := joinG_mk (q :: r) (fun x hx => hn x (List.mem_cons_of_mem _ hx)) (fun x hx => h x (List.mem_cons_of_mem _ hx)) hb.2
  show EqBL (p ++ (q :: r).flatten) ((setL _ ++ joinG (q :: r)).map mkP)
  rw [List.map_append, setL_mk p (h p List.mem_cons_self) hb.1]
  refine EqBL.app p ?_ ih
  rw [List.flatten_cons]
  have := hn q (by simp)
  simp [this]
theorem GapsNE_app : ∀ (a b : List (List Int × List Int)), (∀ p ∈ a, p.2 ≠ []) → GapsNE b → GapsNE (a ++ b)
 | [], _, _, h => h
 | p :: a, b, ha, h => by
  have ih := GapsNE_app a b (fun x hx => ha x (List.mem_cons_of_mem _ hx)) h
  rw [List.cons_append]
  cases e : a ++ b with
  | nil => exact trivial
  | cons x xs => rw [e] at ih; exact ⟨ha p List.mem_cons_self, ih⟩
theorem setL_ne : ∀ (z : List (List Int × List Int)), GapsNE z → ∀ p ∈ setL z, p.2 ≠ []
 | [], _, _, h => by cases h
 | [a], _, p, h => by simp [setL] at h; subst h; simp
 | a :: b :: r, hg, p, h => by
  unfold setL at h
  rcases List.mem_cons.mp h with rfl | h
  ·exact hg.1
  ·exact setL_ne (b :: r) hg.2 p h
theorem setL_ok : ∀ (z : List (List Int × List Int)), (∀ p ∈ z, p.1 ≠ [] ∧ (∀ c ∈ p.1, isBl c = false) ∧ blank p.2) → ∀ p ∈ setL z, p.1 ≠ [] ∧ (∀ c ∈ p.1, isBl c = false) ∧ blank p.2
 | [], _, _, h => by cases h
 | [a], hz, p, h => by
  simp [setL] at h; subst h
  have := hz a List.mem_cons_self
  exact ⟨this.1, this.2.1, fun c hc => by simp at hc; subst hc; rfl⟩
 | a :: b :: r, hz, p, h => by
  unfold setL at h
  rcases List.mem_cons.mp h with rfl | h
  ·exact hz _ List.mem_cons_self
  ·exact setL_ok (b :: r) (fun x hx => hz x (List.mem_cons_of_mem _ hx)) p h
theorem joinG_ok : ∀ (parts : List (List Piece)), (∀ x ∈ parts, okRow x ∧ wOk x) → (∀ p ∈ joinG parts, p.1 ≠ [] ∧ (∀ c ∈ p.1, isBl c = false) ∧ blank p.2) ∧ GapsNE (joinG parts)
 | [], _ => ⟨fun p h => (by cases h), trivial⟩
 | [p], h => ⟨zipG_ok p _ (h p List.mem_cons_self).2, zipG_ne p _ fun g hg => ((h p List.mem_cons_self).1.gaps g hg).1⟩
 | p :: q :: r, h => by
  obtain ⟨i1, i2⟩ := joinG_ok (q :: r) fun x hx => h x (List.mem_cons_of_mem _ hx)
  have hp := h p List.mem_cons_self
  have z1 := zipG_ok p (ownGaps p) hp.2
  have z2 := zipG_ne p (ownGaps p) fun g hg => (hp.1.gaps g hg).1
  show (∀ x ∈ setL _ ++ joinG (q :: r), _) ∧ GapsNE (setL _ ++ joinG (q :: r))
  refine ⟨fun x hx => ?_, GapsNE_app _ _ (setL_ne _ z2) i2⟩
  rcases List.mem_append.mp hx with hx | hx
  ·exact setL_ok _ z1 x hx
  ·exact i1 x hx
theorem cod_head {p : Piece} {r : List Piece} (h : p.1 ≠ []) : (cod (p :: r)).head? = p.1.head? := by
 cases hp : p.1 with
 | nil => exact absurd hp h
 | cons c w =>
  cases r with
  | nil => unfold cod; rw [rowCodes_one, hp]
  | cons q r => rw [cod_cons2, hp]; rfl
theorem leadOf_app {L x y : List Int} (h1 : ∀ c ∈ x, isLd L c = true) (h2 : ∀ c, y.head? = some c → isLd L c = false) : leadOf L (x ++ y) = x := tw_all h1 h2
theorem comSt_self : ∀ x : List Int, comSt x x = x
 | [] => rfl
 | c :: x => by unfold comSt; rw [if_pos rfl, comSt_self x]
theorem leads_lay {L first rest c d : List Int} {cs : List (List Int)} (h1 : ∀ x ∈ first, isLd L x = true) (h2 : ∀ x ∈ rest, isLd L x = true) (h3 : ∀ y ∈ c :: d :: cs, ∀ x, y.head? = some x → isLd L x = false) :
  leadsOf L (layL first rest (c :: d :: cs)) = (first, rest) := by
 show (leadOf L (first ++ c), (cs.map (rest ++ ·)).foldl (fun a r => comSt a (leadOf L r)) (leadOf L (rest ++ d))) = _
 rw [leadOf_app h1 (h3 c (by simp)), leadOf_app h2 (h3 d (by simp))]
 have h4 : ∀ y ∈ cs, ∀ x, y.head? = some x → isLd L x = false := fun y hy => h3 y (by simp [hy])
 clear h3
 congr 1
 induction cs with
 | nil => rfl
 | cons e cs ih =>
  rw [List.map_cons, List.foldl_cons, leadOf_app h2 (h4 e List.mem_cons_self), comSt_self]
  exact ih fun y hy => h4 y (List.mem_cons_of_mem _ hy)
theorem leads_ld {L : List Int} (rows : List (List Int)) : (∀ x ∈ (leadsOf L rows).1, isLd L x = true) ∧ ∀ x ∈ (leadsOf L rows).2, isLd L x = true := by
 have hl : ∀ r : List Int, ∀ x ∈ leadOf L r, isLd L x = true := fun r x hx => all_take x hx
 match rows with
 | [] => exact ⟨fun c h => (by cases h), fun c h => by cases h⟩
 | [r] =>
  refine ⟨hl r, ?_⟩
  show ∀ x ∈ (if isBlankLead (leadOf L r) then leadOf L r else []), isLd L x = true
  split
  ·exact hl r
  ·exact fun c h => by cases h
 | r0 :: r1 :: rs => exact ⟨hl r0, fun c hc => hl r1 c ((leads_tail (L := L) (r0 := r0) (rs := r1 :: rs) (by simp)).2 c hc)⟩
theorem flat_lay {rest : List Int} (cs : List (List Int)) : ((cs.map (rest ++ ·)).flatMap fun r => 10 :: r.drop rest.length) = cs.flatMap fun r => 10 :: r := by
 induction cs with
 | nil => rfl
 | cons c cs ih =>
  rw [List.map_cons, List.flatMap_cons, List.flatMap_cons, ih, drop_cat0]
theorem refill {col : Int} {L : List Int} {rows : List (List Int)} (hn : rows ≠ []) (hs : rsz rows ≤ 4001) (hw : wordsL (wordsOf L rows) ≠ []) (hok : ∀ p ∈ piecesOf (wordsOf L rows), okWd L p) : filledP col 0 L (filledP col 0 L rows) = filledP col 0 L rows := by
 have hpf := parts_facts (col := col) (L := L) hn hs
 have hflat : (partsOf col L rows).flatten = piecesOf (wordsOf L rows) := rowsOf_flat _ _ _
 have hbrk : Brk (partsOf col L rows) := rowsF_brk _ _ _ _ (Nat.le_refl _)
 have hpd : partsOf col L rows = rowsOf (col - cols (leadsOf L rows).1) (col - cols (leadsOf L rows).2) (piecesOf (wordsOf L rows)) := rfl
 obtain ⟨ld1, ld2⟩ := leads_ld (L := L) rows
 rw [filledP_left (rows := rows)]
 generalize (leadsOf L rows).1 = first at *
 generalize (leadsOf L rows).2 = rest at *
 have hps : piecesOf (wordsOf L rows) ≠ [] := fun z => by
  have := pieces_words (wordsOf L rows)
  rw [z] at this; exact hw this.symm
 have hPG := PG_pieces (wordsOf L rows)
 generalize piecesOf (wordsOf L rows) = ps at *
 generalize partsOf col L rows = parts at *
 have hmem : ∀ x ∈ parts, ∀ p ∈ x, p ∈ ps := fun x hx p hp => by rw [← hflat]; exact List.mem_flatten.mpr ⟨x, hx, hp⟩
 have hG := joinG_mk (L := L) parts (fun x hx => (hpf x hx).2.2) (fun x hx p hp => ⟨hPG p (hmem x hx p hp), hok p (hmem x hx p hp)⟩) hbrk
 obtain ⟨jo, jg⟩ := joinG_ok parts fun x hx => ⟨(hpf x hx).1, (hpf x hx).2.1⟩
 rw [hflat] at hG
 have hpj : piecesOf (flatP (joinG parts)) = (joinG parts).map mkP := by
  unfold piecesOf; rw [parse_flat _ jo jg]; rfl
 have hhead : ∀ x ∈ parts, ∀ c, (cod x).head? = some c → isLd L c = false := fun x hx c hc => by
  obtain ⟨_, a2, a3⟩ := hpf x hx
  cases x with
  | nil => exact absurd rfl a3
  | cons p r =>
   rw [cod_head (a2 p List.mem_cons_self).1] at hc
   exact (hok p (hmem _ hx p List.mem_cons_self)).1 c hc
 cases hparts : parts with
 | nil => rw [hparts] at hflat; exact absurd hflat.symm hps
 | cons p0 r =>
  rw [hparts] at hpf hhead hpd hpj hG hflat
  have hjf := joinG_flat r p0 fun x hx => (hpf x hx).2.2
  cases r with
  | nil =>
   show filledP col 0 L [first ++ cod p0] = [first ++ cod p0]
   have hle : leadsOf L [first ++ cod p0] = (first, if isBlankLead first then first else []) := by
    show (leadOf L _, if isBlankLead (leadOf L _) then leadOf L _ else []) = _
    rw [leadOf_app ld1 (hhead p0 List.mem_cons_self)]
   rw [filledP_left]
   have hwo : wordsOf L [first ++ cod p0] = flatP (joinG [p0]) := by
    unfold wordsOf
    rw [hle, hjf]
    simp
   unfold partsOf
   rw [hwo, hpj, hle]
   dsimp only
   have h1 : rowEnd (col - cols first) ps = ps.length := by
    rw [rowsOf_step hps] at hpd
    injection hpd with e1 e2
    have hl := rowEnd_le (width := col - cols first) (ps := ps)
    have hf : p0 = ps := by simpa using hflat
    rw [hf] at e1
    have := congrArg List.length e1
    rw [List.length_take] at this
    omega
   have h2 : rowEnd (col - cols first) ((joinG [p0]).map mkP) = ((joinG [p0]).map mkP).length := by
    have := hG.rowEndF (width := col - cols first) 0 0 0
    unfold rowEnd at h1 ⊢
    rw [← this, h1, hG.len]
   have hne2 : (joinG [p0]).map mkP ≠ [] := fun z => hps (hG.nil_iff.mpr z)
   rw [rowsOf_step hne2, h2, List.drop_length, rowsOf_nil, List.take_length]
   show [first ++ cod _] = _
   rw [← hG.cod]
   have hf : p0 = ps := by simpa using hflat
   rw [hf]
  | cons p1 r =>
   have hl := leads_lay (L := L) (first := first) (rest := rest) (c := cod p0) (d := cod p1) (cs := r.map cod) ld1 ld2 (by
    intro y hy
    rw [show cod p0 :: cod p1 :: r.map cod = (p0 :: p1 :: r).map cod from rfl] at hy
    obtain ⟨x, hx, rfl⟩ := List.mem_map.mp hy
    exact hhead x hx)
   rw [List.map_cons, List.map_cons, filledP_left, hl]
   dsimp only
   congr 1
   unfold partsOf
   have hwo : wordsOf L (layL first rest (cod p0 :: cod p1 :: r.map cod)) = flatP (joinG (p0 :: p1 :: r)) := by
    unfold wordsOf
    rw [hl, hjf]
    show (first ++ cod p0).drop first.length ++ (((cod p1 :: r.map cod).map (rest ++ ·)).flatMap fun r => 10 :: r.drop rest.length) = _
    rw [drop_cat0, flat_lay]; rfl
   rw [hwo, hpj, hl]
   dsimp only
   have e := EqBL.rows ps.length (col - cols first) (col - cols rest) hG
   have e2 : rowsOf (col - cols first) (col - cols rest) ((joinG (p0 :: p1 :: r)).map mkP) = rowsF ps.length (col - cols first) (col - cols rest) ((joinG (p0 :: p1 :: r)).map mkP) := by
    unfold rowsOf; rw [hG.len]
   rw [e2, ← e]
   show (rowsOf _ _ ps).map cod = _
   rw [← hpd]; rfl
end Mine
end
section
namespace Mine
theorem join_decomp3 {R1 P R2 : List (List Int)} (h : P ≠ []) : joinRows (R1 ++ P ++ R2) = preR R1 ++ joinRows P ++ postR R2 := by
 match P, h with
 | p :: P, _ =>
  rw [show R1 ++ p :: P ++ R2 = R1 ++ p :: (P ++ R2) by simp, join_decomp, joinRows_cons]
  unfold postR
  rw [List.flatMap_append]
  simp
variable {L : List Int}
theorem filledG_np {col : Int} {way : Nat} : ∀ (P par : List (List Int)), par ++ P ≠ [] → (∀ r ∈ P, isPart L r = false) → filledG col way L par P = filledP col way L (par ++ P)
 | [], par, h, _ => by
  rw [List.append_nil] at h ⊢
  rw [filledG_nil, if_neg h]
 | r :: P, par, h, hp => by
  rw [filledG_cons, hp r List.mem_cons_self, if_neg (by decide), filledG_np P (par ++ [r]) (by simp) fun x hx => hp x (List.mem_cons_of_mem _ hx)]
  simp
theorem filledT_para {col : Int} {way : Nat} {P : List (List Int)} (h1 : P ≠ []) (h2 : no10 P) (h3 : ∀ r ∈ P, isPart L r = false) : filledT col way L (joinRows P) = joinRows (filledP col way L P) := by
 unfold filledT
 rw [split_join P h1 h2, filledG_np P [] (by simpa using h1) h3]; rfl
theorem rowCodes_mem {c : Int} : ∀ (row : List Piece) (gaps : List Int), c ∈ rowCodes row gaps → c = 32 ∨ ∃ p ∈ row, c ∈ p.1
 | [], _, h => by simp [rowCodes] at h
 | [p], gaps, h => by rw [rowCodes_one] at h; exact .inr ⟨p, List.mem_cons_self, h⟩
 | p :: q :: r, [], h => .inr ⟨p, List.mem_cons_self, h⟩
 | p :: q :: r, g :: gs, h => by
  rw [rowCodes_cons2] at h
  rcases List.mem_append.mp h with h | h
  ·rcases List.mem_append.mp h with h | h
   ·exact .inr ⟨p, List.mem_cons_self, h⟩
   ·exact .inl (List.mem_replicate.mp h).2
  ·rcases rowCodes_mem (q :: r) gs h with h | ⟨x, hx, hc⟩
   ·exact .inl h
   ·exact .inr ⟨x, List.mem_cons_of_mem _ hx, hc⟩
theorem rowCodes_has {c : Int} {p : Piece} {r : List Piece} {gaps : List Int} (h : c ∈ p.1) : c ∈ rowCodes (p :: r) gaps := by
 cases r with
 | nil => rw [rowCodes_one]; exact h
 | cons q r => cases gaps with
  | nil => exact h
  | cons g gs => rw [rowCodes_cons2]; exact List.mem_append_left _ (List.mem_append_left _ h)
theorem leads_mem (rows : List (List Int)) : (∀ x ∈ (leadsOf L rows).1, ∃ r ∈ rows, x ∈ r) ∧ ∀ x ∈ (leadsOf L rows).2, ∃ r ∈ rows, x ∈ r := by
 have hl : ∀ r : List Int, ∀ x ∈ leadOf L r, x ∈ r := fun r x hx => (List.takeWhile_sublist _).subset hx
 match rows with
 | [] => exact ⟨fun c h => (by cases h), fun c h => by cases h⟩
 | [r] =>
  refine ⟨fun x hx => ⟨r, List.mem_cons_self, hl r x hx⟩, ?_⟩
  show ∀ x ∈ (if isBlankLead (leadOf L r) then leadOf L r else []), _
  split
  ·exact fun x hx => ⟨r, List.mem_cons_self, hl r x hx⟩
  ·exact fun c h => by cases h
 | r0 :: r1 :: rs => exact ⟨fun x hx => ⟨r0, List.mem_cons_self, hl r0 x hx⟩, fun c hc => ⟨r1, by simp, hl r1 c ((leads_tail (L := L) (r0 := r0) (rs := r1 :: rs) (by simp)).2 c hc)⟩⟩
theorem laid_form {col : Int} {way n i : Nat} {first rest : List Int} {part : List Piece} (h : okRow part) : ∃ k gaps, laidRow col way first rest n i part = (if i = 0 then first else rest) ++ (List.replicate k 32 ++ rowCodes part gaps) := by
 unfold laidRow
 split
 ·obtain ⟨k, g, e, _⟩ := placed_form h (col - cols first) way (i + 1 == n)
  exact ⟨k, g, by rw [e]⟩
 ·obtain ⟨k, g, e, _⟩ := placed_form h (col - cols rest) way (i + 1 == n)
  exact ⟨k, g, by rw [e]⟩
theorem filledP_rows {col : Int} {way : Nat} {rows : List (List Int)} (hn : rows ≠ []) (hs : rsz rows ≤ 4001) (h0 : no10 rows) (hok : ∀ p ∈ piecesOf (wordsOf L rows), ∀ c, p.1.head? = some c → isLd L c = false) :
  no10 (filledP col way L rows) ∧ ∀ r ∈ filledP col way L rows, isPart L r = false := by
 obtain ⟨m1, m2⟩ := leads_mem (L := L) rows
 have hpf := parts_facts (col := col) (L := L) hn hs
 have hflat : (partsOf col L rows).flatten = piecesOf (wordsOf L rows) := rowsOf_flat _ _ _
 have key : ∀ r ∈ filledP col way L rows, (10 : Int) ∉ r ∧ isPart L r = false := fun r hr => by
  unfold filledP at hr
  obtain ⟨q, hq, rfl⟩ := List.mem_map.mp hr
  have hm := List.fst_mem_of_mem_zipIdx hq
  obtain ⟨a1, a2, a3⟩ := hpf q.1 hm
  obtain ⟨k, gaps, e⟩ := laid_form (col := col) (way := way) (n := (partsOf col L rows).length) (i := q.2) (first := (leadsOf L rows).1) (rest := (leadsOf L rows).2) a1
  rw [e]
  refine ⟨fun hc => ?_, ?_⟩
  ·rcases List.mem_append.mp hc with hc | hc
   ·split at hc
    ·obtain ⟨r, hr, hx⟩ := m1 _ hc; exact h0 r hr hx
    ·obtain ⟨r, hr, hx⟩ := m2 _ hc; exact h0 r hr hx
   ·rcases List.mem_append.mp hc with hc | hc
    ·have := (List.mem_replicate.mp hc).2; omega
    ·rcases rowCodes_mem _ _ hc with hc | ⟨p, hp, hx⟩
     ·omega
     ·have := (a2 p hp).2 10 hx
      cases this
  ·obtain ⟨p, ps, hps⟩ : ∃ p ps, q.1 = p :: ps := by
    cases e1 : q.1 with
    | nil => exact absurd e1 a3
    | cons p ps => exact ⟨p, ps, rfl⟩
   have hpm : p ∈ q.1 := by rw [hps]; exact List.mem_cons_self
   obtain ⟨c, w, hcw⟩ : ∃ c w, p.1 = c :: w := by
    cases e1 : p.1 with
    | nil => exact absurd e1 (a2 p hpm).1
    | cons c w => exact ⟨c, w, rfl⟩
   have hcl : isLd L c = false := hok p (by rw [← hflat]; exact List.mem_flatten.mpr ⟨q.1, hm, hpm⟩) c (by rw [hcw]; rfl)
   have hcin : c ∈ (if q.2 = 0 then (leadsOf L rows).1 else (leadsOf L rows).2) ++ (List.replicate k 32 ++ rowCodes q.1 gaps) := by
    refine List.mem_append_right _ (List.mem_append_right _ ?_)
    rw [hps]; exact rowCodes_has (by rw [hcw]; exact List.mem_cons_self)
   generalize (if q.2 = 0 then (leadsOf L rows).1 else (leadsOf L rows).2) ++ (List.replicate k 32 ++ rowCodes q.1 gaps) = row at *
   unfold isPart
   rw [beq_eq_false_iff_ne]
   intro z
   have hall : row.takeWhile (isLd L) = row := by
    have h2 := List.takeWhile_append_dropWhile (p := isLd L) (l := row)
    have hl := congrArg List.length h2
    rw [List.length_append] at hl
    have z' : (row.takeWhile (isLd L)).length = row.length := z
    have : row.dropWhile (isLd L) = [] := List.length_eq_zero_iff.mp (by omega)
    rw [this, List.append_nil] at h2; exact h2
   rw [← hall] at hcin
   rw [all_take c hcin] at hcl
   cases hcl
 exact ⟨fun r hr => (key r hr).1, fun r hr => (key r hr).2⟩
theorem np_words {row : List Int} (h : isPart L row = false) : ∃ c ∈ row, isLd L c = false := by
 refine Classical.byContradiction fun q => ?_
 have hall : ∀ c ∈ row, isLd L c = true := fun c hc => by
  cases e : isLd L c with
  | true => rfl
  | false => exact absurd ⟨c, hc, e⟩ q
 have : leadOf L row = row := by
  have := tw_all (p := isLd L) (l := row) (r := []) hall (fun c hc => by cases hc)
  rw [List.append_nil] at this; exact this
 unfold isPart at h
 rw [this] at h; simp at h
structure ParaF (col : Int) (way : Nat) (L : List Int) (S : St) (R1 P R2 : List (List Int)) : Prop where
 old : oldF S (rsz R1 + 1) (rsz (R1 ++ P)) = joinRows P
 start : lineStart S.text (rsz R1 + 1) = rsz R1 + 1
 new : filledT col way L (oldF S (rsz R1 + 1) (rsz (R1 ++ P))) = joinRows (filledP col way L P)
 ed : fillE col way L (rsz R1 + 1) (rsz (R1 ++ P)) S = editsOf (joinRows P) (joinRows (filledP col way L P))
 run : ∃ f, (fillR col way L (rsz R1 + 1) (rsz (R1 ++ P)) S).text = preR R1 ++ joinRows (filledP col way L P) ++ postR R2 ∧ moveBy f S (fillR col way L (rsz R1 + 1) (rsz (R1 ++ P)) S) ∧ Shf (rsz R1 + 1) (joinRows P).length (joinRows (filledP col way L P)).length f
theorem paraF {col : Int} {way : Nat} {S : St} {R1 P R2 : List (List Int)} (H : Para L R1 P R2) (hS : S.text = joinRows (R1 ++ P ++ R2)) : ParaF col way L S R1 P R2 := by
 have hj := join_decomp3 (R1 := R1) (R2 := R2) H.ne
 have hjl := join_len H.ne
 have hpl := preR_len R1
 have hst : lineStart S.text (rsz R1 + 1) = rsz R1 + 1 := by
  rw [hS]
  obtain ⟨p, P', rfl⟩ : ∃ p P', P = p :: P' := by
   cases hP : P with
   | nil => exact absurd hP H.ne
   | cons p P' => exact ⟨p, P', rfl⟩
  have := (row_facts (R1 := R1) (R2 := P' ++ R2) (r := p) (k := 0) (H.no p (by simp)) (Nat.zero_le _)).1
  rw [Nat.add_zero] at this
  rw [show R1 ++ p :: P' ++ R2 = R1 ++ p :: (P' ++ R2) by simp]; exact this
 have hold : oldF S (rsz R1 + 1) (rsz (R1 ++ P)) = joinRows P := by
  unfold oldF
  rw [hst, hS, hj, rsz_append, show rsz R1 + 1 - 1 = (preR R1).length by omega, show rsz R1 + rsz P - 1 = (preR R1).length + (joinRows P).length by omega]
  exact sub_app
 have hnew : filledT col way L (oldF S (rsz R1 + 1) (rsz (R1 ++ P))) = joinRows (filledP col way L P) := by
  rw [hold]; exact filledT_para H.ne (fun r hr => H.no r (by simp [hr])) H.np
 have hed : fillE col way L (rsz R1 + 1) (rsz (R1 ++ P)) S = editsOf (joinRows P) (joinRows (filledP col way L P)) := by
  unfold fillE; rw [hnew, hold]
 refine ⟨hold, hst, hnew, hed, ?_⟩
 have := edits_run (A := preR R1) (C := postR R2) (old := joinRows P) (new := joinRows (filledP col way L P)) (S := S) (by rw [hS, hj])
 unfold fillR
 rw [hed, hst, ← hpl]
 exact this
theorem fillR_nil {col : Int} {way : Nat} {lo hi : Nat} {S : St} (h : fillE col way L lo hi S = []) : fillR col way L lo hi S = S := by
 unfold fillR; rw [h]; rfl
theorem para_after {R1 P R2 F : List (List Int)} {p : Nat} {f : Nat → Nat} (H : Para L R1 P R2) (hF : F ≠ []) (h0 : no10 F) (hnp : ∀ r ∈ F, isPart L r = false) (hf : Shf (rsz R1 + 1) (joinRows P).length (joinRows F).length f) (hp : Loc L R1 P p) :
  Para L R1 F R2 ∧ Loc L R1 F (f p) := by
 have l1 := join_len H.ne
 have l2 := join_len hF
 refine ⟨⟨fun r hr => ?_, hF, hnp, H.up, H.dn⟩, ?_⟩
 ·rcases List.mem_append.mp hr with hr | hr
  ·rcases List.mem_append.mp hr with hr | hr
   ·exact H.no r (by simp [hr])
   ·exact h0 r hr
  ·exact H.no r (by simp [hr])
 ·rcases hp with ⟨a, b⟩ | ⟨R0, z, Z, k, e, hz, hk, hk2⟩
  ·left
   rw [rsz_append] at b ⊢
   have := hf.within p a (by omega)
   omega
  ·right
   refine ⟨R0, z, Z, k, e, hz, ?_, hk2⟩
   have hle : p ≤ rsz R1 + 1 := by rw [e, rsz_append, rsz_cons]; omega
   rw [hf.ahead p hle]; exact hk
end Mine
end
section
namespace Mine
def sgn (c : Int) : Prop := c = 97 ∨ c = 98 ∨ c = 99 ∨ c = 32 ∨ c = 10 ∨ c = 46
theorem piece_mem {l : List Int} {p : Piece} (h : p ∈ piecesOf l) : p.1 ≠ [] ∧ ∀ c ∈ p.1, c ∈ l ∧ isBl c = false := by
 unfold piecesOf at h
 obtain ⟨q, hq, rfl⟩ := List.mem_map.mp h
 obtain ⟨h1, _, h3⟩ := parse_ok l
 refine ⟨(h1 q hq).1, fun c hc => ⟨?_, (h1 q hq).2.1 c hc⟩⟩
 rw [← h3]
 exact List.mem_append_right _ (List.mem_flatMap.mpr ⟨q, hq, List.mem_append_left _ hc⟩)
theorem wordsOf_mem {L : List Int} {rows : List (List Int)} {c : Int} (h : c ∈ wordsOf L rows) : c = 10 ∨ ∃ r ∈ rows, c ∈ r := by
 unfold wordsOf at h
 rcases List.mem_append.mp h with h | h
 ·cases rows with
  | nil => simp at h
  | cons r rs => exact .inr ⟨r, List.mem_cons_self, List.drop_subset _ _ h⟩
 ·obtain ⟨r, hr, hc⟩ := List.mem_flatMap.mp h
  rcases List.mem_cons.mp hc with hc | hc
  ·exact .inl hc
  ·exact .inr ⟨r, List.mem_of_mem_tail hr, List.drop_subset _ _ hc⟩
theorem split_mem {c : Int} : ∀ {l r : List Int}, r ∈ splitRows l → c ∈ r → c ∈ l
 | [], r, h, hc => by simp [splitRows] at h; subst h; cases hc
 | x :: l, r, h, hc => by
  unfold splitRows at h
  split at h
  ·rcases List.mem_cons.mp h with rfl | h
   ·cases hc
   ·exact List.mem_cons_of_mem _ (split_mem h hc)
  ·split at h
   ·rename_i y ys e
    rcases List.mem_cons.mp h with rfl | h
    ·rcases List.mem_cons.mp hc with rfl | hc
     ·exact List.mem_cons_self
     ·exact List.mem_cons_of_mem _ (split_mem (l := l) (r := y) (by rw [e]; exact List.mem_cons_self) hc)
    ·exact List.mem_cons_of_mem _ (split_mem (l := l) (r := r) (by rw [e]; exact List.mem_cons_of_mem _ h) hc)
   ·rename_i e; exact absurd e (splitRows_ne l)
theorem ends_dot {w : List Int} (h : ∀ c ∈ w, c = 97 ∨ c = 98 ∨ c = 99 ∨ c = 46) (he : endsS w = true) : w.getLast? = some 46 := by
 unfold endsS at he
 have hd : w.reverse.dropWhile isClo = w.reverse := by
  cases e : w.reverse with
  | nil => rfl
  | cons c r =>
   have hc : c ∈ w := by rw [← List.mem_reverse, e]; exact List.mem_cons_self
   have : isClo c = false := by rcases h c hc with q | q | q | q <;> subst q <;> rfl
   rw [List.dropWhile_cons, this]; rfl
 rw [hd] at he
 cases e : w.reverse with
 | nil => rw [e] at he; cases he
 | cons c r =>
  rw [e] at he
  have hc : c ∈ w := by rw [← List.mem_reverse, e]; exact List.mem_cons_self
  have hl : w.getLast? = some c := by rw [← List.head?_reverse, e]; rfl
  rw [hl]
  rcases h c hc with q | q | q | q <;> subst q <;> first | rfl | (exact absurd (show isEnd _ = true from he) (by decide))
theorem okWd_02 {rows : List (List Int)} (h : ∀ r ∈ rows, ∀ c ∈ r, sgn c) : ∀ p ∈ piecesOf (wordsOf [] rows), okWd [] p := fun p hp => by
 obtain ⟨h1, h2⟩ := piece_mem hp
 have hc : ∀ c ∈ p.1, c = 97 ∨ c = 98 ∨ c = 99 ∨ c = 46 := fun c hc => by
  obtain ⟨a, b⟩ := h2 c hc
  rcases wordsOf_mem a with q | ⟨r, hr, hx⟩
  ·subst q; cases b
  ·rcases h r hr c hx with q | q | q | q | q | q
   ·exact .inl q
   ·exact .inr (.inl q)
   ·exact .inr (.inr (.inl q))
   ·subst q; cases b
   ·subst q; cases b
   ·exact .inr (.inr (.inr q))
 refine ⟨fun c hcc => ?_, ends_dot hc⟩
 have hm : c ∈ p.1 := List.mem_of_mem_head? (by rw [hcc]; rfl)
 cases e : isLd [] c with
 | false => rfl
 | true => have := isLd_nil e; rw [(h2 c hm).2] at this; cases this
theorem np_nb {row : List Int} (h : isPart [] row = false) (h0 : (10 : Int) ∉ row) : wordsL row ≠ [] := fun z => by
 obtain ⟨c, hc, hl⟩ := np_words h
 obtain ⟨_, h2, h3⟩ := parse_ok row
 have h4 : (parse row).2 = [] := List.map_eq_nil_iff.mp z
 rw [h4] at h3
 simp at h3
 rw [h3] at h2
 have hb := h2 c hc
 unfold isLd at hl
 unfold isBl at hb
 simp at hl hb
 rcases hb with hb | hb | hb
 ·exact hl.1 hb
 ·exact hl.2 hb
 ·subst hb; exact h0 hc
theorem wordsP_ne {P : List (List Int)} (h1 : P ≠ []) (h2 : no10 P) (h3 : ∀ r ∈ P, isPart [] r = false) : wordsL (wordsOf [] P) ≠ [] := by
 rw [wordsOf_words h1]
 obtain ⟨q, Q, rfl⟩ : ∃ q Q, P = q :: Q := by
  cases P with
  | nil => exact absurd rfl h1
  | cons q Q => exact ⟨q, Q, rfl⟩
 intro z
 rw [List.flatMap_cons] at z
 exact np_nb (h3 q List.mem_cons_self) (h2 q List.mem_cons_self) (List.append_eq_nil_iff.mp z).1
theorem again_02 {col : Int} {S : St} (hc : ∀ c ∈ S.text, sgn c) (hl : S.text.length ≤ 4000) (h1 : 1 ≤ S.point) (h2 : S.point ≤ S.text.length + 1) (hne : (parA [] S.text S.point).1 ≠ (parA [] S.text S.point).2) :
  (parA [] (fillR col 0 [] (parA [] S.text S.point).1 (parA [] S.text S.point).2 S).text (fillR col 0 [] (parA [] S.text S.point).1 (parA [] S.text S.point).2 S).point) =
    (parA [] (fillR col 0 [] (parA [] S.text S.point).1 (parA [] S.text S.point).2 S).text (fillR col 0 [] (parA [] S.text S.point).1 (parA [] S.text S.point).2 S).point) ∧
  ∃ lo hi, parA [] (fillR col 0 [] (parA [] S.text S.point).1 (parA [] S.text S.point).2 S).text (fillR col 0 [] (parA [] S.text S.point).1 (parA [] S.text S.point).2 S).point = (lo, hi) ∧
   fillE col 0 [] lo hi (fillR col 0 [] (parA [] S.text S.point).1 (parA [] S.text S.point).2 S) = [] ∧
   (filledT col 0 [] (oldF (fillR col 0 [] (parA [] S.text S.point).1 (parA [] S.text S.point).2 S) lo hi)).length ≤ (fillR col 0 [] (parA [] S.text S.point).1 (parA [] S.text S.point).2 S).text.length := by
 refine ⟨rfl, ?_⟩
 have hj := join_split S.text
 have hR := splitRows_ne S.text
 have h10 : no10 (splitRows S.text) := fun r hr => split_no10 S.text r hr
 have hrs := split_rsz S.text
 have hch : ∀ r ∈ splitRows S.text, ∀ c ∈ r, sgn c := fun r hr c hcr => hc c (split_mem hr hcr)
 have hex := parA_ex (L := []) (p := S.point) hR h10 h1 (by rw [hj]; exact h2)
 rw [hj] at hex
 rcases hex with e | ⟨R1, P, R2, eR, H, hp⟩
 ·rw [e] at hne; exact absurd rfl hne
 ·rw [eR] at hj hch hrs
  have hpa := parA_of H hp
  rw [hj] at hpa
  rw [hpa]
  dsimp only
  have F := paraF (col := col) (way := 0) (S := S) H hj.symm
  obtain ⟨f, f1, f2, f3⟩ := F.run
  have hPs : rsz P ≤ 4001 := by rw [rsz_append, rsz_append] at hrs; omega
  have hPc : ∀ r ∈ P, ∀ c ∈ r, sgn c := fun r hr => hch r (by simp [hr])
  have hP0 : no10 P := fun r hr => H.no r (by simp [hr])
  have hwd := okWd_02 hPc
  have hwn := wordsP_ne H.ne hP0 H.np
  obtain ⟨g1, g2⟩ := filledP_rows (col := col) (way := 0) H.ne hPs hP0 fun p hp => (hwd p hp).1
  have hFne : filledP col 0 [] P ≠ [] := filledP_ne hwn
  have href := refill (col := col) H.ne hPs hwn hwd
  generalize fillR col 0 [] (rsz R1 + 1) (rsz (R1 ++ P)) S = S1 at *
  obtain ⟨H2, hp2⟩ := para_after H hFne g1 g2 f3 hp
  rw [← f2.1] at hp2
  have hS1 : S1.text = joinRows (R1 ++ filledP col 0 [] P ++ R2) := by rw [f1, join_decomp3 hFne]
  have hpa2 := parA_of H2 hp2
  rw [← hS1] at hpa2
  have F2 := paraF (col := col) (way := 0) (S := S1) H2 hS1
  refine ⟨_, _, hpa2, ?_, ?_⟩
  ·rw [F2.ed, href]; exact edits_nil_iff.mpr rfl
  ·rw [F2.new, href, f1]
   simp only [List.length_append]; omega
theorem small_fill {col : Int} {way : Nat} {S : St} {lo hi : Nat} (hc : col ≤ 13) (h1 : 1 ≤ lo) (h2 : lo ≤ hi) (h3 : hi ≤ S.text.length + 1) (hl : S.text.length ≤ 40) : (filledT col way [] (oldF S lo hi)).length ≤ 2911 := by
 have l1 := lineStart_bd (t := S.text) h1
 have ho : (oldF S lo hi).length ≤ 40 := by unfold oldF; rw [sub_len (by omega)]; omega
 have := filledT_len (way := way) (L := []) (W := 13) (M := 40) hc (show (oldF S lo hi).length ≤ 4000 by omega) (fun r hr => by
  have := rsz_mem hr
  rw [split_rsz] at this
  have := leadOf_len [] r
  omega)
 have h4 : ((oldF S lo hi).length + 1) * (40 + 2 * 13 + 5) ≤ 41 * 71 := Nat.mul_le_mul_right _ (by omega)
 omega
theorem told_iff {col : Int} {way : Nat} {L : List Int} {lo hi : Nat} {S : St} : fillE col way L lo hi S = [] ↔ oldF S lo hi = filledT col way L (oldF S lo hi) := edits_nil_iff
end Mine
end
section
namespace Mine
structure LG (τ : Sto) (dk mk : Nat) (X : BX) (S : St) : Prop where
 deck : ∃ deck : List Nat, τ dk = some (.list (deck.map eN))
 B : BA τ X S
 marks : τ mk = some (.list (X.ms.map .obj))
 ndk : ¬inX X dk
 nmk : ¬inX X mk
 ne : dk ≠ mk
section
variable {Sx : Spec} {σ : Sto} {Q : KV} {vs : List PV}
theorem draw_any {dk m : Nat} (h0 : 0 < m) (hd : ∃ deck : List Nat, σ dk = some (.list (deck.map eN))) (h : ∀ (v : Nat) (deck : List Nat), v < m → Q (.int (v : Nat)) (σ.set dk (.list (deck.map eN)))) : s91 [.obj dk, .int (m : Nat)] σ Q := by
 obtain ⟨deck, hd⟩ := hd
 exact s91_ap h0 hd (h _ _ (drawV_lt h0))
theorem LG.set {τ : Sto} {dk mk : Nat} {X : BX} {S : St} (G : LG τ dk mk X S) (deck : List Nat) : LG (τ.set dk (.list (deck.map eN))) dk mk X S :=
 ⟨⟨deck, set_self⟩, G.B.fr (A := (· = dk)) (Fr.refl.set rfl) (fun a ha e => G.ndk (e ▸ ha)), by rw [set_ne (Ne.symm G.ne)]; exact G.marks, G.ndk, G.nmk, G.ne⟩
theorem abs_deck (is : List Int) : (is.map fun i => PV.int (i.natAbs : Int)) = (is.map Int.natAbs).map eN := by rw [List.map_map]; rfl
def signs02 : List Int := [97, 98, 32, 10, 99, 97, 32, 46]
theorem signs_sgn : ∀ c ∈ signs02, sgn c := by
 intro c hc
 unfold sgn
 unfold signs02 at hc
 simp at hc
 omega
def s96 (vs : List PV) (σ : Sto) (Q : KV) : Prop := ∃ is : List Int, vs = [eI is] ∧ is.length ≤ 63 ∧ (∀ a, σ a = Option.none) ∧ ∀ τ, Q (.bool true) τ
theorem comp_codes {loc : List PV} {dk : Nat} {K : KV} (h91 : Sx 91 = s91) (hl : loc.length = 18) (h1 : loc[1]? = some (.obj dk)) (h2 : loc[2]? = some (eI signs02)) (hd : ∃ deck : List Nat, σ dk = some (.list (deck.map eN)))
  (h : ∀ (cs : List Int) (deck : List Nat), 3 ≤ cs.length → cs.length ≤ 32 → (∀ c ∈ cs, sgn c) → K (eI cs) (σ.set dk (.list (deck.map eN)))) :
  evalA theT Sx (.comp false 1 (.sub (.var 2) (.call 91 [.var 1, .int 8])) (.var 18) (.range (.bin false .add (.int 3) (.call 91 [.var 1, .int 30]))) []) loc σ K := by
 rw [ev_comp]
 simp [-Bool.exists_bool, h1, h91]
 refine draw_any (m := 30) (by decide) hd fun v deck hv => ?_
 simp [-Bool.exists_bool]
 refine ⟨by omega, by omega, ?_⟩
 rw [show ((3 : Int) + v).toNat = 3 + v by omega]
 refine each_inv (fun k acc τ => ∃ (cs : List Int) (deck : List Nat), acc = cs.map PV.int ∧ cs.length = k ∧ (∀ c ∈ cs, sgn c) ∧ τ = σ.set dk (.list (deck.map eN))) (fun _ _ _ _ => trivial) _ 0 _ _ ⟨[], deck, rfl, rfl, fun c hc => (by cases hc), rfl⟩ ?_ ?_
 ·rintro k x hx acc τ R ⟨cs, deck, rfl, hk, hs, rfl⟩ hR
  rw [Nat.zero_add] at hk hR
  have g18 : (loc ++ [PV.undef]).length = 19 := by rw [List.length_append, hl]; rfl
  have ga : ∀ i, i < 18 → (loc ++ [PV.undef])[i]? = loc[i]? := fun i hi => by
   rw [List.getElem?_append_left (by omega)]
  refine ⟨by omega, ?_⟩
  simp [-Bool.exists_bool, ga, h1, h2, h91]
  refine draw_any (m := 8) (by decide) ⟨deck, set_self⟩ fun v deck' hv => ?_
  rw [set_set, sub_nat]
  refine ⟨signs02[v], List.getElem?_eq_getElem _, ?_⟩
  refine hR _ _ ⟨cs ++ [signs02[v]], deck', by simp, by simp [hk], fun c hc => ?_, rfl⟩
  rcases List.mem_append.mp hc with hc | hc
  ·exact hs c hc
  ·rw [List.mem_singleton] at hc; subst hc
   exact signs_sgn _ (List.getElem_mem _)
 ·rintro acc τ ⟨cs, deck, rfl, hk, hs, rfl⟩
  rw [Nat.zero_add, List.length_map, List.length_range] at hk
  have hb : big = 16777216 := rfl
  exact ⟨by rw [List.length_map]; omega, h cs deck (by omega) (by omega) hs⟩
theorem comp_before {loc : List PV} {dk size : Nat} {K : KV} (h91 : Sx 91 = s91) (hl : loc.length = 18) (h1 : loc[1]? = some (.obj dk)) (h2 : loc[5]? = some (.int size)) (h0 : 0 < size) (hd : ∃ deck : List Nat, σ dk = some (.list (deck.map eN)))
  (h : ∀ (bs : List Nat) (deck : List Nat), bs.length = 4 → (∀ b ∈ bs, 1 ≤ b ∧ b ≤ size) → K (eL eN bs) (σ.set dk (.list (deck.map eN)))) :
  evalA theT Sx (.comp false 1 (.bin false .add (.int 1) (.call 91 [.var 1, .var 5])) (.var 18) (.range (.int 4)) []) loc σ K := by
 rw [ev_comp]
 simp [-Bool.exists_bool]
 obtain ⟨deck0, hd0⟩ := hd
 refine each_inv (fun k acc τ => ∃ (bs : List Nat) (deck : List Nat), acc = bs.map eN ∧ bs.length = k ∧ (∀ b ∈ bs, 1 ≤ b ∧ b ≤ size) ∧ τ = σ.set dk (.list (deck.map eN))) (fun _ _ _ _ => trivial) _ 0 _ _ ⟨[], deck0, rfl, rfl, fun c hc => (by cases hc), (set_same hd0).symm⟩ ?_ ?_
 ·rintro k x hx acc τ R ⟨bs, deck, rfl, hk, hs, rfl⟩ hR
  rw [Nat.zero_add] at hk hR
  have g18 : (loc ++ [PV.undef]).length = 19 := by rw [List.length_append, hl]; rfl
  have ga : ∀ i, i < 18 → (loc ++ [PV.undef])[i]? = loc[i]? := fun i hi => by
   rw [List.getElem?_append_left (by omega)]
  refine ⟨by omega, ?_⟩
  simp [-Bool.exists_bool, ga, h1, h2, h91]
  refine draw_any h0 ⟨deck, set_self⟩ fun v deck' hv => ?_
  rw [set_set]
  simp [-Bool.exists_bool]
  refine hR _ _ ⟨bs ++ [1 + v], deck', by simp [eN], by simp [hk], fun c hc => ?_, rfl⟩
  rcases List.mem_append.mp hc with hc | hc
  ·exact hs c hc
  ·rw [List.mem_singleton] at hc; subst hc; omega
 ·rintro acc τ ⟨bs, deck, rfl, hk, hs, rfl⟩
  rw [Nat.zero_add, List.length_map, List.length_range] at hk
  have hb : big = 16777216 := rfl
  exact ⟨by rw [List.length_map]; omega, h bs deck hk hs⟩
theorem comp_pos {loc : List PV} {dk mk : Nat} {X : BX} {S : St} {K : KV} (G : LG σ dk mk X S) (hl : loc.length = 18) (h1 : loc[6]? = some (.obj mk)) (h : K (eL eN S.ps) σ) :
  evalA theT Sx (.comp false 1 (.attr (.var 18) 11) (.var 18) (.expr (.var 6)) []) loc σ K := by
 have M := G.B.hm
 rw [ev_comp]
 simp [-Bool.exists_bool, h1, G.marks]
 refine each_inv (fun k acc τ => acc = (S.ps.take k).map eN ∧ τ = σ) (fun k l τ hI => by rw [hI.2]; exact G.marks) _ 0 _ _ ⟨rfl, rfl⟩ ?_ ?_
 ·rintro k x hx acc τ R ⟨rfl, rfl⟩ hR
  rw [Nat.zero_add] at hR
  rw [List.getElem?_map] at hx
  obtain ⟨a, ha, rfl⟩ := Option.map_eq_some_iff.mp hx
  have hk : k < S.ps.length := by rw [← M.len]; exact (List.getElem?_eq_some_iff.mp ha).1
  have hp := M.at_ k a _ ha (List.getElem?_eq_getElem hk)
  have g18 : (loc ++ [PV.undef]).length = 19 := by rw [List.length_append, hl]; rfl
  have gs : ((loc ++ [PV.undef]).set 18 (.obj a))[18]? = some (.obj a) := by
   rw [List.getElem?_set_self (by omega)]
  refine ⟨by omega, ?_⟩
  simp [-Bool.exists_bool, gs, hp, markO]
  refine hR _ _ ⟨?_, rfl⟩
  rw [take_succ_map hk, List.map_append]; rfl
 ·rintro acc τ ⟨rfl, rfl⟩
  rw [Nat.zero_add, List.take_of_length_le (by rw [List.length_map, M.len]; exact Nat.le_refl _)]
  have hb : big = 16777216 := rfl
  have := M.sz
  have := M.len
  exact ⟨by rw [List.length_map]; omega, h⟩
theorem mark_step {dk mk p : Nat} {X : BX} {S : St} {K : Sto → Prop} (G : LG σ dk mk X S) (h1 : 1 ≤ p) (h2 : p ≤ S.text.length + 1) (h3 : X.ms.length < 59) (a : Nat) (ha : σ a = Option.none)
  (h : ∀ τ, LG τ dk mk { X with ms := X.ms ++ [a] } { S with ps := S.ps ++ [p] } → (∀ x o, σ x = some o → ¬inX X x → x ≠ mk → τ x = some o) → K τ) :
  s65 [.obj a, .int ((X.ms.length : Nat) + 1), .bool false] (σ.set a (.inst 2 [])) fun r σ₂ => r = .none ∧ appendA (.obj mk) (.obj a) σ₂ fun _ σ₁ => subA (.obj mk) (.int (-1)) σ₁ fun v σ₁ => s90 [v, .obj X.b, .int p] σ₁ fun _ σ' => K σ' := by
 have B := G.B
 obtain ⟨pre, gap, post, GG, _⟩ := B.hg
 have hax : ∀ x o, σ x = some o → x ≠ a := fun x o e z => by subst z; rw [ha] at e; cases e
 have hamk := hax _ _ G.marks
 have hinX : ¬ inX X a := fun z => by
  rcases z with e | e | e | e | e | e
  ·exact hax _ _ B.hb e.symm
  ·exact hax _ _ GG.ht e.symm
  ·exact hax _ _ GG.hc e.symm
  ·exact hax _ _ B.hm.hm e.symm
  ·exact hax _ _ B.hm.hd e.symm
  ·obtain ⟨i, hi, e2⟩ := List.getElem_of_mem e
   exact hax _ _ (B.hm.at_ i a _ (by rw [List.getElem?_eq_getElem hi, e2]) (List.getElem?_eq_getElem (by rw [← B.hm.len]; exact hi))) rfl
 refine s65_ap set_self ⟨rfl, ?_⟩
 rw [set_set]
 rw [append_obj, set_ne hamk, G.marks]
 dsimp only
 have hb : big = 16777216 := rfl
 refine ⟨by rw [List.length_map]; omega, ?_⟩
 rw [sub_obj, set_self]
 dsimp only
 refine ⟨.obj a, ?_, ?_⟩
 ·unfold getI
  rw [if_pos (by decide), if_neg (by simp; omega)]
  rw [show ((-1 : Int) + ((X.ms.map PV.obj ++ [PV.obj a]).length : Nat)).toNat = (X.ms.map PV.obj).length by simp; omega]
  simp
 ·have F0 : Fr (fun x => x = a ∨ x = mk) σ ((σ.set a (markO ((X.ms.length : Nat) + 1) .none 0)).set mk (.list (X.ms.map .obj ++ [.obj a]))) := (Fr.refl.set (.inl rfl)).set (.inr rfl)
  have B1 := B.fr F0 (fun x hx z => z.elim (fun e => hinX (e ▸ hx)) fun e => G.nmk (e ▸ hx))
  refine s90_ap B1 (by rw [set_ne (Ne.symm hamk), set_self]) h3 h1 h2 fun τ B2 F2 => ?_
  have hmk2 : ¬ (inX X mk ∨ mk = a) := fun z => z.elim G.nmk hamk
  refine h τ ⟨?_, B2, ?_, ?_, ?_, G.ne⟩ fun x o e n1 n2 => ?_
  ·obtain ⟨deck, hd⟩ := G.deck
   refine ⟨deck, ?_⟩
   rw [F2 _ (fun z => z.elim G.ndk (hax _ _ hd)), set_ne G.ne, set_ne (hax _ _ hd)]; exact hd
  ·rw [F2 _ hmk2, set_self]
   show some (AObj.list (X.ms.map .obj ++ [.obj a])) = some (AObj.list ((X.ms ++ [a]).map .obj))
   rw [List.map_append]; rfl
  ·obtain ⟨deck, hd⟩ := G.deck
   rintro (z | z | z | z | z | z)
   ·exact G.ndk (.inl z)
   ·exact G.ndk (.inr (.inl z))
   ·exact G.ndk (.inr (.inr (.inl z)))
   ·exact G.ndk (.inr (.inr (.inr (.inl z))))
   ·exact G.ndk (.inr (.inr (.inr (.inr (.inl z)))))
   ·replace z : dk ∈ X.ms ++ [a] := z
    rcases List.mem_append.mp z with z | z
    ·exact G.ndk (.inr (.inr (.inr (.inr (.inr z)))))
    ·exact hax _ _ hd (List.mem_singleton.mp z)
  ·rintro (z | z | z | z | z | z)
   ·exact G.nmk (.inl z)
   ·exact G.nmk (.inr (.inl z))
   ·exact G.nmk (.inr (.inr (.inl z)))
   ·exact G.nmk (.inr (.inr (.inr (.inl z))))
   ·exact G.nmk (.inr (.inr (.inr (.inr (.inl z)))))
   ·replace z : mk ∈ X.ms ++ [a] := z
    rcases List.mem_append.mp z with z | z
    ·exact G.nmk (.inr (.inr (.inr (.inr (.inr z)))))
    ·exact hamk (List.mem_singleton.mp z)
  ·rw [F2 _ (fun z => z.elim n1 (hax _ _ e)), set_ne n2, set_ne (hax _ _ e)]; exact e
theorem LG.fresh {τ : Sto} {dk mk a : Nat} {X : BX} {S : St} (G : LG τ dk mk X S) (ha : τ a = Option.none) : ¬inX X a ∧ a ≠ dk ∧ a ≠ mk := by
 have B := G.B
 obtain ⟨pre, gap, post, GG, _⟩ := B.hg
 have hax : ∀ x o, τ x = some o → x ≠ a := fun x o e z => by subst z; rw [ha] at e; cases e
 refine ⟨fun z => ?_, ?_, ?_⟩
 ·rcases z with e | e | e | e | e | e
  ·exact hax _ _ B.hb e.symm
  ·exact hax _ _ GG.ht e.symm
  ·exact hax _ _ GG.hc e.symm
  ·exact hax _ _ B.hm.hm e.symm
  ·exact hax _ _ B.hm.hd e.symm
  ·obtain ⟨i, hi, e2⟩ := List.getElem_of_mem e
   exact hax _ _ (B.hm.at_ i a _ (by rw [List.getElem?_eq_getElem hi, e2]) (List.getElem?_eq_getElem (by rw [← B.hm.len]; exact hi))) rfl
 ·obtain ⟨deck, hd⟩ := G.deck
  exact Ne.symm (hax _ _ hd)
 ·exact Ne.symm (hax _ _ G.marks)
theorem LG.other {τ : Sto} {dk mk a : Nat} {X : BX} {S : St} {o : AObj} (G : LG τ dk mk X S) (h1 : ¬inX X a) (h2 : a ≠ dk) (h3 : a ≠ mk) : LG (τ.set a o) dk mk X S := by
 obtain ⟨deck, hd⟩ := G.deck
 exact ⟨⟨deck, by rw [set_ne (Ne.symm h2)]; exact hd⟩, G.B.fr (A := (· = a)) (Fr.refl.set rfl) (fun b hb e => h1 (e ▸ hb)), by rw [set_ne (Ne.symm h3)]; exact G.marks, G.ndk, G.nmk, G.ne⟩
theorem LG.fr {τ τ' : Sto} {dk mk : Nat} {X : BX} {S S' : St} (G : LG τ dk mk X S) (F : Fr (inX X) τ τ') (B : BA τ' X S') : LG τ' dk mk X S' := by
 obtain ⟨deck, hd⟩ := G.deck
 exact ⟨⟨deck, by rw [F _ G.ndk]; exact hd⟩, B, by rw [F _ G.nmk]; exact G.marks, G.ndk, G.nmk, G.ne⟩
def tl96 : List MS := [.assign (.var 15) (.meth (.var 4) 2 [.int (1), .bin false .add (.meth (.var 4) 0 []) (.int (1))]), .assign (.var 16) (.bin false .add (.list false [.attr (.var 4) 16]) (.comp false 1 (.attr (.var 18) 11) (.var 18) (.expr (.var 6)) [])), .ite (.or (.cmp .ne (.var 14) (.cmp .ne (.var 15) (.var 3))) (.not (.call 95 [.var 3, .var 15, .var 7, .var 16]))) [.ret (.bool false)] [], .ite (.or (.cmp .ne (.attr (.var 10) 1) (.str 0)) (.var 13)) [.ret (.bool true)] [], .assign (.var 17) (.attr (.var 4) 23), .ret (.and (.not (.call 50 [.var 4, .var 10])) (.cmp .eq (.attr (.var 4) 23) (.var 17)))]
theorem tail96 {τ : Sto} {dk mk a p0 way n : Nat} {X : BX} {S' : St} {codes : List Int} {ps : List Nat} {is : PV} {x1 y1 u1 u2 : PV} {isr told : Bool} {col : Int} {g : Nat → Nat}
  (h50 : Sx 50 = s50) (h82 : Sx 82 = s82) (h84 : Sx 84 = s84) (h95 : Sx 95 = s95) (G : LG τ dk mk X S') (hf : τ a = some (fillO col way [])) (hk : keptP codes S'.text g) (hp : S'.point = g p0) (hps : S'.ps = ps.map g)
  (ht : told = decide (S'.text ≠ codes)) (hl1 : S'.text.length ≤ 900000) (hl2 : codes.length ≤ 900000) (h1 : ∀ p ∈ p0 :: ps, 1 ≤ p)
  (hag : way = 0 → isr = false → ∀ K : KV, (∀ τ', (∃ S2, BA τ' X S2 ∧ S2.ctk = S'.ctk) → K (.bool false) τ') → s50 [.obj X.b, .obj a] τ K) (h : ∀ τ, Q (.bool true) τ) :
  execsA theT Sx tl96 [is, .obj dk, eI signs02, eI codes, .obj X.b, .int n, .obj mk, eL eN (p0 :: ps), x1, y1, .obj a, u1, u2, .bool isr, .bool told, .undef, .undef, .undef] τ (Ret Q) := by
 have hb : big = 16777216 := rfl
 have hX := G.B.hb
 unfold tl96
 simp [-Bool.exists_bool, hX, bufO_eq, h82, h84]
 refine s82_ap G.B ?_
 simp [-Bool.exists_bool]
 refine s84_ap (s := 1) (e := S'.text.length + 1) G.B (by omega) (by omega) (by omega) ?_
 rw [show sub S'.text (1 - 1) (S'.text.length + 1 - 1) = S'.text by simp [sub]]
 simp [-Bool.exists_bool, hX, bufO_eq]
 refine ⟨by decide, ?_⟩
 refine comp_pos G rfl rfl ?_
 change binA false .add (eL eN [S'.point]) (eL eN S'.ps) τ _
 rw [bin_cat]
 refine ⟨by have := G.B.hm.sz; have := G.B.hm.len; simp; omega, ?_⟩
 rw [if_pos (by rw [ht]; by_cases q : S'.text = codes <;> simp [q])]
 rw [show eL eN ([S'.point] ++ S'.ps) = eL eN (S'.point :: S'.ps) from rfl]
 simp [-Bool.exists_bool]
 rw [h95]
 refine s95_ap (by omega) (by omega) ?_ hk.1 ⟨_, rfl, ?_⟩
 ·rw [hp, hps]
  intro x hx
  rw [← List.map_cons, List.zip_map_right, List.mem_map] at hx
  obtain ⟨⟨y, z⟩, hy, rfl⟩ := hx
  have hz : y = z ∧ y ∈ p0 :: ps := by
   obtain ⟨i, hi, e⟩ := List.getElem_of_mem hy
   rw [List.getElem_zip] at e
   simp at e
   obtain ⟨rfl, rfl⟩ := e
   exact ⟨rfl, List.getElem_mem _⟩
  obtain ⟨rfl, hy2⟩ := hz
  clear hy
  obtain ⟨k1, k2, k3⟩ := hk.2 y (h1 y hy2)
  exact ⟨h1 y hy2, k1, k2, k3⟩
 ·simp only [if_pos]
  rw [hf]
  simp [-Bool.exists_bool, fillO]
  by_cases q : way = 0
  ·rw [if_pos q]
   by_cases q2 : isr = true
   ·rw [if_pos q2]; exact Wk.same (h _)
   ·rw [if_neg q2, hX]
    simp [-Bool.exists_bool, bufO_eq]
    rw [h50]
    refine hag q (by simpa using q2) _ fun τ' hS2 => ⟨false, rfl, ?_⟩
    obtain ⟨S2, B2, hc⟩ := hS2
    rw [if_neg (by decide), B2.hb]
    simp [-Bool.exists_bool, bufO_eq]
    rw [show (S2.ctk == S'.ctk) = true by simp [hc]]
    exact Wk.same (h _)
  ·rw [if_neg q]; exact Wk.same (h _)
theorem told_02 {col : Int} {way lo hi : Nat} {S : St} (hc : col ≤ 13) (h1 : 1 ≤ lo) (h2 : lo ≤ hi) (h3 : hi ≤ S.text.length + 1) (hl : S.text.length ≤ 40) :
  decide (fillE col way [] lo hi S ≠ []) = decide ((fillR col way [] lo hi S).text ≠ S.text) ∧ (fillR col way [] lo hi S).text.length ≤ 4000 := by
 obtain ⟨g, e, _⟩ := region_kept (col := col) (way := way) h1 h2 h3 (by omega)
 have hS : S.text = S.text.take (lineStart S.text lo - 1) ++ oldF S lo hi ++ S.text.drop (hi - 1) := (sub_take_drop (by have := lineStart_bd (t := S.text) h1; omega) (by omega)).symm
 have h9 := small_fill (way := way) hc h1 h2 h3 hl
 refine ⟨?_, ?_⟩
 ·rw [decide_eq_decide, e]
  refine not_congr ?_
  rw [told_iff]
  refine ⟨fun q => ?_, fun q => ?_⟩
  ·rw [← q]; exact hS.symm
  ·have := q.trans hS
   rw [List.append_assoc, List.append_assoc] at this
   exact (List.append_cancel_right (List.append_cancel_left this)).symm
 ·rw [e]
  simp only [List.length_append, List.length_take, List.length_drop]
  omega
theorem fin47 {τ : Sto} {dk mk a way n s e : Nat} {X : BX} {S : St} {is : PV} {x1 y1 u1 u2 : PV} {isr : Bool} {col : Int}
  (h50 : Sx 50 = s50) (h82 : Sx 82 = s82) (h84 : Sx 84 = s84) (h95 : Sx 95 = s95) (G : LG τ dk mk X S) (f1 : ¬inX X a) (hf : τ a = some (fillO col way [])) (hl : S.text.length ≤ 40) (hc0 : 0 ≤ col) (hc : col ≤ 13)
  (k1 : 1 ≤ s) (k2 : s ≤ S.text.length + 1) (k3 : 1 ≤ e) (k4 : e ≤ S.text.length + 1) (h1 : ∀ p ∈ S.point :: S.ps, 1 ≤ p) (hr : isr = true) (h : ∀ τ, Q (.bool true) τ) :
  s47 [.obj X.b, .int s, .int e, .obj a] τ fun v τ' => execsA theT Sx tl96 [is, .obj dk, eI signs02, eI S.text, .obj X.b, .int n, .obj mk, eL eN (S.point :: S.ps), x1, y1, .obj a, u1, u2, .bool isr, v, .undef, .undef, .undef] τ' (Ret Q) := by
 have m1 : 1 ≤ min s e := by omega
 have m2 : min s e ≤ max s e := by omega
 have m3 : max s e ≤ S.text.length + 1 := by omega
 refine s47_ap G.B hf k1 k3 k2 k4 hc0 (by omega) (by omega) (by have := small_fill (way := way) hc m1 m2 m3 hl; omega) fun τ' B' F' => ?_
 obtain ⟨g, e1, e2, e3, e4⟩ := region_kept (col := col) (way := way) m1 m2 m3 (by omega)
 obtain ⟨t1, t2⟩ := told_02 (way := way) hc m1 m2 m3 hl
 exact tail96 h50 h82 h84 h95 (G.fr F' B') (by rw [F' _ f1]; exact hf) e4 e2.1 e2.2 t1 (by omega) (by omega) h1 (fun _ z => by rw [hr] at z; cases z) h
theorem fin50 {τ : Sto} {dk mk a way n : Nat} {X : BX} {S : St} {is : PV} {x1 y1 u1 u2 : PV} {isr : Bool} {col : Int}
  (h50 : Sx 50 = s50) (h82 : Sx 82 = s82) (h84 : Sx 84 = s84) (h95 : Sx 95 = s95) (G : LG τ dk mk X S) (f1 : ¬inX X a) (hf : τ a = some (fillO col way [])) (hl : S.text.length ≤ 40) (hc0 : 0 ≤ col) (hc : col ≤ 13)
  (p1 : 1 ≤ S.point) (p2 : S.point ≤ S.text.length + 1) (hs : ∀ c ∈ S.text, sgn c) (h1 : ∀ p ∈ S.point :: S.ps, 1 ≤ p) (h : ∀ τ, Q (.bool true) τ) :
  s50 [.obj X.b, .obj a] τ fun v τ' => execsA theT Sx tl96 [is, .obj dk, eI signs02, eI S.text, .obj X.b, .int n, .obj mk, eL eN (S.point :: S.ps), x1, y1, .obj a, u1, u2, .bool isr, v, .undef, .undef, .undef] τ' (Ret Q) := by
 refine s50_ap G.B hf p1 p2 hc0 (by omega) (by omega) (fun hpe => ?_) fun hpe => ?_
 ·refine tail96 h50 h82 h84 h95 G hf (keptP.id S.text) rfl (by simp) (by simp) (by omega) (by omega) h1 (fun hw0 _ K hK => ?_) h
  exact s50_ap G.B hf p1 p2 hc0 (by omega) (by omega) (fun _ => hK _ ⟨_, G.B, rfl⟩) (fun z => absurd hpe z)
 ·have bd := parA_bd (L := []) p1 p2
  have sm := small_fill (way := way) hc bd.1 bd.2.1 bd.2.2 hl
  refine ⟨by omega, fun τ' B' F' => ?_⟩
  obtain ⟨g, e1, e2, e3, e4⟩ := region_kept (col := col) (way := way) bd.1 bd.2.1 bd.2.2 (by omega)
  obtain ⟨t1, t2⟩ := told_02 (way := way) hc bd.1 bd.2.1 bd.2.2 hl
  have hf' : τ' a = some (fillO col way []) := by rw [F' _ f1]; exact hf
  have hag : way = 0 → ∃ lo hi, parA [] (fillR col way [] (parA [] S.text S.point).1 (parA [] S.text S.point).2 S).text (fillR col way [] (parA [] S.text S.point).1 (parA [] S.text S.point).2 S).point = (lo, hi) ∧
   fillE col way [] lo hi (fillR col way [] (parA [] S.text S.point).1 (parA [] S.text S.point).2 S) = [] ∧
   (filledT col way [] (oldF (fillR col way [] (parA [] S.text S.point).1 (parA [] S.text S.point).2 S) lo hi)).length ≤ (fillR col way [] (parA [] S.text S.point).1 (parA [] S.text S.point).2 S).text.length := by
   rintro rfl
   exact (again_02 hs (by omega) p1 p2 hpe).2
  have hpt : 1 ≤ (fillR col way [] (parA [] S.text S.point).1 (parA [] S.text S.point).2 S).point ∧ (fillR col way [] (parA [] S.text S.point).1 (parA [] S.text S.point).2 S).point ≤ (fillR col way [] (parA [] S.text S.point).1 (parA [] S.text S.point).2 S).text.length + 1 := by
   rw [e2.1]
   refine ⟨(e4.2 _ p1).1, ?_⟩
   rw [e1]
   have l1 := lineStart_bd (t := S.text) bd.1
   have ho : (oldF S (parA [] S.text S.point).1 (parA [] S.text S.point).2).length = (parA [] S.text S.point).2 - 1 - (lineStart S.text (parA [] S.text S.point).1 - 1) := by unfold oldF; rw [sub_len (by omega)]
   generalize (filledT col way [] (oldF S (parA [] S.text S.point).1 (parA [] S.text S.point).2)) = ft at *
   generalize (oldF S (parA [] S.text S.point).1 (parA [] S.text S.point).2) = ol at *
   simp only [List.length_append, List.length_take, List.length_drop]
   by_cases w1 : S.point ≤ lineStart S.text (parA [] S.text S.point).1
   ·rw [e3.ahead _ w1]; omega
   ·by_cases w2 : lineStart S.text (parA [] S.text S.point).1 + ol.length < S.point
    ·rw [e3.behind _ w2]; omega
    ·have := e3.within S.point (by omega) (by omega)
     omega
  generalize fillR col way [] (parA [] S.text S.point).1 (parA [] S.text S.point).2 S = S1 at *
  refine tail96 h50 h82 h84 h95 (G.fr F' B') hf' e4 e2.1 e2.2 t1 (by omega) (by omega) h1 (fun hw0 _ K hK => ?_) h
  obtain ⟨lo, hi, a1, a2, a3⟩ := hag hw0
  refine s50_ap B' hf' hpt.1 hpt.2 hc0 (by omega) (by omega) (fun _ => hK _ ⟨_, B', rfl⟩) fun _ => ?_
  rw [a1]
  dsimp only
  refine ⟨by omega, fun τ2 B2 F2 => ?_⟩
  rw [a2]
  rw [fillR_nil a2] at B2
  exact hK _ ⟨_, B2, rfl⟩
theorem k96 (h13 : Sx 13 = s13) (h31 : Sx 31 = s31) (h47 : Sx 47 = s47) (h50 : Sx 50 = s50) (h65 : Sx 65 = s65) (h77 : Sx 77 = s77) (h82 : Sx 82 = s82) (h84 : Sx 84 = s84) (h90 : Sx 90 = s90) (h91 : Sx 91 = s91) (h95 : Sx 95 = s95) (h : s96 vs σ Q) : Bd Sx 1 b96 17 vs σ Q := by
 obtain ⟨is, rfl, hl, he, h⟩ := h
 have hb : big = 16777216 := rfl
 refine ⟨rfl, ?_⟩
 unfold b96
 simp only [List.cons_append, List.nil_append, List.replicate]
 rw [execs_cons, exec_assign, ev_tup, evs_cons, ev_comp]
 simp [-Bool.exists_bool]
 rw [← List.map_take]
 refine each_map PV.int (fun i => [.int (i.natAbs : Int)]) (is.take 60) [] (fun x _ R hR => ?_) ?_
 ·simp [-Bool.exists_bool]; simpa using hR
 rw [List.nil_append, flatMap_one, abs_deck]
 refine ⟨by rw [List.length_map, List.length_map, List.length_take]; omega, fun dk hdk => ?_⟩
 generalize (is.take 60).map Int.natAbs = deck0
 refine ⟨by decide, by decide, ?_⟩
 refine comp_codes h91 rfl rfl rfl ⟨deck0, set_self⟩ fun codes deck hc1 hc2 hcs => ?_
 rw [set_set]
 intro b hb0
 have hbd : b ≠ dk := fun e => by subst e; simp at hb0
 have hbσ : σ b = Option.none := he b
 rw [h77]
 refine s77_ap set_self fun σ1 t c m d ht0 hc0 hm0 hd0 B1 F1 => ⟨rfl, ?_⟩
 simp [-Bool.exists_bool]
 intro mk hmk
 obtain ⟨X, hX⟩ : ∃ X : BX, X = ⟨b, t, c, m, d, []⟩ := ⟨_, rfl⟩
 have hXb : X.b = b := by rw [hX]
 have hXm : X.ms = [] := by rw [hX]
 rw [← hX] at B1 F1
 have hnmk : ¬ inX X mk := fun z => by
  obtain ⟨pre, gap, post, G, _⟩ := B1.hg
  rcases z with e | e | e | e | e | e
  ·rw [e, B1.hb] at hmk; cases hmk
  ·rw [e, G.ht] at hmk; cases hmk
  ·rw [e, G.hc] at hmk; cases hmk
  ·rw [e, B1.hm.hm] at hmk; cases hmk
  ·rw [e, B1.hm.hd] at hmk; cases hmk
  ·rw [hXm] at e; cases e
 have hndk : ¬ inX X dk := fun z => by
  have hk : (σ.set dk (.list (deck.map eN))).set b (.inst 4 []) dk ≠ Option.none := by rw [set_ne (Ne.symm hbd), set_self]; simp
  rw [hX] at z
  rcases z with e | e | e | e | e | e
  ·exact hbd e.symm
  ·exact hk (e ▸ ht0)
  ·exact hk (e ▸ hc0)
  ·exact hk (e ▸ hm0)
  ·exact hk (e ▸ hd0)
  ·cases e
 have hdk1 : σ1 dk = some (.list (deck.map eN)) := by rw [F1 _ hndk, set_ne (Ne.symm hbd), set_self]
 have hdm : dk ≠ mk := fun e => by subst e; rw [hdk1] at hmk; cases hmk
 have G1 : LG (σ1.set mk (.list [])) dk mk X ⟨[], 1, [], 1, 1⟩ :=
  ⟨⟨deck, by rw [set_ne hdm]; exact hdk1⟩, B1.fr (A := (· = mk)) (Fr.refl.set rfl) (fun a ha e => hnmk (e ▸ ha)), by rw [set_self, hXm]; rfl, hndk, hnmk, hdm⟩
 refine ⟨by decide, ?_⟩
 rw [h13, ← hXb]
 clear B1 F1 ht0 hc0 hm0 hd0 hmk hdk1 hb0 hbσ
 generalize σ1.set mk (.list []) = σ2 at *
 refine s13_ap G1.B (Nat.le_refl _) (Nat.le_refl _) (by have : cap = 2000000 := rfl; show 0 + _ ≤ _; omega) (fun z => by subst z; simp at hc1) fun σ3 B3 F3 => ?_
 have G3 : LG σ3 dk mk X ⟨codes, 1 + codes.length, [], 2, 2⟩ := by
  refine ⟨?_, ?_, ?_, hndk, hnmk, hdm⟩
  ·rw [F3 _ hndk]; exact G1.deck
  ·have e : cutT [] 1 1 codes = codes := by unfold cutT; simp
   rw [e] at B3; exact B3
  ·rw [F3 _ hnmk]; exact G1.marks
 refine comp_before (size := codes.length + 1) h91 rfl rfl rfl (by omega) G3.deck fun bs deck' hbs hbb => ?_
 have G4 := G3.set deck'
 clear G3 B3 F3 G1
 generalize σ3.set dk (.list (deck'.map eN)) = σ4 at *
 rw [exec_for]
 simp [-Bool.exists_bool]
 have hbt : bs.tail.length = 3 := by rw [List.length_tail, hbs]
 refine for_inv (fun k loc τ => ∃ x y X', loc = [eI is, .obj dk, eI signs02, eI codes, .obj X.b, .int ((codes.length + 1 : Nat) : Int), .obj mk, eL eN bs, x, y, .undef, .undef, .undef, .undef, .undef, .undef, .undef, .undef] ∧ X'.b = X.b ∧ X'.ms.length = k ∧ LG τ dk mk X' ⟨codes, 1 + codes.length, bs.tail.take k, 2, 2⟩) (fun _ _ _ _ => trivial) _ 0 _ _ ⟨.undef, .undef, X, rfl, rfl, by rw [hXm]; rfl, G4⟩ ?_ ?_
 ·rintro k x hx loc τ K ⟨x1, y1, X', rfl, hX1, hX2, G⟩ hK1 hK2
  rw [Nat.zero_add] at hK2 hX2 G
  rw [List.getElem?_map] at hx
  obtain ⟨q, hq, rfl⟩ := Option.map_eq_some_iff.mp hx
  obtain ⟨hlt, rfl⟩ := List.getElem?_eq_some_iff.mp hq
  have hk : k < bs.tail.length := by simpa using hlt
  have hkq : bs.tail.zipIdx[k] = (bs.tail[k], k) := by simp
  have hbk := hbb _ (List.mem_of_mem_tail (List.getElem_mem hk))
  have hmm := G.marks
  rw [hkq]
  simp [-Bool.exists_bool, eN, h65, h90, hmm]
  intro a ha
  have := mark_step G hbk.1 hbk.2 (by omega) a ha (K := fun τ' => K (.next [eI is, .obj dk, eI signs02, eI codes, .obj X.b, .int ((codes.length + 1 : Nat) : Int), .obj mk, eL eN bs, .int k, .int bs.tail[k], .undef, .undef, .undef, .undef, .undef, .undef, .undef, .undef]) τ') (fun τ' G' _ => hK2 _ _ ⟨_, _, { X' with ms := X'.ms ++ [a] }, rfl, hX1, by
   show (X'.ms ++ [a]).length = _
   rw [List.length_append, hX2]; rfl, by
   rw [take_succ_map hk]; exact G'⟩)
  rw [hX2, hX1] at this
  simp [-Bool.exists_bool] at this
  exact this
 ·rintro loc τ ⟨x1, y1, X', rfl, hX1, hX2, G⟩
  rw [Nat.zero_add, List.length_map, List.length_zipIdx] at G
  rw [List.take_of_length_le (Nat.le_refl _)] at G
  have hX1b := G.B.hb
  rw [hX1] at hX1b
  change seqK theT Sx (_ :: _ :: _ :: _ :: tl96) _ _ _
  simp [-Bool.exists_bool, hX1b, bufO_eq, h31, h91]
  have hb0 : bs[0]? = some (bs[0]'(by omega)) := List.getElem?_eq_getElem _
  refine ⟨_, hb0, ?_⟩
  have hbk := hbb _ (List.getElem_mem (show 0 < bs.length by omega))
  generalize bs[0]'(by omega) = p0 at *
  have G5 : LG (τ.set X.b (bufO X'.t X'.m p0 (codes.length + 1) 2 2)) dk mk X' ⟨codes, p0, bs.tail, 2, 2⟩ := by
   have B5 := G.B.bSet p0 (codes.length + 1) 2 2
   rw [hX1] at B5
   have hne : ∀ x, ¬ inX X' x → x ≠ X.b := fun x n e => n (.inl (by rw [e, hX1]))
   obtain ⟨dd, hdd⟩ := G.deck
   exact ⟨⟨dd, by rw [set_ne (hne _ G.ndk)]; exact hdd⟩, B5, by rw [set_ne (hne _ G.nmk)]; exact G.marks, G.ndk, G.nmk, G.ne⟩
  change s91 _ (τ.set X.b (bufO X'.t X'.m p0 (codes.length + 1) 2 2)) _
  clear G
  generalize τ.set X.b (bufO X'.t X'.m p0 (codes.length + 1) 2 2) = τ at *
  refine draw_any (m := 12) (by decide) G5.deck fun v d1 hv => ?_
  have G6 := G5.set d1
  simp [-Bool.exists_bool]
  refine ⟨by decide, ?_⟩
  clear G5
  generalize τ.set dk (.list (d1.map eN)) = τ at *
  refine draw_any (m := 4) (by decide) G6.deck fun way d2 hway => ?_
  have G7 := G6.set d2
  clear G6
  generalize τ.set dk (.list (d2.map eN)) = τ at *
  have hw : subA (.list [.str 0, .str 1, .str 2, .str 3]) (.int (way : Nat)) τ = fun K : KV => K (.str way) τ := by
   funext K
   show subA (eL PV.str [0, 1, 2, 3]) _ _ K = _
   rw [sub_nat]
   match way, hway with
   | 0, _ => simp
   | 1, _ => simp
   | 2, _ => simp
   | 3, _ => simp
  rw [hw]
  intro a ha
  obtain ⟨f1, f2, f3⟩ := G7.fresh ha
  refine ⟨a, 2 + v, way, [], rfl, set_self, rfl, ?_⟩
  rw [set_set]
  have G8 : LG (τ.set a (fillO (2 + v) way [])) dk mk X' ⟨codes, p0, bs.tail, 2, 2⟩ := G7.other f1 f2 f3
  have ha8 : (τ.set a (fillO (2 + v) way [])) a = some (fillO (2 + v) way []) := set_self
  clear G7 ha
  generalize τ.set a (fillO (2 + v) way []) = τ at *
  have hdr : ∀ {τ : Sto} {d : List Nat}, τ a = some (fillO (2 + v) way []) → (τ.set dk (.list (d.map eN))) a = some (fillO (2 + v) way []) := fun h => by rw [set_ne f2]; exact h
  rw [show ((codes.length : Nat) : Int) + 1 = ((codes.length + 1 : Nat) : Int) by omega]
  refine draw_any (by omega) G8.deck fun u1 d3 hu1 => ?_
  have G9 := G8.set d3
  have ha9 := hdr (d := d3) ha8
  clear G8 ha8
  generalize τ.set dk (.list (d3.map eN)) = τ at *
  simp [-Bool.exists_bool]
  rw [show ((codes.length : Nat) : Int) + 1 = ((codes.length + 1 : Nat) : Int) by omega]
  refine draw_any (by omega) G9.deck fun u2 d4 hu2 => ?_
  have G10 := G9.set d4
  have ha10 := hdr (d := d4) ha9
  clear G9 ha9
  generalize τ.set dk (.list (d4.map eN)) = τ at *
  simp [-Bool.exists_bool]
  refine draw_any (m := 2) (by omega) G10.deck fun u3 d5 hu3 => ?_
  have G11 := G10.set d5
  have ha11 := hdr (d := d5) ha10
  clear G10 ha10 hdr
  generalize τ.set dk (.list (d5.map eN)) = τ at *
  refine ⟨decide (u3 = 1), by
   have : u3 = 0 ∨ u3 = 1 := by omega
   rcases this with rfl | rfl <;> rfl, by decide, ?_⟩
  have hps : bs = p0 :: bs.tail := by
   cases bs with
   | nil => simp at hbs
   | cons y ys => simp at hb0; rw [hb0]; rfl
  have hbb1 : ∀ p ∈ p0 :: bs.tail, 1 ≤ p := fun p hp => (hbb p (by rw [hps]; exact hp)).1
  have hv13 : (2 + (v : Int)) ≤ 13 := by omega
  have hc900 : ∀ {lo hi : Nat}, 1 ≤ lo → lo ≤ hi → hi ≤ codes.length + 1 → (filledT (2 + v) way [] (oldF ⟨codes, p0, bs.tail, 2, 2⟩ lo hi)).length ≤ 2911 := fun h1 h2 h3 => small_fill hv13 h1 h2 h3 (by show codes.length ≤ _; omega)
  obtain ⟨S0, hS0⟩ : ∃ S0 : St, S0 = ⟨codes, p0, bs.tail, 2, 2⟩ := ⟨_, rfl⟩
  have hS1 : S0.text = codes := by rw [hS0]
  have hS2 : S0.point = p0 := by rw [hS0]
  have hS3 : S0.ps = bs.tail := by rw [hS0]
  rw [← hS0] at G11
  have hl0 : S0.text.length ≤ 40 := by rw [hS1]; omega
  have hcol : ∃ col : Int, col = 2 + v ∧ 0 ≤ col ∧ col ≤ 13 := ⟨_, rfl, by omega, hv13⟩
  obtain ⟨col, hce, hc0, hc13⟩ := hcol
  rw [← hce] at ha11
  rw [show ((codes.length : Nat) : Int) + 1 = ((codes.length + 1 : Nat) : Int) by omega, hps]
  rw [← hX1]
  have hp1 : 1 ≤ S0.point := by rw [hS2]; exact hbk.1
  have hp2 : S0.point ≤ S0.text.length + 1 := by rw [hS2, hS1]; exact hbk.2
  have hs1 : ∀ c ∈ S0.text, sgn c := by rw [hS1]; exact hcs
  rw [show (1 : Int) + (u1 : Nat) = ((1 + u1 : Nat) : Int) by omega, show (1 : Int) + (u2 : Nat) = ((1 + u2 : Nat) : Int) by omega]
  have hu1' : 1 ≤ 1 + u1 ∧ 1 + u1 ≤ S0.text.length + 1 := by rw [hS1]; omega
  have hu2' : 1 ≤ 1 + u2 ∧ 1 + u2 ≤ S0.text.length + 1 := by rw [hS1]; omega
  generalize 1 + u1 = v1 at *
  generalize 1 + u2 = v2 at *
  rw [← hS1, ← hS2, ← hS3]
  rw [← hS2, ← hS3] at hbb1
  generalize codes.length + 1 = nn
  clear hps hS1 hS2 hS3 hcs hce hv13 hbk hb0 hbb hv hu1 hu2
  by_cases q : u3 = 1
  ·rw [if_pos (by simp [q]), h47]
   exact fin47 h50 h82 h84 h95 G11 f1 ha11 hl0 hc0 hc13 hu1'.1 hu1'.2 hu2'.1 hu2'.2 hbb1 (by simp [q]) h
  ·rw [if_neg (by simp [q]), h50]
   exact fin50 h50 h82 h84 h95 G11 f1 ha11 hl0 hc0 hc13 hp1 hp2 hs1 hbb1 h
end
end Mine
end
section
open PySem PySem.W PyProof.Rows
namespace Mine
set_option maxRecDepth 100000
def S02 : Spec
 | 2 => s2
 | 3 => s3
 | 4 => s4
 | 5 => s5
 | 6 => s6
 | 7 => s7
 | 8 => s8
 | 9 => s9
 | 10 => s10
 | 11 => s11
 | 12 => s12
 | 13 => s13
 | 14 => s14
 | 15 => s15
 | 16 => s16
 | 17 => s17
 | 18 => s18
 | 19 => s19
 | 20 => s20
 | 21 => s21
 | 22 => s22
 | 23 => s23
 | 24 => s24
 | 25 => s25
 | 26 => s26
 | 27 => s27
 | 28 => s28
 | 29 => s29
 | 30 => s30
 | 31 => s31
 | 32 => s32
 | 33 => s33
 | 34 => s34
 | 35 => s35
 | 36 => s36
 | 37 => s37
 | 38 => s38
 | 39 => s39
 | 40 => s40
 | 41 => s41
 | 42 => s42
 | 43 => s43
 | 44 => s44
 | 45 => s45
 | 46 => s46
 | 47 => s47
 | 48 => s48
 | 49 => s49
 | 50 => s50
 | 51 => s51
 | 52 => s52
 | 53 => s53
 | 54 => s54
 | 55 => s55
 | 56 => s56
 | 57 => s57
 | 58 => s58
 | 65 => s65
 | 69 => s69
 | 70 => s70
 | 71 => s71
 | 74 => s74
 | 75 => s75
 | 76 => s76
 | 77 => s77
 | 80 => s80
 | 81 => s81
 | 82 => s82
 | 83 => s83
 | 84 => s84
 | 89 => s89
 | 90 => s90
 | 91 => s91
 | 92 => s92
 | 93 => s93
 | 94 => s94
 | 95 => s95
 | 96 => s96
 | _ => fun _ _ _ => False
theorem bel02 {h : Heap} {w : World} {f g : Nat} {s : List PV → Sto → KV → Prop} (h1 : dat02.rank.getD g 0 < dat02.rank.getD f 0) (h2 : S02 g = s) : below (prgOf dat02 (KOf pwT w.params) h pwT w) S02 ((prgOf dat02 (KOf pwT w.params) h pwT w).rank f) g = s := by
 funext vs σ Q
 show (dat02.rank.getD g 0 < dat02.rank.getD f 0 ∧ S02 g vs σ Q) = _
 rw [h2]; simp only [h1, true_and]
theorem funs02 (h : Heap) (w : World) : Funs (prgOf dat02 (KOf pwT w.params) h pwT w) S02 := by
 intro f vs σ Q hs
 have hf : f ∈ [2, 3, 4, 5, 6, 7, 8, 9, 10, 11, 12, 13, 14, 15, 16, 17, 18, 19, 20, 21, 22, 23, 24, 25, 26, 27, 28, 29, 30, 31, 32, 33, 34, 35, 36, 37, 38, 39, 40, 41, 42, 43, 44, 45, 46, 47, 48, 49, 50, 51, 52, 53, 54, 55, 56, 57, 58, 65, 69, 70, 71, 74, 75, 76, 77, 80, 81, 82, 83, 84, 89, 90, 91, 92, 93, 94, 95, 96] := by
  unfold S02 at hs
  split at hs <;> first | (exact hs.elim) | decide
 have hu : ∀ x ∈ [2, 3, 4, 5, 6, 7, 8, 9, 10, 11, 12, 13, 14, 15, 16, 17, 18, 19, 20, 21, 22, 23, 24, 25, 26, 27, 28, 29, 30, 31, 32, 33, 34, 35, 36, 37, 38, 39, 40, 41, 42, 43, 44, 45, 46, 47, 48, 49, 50, 51, 52, 53, 54, 55, 56, 57, 58, 65, 69, 70, 71, 74, 75, 76, 77, 80, 81, 82, 83, 84, 89, 90, 91, 92, 93, 94, 95, 96], x ∈ dat02.used := by decide +kernel
 obtain ⟨a, ha, hall⟩ := fnAll (h0 := h) (prog := pwT) (w := w) (fnChecks02 w.params) (hu f hf)
 refine ⟨a, hall, ?_⟩
 simp only [List.mem_cons, List.not_mem_nil, or_false] at hf
 rcases hf with rfl | rfl | rfl | rfl | rfl | rfl | rfl | rfl | rfl | rfl | rfl | rfl | rfl | rfl | rfl | rfl | rfl | rfl | rfl | rfl | rfl | rfl | rfl | rfl | rfl | rfl | rfl | rfl | rfl | rfl | rfl | rfl | rfl | rfl | rfl | rfl | rfl | rfl | rfl | rfl | rfl | rfl | rfl | rfl | rfl | rfl | rfl | rfl | rfl | rfl | rfl | rfl | rfl | rfl | rfl | rfl | rfl | rfl | rfl | rfl | rfl | rfl | rfl | rfl | rfl | rfl | rfl | rfl | rfl | rfl | rfl | rfl | rfl | rfl | rfl | rfl | rfl | rfl
 ·cases ha; exact k2 hs
 ·cases ha; exact k3 (bel02 (by decide) rfl) hs
 ·cases ha; exact k4 hs
 ·cases ha; exact k5 hs
 ·cases ha; exact k6 (bel02 (by decide) rfl) hs
 ·cases ha; exact k7 (bel02 (by decide) rfl) hs
 ·cases ha; exact k8 (bel02 (by decide) rfl) hs
 ·cases ha; exact k9 hs
 ·cases ha; exact k10 hs
 ·cases ha; exact k11 (bel02 (by decide) rfl) (bel02 (by decide) rfl) (bel02 (by decide) rfl) (bel02 (by decide) rfl) (bel02 (by decide) rfl) (bel02 (by decide) rfl) (bel02 (by decide) rfl) (bel02 (by decide) rfl) hs
 ·cases ha; exact k12 (bel02 (by decide) rfl) hs
 ·cases ha; exact k13 (bel02 (by decide) rfl) hs
 ·cases ha; exact k14 (bel02 (by decide) rfl) (bel02 (by decide) rfl) (bel02 (by decide) rfl) (bel02 (by decide) rfl) (bel02 (by decide) rfl) (bel02 (by decide) rfl) (bel02 (by decide) rfl) hs
 ·cases ha; exact k15 (bel02 (by decide) rfl) (bel02 (by decide) rfl) (bel02 (by decide) rfl) (bel02 (by decide) rfl) (bel02 (by decide) rfl) (bel02 (by decide) rfl) (bel02 (by decide) rfl) (bel02 (by decide) rfl) (bel02 (by decide) rfl) (bel02 (by decide) rfl) (bel02 (by decide) rfl) (bel02 (by decide) rfl) hs
 ·cases ha; exact k16 hs
 ·cases ha; exact k17 hs
 ·cases ha; exact k18 (bel02 (by decide) rfl) hs
 ·cases ha; exact k19 (bel02 (by decide) rfl) (bel02 (by decide) rfl) hs
 ·cases ha; exact k20 hs
 ·cases ha; exact k21 (bel02 (by decide) rfl) hs
 ·cases ha; exact k22 (bel02 (by decide) rfl) hs
 ·cases ha; exact k23 hs
 ·cases ha; exact k24 hs
 ·cases ha; exact k25 hs
 ·cases ha; exact k26 (bel02 (by decide) rfl) (bel02 (by decide) rfl) hs
 ·cases ha; exact k27 (bel02 (by decide) rfl) (bel02 (by decide) rfl) (bel02 (by decide) rfl) hs
 ·cases ha; exact k28 hs
 ·cases ha; exact k29 (bel02 (by decide) rfl) hs
 ·cases ha; exact k30 (bel02 (by decide) rfl) hs
 ·cases ha; exact k31 hs
 ·cases ha; exact k32 hs
 ·cases ha; exact k33 hs
 ·cases ha; exact k34 hs
 ·cases ha; exact k35 hs
 ·cases ha; exact k36 hs
 ·cases ha; exact k37 (bel02 (by decide) rfl) (bel02 (by decide) rfl) (bel02 (by decide) rfl) hs
 ·cases ha; exact k38 (bel02 (by decide) rfl) (bel02 (by decide) rfl) (bel02 (by decide) rfl) (bel02 (by decide) rfl) (bel02 (by decide) rfl) hs
 ·cases ha; exact k39 (bel02 (by decide) rfl) (bel02 (by decide) rfl) (bel02 (by decide) rfl) (bel02 (by decide) rfl) hs
 ·cases ha; exact k40 (bel02 (by decide) rfl) (bel02 (by decide) rfl) hs
 ·cases ha; exact k41 (bel02 (by decide) rfl) (bel02 (by decide) rfl) hs
 ·cases ha; exact k42 hs
 ·cases ha; exact k43 (bel02 (by decide) rfl) hs
 ·cases ha; exact k44 hs
 ·cases ha; exact k45 (bel02 (by decide) rfl) (bel02 (by decide) rfl) hs
 ·cases ha; exact k46 (bel02 (by decide) rfl) (bel02 (by decide) rfl) (bel02 (by decide) rfl) hs
 ·cases ha; exact k47 (bel02 (by decide) rfl) (bel02 (by decide) rfl) (bel02 (by decide) rfl) (bel02 (by decide) rfl) (bel02 (by decide) rfl) hs
 ·cases ha; exact k48 (bel02 (by decide) rfl) (bel02 (by decide) rfl) (bel02 (by decide) rfl) (bel02 (by decide) rfl) hs
 ·cases ha; exact k49 (bel02 (by decide) rfl) (bel02 (by decide) rfl) (bel02 (by decide) rfl) hs
 ·cases ha; exact k50 (bel02 (by decide) rfl) (bel02 (by decide) rfl) hs
 ·cases ha; exact k51 hs
 ·cases ha; exact k52 hs
 ·cases ha; exact k53 hs
 ·cases ha; exact k54 hs
 ·cases ha; exact k55 hs
 ·cases ha; exact k56 hs
 ·cases ha; exact k57 (bel02 (by decide) rfl) (bel02 (by decide) rfl) hs
 ·cases ha; exact k58 (bel02 (by decide) rfl) (bel02 (by decide) rfl) hs
 ·cases ha; exact k65 hs
 ·cases ha; exact k69 hs
 ·cases ha; exact k70 hs
 ·cases ha; exact k71 hs
 ·cases ha; exact k74 (bel02 (by decide) rfl) hs
 ·cases ha; exact k75 (bel02 (by decide) rfl) hs
 ·cases ha; exact k76 (bel02 (by decide) rfl) hs
 ·cases ha; exact k77 (bel02 (by decide) rfl) (bel02 (by decide) rfl) hs
 ·cases ha; exact k80 hs
 ·cases ha; exact k81 hs
 ·cases ha; exact k82 (bel02 (by decide) rfl) hs
 ·cases ha; exact k83 (bel02 (by decide) rfl) hs
 ·cases ha; exact k84 (bel02 (by decide) rfl) hs
 ·cases ha; exact k89 hs
 ·cases ha; exact k90 (bel02 (by decide) rfl) (bel02 (by decide) rfl) hs
 ·cases ha; exact k91 hs
 ·cases ha; exact k92 hs
 ·cases ha; exact k93 (bel02 (by decide) rfl) hs
 ·cases ha; exact k94 (bel02 (by decide) rfl) hs
 ·cases ha; exact k95 (bel02 (by decide) rfl) (bel02 (by decide) rfl) (bel02 (by decide) rfl) hs
 ·cases ha; exact k96 (bel02 (by decide) rfl) (bel02 (by decide) rfl) (bel02 (by decide) rfl) (bel02 (by decide) rfl) (bel02 (by decide) rfl) (bel02 (by decide) rfl) (bel02 (by decide) rfl) (bel02 (by decide) rfl) (bel02 (by decide) rfl) (bel02 (by decide) rfl) (bel02 (by decide) rfl) hs
theorem holds02 : PySem.Challenge.rw_pq0296_02.Holds := law_of S02 funs02 fun is hl => ⟨is, rfl, hl, fun _ => rfl, fun _ => rfl⟩
end Mine
end
set_option maxRecDepth 100000 in
theorem PySem.Challenge.cw_pq0296_02_holds : PySem.Challenge.rw_pq0296_02.Holds := by
  exact Mine.holds02
