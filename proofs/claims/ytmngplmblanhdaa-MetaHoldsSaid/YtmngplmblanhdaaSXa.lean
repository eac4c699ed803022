/-
  A symbolic executor of the model's code: it reckons all outcomes of a call over values and memory that are known in part.
-/
import GoSem.Step
set_option linter.unusedVariables false
set_option linter.unusedSimpArgs false
set_option linter.unusedSectionVars false

namespace Go.SX
inductive U where
 | int (n:Int) | bool (b:Bool) | str (s:ByteArray) | lst (l:List U) | bx (a:Option Addr) (n c:Nat) (l:List U)
def U.toI:U→Int | .int n=>n | _=>0
def U.toB:U→Bool | .bool b=>b | _=>false
def U.toS:U→ByteArray | .str s=>s | _=>ByteArray.empty
def U.toL:U→List U | .lst l=>l | .bx _ _ _ l=>l | _=>[]
def U.raw:U→Value | .bx a n c _=>.slice a n c | _=>.slice none 0 0
def U.adr:U→Option Addr | .bx a _ _ _=>a | _=>none
def U.rlen:U→Nat | .bx _ n _ _=>n | _=>0
def U.rcap:U→Nat | .bx _ _ c _=>c | _=>0
def U.cut (w:Nat) (u:U) (l h m:Nat):U :=
 .bx (if m=l then u.adr else u.adr.map (·.add (l * w))) (h - l) (m - l) ((u.toL.take (h * w)).drop (l * w))
def U.fst:U→U | .lst (a::_)=>a | _=>.int 0
def U.snd:U→U | .lst (_::b::_)=>b | _=>.int 0
mutual
def U.eq:U→U→Bool
 | .int a,.int b=>a == b
 | .bool a,.bool b=>a == b
 | .str a,.str b=>a.data == b.data
 | .lst a,.lst b=>U.eqs a b
 | .bx _ _ _ a,.lst b=>U.eqs a b
 | .lst a,.bx _ _ _ b=>U.eqs a b
 | .bx _ _ _ a,.bx _ _ _ b=>U.eqs a b
 | _,_=>false
def U.eqs:List U→List U→Bool
 | [],[]=>true
 | x::xs,y::ys=>U.eq x y && U.eqs xs ys
 | _,_=>false
end
def kindLo (n:Nat):Int:=match n with | 0=>-128 | 1=>-32768 | 2=>-2147483648 | 3=>-9223372036854775808 | _=>0
def kindHi (n:Nat):Int:=match n with | 0=>127 | 1=>32767 | 2=>2147483647 | 3=>9223372036854775807 | 4=>255 | 5=>65535 | 6=>4294967295 | _=>18446744073709551615
mutual
def U.typ:U→U→Bool
 | .int x,.int k=>decide (k < 8∧kindLo k.toNat≤x∧x≤kindHi k.toNat)
 | .bool _,.int k=>k == 8
 | .str _,.int k=>k == 9
 | .bx _ _ _ l,.lst ks=>U.typs l ks []
 | _,_=>false
def U.typs:List U→List U→List U→Bool
 | [],_,_=>true
 | x::xs,ks,k::r=>U.typ x k && U.typs xs ks r
 | x::xs,ks,[]=>match ks with
  | k::r=>U.typ x k && U.typs xs ks r
  | []=>false
end
def mfind (k:Int):List U→Option U
 | []=>none
 | u::l=>if u.fst.toI=k then some u.snd else mfind k l
def mput (k:Int) (v:U):List U→List U
 | []=>[.lst [.int k,v]]
 | u::l=>if u.fst.toI=k then .lst [.int k,v]::l else u::mput k v l
def mdel (k:Int):List U→List U
 | []=>[]
 | u::l=>if u.fst.toI=k then l else u::mdel k l
def insU (x:Int):List Int→List Int
 | []=>[x]
 | y::l=>if x≤y then x::y::l else y::insU x l
def sortU:List Int→List Int
 | []=>[]
 | x::l=>insU x (sortU l)
def keysOkU (l:List U):Bool :=
 decide ((l.map fun u=>u.fst.toI).Nodup) && (l.all fun u=>decide (-9223372036854775808≤u.fst.toI∧u.fst.toI≤9223372036854775807)) && decide (l.length≤1000000)
def idxU (x:U):List U→Nat→Int
 | [],_=>-1
 | y::l,n=>if U.eq x y then n else idxU x l (n + 1)
mutual
def U.size:U→Nat
 | .int _=>1
 | .bool _=>1
 | .str _=>1
 | .lst l=>U.sizes l + 1
 | .bx _ _ _ l=>U.sizes l + 1
def U.sizes:List U→Nat
 | []=>0
 | u::l=>U.size u + U.sizes l
end
def stdFn (f:Nat) (a:U):U :=
 match f with
 | 0=>.int a.toL.length
 | 1=>a.fst.toL.getD a.snd.toI.toNat (.int 0)
 | 2=>.lst (a.fst.toL.set a.snd.fst.toI.toNat a.snd.snd)
 | 3=>.lst (a.fst.toL++a.snd.toL)
 | 4=>.lst ((a.fst.toL.take a.snd.snd.toI.toNat).drop a.snd.fst.toI.toNat)
 | 5=>.lst (List.replicate a.fst.toI.toNat a.snd)
 | 6=>.int (a.fst.toI + a.snd.toI)
 | 7=>.int (a.fst.toI - a.snd.toI)
 | 8=>.int (a.fst.toI * a.snd.toI)
 | 9=>.int (a.fst.toL.length / a.snd.toI.toNat)
 | 10=>.lst []
 | 11=>.lst [a]
 | 12=>.bool (U.eq a.fst a.snd)
 | 13=>.int a.toS.size
 | 14=>.str (a.fst.toS++a.snd.toS)
 | 15=>.int ((a.fst.toS.data.getD a.snd.toI.toNat 0).toNat)
 | 16=>.str (a.fst.toS.extract a.snd.fst.toI.toNat a.snd.snd.toI.toNat)
 | 17=>.lst (List.replicate a.fst.toI.toNat a.snd.toL).flatten
 | 18=>.lst (a.fst.toL.take a.snd.toI.toNat)
 | 19=>.lst (a.fst.toL.drop a.snd.toI.toNat)
 | 20=>.int (if a.fst.toB then a.snd.fst.toI else a.snd.snd.toI)
 | 21=>.bx a.fst.adr a.fst.rlen a.fst.rcap a.snd.toL
 | 22=>.int a.rcap
 | 23=>.lst (a.fst::a.snd.toL)
 | 24=>U.cut a.fst.fst.toI.toNat a.fst.snd a.snd.fst.toI.toNat a.snd.snd.fst.toI.toNat a.snd.snd.snd.toI.toNat
 | 25=>.bool (a.snd.toL.any fun x=>U.eq a.fst x)
 | 26=>.int a.rlen
 | 27=>.bool (U.typs a.snd.toL a.fst.toL [])
 | 28=>.bx a.fst.fst.adr a.fst.snd.toI.toNat a.fst.fst.rcap a.snd.toL
 | 29=>.int ((a.fst.toI.toNat - a.snd.toI.toNat:Nat):Int)
 | 30=>.bx none 0 0 []
 | 31=>.bool a.adr.isNone
 | 32=>(mfind a.snd.fst.toI a.fst.toL).getD a.snd.snd
 | 33=>.bool (mfind a.snd.toI a.fst.toL).isSome
 | 34=>.lst (mput a.snd.fst.toI a.snd.snd a.fst.toL)
 | 35=>.lst (mdel a.snd.toI a.fst.toL)
 | 36=>.lst ((sortU (a.toL.map fun u=>u.fst.toI)).map U.int)
 | 37=>.lst (a.toL.map U.fst)
 | 38=>.int (idxU a.snd a.fst.toL 0)
 | 39=>.bool (keysOkU a.toL)
 | 40=>.lst ((sortU (a.toL.map U.toI)).map U.int)
 | 42=>.int ((U.size a:Nat):Int)
 | 41=>.str ⟨(a.toL.map fun u=>UInt8.ofNat u.toI.toNat).toArray⟩
 | _=>.int 0
end Go.SX

namespace Go.SX
def toIs (u:U):List Int:=u.toL.map U.toI
def lim (n:Nat):Nat:=n
def mat (u:U):List (List Int):=u.toL.map toIs
def mAt (M:List (List Int)) (a b:Int):Int:=(M.getD a.toNat []).getD b.toNat 0
def g3:List Int→List (Int × Int × Int)
 | a::b::o::l=>(a,b,o)::g3 l
 | _=>[]
def games (u:U) (k:Int):List (Int × Int × Int):=(g3 (toIs u)).take (lim k.toNat)
def sc1 (a b:Int) (g:Int × Int × Int):Int :=
 if (g.1 == a && g.2.1 == b && g.2.2 == 1) || (g.1 == b && g.2.1 == a && g.2.2 == 2) then 2
 else if g.2.2 == 3 && ((g.1 == a && g.2.1 == b) || (g.1 == b && g.2.1 == a)) then 1 else 0
def sumL:List Int→Int
 | []=>0
 | x::l=>x + sumL l
def scoreG (gs:List (Int × Int × Int)) (a b:Int):Int:=sumL (gs.map (sc1 a b))
def isMat (M:List (List Int)) (n:Nat):Bool:=M.length == n && M.all fun r=>r.length == n
def addM (M' M:List (List Int)) (gs:List (Int × Int × Int)) (n:Nat):Bool:=isMat M' n && isMat M n && (List.range n).all fun a=>(List.range n).all fun b=>mAt M' (a:Nat) (b:Nat) == mAt M (a:Nat) (b:Nat) + scoreG gs (a:Nat) (b:Nat)
def badG (n:Int) (g:Int × Int × Int):Bool:=decide (g.1 < 0) || decide (n≤g.1) || decide (g.2.1 < 0) || decide (n≤g.2.1) || g.1 == g.2.1 || decide (g.2.2 < 1) || decide (3 < g.2.2)
def rateI (a b x y:Int):Int:=if a == b || x + y == 0 then 500 else (1000 * x).tdiv (x + y)
def sumF (f:Nat→Int):Nat→Int
 | 0=>0
 | k + 1=>sumF f k + f k
def bestUp (f:Nat→Int):Nat→Int × Int
 | 0=>(0,-1)
 | k + 1=>if (bestUp f k).2 < f k then ((k:Int),f k) else bestUp f k
def bestDn (f:Nat→Int) (n:Nat):Nat→Int × Int
 | 0=>(0,0)
 | j + 1=>if (bestDn f n j).2≤f (n - 1 - j) then (((n - 1 - j:Nat):Int),f (n - 1 - j)) else bestDn f n j
def rateM (M:List (List Int)) (a b:Int):Int:=rateI a b (mAt M a b) (mAt M b a)
def rateG (gs:List (Int × Int × Int)) (a b:Int):Int:=rateI a b (scoreG gs a b) (scoreG gs b a)
def valM (M:List (List Int)) (w:List Int) (a:Int) (k:Nat):Int:=sumF (fun b=>w.getD b 0 * rateM M a (b:Int)) (lim k)
def valG (gs:List (Int × Int × Int)) (w:List Int) (a:Int) (k:Nat):Int:=sumF (fun b=>w.getD b 0 * rateG gs a (b:Int)) (lim k)
def okW (w:List Int) (k:Nat):Bool:=(w.take k).all fun x=>decide (0≤x∧x≤1000)
def zeros (M:List (List Int)) (n:Nat):Bool:=M == List.replicate n (List.replicate n 0)
def beatsM (M:List (List Int)) (a b:Nat):Bool:=decide (mAt M b a < mAt M a b)
def bools:Nat→List (List Bool)
 | 0=>[[]]
 | n + 1=>(bools n).flatMap fun l=>[true::l,false::l]
def closedS (M:List (List Int)) (n:Nat) (S:List Bool):Bool:=(List.range n).all fun y=>!(S.getD y false) || (List.range n).all fun x=>beatsM M y x || S.getD x false
def inClo (M:List (List Int)) (n a x:Nat):Bool:=(bools n).all fun S=>!(closedS M n S && S.getD a false) || S.getD x false
def cloF (M:List (List Int)) (n a:Nat):List Int:=((List.range n).filter (inClo M n a)).map Int.ofNat
def topK (M:List (List Int)) (n:Nat):Nat→List Int
 | 0=>cloF M n 0
 | k + 1=>if (cloF M n k).length < (topK M n k).length then cloF M n k else topK M n k
def floorK (M:List (List Int)) (a:Nat):Nat→Int
 | 0=>1000
 | k + 1=>if k=a then floorK M a k else min (floorK M a k) (rateM M a k)
def noC (M:List (List Int)) (a b k:Nat):Bool:=(List.range k).all fun c=>!(decide (a < c) && beatsM M a b && beatsM M b c && beatsM M c a)
def noB (M:List (List Int)) (n a k:Nat):Bool:=(List.range k).all fun b=>!(decide (a < b)) || noC M a b n
def noA (M:List (List Int)) (n k:Nat):Bool:=(List.range k).all fun a=>noB M n a n
def inR (n:Nat) (x:Int):Bool:=decide (0≤x) && decide (x < n)
def grownR (M:List (List Int)) (n a:Nat) (o:List Int) (i x:Nat):Bool:=decide (a < n) && o.contains (a:Int) && o.Nodup && o.all (fun y=>(cloF M n a).contains y) && (o.take i).all (fun y=>(List.range n).all fun z=>o.contains (z:Int) || beatsM M y.toNat z) && (List.range x).all fun z=>o.contains (z:Int) || beatsM M (o.getD i 0).toNat z
def allB (M:List (List Int)) (a k:Nat):Bool:=(List.range k).all fun b=>b == a || beatsM M a b
def tourC (M:List (List Int)) (t:List Int) (i k:Nat):Bool:=(t.take k).all fun y=>beatsM M (t.getD i 0).toNat y.toNat || beatsM M y.toNat (t.getD i 0).toNat
def tourR (M:List (List Int)) (t:List Int) (i:Nat):Bool:=(List.range i).all fun j=>tourC M t j j
def a0 (a:U):U:=a.fst
def a1 (a:U):U:=a.snd.fst
def z1 (a:U):U:=a.snd
def a2 (a:U):U:=a.snd.snd.fst
def z2 (a:U):U:=a.snd.snd
def a3 (a:U):U:=a.snd.snd.snd.fst
def z3 (a:U):U:=a.snd.snd.snd
def z4 (a:U):U:=a.snd.snd.snd.snd
def a4 (a:U):U:=a.snd.snd.snd.snd.fst
def z5 (a:U):U:=a.snd.snd.snd.snd.snd
def ownFn (f:Nat) (a:U):U :=
 match f with
 | 101=>.bool (isMat (mat (a0 a)) (z1 a).toI.toNat)
 | 102=>.int (scoreG (games (a0 a) (a1 a).toI) (a2 a).toI (z3 a).toI)
 | 103=>.bool (addM (mat (a0 a)) (mat (a1 a)) (games (a2 a) (a3 a).toI) (lim (z4 a).toI.toNat))
 | 104=>.int (if (games (a0 a) (a1 a).toI).any (badG (z2 a).toI) then 2 else 0)
 | 105=>.int (rateM (mat (a0 a)) (a1 a).toI (z2 a).toI)
 | 106=>.int (rateG (g3 (toIs (a0 a))) (a1 a).toI (z2 a).toI)
 | 107=>.int (valM (mat (a0 a)) (toIs (a1 a)) (a2 a).toI (z3 a).toI.toNat)
 | 108=>.int (valG (g3 (toIs (a0 a))) (toIs (a1 a)) (a2 a).toI (z3 a).toI.toNat)
 | 110=>.int (bestUp (fun i=>valM (mat (a0 a)) (toIs (a1 a)) (i:Int) (a2 a).toI.toNat) (lim (z3 a).toI.toNat)).1
 | 111=>.int (bestUp (fun i=>valM (mat (a0 a)) (toIs (a1 a)) (i:Int) (a2 a).toI.toNat) (lim (z3 a).toI.toNat)).2
 | 112=>.int (bestDn (fun i=>valG (g3 (toIs (a0 a))) (toIs (a1 a)) (i:Int) (a2 a).toI.toNat) (a2 a).toI.toNat (lim (z3 a).toI.toNat)).1
 | 113=>.int (bestDn (fun i=>valG (g3 (toIs (a0 a))) (toIs (a1 a)) (i:Int) (a2 a).toI.toNat) (a2 a).toI.toNat (lim (z3 a).toI.toNat)).2
 | 114=>.bool (okW (toIs (a0 a)) (lim (z1 a).toI.toNat))
 | 115=>.bool ((mat (a0 a)).length == (z2 a).toI.toNat && (mat (a0 a)).take (lim (a1 a).toI.toNat) == List.replicate (lim (a1 a).toI.toNat) (List.replicate (lim (z2 a).toI.toNat) 0))
 | 116=>.bool (zeros (mat (a0 a)) (lim (z1 a).toI.toNat))
 | 117=>.bool ((mat (a0 a)).all fun r=>r.all fun x=>decide (0≤x∧x≤2 * (z1 a).toI))
 | 118=>.bool (addM (mat (a0 a)) (List.replicate (lim (z2 a).toI.toNat) (List.replicate (lim (z2 a).toI.toNat) 0)) (g3 (toIs (a1 a))) (lim (z2 a).toI.toNat))
 | 119=>.bool (beatsM (mat (a0 a)) (a1 a).toI.toNat (z2 a).toI.toNat)
 | 120=>.bool (toIs (a0 a) == cloF (mat (a1 a)) (lim (a2 a).toI.toNat) (z3 a).toI.toNat)
 | 121=>.bool (toIs (a0 a) == topK (mat (a1 a)) (lim (a2 a).toI.toNat) (lim (z3 a).toI.toNat))
 | 122=>.int (floorK (mat (a0 a)) (a1 a).toI.toNat (lim (z2 a).toI.toNat))
 | 123=>.bool (noA (mat (a0 a)) (lim (a1 a).toI.toNat) (lim (z2 a).toI.toNat))
 | 124=>.bool (noB (mat (a0 a)) (lim (a1 a).toI.toNat) (a2 a).toI.toNat (lim (z3 a).toI.toNat))
 | 125=>.bool (noC (mat (a0 a)) (a1 a).toI.toNat (a2 a).toI.toNat (lim (z3 a).toI.toNat))
 | 126=>.bool (grownR (mat (a0 a)) (lim (a1 a).toI.toNat) (a2 a).toI.toNat (toIs (a3 a)) (lim (a4 a).toI.toNat) (lim (z5 a).toI.toNat))
 | 127=>.bool (allB (mat (a0 a)) (a1 a).toI.toNat (lim (z2 a).toI.toNat))
 | 128=>.bool (tourC (mat (a0 a)) (toIs (a1 a)) (lim (a2 a).toI.toNat) (lim (z3 a).toI.toNat))
 | 129=>.bool (tourR (mat (a0 a)) (toIs (a1 a)) (lim (z2 a).toI.toNat))
 | 130=>.bool (addM (mat (a0 a)) (List.replicate (lim (a2 a).toI.toNat) (List.replicate (lim (a2 a).toI.toNat) 0)) ((g3 (toIs (a1 a))).drop (lim (z3 a).toI.toNat)) (lim (a2 a).toI.toNat))
 | 131=>.bool ((toIs (a0 a)).take (lim (z2 a).toI.toNat) == (toIs (a1 a)).take (lim (z2 a).toI.toNat))
 | 132=>.bool ((toIs (a0 a)).contains (z1 a).toI)
 | 133=>.bool (((toIs (a0 a)).take (lim (a1 a).toI.toNat)).contains (z2 a).toI)
 | 134=>.bool (toIs (a0 a) == toIs (z1 a))
 | _=>.int 0
end Go.SX

namespace Go.SX
noncomputable section
inductive T (α:Type) where
 | nil
 | node (v:α) (l r:T α)
 deriving Inhabited
noncomputable def T.get {α:Type} (t:T α):Nat→Option α :=
 T.rec (motive:=fun _=>Nat→Option α) (fun _=>none) (fun v _ _ gl gr n =>
  Nat.rec (some v) (fun n _=>Bool.rec (gr (Nat.div n 2)) (gl (Nat.div n 2)) (Nat.beq (Nat.mod n 2) 0)) n) t
noncomputable def T.set {α:Type} (t:T α):Nat→α→T α :=
 T.rec (motive:=fun _=>Nat→α→T α) (fun _ _=>T.nil) (fun v l r sl sr n x =>
  Nat.rec (T.node x l r) (fun n _=>Bool.rec (T.node v l (sr (Nat.div n 2) x)) (T.node v (sl (Nat.div n 2) x) r) (Nat.beq (Nat.mod n 2) 0)) n) t
noncomputable def T.setK {α β:Type} (t:T α):Nat→α→(T α→β)→β :=
 T.rec (motive:=fun _=>Nat→α→(T α→β)→β) (fun _ _ k=>k T.nil) (fun v l r sl sr n x k =>
  Nat.rec (k (T.node x l r)) (fun n _=>Bool.rec (sr (Nat.div n 2) x fun r'=>k (T.node v l r')) (sl (Nat.div n 2) x fun l'=>k (T.node v l' r)) (Nat.beq (Nat.mod n 2) 0)) n) t
noncomputable def T.ins {α:Type} (t:T α):Nat→α→T α :=
 T.rec (motive:=fun _=>Nat→α→T α) (fun n x=>Nat.rec (T.node x T.nil T.nil) (fun _ _=>T.nil) n) (fun v l r sl sr n x =>
  Nat.rec (T.node x l r) (fun n _=>Bool.rec (T.node v l (sr (Nat.div n 2) x)) (T.node v (sl (Nat.div n 2) x) r) (Nat.beq (Nat.mod n 2) 0)) n) t
noncomputable def T.insK {α β:Type} (t:T α):Nat→α→(T α→β)→β :=
 T.rec (motive:=fun _=>Nat→α→(T α→β)→β) (fun n x k=>Nat.rec (k (T.node x T.nil T.nil)) (fun _ _=>k T.nil) n) (fun v l r sl sr n x k =>
  Nat.rec (k (T.node x l r)) (fun n _=>Bool.rec (sr (Nat.div n 2) x fun r'=>k (T.node v l r')) (sl (Nat.div n 2) x fun l'=>k (T.node v l' r)) (Nat.beq (Nat.mod n 2) 0)) n) t
noncomputable def T.all {α:Type} (p:α→Bool) (t:T α):Bool :=
 T.rec (motive:=fun _=>Bool) true (fun v _ _ a b=>Bool.rec false (Bool.rec false b a) (p v)) t
noncomputable def T.fill {α:Type} (v:α) (d:Nat):Nat→T α :=
 Nat.rec (motive:=fun _=>Nat→T α) (fun _=>T.nil) (fun _ ih n=>Nat.rec T.nil (fun m _=>T.node v (ih (Nat.div (Nat.succ m) 2)) (ih (Nat.div m 2))) n) d
noncomputable def T.putsK {α β:Type} (l:List α):Nat→T α→(T α→β)→β :=
 List.rec (motive:=fun _=>Nat→T α→(T α→β)→β) (fun _ t k=>k t) (fun x _ ih n t k=>T.setK t n x fun t'=>ih (Nat.succ n) t' k) l
noncomputable def T.addsK {α β:Type} (l:List α):Nat→T α→(T α→β)→β :=
 List.rec (motive:=fun _=>Nat→T α→(T α→β)→β) (fun _ t k=>k t) (fun x _ ih n t k=>T.insK t n x fun t'=>ih (Nat.succ n) t' k) l
def fnDen (f:Nat) (a:U):U:=match Nat.blt f 100 with | true=>stdFn f a | false=>ownFn f a
inductive E where
 | int (n:Int) | bool (b:Bool) | str (s:ByteArray) | var (i:Nat)
 | ar (o:BinOp) (k:IntKind) (a b:E)
 | cmp (o:BinOp) (a b:E)
 | mn (a b:E) | mx (a b:E)
 | wr (k:IntKind) (a:E)
 | not (a:E) | and (a b:E) | seq (a b:E) | iff (a b:E) | imp (a b:E)
 | fn (f:Nat) (a:E) | pr (a b:E)
 deriving Inhabited
def arI (o:BinOp) (k:IntKind) (x y:Int):Int :=
 match o with
 | .add=>k.wrap (x + y)
 | .sub=>k.wrap (x - y)
 | .mul=>k.wrap (x * y)
 | .quo=>k.wrap (x.tdiv y)
 | .rem=>x.tmod y
 | .and=>k.wrap (BitVec.ofInt k.bits x &&& BitVec.ofInt k.bits y).toNat
 | .or=>k.wrap (BitVec.ofInt k.bits x ||| BitVec.ofInt k.bits y).toNat
 | .xor=>k.wrap (BitVec.ofInt k.bits x ^^^ BitVec.ofInt k.bits y).toNat
 | .andNot=>k.wrap (BitVec.ofInt k.bits x &&& ~~~BitVec.ofInt k.bits y).toNat
 | .shl=>k.wrap (x * 2 ^ (min y.toNat k.bits))
 | .shr=>x.fdiv (2 ^ (min y.toNat k.bits))
 | _=>0
def cmpI (o:BinOp) (x y:Int):Bool :=
 match o with
 | .eql=>x == y
 | .neq=>x != y
 | .lss=>decide (x < y)
 | .leq=>decide (x≤y)
 | .gtr=>decide (x > y)
 | .geq=>decide (x ≥ y)
 | _=>false
def bytesB:List UInt8→List UInt8→Bool
 | [],[]=>true
 | x::xs,y::ys=>match Nat.beq x.toNat y.toNat with | true=>bytesB xs ys | false=>false
 | _,_=>false
def eqS (a b:ByteArray):Bool:=bytesB a.data.toList b.data.toList
def minI (x y:Int):Int:=if y < x then y else x
def maxI (x y:Int):Int:=if y > x then y else x
structure Bk where
 blk:Nat
 off:Nat
 nil:Bool
 deriving Inhabited
structure Env where
 vs:List U
 bs:List Bk
 fz:Nat→Option Obj
def Env.of (vs:List U):Env:=⟨vs,[],fun _=>none⟩
def E.den (ρ:Env):E→U
 | .int n=>.int n
 | .bool b=>.bool b
 | .str s=>.str s
 | .var i=>ρ.vs.getD i (.int 0)
 | .ar o k a b=>.int (arI o k (a.den ρ).toI (b.den ρ).toI)
 | .cmp o a b=>.bool (cmpI o (a.den ρ).toI (b.den ρ).toI)
 | .mn a b=>.int (minI (a.den ρ).toI (b.den ρ).toI)
 | .mx a b=>.int (maxI (a.den ρ).toI (b.den ρ).toI)
 | .wr k a=>.int (k.wrap (a.den ρ).toI)
 | .not a=>.bool (!(a.den ρ).toB)
 | .and a b=>.bool ((a.den ρ).toB && (b.den ρ).toB)
 | .seq a b=>.bool (eqS (a.den ρ).toS (b.den ρ).toS)
 | .iff a b=>.bool ((a.den ρ).toB == (b.den ρ).toB)
 | .imp a b=>.bool (!(a.den ρ).toB || (b.den ρ).toB)
 | .fn f a=>fnDen f (a.den ρ)
 | .pr a b=>.lst [a.den ρ,b.den ρ]
def E.I (ρ:Env) (e:E):Int:=(e.den ρ).toI
def E.B (ρ:Env) (e:E):Bool:=(e.den ρ).toB
def E.S (ρ:Env) (e:E):ByteArray:=(e.den ρ).toS
def E.L (ρ:Env) (e:E):List U:=(e.den ρ).toL
def ikB:IntKind→IntKind→Bool
 | .i8,.i8 | .i16,.i16 | .i32,.i32 | .i64,.i64 | .u8,.u8 | .u16,.u16 | .u32,.u32 | .u64,.u64=>true
 | _,_=>false
def opNo:BinOp→Nat
 | .add=>0 | .sub=>1 | .mul=>2 | .quo=>3 | .rem=>4 | .and=>5 | .or=>6 | .xor=>7 | .shl=>8 | .shr=>9 | .andNot=>10
 | .eql=>11 | .neq=>12 | .lss=>13 | .leq=>14 | .gtr=>15 | .geq=>16
def opB (a b:BinOp):Bool:=Nat.beq (opNo a) (opNo b)
def intB:Int→Int→Bool
 | .ofNat a,.ofNat b=>Nat.beq a b
 | .negSucc a,.negSucc b=>Nat.beq a b
 | _,_=>false
def boolB:Bool→Bool→Bool
 | true,true=>true
 | false,false=>true
 | _,_=>false
def andK (a b:Bool):Bool:=match a with | true=>b | false=>false
noncomputable def E.on_int (b:E) (f:Int→Bool):Bool:=E.rec (motive:=fun _=>Bool) (fun x0=>f x0) (fun _=>false) (fun _=>false) (fun _=>false) (fun _ _ _ _ _ _=>false) (fun _ _ _ _ _=>false) (fun _ _ _ _=>false) (fun _ _ _ _=>false) (fun _ _ _=>false) (fun _ _=>false) (fun _ _ _ _=>false) (fun _ _ _ _=>false) (fun _ _ _ _=>false) (fun _ _ _ _=>false) (fun _ _ _=>false) (fun _ _ _ _=>false) b
noncomputable def E.on_bool (b:E) (f:Bool→Bool):Bool:=E.rec (motive:=fun _=>Bool) (fun _=>false) (fun x0=>f x0) (fun _=>false) (fun _=>false) (fun _ _ _ _ _ _=>false) (fun _ _ _ _ _=>false) (fun _ _ _ _=>false) (fun _ _ _ _=>false) (fun _ _ _=>false) (fun _ _=>false) (fun _ _ _ _=>false) (fun _ _ _ _=>false) (fun _ _ _ _=>false) (fun _ _ _ _=>false) (fun _ _ _=>false) (fun _ _ _ _=>false) b
noncomputable def E.on_str (b:E) (f:ByteArray→Bool):Bool:=E.rec (motive:=fun _=>Bool) (fun _=>false) (fun _=>false) (fun x0=>f x0) (fun _=>false) (fun _ _ _ _ _ _=>false) (fun _ _ _ _ _=>false) (fun _ _ _ _=>false) (fun _ _ _ _=>false) (fun _ _ _=>false) (fun _ _=>false) (fun _ _ _ _=>false) (fun _ _ _ _=>false) (fun _ _ _ _=>false) (fun _ _ _ _=>false) (fun _ _ _=>false) (fun _ _ _ _=>false) b
noncomputable def E.on_var (b:E) (f:Nat→Bool):Bool:=E.rec (motive:=fun _=>Bool) (fun _=>false) (fun _=>false) (fun _=>false) (fun x0=>f x0) (fun _ _ _ _ _ _=>false) (fun _ _ _ _ _=>false) (fun _ _ _ _=>false) (fun _ _ _ _=>false) (fun _ _ _=>false) (fun _ _=>false) (fun _ _ _ _=>false) (fun _ _ _ _=>false) (fun _ _ _ _=>false) (fun _ _ _ _=>false) (fun _ _ _=>false) (fun _ _ _ _=>false) b
noncomputable def E.on_ar (b:E) (f:BinOp→IntKind→E→E→Bool):Bool:=E.rec (motive:=fun _=>Bool) (fun _=>false) (fun _=>false) (fun _=>false) (fun _=>false) (fun x0 x1 x2 x3 _ _=>f x0 x1 x2 x3) (fun _ _ _ _ _=>false) (fun _ _ _ _=>false) (fun _ _ _ _=>false) (fun _ _ _=>false) (fun _ _=>false) (fun _ _ _ _=>false) (fun _ _ _ _=>false) (fun _ _ _ _=>false) (fun _ _ _ _=>false) (fun _ _ _=>false) (fun _ _ _ _=>false) b
noncomputable def E.on_cmp (b:E) (f:BinOp→E→E→Bool):Bool:=E.rec (motive:=fun _=>Bool) (fun _=>false) (fun _=>false) (fun _=>false) (fun _=>false) (fun _ _ _ _ _ _=>false) (fun x0 x1 x2 _ _=>f x0 x1 x2) (fun _ _ _ _=>false) (fun _ _ _ _=>false) (fun _ _ _=>false) (fun _ _=>false) (fun _ _ _ _=>false) (fun _ _ _ _=>false) (fun _ _ _ _=>false) (fun _ _ _ _=>false) (fun _ _ _=>false) (fun _ _ _ _=>false) b
noncomputable def E.on_mn (b:E) (f:E→E→Bool):Bool:=E.rec (motive:=fun _=>Bool) (fun _=>false) (fun _=>false) (fun _=>false) (fun _=>false) (fun _ _ _ _ _ _=>false) (fun _ _ _ _ _=>false) (fun x0 x1 _ _=>f x0 x1) (fun _ _ _ _=>false) (fun _ _ _=>false) (fun _ _=>false) (fun _ _ _ _=>false) (fun _ _ _ _=>false) (fun _ _ _ _=>false) (fun _ _ _ _=>false) (fun _ _ _=>false) (fun _ _ _ _=>false) b
noncomputable def E.on_mx (b:E) (f:E→E→Bool):Bool:=E.rec (motive:=fun _=>Bool) (fun _=>false) (fun _=>false) (fun _=>false) (fun _=>false) (fun _ _ _ _ _ _=>false) (fun _ _ _ _ _=>false) (fun _ _ _ _=>false) (fun x0 x1 _ _=>f x0 x1) (fun _ _ _=>false) (fun _ _=>false) (fun _ _ _ _=>false) (fun _ _ _ _=>false) (fun _ _ _ _=>false) (fun _ _ _ _=>false) (fun _ _ _=>false) (fun _ _ _ _=>false) b
noncomputable def E.on_wr (b:E) (f:IntKind→E→Bool):Bool:=E.rec (motive:=fun _=>Bool) (fun _=>false) (fun _=>false) (fun _=>false) (fun _=>false) (fun _ _ _ _ _ _=>false) (fun _ _ _ _ _=>false) (fun _ _ _ _=>false) (fun _ _ _ _=>false) (fun x0 x1 _=>f x0 x1) (fun _ _=>false) (fun _ _ _ _=>false) (fun _ _ _ _=>false) (fun _ _ _ _=>false) (fun _ _ _ _=>false) (fun _ _ _=>false) (fun _ _ _ _=>false) b
noncomputable def E.on_not (b:E) (f:E→Bool):Bool:=E.rec (motive:=fun _=>Bool) (fun _=>false) (fun _=>false) (fun _=>false) (fun _=>false) (fun _ _ _ _ _ _=>false) (fun _ _ _ _ _=>false) (fun _ _ _ _=>false) (fun _ _ _ _=>false) (fun _ _ _=>false) (fun x0 _=>f x0) (fun _ _ _ _=>false) (fun _ _ _ _=>false) (fun _ _ _ _=>false) (fun _ _ _ _=>false) (fun _ _ _=>false) (fun _ _ _ _=>false) b
noncomputable def E.on_and (b:E) (f:E→E→Bool):Bool:=E.rec (motive:=fun _=>Bool) (fun _=>false) (fun _=>false) (fun _=>false) (fun _=>false) (fun _ _ _ _ _ _=>false) (fun _ _ _ _ _=>false) (fun _ _ _ _=>false) (fun _ _ _ _=>false) (fun _ _ _=>false) (fun _ _=>false) (fun x0 x1 _ _=>f x0 x1) (fun _ _ _ _=>false) (fun _ _ _ _=>false) (fun _ _ _ _=>false) (fun _ _ _=>false) (fun _ _ _ _=>false) b
noncomputable def E.on_seq (b:E) (f:E→E→Bool):Bool:=E.rec (motive:=fun _=>Bool) (fun _=>false) (fun _=>false) (fun _=>false) (fun _=>false) (fun _ _ _ _ _ _=>false) (fun _ _ _ _ _=>false) (fun _ _ _ _=>false) (fun _ _ _ _=>false) (fun _ _ _=>false) (fun _ _=>false) (fun _ _ _ _=>false) (fun x0 x1 _ _=>f x0 x1) (fun _ _ _ _=>false) (fun _ _ _ _=>false) (fun _ _ _=>false) (fun _ _ _ _=>false) b
noncomputable def E.on_iff (b:E) (f:E→E→Bool):Bool:=E.rec (motive:=fun _=>Bool) (fun _=>false) (fun _=>false) (fun _=>false) (fun _=>false) (fun _ _ _ _ _ _=>false) (fun _ _ _ _ _=>false) (fun _ _ _ _=>false) (fun _ _ _ _=>false) (fun _ _ _=>false) (fun _ _=>false) (fun _ _ _ _=>false) (fun _ _ _ _=>false) (fun x0 x1 _ _=>f x0 x1) (fun _ _ _ _=>false) (fun _ _ _=>false) (fun _ _ _ _=>false) b
noncomputable def E.on_imp (b:E) (f:E→E→Bool):Bool:=E.rec (motive:=fun _=>Bool) (fun _=>false) (fun _=>false) (fun _=>false) (fun _=>false) (fun _ _ _ _ _ _=>false) (fun _ _ _ _ _=>false) (fun _ _ _ _=>false) (fun _ _ _ _=>false) (fun _ _ _=>false) (fun _ _=>false) (fun _ _ _ _=>false) (fun _ _ _ _=>false) (fun _ _ _ _=>false) (fun x0 x1 _ _=>f x0 x1) (fun _ _ _=>false) (fun _ _ _ _=>false) b
noncomputable def E.on_fn (b:E) (f:Nat→E→Bool):Bool:=E.rec (motive:=fun _=>Bool) (fun _=>false) (fun _=>false) (fun _=>false) (fun _=>false) (fun _ _ _ _ _ _=>false) (fun _ _ _ _ _=>false) (fun _ _ _ _=>false) (fun _ _ _ _=>false) (fun _ _ _=>false) (fun _ _=>false) (fun _ _ _ _=>false) (fun _ _ _ _=>false) (fun _ _ _ _=>false) (fun _ _ _ _=>false) (fun x0 x1 _=>f x0 x1) (fun _ _ _ _=>false) b
noncomputable def E.on_pr (b:E) (f:E→E→Bool):Bool:=E.rec (motive:=fun _=>Bool) (fun _=>false) (fun _=>false) (fun _=>false) (fun _=>false) (fun _ _ _ _ _ _=>false) (fun _ _ _ _ _=>false) (fun _ _ _ _=>false) (fun _ _ _ _=>false) (fun _ _ _=>false) (fun _ _=>false) (fun _ _ _ _=>false) (fun _ _ _ _=>false) (fun _ _ _ _=>false) (fun _ _ _ _=>false) (fun _ _ _=>false) (fun x0 x1 _ _=>f x0 x1) b
noncomputable def E.beq (a:E):E→Bool :=
 E.rec (motive:=fun _=>E→Bool)
  (fun n b=>b.on_int fun m=>intB n m)
  (fun x b=>b.on_bool fun y=>boolB x y)
  (fun s b=>b.on_str fun t=>eqS s t)
  (fun i b=>b.on_var fun j=>Nat.beq i j)
  (fun o k _ _ f g b=>b.on_ar fun o' k' a' b'=>andK (opB o o') (andK (ikB k k') (andK (f a') (g b'))))
  (fun o _ _ f g b=>b.on_cmp fun o' a' b'=>andK (opB o o') (andK (f a') (g b')))
  (fun _ _ f g b=>b.on_mn fun a' b'=>andK (f a') (g b'))
  (fun _ _ f g b=>b.on_mx fun a' b'=>andK (f a') (g b'))
  (fun k _ f b=>b.on_wr fun k' a'=>andK (ikB k k') (f a'))
  (fun _ f b=>b.on_not fun a'=>f a')
  (fun _ _ f g b=>b.on_and fun a' b'=>andK (f a') (g b'))
  (fun _ _ f g b=>b.on_seq fun a' b'=>andK (f a') (g b'))
  (fun _ _ f g b=>b.on_iff fun a' b'=>andK (f a') (g b'))
  (fun _ _ f g b=>b.on_imp fun a' b'=>andK (f a') (g b'))
  (fun n _ f b=>b.on_fn fun m a'=>andK (Nat.beq n m) (f a'))
  (fun _ _ f g b=>b.on_pr fun a' b'=>andK (f a') (g b')) a
def forceK {β:Type} (n:Nat) (k:Nat→β):β :=
 match n with
 | 0=>k 0
 | m + 1=>k (m + 1)
def mix (a b:Nat):Nat:=Nat.mod (Nat.add (Nat.mul a 1000003) b) 2305843009213693951
def codeI (n:Int):Nat:=match n with | .ofNat m=>Nat.mul 2 m | .negSucc m=>Nat.add (Nat.mul 2 m) 1
def codeK (k:IntKind):Nat:=match k with | .i8=>1 | .i16=>2 | .i32=>3 | .i64=>4 | .u8=>5 | .u16=>6 | .u32=>7 | .u64=>8
noncomputable def codeE (a:E):Nat :=
 E.rec (motive:=fun _=>Nat)
  (fun n=>mix 3 (codeI n)) (fun x=>match x with | true=>5 | false=>7) (fun _=>11) (fun i=>mix 13 i)
  (fun o k _ _ f g=>mix (mix (mix (mix 17 (opNo o)) (codeK k)) f) g)
  (fun o _ _ f g=>mix (mix (mix 19 (opNo o)) f) g)
  (fun _ _ f g=>mix (mix 23 f) g)
  (fun _ _ f g=>mix (mix 29 f) g)
  (fun k _ f=>mix (mix 31 (codeK k)) f)
  (fun _ f=>mix 37 f)
  (fun _ _ f g=>mix (mix 41 f) g)
  (fun _ _ f g=>mix (mix 43 f) g)
  (fun _ _ f g=>mix (mix 47 f) g)
  (fun _ _ f g=>mix (mix 53 f) g)
  (fun n _ f=>mix (mix 59 n) f)
  (fun _ _ f g=>mix (mix 61 f) g) a
def tgtE (x:E):Nat:=match x with | .imp _ c=>codeE c | x=>codeE x
def baseE:E→E
 | .fn 6 (.pr c (.int _))=>c
 | e=>e
def bT1 (x:E):Nat:=match x with
 | .cmp _ a b=>match b with
  | .int _=>codeE (baseE a)
  | _=>match a with
   | .int _=>codeE (baseE b)
   | _=>0
 | _=>0
def bT (x:E):Nat:=match x with | .not y=>bT1 y | y=>bT1 y
noncomputable def filtT (n:Nat) (l:List E):List E:=List.rec (motive:=fun _=>List E) [] (fun x _ ih=>Bool.rec ih (x::ih) (Nat.beq (tgtE x) n)) l
noncomputable def filtC (n:Nat) (l:List E):List E:=List.rec (motive:=fun _=>List E) [] (fun x _ ih=>Bool.rec ih (x::ih) (Nat.beq (codeE x) n)) l
noncomputable def filtB (n:Nat) (l:List E):List E:=List.rec (motive:=fun _=>List E) [] (fun x _ ih=>Bool.rec ih (x::ih) (Nat.beq (bT x) n)) l
def mkAr (o:BinOp) (k:IntKind) (a b:E):E :=
 match a,b with
 | .int x,.int y=>.int (arI o k x y)
 | _,_=>.ar o k a b
def mkNot (a:E):E :=
 match a with
 | .bool b=>.bool (!b)
 | .not x=>x
 | _=>.not a
def offE:E→Int
 | .fn 6 (.pr _ (.int x))=>x
 | _=>0
def mkCmp (o:BinOp) (a b:E):E :=
 match a,b with
 | .int x,.int y=>.bool (cmpI o x y)
 | _,_=>match (baseE a).beq (baseE b) with
  | true=>.bool (cmpI o (offE a) (offE b))
  | false=>match o with
   | .eql=>match a with
    | .int x=>.cmp .eql b (.int x)
    | a=>.cmp .eql a b
   | .neq=>match a with
    | .int x=>.not (.cmp .eql b (.int x))
    | a=>.not (.cmp .eql a b)
   | .gtr=>.cmp .lss b a
   | .leq=>.not (.cmp .lss b a)
   | .geq=>.not (.cmp .lss a b)
   | _=>.cmp o a b
def mkMn (a b:E):E :=
 match a,b with
 | .int x,.int y=>.int (minI x y)
 | _,_=>.mn a b
def mkMx (a b:E):E :=
 match a,b with
 | .int x,.int y=>.int (maxI x y)
 | _,_=>.mx a b
def mkWr (k:IntKind) (a:E):E :=
 match a with
 | .int x=>.int (k.wrap x)
 | _=>.wr k a
def mkAnd (a b:E):E :=
 match a with
 | .bool true=>match b with
  | .bool y=>.bool y
  | _=>.and a b
 | .bool false=>.bool false
 | _=>.and a b
def mkSeq (a b:E):E :=
 match a,b with
 | .str x,.str y=>.bool (eqS x y)
 | _,_=>.seq a b
def mkIadd (a b:E):E :=
 match a,b with
 | .int x,.int y=>.int (x + y)
 | .int x,b=>match intB x 0 with
  | true=>b
  | false=>match b with
   | .fn 6 (.pr c (.int y))=>.fn 6 (.pr c (.int (x + y)))
   | _=>.fn 6 (.pr b (.int x))
 | .fn 6 (.pr c (.int x)),.int y=>.fn 6 (.pr c (.int (x + y)))
 | a,.int y=>match intB y 0 with
  | true=>a
  | false=>.fn 6 (.pr a (.int y))
 | a,b=>.fn 6 (.pr a b)
def mkIsub (a b:E):E :=
 match a,b with
 | .int x,.int y=>.int (x - y)
 | .fn 6 (.pr c (.int x)),.int y=>match intB (x - y) 0 with
  | true=>c
  | false=>.fn 6 (.pr c (.int (x - y)))
 | a,.int y=>match intB y 0 with
  | true=>a
  | false=>.fn 6 (.pr a (.int (-y)))
 | a,b=>match a.beq b with
  | true=>.int 0
  | false=>.fn 7 (.pr a b)
def mkLen:E→E
 | .fn 2 (.pr l' x)=>mkLen l'
 | .fn 3 (.pr a b)=>mkIadd (mkLen a) (mkLen b)
 | .fn 5 (.pr n x)=>mkMx n (.int 0)
 | .fn 10 _=>.int 0
 | .fn 11 _=>.int 1
 | .fn 21 (.pr r c)=>mkLen c
 | .fn 23 (.pr x r)=>mkIadd (.int 1) (mkLen r)
 | .fn 28 (.pr r c)=>mkLen c
 | .fn 30 _=>.int 0
 | l=>.fn 0 l
def setLit (v:E):E→Nat→Option E
 | .fn 23 (.pr x r),n=>match n with
  | 0=>some (.fn 23 (.pr v r))
  | n + 1=>match setLit v r n with
   | some r'=>some (.fn 23 (.pr x r'))
   | none=>none
 | _,_=>none
def updAt (i:Nat) (v:E):E→E
 | .fn 2 (.pr l (.pr (.int (.ofNat j)) u))=>match Nat.beq i j with
  | true=>.fn 2 (.pr l (.pr (.int (.ofNat i)) v))
  | false=>match Nat.blt i j with
   | true=>.fn 2 (.pr (updAt i v l) (.pr (.int (.ofNat j)) u))
   | false=>.fn 2 (.pr (.fn 2 (.pr l (.pr (.int (.ofNat j)) u))) (.pr (.int (.ofNat i)) v))
 | l=>.fn 2 (.pr l (.pr (.int (.ofNat i)) v))
def mkUpd (l i v:E):E :=
 match i with
 | .int (.ofNat n)=>match setLit v l n with
  | some r=>r
  | none=>updAt n v l
 | _=>.fn 2 (.pr l (.pr i v))
def mkList:List E→E
 | []=>.fn 10 (.int 0)
 | x::xs=>.fn 23 (.pr x (mkList xs))
def isNilE:E→Bool
 | .fn 10 _=>true
 | .fn 30 _=>true
 | _=>false
def appLit (b:E):E→Option E
 | .fn 23 (.pr x r)=>match appLit b r with
  | some r'=>some (.fn 23 (.pr x r'))
  | none=>none
 | .fn 10 _=>some b
 | _=>none
def mkApp (a b:E):E :=
 match isNilE b with
 | true=>a
 | false=>match appLit b a with
  | some r=>r
  | none=>.fn 3 (.pr a b)
structure Off where
 base:Nat
 scale:Nat:=0
 idx:E:=.int 0
 deriving Inhabited
def Off.den (ρ:Env) (o:Off):Nat:=o.base + o.scale * (o.idx.I ρ).toNat
inductive CK where
 | int (k:IntKind) | bool | str | slc (ks:List CK)
 deriving Inhabited
mutual
def CK.beq:CK→CK→Bool
 | .int k,.int k'=>ikB k k'
 | .bool,.bool=>true
 | .str,.str=>true
 | .slc a,.slc b=>ksB a b
 | _,_=>false
def ksB:List CK→List CK→Bool
 | [],[]=>true
 | x::xs,y::ys=>x.beq y && ksB xs ys
 | _,_=>false
end
def CK.val:CK→U→Value
 | .int k,u=>.int k u.toI
 | .bool,u=>.bool u.toB
 | .str,u=>.string u.toS
 | .slc _,u=>u.raw
inductive SlOk (fz:Nat→Option Obj):List CK→U→Prop
 | nil {ks:List CK}:SlOk fz ks (.bx none 0 0 [])
 | empty {ks:List CK} (a:Addr):SlOk fz ks (.bx (some a) 0 0 [])
 | mk {ks:List CK} {r off len cap:Nat} {l:List U} {arr:Array Value} {elem:TypeId} {fr:Nat × Nat} (hl:l.length=len * ks.length) (hc:len≤cap)
   (hz:l≠[]→fz r=some (.cells arr elem fr))
   (hv:∀ (i:Nat) (u:U),l[i]?=some u→∃ c,ks[i % ks.length]?=some c∧arr[off + i]?=some (c.val u))
   (hs:∀ (i:Nat) (u:U) (ks':List CK),l[i]?=some u→ks[i % ks.length]?=some (.slc ks')→SlOk fz ks' u) :
   SlOk fz ks (.bx (some ⟨r,off,none⟩) len cap l)
def CK.ok (fz:Nat→Option Obj):CK→U→Prop
 | .slc ks,u=>SlOk fz ks u
 | _,_=>True
inductive SV where
 | int (k:IntKind) (e:E) | bool (e:E) | str (e:E)
 | nilp | ptr (b:Nat) (o:Off)
 | nils | slice (b:Nat) (o:Off) (len cap:E)
 | nslice (b:Nat) (len cap:E)
 | bsl (ks:List CK) (e:E) | bptr (ks:List CK) (e idx:E) (j:Nat)
 | nilm | map (b:Nat)
 | nili | nilf | func (fn:Fn) (fi ca:List SV)
 | agg (cs:List SV) | tup (cs:List SV)
 | junk
 | nsl (b:Nat) (ks:List CK) (e i:E) (c:Nat) | nptr (b:Nat) (ks:List CK) (e i:E) (c:Nat) (x:E) (j:Nat)
 deriving Inhabited
def Env.blk (ρ:Env) (b:Nat):Nat:=(ρ.bs.getD b ⟨0,0,false⟩).blk
def Env.off (ρ:Env) (b:Nat):Nat:=(ρ.bs.getD b ⟨0,0,false⟩).off
def Env.nil (ρ:Env) (b:Nat):Bool:=(ρ.bs.getD b ⟨0,0,false⟩).nil
def Env.base (ρ:Env) (b:Nat):Option Addr:=match ρ.nil b with | true=>none | false=>some ⟨ρ.blk b,ρ.off b,none⟩
def cellAddr (u:U) (n:Nat):Option Addr:=match u.adr with | some a=>some ⟨a.block,a.off + n,none⟩ | none=>none
mutual
def SV.den (ρ:Env):SV→Value
 | .int k e=>.int k (e.I ρ)
 | .bool e=>.bool (e.B ρ)
 | .str e=>.string (e.S ρ)
 | .nilp=>.pointer none
 | .ptr b o=>.pointer (some ⟨ρ.blk b,ρ.off b + o.den ρ,none⟩)
 | .nils=>.slice none 0 0
 | .slice b o l c=>.slice (some ⟨ρ.blk b,ρ.off b + o.den ρ,none⟩) (l.I ρ).toNat (c.I ρ).toNat
 | .nslice b l c=>.slice (ρ.base b) (l.I ρ).toNat (c.I ρ).toNat
 | .bsl _ e=>(e.den ρ).raw
 | .bptr ks e i j=>.pointer (cellAddr (e.den ρ) ((i.I ρ).toNat * ks.length + j))
 | .nilm=>.map none
 | .map b=>.map (some (ρ.blk b))
 | .nili=>.nilIface
 | .nilf=>.nilFunc
 | .func fn fi ca=>.func fn (SV.dens ρ fi).toArray (SV.dens ρ ca).toArray
 | .agg cs=>.agg (SV.dens ρ cs).toArray
 | .tup cs=>.tuple (SV.dens ρ cs).toArray
 | .junk=>Go.undef
 | .nsl _ _ e _ _=>(e.den ρ).raw
 | .nptr _ ks e _ _ x j=>.pointer (cellAddr (e.den ρ) ((x.I ρ).toNat * ks.length + j))
def SV.dens (ρ:Env):List SV→List Value
 | []=>[]
 | v::vs=>v.den ρ::SV.dens ρ vs
end
mutual
def SV.ok (ρ:Env):SV→Prop
 | .bsl ks e=>SlOk ρ.fz ks (e.den ρ)
 | .bptr ks e i _=>SlOk ρ.fz ks (e.den ρ)∧0≤i.I ρ∧((i.I ρ).toNat + 1) * ks.length≤(e.L ρ).length∧0 < ks.length
 | .func _ fi ca=>SV.oks ρ fi∧SV.oks ρ ca
 | .agg cs=>SV.oks ρ cs
 | .tup cs=>SV.oks ρ cs
 | .nptr _ ks e _ _ x _=>0≤x.I ρ∧0 < ks.length∧∃ (r len cap:Nat) (l:List U),e.den ρ=.bx (some ⟨r,0,none⟩) len cap l∧(x.I ρ).toNat < len
 | _=>True
def SV.oks (ρ:Env):List SV→Prop
 | []=>True
 | v::vs=>v.ok ρ∧SV.oks ρ vs
end
def SV.undef:SV:=.tup []
structure Ent where
 k:SV
 v:SV
 born:E
 deriving Inhabited
inductive SObj where
 | gone
 | cells (cs:List SV) (tot:E) (elem:TypeId)
 | flat (ks:List CK) (l n tot:E) (elem:TypeId)
 | map (es:List Ent) (clk:E)
 | mapl (k:IntKind) (c:CK) (e:E)
 | maplp (k:IntKind) (c:CK) (e ke s:E)
 | iter (k:IntKind) (c:CK) (e left:E) (cur:Option E)
 | nest (ks:List CK) (l n tot:E) (elem:TypeId)
 deriving Inhabited
structure Blk where
 own:Bool
 obj:SObj
 deriving Inhabited
structure St where
 nv:Nat
 nb:Nat
 heap:T Blk
 pc:List E
 deriving Inhabited
inductive Ex where
 | normal | exit (id:Nat) | ret
 deriving Inhabited
abbrev Tm:=T SV
structure Out where
 ex:Ex
 tmps:Tm
 st:St
 deriving Inhabited
noncomputable def E.scp (nv:Nat) (e:E):Bool :=
 E.rec (motive:=fun _=>Bool) (fun _=>true) (fun _=>true) (fun _=>true) (fun i=>Nat.blt i nv)
  (fun _ _ _ _ a b=>Bool.rec false b a) (fun _ _ _ a b=>Bool.rec false b a) (fun _ _ a b=>Bool.rec false b a) (fun _ _ a b=>Bool.rec false b a)
  (fun _ _ a=>a) (fun _ a=>a) (fun _ _ a b=>Bool.rec false b a) (fun _ _ a b=>Bool.rec false b a) (fun _ _ a b=>Bool.rec false b a) (fun _ _ a b=>Bool.rec false b a)
  (fun _ _ a=>a) (fun _ _ a b=>Bool.rec false b a) e
noncomputable def SV.scp (nv nb:Nat) (v:SV):Bool :=
 SV.rec (motive_1:=fun _=>Bool) (motive_2:=fun _=>Bool)
  (fun _ e=>e.scp nv) (fun e=>e.scp nv) (fun e=>e.scp nv) true (fun b o=>Bool.rec false (o.idx.scp nv) (Nat.blt b nb))
  true (fun b o l c=>Bool.rec false (Bool.rec false (Bool.rec false (c.scp nv) (l.scp nv)) (o.idx.scp nv)) (Nat.blt b nb))
  (fun b l c=>Bool.rec false (Bool.rec false (c.scp nv) (l.scp nv)) (Nat.blt b nb))
  (fun _ e=>e.scp nv) (fun _ e i _=>Bool.rec false (i.scp nv) (e.scp nv))
  true (fun b=>Nat.blt b nb) true true (fun _ _ _ a b=>Bool.rec false b a) (fun _ a=>a) (fun _ a=>a) true
  (fun b _ e i _=>Bool.rec false (Bool.rec false (i.scp nv) (e.scp nv)) (Nat.blt b nb)) (fun b _ e i _ x _=>Bool.rec false (Bool.rec false (Bool.rec false (x.scp nv) (i.scp nv)) (e.scp nv)) (Nat.blt b nb))
  true (fun _ _ a b=>Bool.rec false b a) v
noncomputable def SV.scps (nv nb:Nat) (l:List SV):Bool :=
 List.rec (motive:=fun _=>Bool) true (fun v _ b=>Bool.rec false b (v.scp nv nb)) l
def pairsScp (nv nb:Nat):List Ent→Bool
 | []=>true
 | x::es=>x.k.scp nv nb && (x.v.scp nv nb && (x.born.scp nv && pairsScp nv nb es))
def optScp (nv:Nat):Option E→Bool
 | none=>true
 | some e=>e.scp nv
def SObj.scp (nv nb:Nat):SObj→Bool
 | .gone=>true
 | .cells cs tot _=>tot.scp nv && SV.scps nv nb cs
 | .flat _ l n tot _=>l.scp nv && (n.scp nv && tot.scp nv)
 | .map es clk=>pairsScp nv nb es && clk.scp nv
 | .mapl _ _ e=>e.scp nv
 | .maplp _ _ e ke s=>e.scp nv && (ke.scp nv && s.scp nv)
 | .iter _ _ e n cur=>e.scp nv && (n.scp nv && optScp nv cur)
 | .nest _ l n tot _=>l.scp nv && (n.scp nv && tot.scp nv)
def pcScoped (nv:Nat):List E→Bool
 | []=>true
 | e::es=>e.scp nv && pcScoped nv es
def Blk.scp (nv nb:Nat) (b:Blk):Bool:=b.obj.scp nv nb
def St.scp (st:St):Bool:=pcScoped st.nv st.pc && T.all (Blk.scp st.nv st.nb) st.heap
def tmScoped (nv nb:Nat) (t:Tm):Bool:=T.all (SV.scp nv nb) t
noncomputable def getI {α:Type} (l:List α):Nat→Option α :=
 List.rec (motive:=fun _=>Nat→Option α) (fun _=>none) (fun x _ g n=>Nat.rec (some x) (fun n _=>g n) n) l
noncomputable def takeI {α:Type} (l:List α):Nat→Option (List α) :=
 List.rec (motive:=fun _=>Nat→Option (List α)) (fun n=>Nat.rec (some []) (fun _ _=>none) n)
  (fun x _ g n=>Nat.rec (some []) (fun n _=>Option.rec none (fun l=>some (x::l)) (g n)) n) l
noncomputable def dropI {α:Type} (l:List α):Nat→List α :=
 List.rec (motive:=fun _=>Nat→List α) (fun _=>[]) (fun x xs g n=>Nat.rec (x::xs) (fun n _=>g n) n) l
noncomputable def overI {α:Type} (cs:List α):List α→Option (List α) :=
 List.rec (motive:=fun _=>List α→Option (List α)) (fun vs=>List.rec (some []) (fun _ _ _=>none) vs)
  (fun c cs g vs=>List.rec (some (c::cs)) (fun v vs _=>Option.rec none (fun l=>some (v::l)) (g vs)) vs) cs
noncomputable def overAt {α:Type} (cs:List α):Nat→List α→Option (List α) :=
 List.rec (motive:=fun _=>Nat→List α→Option (List α)) (fun n vs=>Nat.rec (overI [] vs) (fun _ _=>none) n)
  (fun c cs g n vs=>Nat.rec (overI (c::cs) vs) (fun n _=>Option.rec none (fun l=>some (c::l)) (g n vs)) n) cs
def SV.cells:SV→List SV
 | .agg cs=>cs
 | v=>[v]
def SV.one:SV→Bool
 | .agg _ | .tup _ | .junk=>false
 | _=>true
def allOne:List SV→Bool
 | []=>true
 | v::vs=>v.one && allOne vs
mutual
def ofVal:Value→Option SV
 | .bool b=>some (.bool (.bool b))
 | .int k n=>some (.int k (.int n))
 | .string s=>some (.str (.str s))
 | .pointer none=>some .nilp
 | .slice none n c=>if Nat.beq n 0 && Nat.beq c 0 then some .nils else none
 | .map none=>some .nilm
 | .nilFunc=>some .nilf
 | .nilIface=>some .nili
 | .agg cs=>match ofVals cs.toList with | some l=>some (.agg l) | none=>none
 | _=>none
def ofVals:List Value→Option (List SV)
 | []=>some []
 | v::vs=>match ofVal v,ofVals vs with | some x,some l=>some (x::l) | _,_=>none
end
end
end Go.SX

namespace Go.SX
noncomputable section
structure Tmpl where
 tmps:Tm
 st:St
 less:E
 deriving Inhabited
structure LoopX where
 n0:Nat
 b0:Nat
 xs:List Out
 deriving Inhabited
structure Ann where
 fn:FuncId
 key:Nat
 ts:List Tmpl
 known:Option LoopX:=none
 deriving Inhabited
inductive NatR where
 | no | lack (e:E) | outs (l:List (SV × St))
structure Nat1 where
 fn:FuncId
 eff:List E→List SV→St→NatR
structure Tab where
 ty:T TypeInfo
 fn:T Func
 facts:List E
 anns:List Ann
 nats:List Nat1
def Tab.und (tb:Tab) (t:TypeId):Option TypeDesc :=
 match tb.ty.get t with
 | some i=>match i.desc with
  | .named _ u=>match tb.ty.get u with
   | some j=>some j.desc
   | none=>none
  | d=>some d
 | none=>none
def addOff (o:Off) (n:Nat):Off:=⟨Nat.add o.base n,o.scale,o.idx⟩
def structFields (tb:Tab) (t:TypeId):Option (List Field) :=
 match tb.und t with
 | some (.struct fs)=>some fs.toList
 | _=>none
def sizeS (tb:Tab) (t:TypeId):Option Nat :=
 match tb.ty.get t with
 | some i=>some i.size
 | none=>none
def isAggS (tb:Tab) (t:TypeId):Option Bool :=
 match tb.und t with
 | some (.struct _)=>some true
 | some (.array _ _)=>some true
 | some _=>some false
 | none=>none
def zeroS (tb:Tab) (t:TypeId):Option SV :=
 match tb.ty.get t with
 | some i=>match i.zero with
  | some v=>ofVal v
  | none=>none
 | none=>none
def partS (tb:Tab) (t:TypeId) (cs:List SV) (off:Nat):Option SV :=
 match isAggS tb t with
 | some true=>match sizeS tb t with
  | some n=>match takeI (dropI cs off) n with
   | some l=>some (.agg l)
   | none=>none
  | none=>none
 | some false=>getI cs off
 | none=>none
def eqParts (f:TypeId→SV→SV→Option E) (tb:Tab) (xs ys:List SV):List Field→Option E
 | []=>some (.bool true)
 | fd::fds =>
  if fd.name == "_" then none else
  match partS tb fd.type xs fd.offset,partS tb fd.type ys fd.offset with
  | some x,some y=>match f fd.type x y,eqParts f tb xs ys fds with
   | some a,some b=>some (mkAnd a b)
   | _,_=>none
  | _,_=>none
def eqElems (f:SV→SV→Option E) (tb:Tab) (elem:TypeId) (n:Nat) (xs ys:List SV):Nat→Nat→Option E
 | 0,_=>some (.bool true)
 | k + 1,i =>
  match partS tb elem xs (Nat.mul i n),partS tb elem ys (Nat.mul i n) with
  | some x,some y=>match f x y,eqElems f tb elem n xs ys k (Nat.succ i) with
   | some a,some b=>some (mkAnd a b)
   | _,_=>none
  | _,_=>none
def mkBeq (a b:E):Option E :=
 match a,b with
 | .bool true,.bool y=>some (.bool y)
 | .bool false,.bool y=>some (.bool (!y))
 | .bool true,b=>some b
 | .bool false,b=>some (mkNot b)
 | a,.bool true=>some a
 | a,.bool false=>some (mkNot a)
 | a,b=>some (.iff a b)
def eqS1 (P:Program) (tb:Tab):Nat→TypeId→SV→SV→Option E
 | 0,_,_,_=>none
 | d + 1,t,x,y =>
  match tb.und t,x,y with
  | some .bool,.bool a,.bool b=>mkBeq a b
  | some (.int _),.int k a,.int k' b=>if ikB k k' then some (mkCmp .eql a b) else none
  | some .string,.str a,.str b=>some (mkSeq a b)
  | some (.pointer _),.nilp,.nilp=>some (.bool true)
  | some (.pointer _),.nilp,.ptr _ _=>some (.bool false)
  | some (.pointer _),.ptr _ _,.nilp=>some (.bool false)
  | some (.slice _),.nils,.nils=>some (.bool true)
  | some (.slice _),.nils,.slice _ _ _ _=>some (.bool false)
  | some (.slice _),.slice _ _ _ _,.nils=>some (.bool false)
  | some (.map _ _),.nilm,.nilm=>some (.bool true)
  | some (.map _ _),.nilm,.map _=>some (.bool false)
  | some (.map _ _),.map _,.nilm=>some (.bool false)
  | some (.func _ _ _),.nilf,.nilf=>some (.bool true)
  | some (.func _ _ _),.nilf,.func _ _ _=>some (.bool false)
  | some (.func _ _ _),.func _ _ _,.nilf=>some (.bool false)
  | some (.struct fs),.agg xs,.agg ys =>
   if P.stoodInHeld t then none else eqParts (eqS1 P tb d) tb xs ys fs.toList
  | some (.array len elem),.agg xs,.agg ys =>
   match sizeS tb elem with
   | some n=>eqElems (eqS1 P tb d elem) tb elem n xs ys len 0
   | none=>none
  | _,_,_=>none
def isAggV:SV→Bool
 | .agg _=>true
 | _=>false
def eqTop (P:Program) (tb:Tab) (t:TypeId) (x y:SV):Option E :=
 if isAggV x then (if P.eqGuardType P.depth t then none else eqS1 P tb 40 t x y) else eqS1 P tb 40 t x y
def nonzero:E→Bool
 | .int n=>!(intB n 0)
 | _=>false
def binS (P:Program) (tb:Tab) (op:BinOp) (t:TypeId) (x y:SV):Option SV :=
 match x,y with
 | .int k a,.int k' b =>
  match op with
  | .shl | .shr=>match b with
   | .int (.ofNat _)=>some (.int k (mkAr op k a b))
   | _=>none
  | .add | .sub | .mul | .and | .or | .xor | .andNot=>if ikB k k' then some (.int k (mkAr op k a b)) else none
  | .quo | .rem=>if ikB k k' && nonzero b then some (.int k (mkAr op k a b)) else none
  | _=>if ikB k k' then some (.bool (mkCmp op a b)) else none
 | .str a,.str b =>
  match op with
  | .eql=>some (.bool (mkSeq a b))
  | .neq=>some (.bool (mkNot (mkSeq a b)))
  | _=>none
 | x,y =>
  match op with
  | .eql=>match eqTop P tb t x y with | some e=>some (.bool e) | none=>none
  | .neq=>match eqTop P tb t x y with | some e=>some (.bool (mkNot e)) | none=>none
  | _=>none
def unS (op:UnOp) (x:SV):Option SV :=
 match op,x with
 | .neg,.int k a=>some (.int k (mkAr .sub k (.int 0) a))
 | .xor,.int k a=>some (.int k (mkAr .xor k (.int (match k.signed with | true=>-1 | false=>k.max)) a))
 | .not,.bool a=>some (.bool (mkNot a))
 | _,_=>none
def convS (tb:Tab) (src dst:TypeId) (x:SV):Option SV :=
 match tb.und src,tb.und dst,x with
 | some _,some (.int k),.int _ a=>some (.int k (mkWr k a))
 | some .string,some .string,.str e=>some (.str e)
 | _,_,_=>none
def litNat:E→Option Nat
 | .int (.ofNat n)=>some n
 | _=>none
def fieldAtS (tb:Tab) (s:TypeId) (x:SV) (f:Nat):Option SV :=
 match structFields tb s,x with
 | some fs,.ptr b o=>match getI fs f with
  | some fd=>match sizeS tb fd.type with
   | some n=>if Nat.beq n 0 then none else some (.ptr b (addOff o fd.offset))
   | none=>none
  | none=>none
 | some fs,.bptr ks e i j=>match getI fs f with
  | some fd=>match sizeS tb fd.type with
   | some n=>if Nat.beq n 0 then none else some (.bptr ks e i (Nat.add j fd.offset))
   | none=>none
  | none=>none
 | some fs,.nptr b ks e i c x j=>match getI fs f with
  | some fd=>match sizeS tb fd.type with
   | some n=>if Nat.beq n 0 then none else some (.nptr b ks e i c x (Nat.add j fd.offset))
   | none=>none
  | none=>none
 | _,_=>none
def fieldS (tb:Tab) (s:TypeId) (x:SV) (f:Nat):Option SV :=
 match structFields tb s,x with
 | some fs,.agg cs=>match getI fs f with
  | some fd=>partS tb fd.type cs fd.offset
  | none=>none
 | _,_=>none
def indexAtS (tb:Tab) (t:TypeId) (x i:SV):Option SV :=
 match i with
 | .int _ (.int (.ofNat n)) =>
  match tb.und t,x with
  | some (.array len elem),.ptr b o =>
   if Nat.blt n len then match sizeS tb elem with
    | some sz=>some (.ptr b (addOff o (Nat.mul n sz)))
    | none=>none
   else none
  | some (.slice elem),.slice b o (.int (.ofNat l)) _ =>
   if Nat.blt n l then match sizeS tb elem with
    | some sz=>some (.ptr b (addOff o (Nat.mul n sz)))
    | none=>none
   else none
  | _,_=>none
 | _=>none
def indexS (tb:Tab) (t:TypeId) (x i:SV):Option SV :=
 match i with
 | .int _ (.int (.ofNat n)) =>
  match tb.und t,x with
  | some (.array len elem),.agg cs =>
   if Nat.blt n len then match sizeS tb elem with
    | some sz=>partS tb elem cs (Nat.mul n sz)
    | none=>none
   else none
  | some .string,.str (.str s) =>
   match s[n]? with
   | some b=>some (.int .u8 (.int b.toNat))
   | none=>none
  | _,_=>none
 | _=>none
def extractS (x:SV) (i:Nat):Option SV :=
 match x with
 | .tup vs=>getI vs i
 | _=>none
def fillS (place:Nat→Option (Nat × Nat)) (cells:List SV):List (Nat × SV)→Option (List SV)
 | []=>some cells
 | (i,v)::rest =>
  match place i with
  | none=>none
  | some (off,size) =>
   if Nat.beq v.cells.length size then
    match overAt cells off v.cells with
    | some cs=>fillS place cs rest
    | none=>none
   else none
def evParts (ev:Operand→Option SV):List (Nat × Operand)→Option (List (Nat × SV))
 | []=>some []
 | (i,x)::rest=>match ev x,evParts ev rest with
  | some v,some l=>some ((i,v)::l)
  | _,_=>none
def evList (ev:Operand→Option SV):List Operand→Option (List SV)
 | []=>some []
 | x::rest=>match ev x,evList ev rest with
  | some v,some l=>some (v::l)
  | _,_=>none
def placesS (tb:Tab):List Field→Option (List (Nat × Nat))
 | []=>some []
 | f::fs=>match sizeS tb f.type,placesS tb fs with
  | some n,some l=>some ((f.offset,n)::l)
  | _,_=>none
def buildS (tb:Tab) (t:TypeId) (parts:List (Nat × SV)):Option SV :=
 match zeroS tb t with
 | some z =>
  match tb.und t with
  | some (.struct fs)=>match placesS tb fs.toList with
   | some ps=>match fillS (getI ps) z.cells parts with
    | some cs=>some (.agg cs)
    | none=>none
   | none=>none
  | some (.array _ elem)=>match sizeS tb elem with
   | some sz=>match fillS (fun i=>some (Nat.mul i sz,sz)) z.cells parts with
    | some cs=>some (.agg cs)
    | none=>none
   | none=>none
  | _=>none
 | none=>none
def lenS (tb:Tab) (t:TypeId) (x:SV):Option SV :=
 match tb.und t,x with
 | some .string,.str (.str s)=>some (.int .i64 (.int s.size))
 | some (.array n _),_=>some (.int .i64 (.int n))
 | some (.slice _),.nils=>some (.int .i64 (.int 0))
 | some (.slice _),.slice _ _ l _=>match litNat l with | some n=>some (.int .i64 (.int n)) | none=>none
 | some (.map _ _),.nilm=>some (.int .i64 (.int 0))
 | _,_=>none
def capS (tb:Tab) (t:TypeId) (x:SV):Option SV :=
 match tb.und t,x with
 | some (.array n _),_=>some (.int .i64 (.int n))
 | some (.slice _),.nils=>some (.int .i64 (.int 0))
 | some (.slice _),.slice _ _ _ c=>match litNat c with | some n=>some (.int .i64 (.int n)) | none=>none
 | _,_=>none
def minmaxGo (mx:Bool) (k:IntKind):List SV→E→Option SV
 | [],a=>some (.int k a)
 | v::vs,a=>match v with
  | .int k' b=>match ikB k k' with
   | true=>minmaxGo mx k vs (match mx with | true=>mkMx a b | false=>mkMn a b)
   | false=>none
  | _=>none
def minmaxS (mx:Bool):List SV→Option SV
 | .int k a::v::vs=>minmaxGo mx k (v::vs) a
 | _=>none
def boundS (x:Option SV) (dflt y:Nat):Option Nat :=
 match x with
 | none=>some dflt
 | some (.int _ (.int (.ofNat n)))=>if Nat.ble n y then some n else none
 | some _=>none
def boundsS (len cap:Nat) (lo hi mx:Option SV):Option (Nat × Nat × Nat) :=
 match mx,hi with
 | some _,none=>none
 | _,_ =>
  match boundS mx cap cap with
  | some m=>match boundS hi len m with
   | some h=>match boundS lo 0 h with
    | some l=>if Nat.ble h m then some (l,h,m) else none
    | none=>none
   | none=>none
  | none=>none
def pickOff (o:Off) (m l sz:Nat):Off:=match Nat.beq m l with | true=>o | false=>addOff o (Nat.mul l sz)
def sliceS (tb:Tab) (t:TypeId) (x:SV) (lo hi mx:Option SV):Option SV :=
 match tb.und t,x with
 | some (.slice elem),.slice b o (.int (.ofNat len)) (.int (.ofNat cap)) =>
  match boundsS len cap lo hi mx,sizeS tb elem with
  | some (l,h,m),some sz=>some (.slice b (pickOff o m l sz) (.int (.ofNat (Nat.sub h l))) (.int (.ofNat (Nat.sub m l))))
  | _,_=>none
 | some (.slice elem),.nils =>
  match boundsS 0 0 lo hi mx,sizeS tb elem with
  | some _,some _=>some .nils
  | _,_=>none
 | some (.array n elem),.ptr b o =>
  match boundsS n n lo hi mx,sizeS tb elem with
  | some (l,h,m),some sz=>some (.slice b (pickOff o m l sz) (.int (.ofNat (Nat.sub h l))) (.int (.ofNat (Nat.sub m l))))
  | _,_=>none
 | _,_=>none
def evOpt (ev:Operand→Option SV):Option Operand→Option (Option SV)
 | none=>some none
 | some x=>match ev x with | some v=>some (some v) | none=>none
def pO_pick (P:Program) (tb:Tab) (ev:Operand→Option SV) (c:Operand) (a:Operand) (b:Operand):Option SV :=
 match ev c with
  | some (.bool (.bool true))=>ev a
  | some (.bool (.bool false))=>ev b
  | _=>none
def pO_nilCheck (P:Program) (tb:Tab) (ev:Operand→Option SV) (x:Operand):Option SV :=
 match ev x with
  | some (.ptr b o)=>some (.ptr b o)
  | some (.bptr ks e i j)=>some (.bptr ks e i j)
  | some (.nptr b ks e i c x j)=>some (.nptr b ks e i c x j)
  | _=>none
def pO_binOp (P:Program) (tb:Tab) (ev:Operand→Option SV) (op:BinOp) (t:TypeId) (x:Operand) (y:Operand):Option SV :=
 match ev x,ev y with
  | some vx,some vy=>binS P tb op t vx vy
  | _,_=>none
def pO_unOp (P:Program) (tb:Tab) (ev:Operand→Option SV) (op:UnOp) (x:Operand):Option SV :=
 match ev x with
  | some v=>unS op v
  | none=>none
def pO_convert (P:Program) (tb:Tab) (ev:Operand→Option SV) (src:TypeId) (dst:TypeId) (x:Operand):Option SV :=
 match ev x with
  | some v=>convS tb src dst v
  | none=>none
def pO_fieldAddr (P:Program) (tb:Tab) (ev:Operand→Option SV) (s:TypeId) (x:Operand) (f:Nat):Option SV :=
 match ev x with
  | some v=>fieldAtS tb s v f
  | none=>none
def pO_field (P:Program) (tb:Tab) (ev:Operand→Option SV) (s:TypeId) (x:Operand) (f:Nat):Option SV :=
 match ev x with
  | some v=>fieldS tb s v f
  | none=>none
def pO_indexAddr (P:Program) (tb:Tab) (ev:Operand→Option SV) (t:TypeId) (x:Operand) (i:Operand):Option SV :=
 match ev x,ev i with
  | some v,some w=>indexAtS tb t v w
  | _,_=>none
def pO_index (P:Program) (tb:Tab) (ev:Operand→Option SV) (t:TypeId) (x:Operand) (i:Operand):Option SV :=
 match ev x,ev i with
  | some v,some w=>indexS tb t v w
  | _,_=>none
def pO_extract (P:Program) (tb:Tab) (ev:Operand→Option SV) (x:Operand) (i:Nat):Option SV :=
 match ev x with
  | some v=>extractS v i
  | none=>none
def pO_build (P:Program) (tb:Tab) (ev:Operand→Option SV) (t:TypeId) (parts:Array (Nat × Operand)):Option SV :=
 match evParts ev parts.toList with
  | some ps=>buildS tb t ps
  | none=>none
def pO_makeFunc (P:Program) (tb:Tab) (ev:Operand→Option SV) (fn:Fn) (fi:Array Operand) (ca:Array Operand):Option SV :=
 match evList ev fi.toList,evList ev ca.toList with
  | some a,some b=>some (.func fn a b)
  | _,_=>none
def pO_slice (P:Program) (tb:Tab) (ev:Operand→Option SV) (t:TypeId) (x:Operand) (lo:Option Operand) (hi:Option Operand) (mx:Option Operand):Option SV :=
 match ev x,evOpt ev lo,evOpt ev hi,evOpt ev mx with
  | some v,some l,some h,some m=>sliceS tb t v l h m
  | _,_,_,_=>none
def pO_call (P:Program) (tb:Tab) (ev:Operand→Option SV) (c:Call):Option SV :=
 match c.callee with
  | .builtin b=>match evList ev c.args.toList with
   | some vs=>match b with
    | .len=>match getI c.argTypes.toList 0,getI vs 0 with
     | some t,some v=>lenS tb t v
     | _,_=>none
    | .cap=>match getI c.argTypes.toList 0,getI vs 0 with
     | some t,some v=>capS tb t v
     | _,_=>none
    | .min=>minmaxS false vs
    | .max=>minmaxS true vs
    | _=>none
   | none=>none
  | _=>none
noncomputable def pureOp (P:Program) (tb:Tab) (ev:Operand→Option SV) (o:Op):Option SV :=
 Op.rec (motive:=fun _=>Option SV)
  (fun x=>ev x)
  (fun x=>ev x)
  (fun c a b=>pO_pick P tb ev c a b)
  (fun _=>none)
  (fun _ _=>none)
  (fun t parts=>pO_build P tb ev t parts)
  (fun _ _ _=>none)
  (fun _ _ _ _=>none)
  (fun _ _=>none)
  (fun _ _ _=>none)
  (fun _=>none)
  (fun _=>none)
  (fun x=>pO_nilCheck P tb ev x)
  (fun op t x y _=>pO_binOp P tb ev op t x y)
  (fun op _ x=>pO_unOp P tb ev op x)
  (fun src dst x=>pO_convert P tb ev src dst x)
  (fun _ _=>none)
  (fun _ _=>none)
  (fun fn fi ca=>pO_makeFunc P tb ev fn fi ca)
  (fun _ _=>none)
  (fun _ _=>none)
  (fun _ _ _=>none)
  (fun t x lo hi mx=>pO_slice P tb ev t x lo hi mx)
  (fun s x f=>pO_fieldAddr P tb ev s x f)
  (fun s x f=>pO_field P tb ev s x f)
  (fun t x i=>pO_indexAddr P tb ev t x i)
  (fun t x i=>pO_index P tb ev t x i)
  (fun _ _ _ _=>none)
  (fun _ _ _ _=>none)
  (fun _ _ _=>none)
  (fun _ _ _ _=>none)
  (fun _ _=>none)
  (fun _ _=>none)
  (fun _=>none)
  (fun _ _ _ _=>none)
  (fun x i=>pO_extract P tb ev x i)
  (fun c=>pO_call P tb ev c)
  (fun _=>none)
  (fun _=>none)
  (fun _=>none)
  (fun _ _=>none)
  (fun _ _ _=>none)
  (fun _ _=>none)
  o
theorem pureOp_eq  (P:Program) (tb:Tab) (ev:Operand→Option SV) (o:Op):pureOp P tb ev o=(match o with
 | .move x=>ev x
 | .assign x=>ev x
 | .pick c a b=>pO_pick P tb ev c a b
 | .nilCheck x=>pO_nilCheck P tb ev x
 | .binOp op t x y _=>pO_binOp P tb ev op t x y
 | .unOp op _ x=>pO_unOp P tb ev op x
 | .convert src dst x=>pO_convert P tb ev src dst x
 | .fieldAddr s x f=>pO_fieldAddr P tb ev s x f
 | .field s x f=>pO_field P tb ev s x f
 | .indexAddr t x i=>pO_indexAddr P tb ev t x i
 | .index t x i=>pO_index P tb ev t x i
 | .extract x i=>pO_extract P tb ev x i
 | .build t parts=>pO_build P tb ev t parts
 | .makeFunc fn fi ca=>pO_makeFunc P tb ev fn fi ca
 | .slice t x lo hi mx=>pO_slice P tb ev t x lo hi mx
 | .call c=>pO_call P tb ev c
 | _=>none):=by cases o <;> rfl
def isIn0 (e:E):List E→Bool
 | []=>false
 | x::xs=>match x.beq e with | true=>true | false=>isIn0 e xs
def isIn (e:E) (l:List E):Bool:=forceK (codeE e) fun c=>isIn0 e (filtC c l)
def isAnd:E→Bool
 | .and _ _=>true
 | _=>false
def andIn (pc:List E) (a:E):Bool:=match isAnd a with | true=>isIn a pc | false=>false
def allIn (pc:List E):E→Bool
 | .and a b=>match andIn pc a with
  | true=>allIn pc b
  | false=>match allIn pc a with | true=>allIn pc b | false=>false
 | e=>isIn e pc
def hasE0 (pc:List E) (e:E):List E→Bool
 | []=>false
 | x::xs=>match x with
  | .imp p c=>match c.beq e with
   | true=>match allIn pc p with
    | true=>true
    | false=>hasE0 pc e xs
   | false=>hasE0 pc e xs
  | _=>match x.beq e with
   | true=>true
   | false=>hasE0 pc e xs
def hasE (pc:List E) (e:E) (l:List E):Bool:=forceK (codeE e) fun n=>hasE0 pc e (filtT n l)
def maxO (a:Option Int) (b:Int):Option Int :=
 match a with
 | some x=>some (maxI x b)
 | none=>some b
def minO (a:Option Int) (b:Int):Option Int :=
 match a with
 | some x=>some (minI x b)
 | none=>some b
def loIn (c:E):List E→Option Int→Option Int
 | [],r=>r
 | e::es,r=>match e with
  | .not (.cmp .lss a (.int k))=>match (baseE a).beq c with
   | true=>loIn c es (maxO r (k - offE a))
   | false=>loIn c es r
  | .cmp .lss (.int k) a=>match (baseE a).beq c with
   | true=>loIn c es (maxO r (k + 1 - offE a))
   | false=>loIn c es r
  | .cmp .eql a (.int k)=>match (baseE a).beq c with
   | true=>loIn c es (maxO r (k - offE a))
   | false=>loIn c es r
  | _=>loIn c es r
def hiIn (c:E):List E→Option Int→Option Int
 | [],r=>r
 | e::es,r=>match e with
  | .not (.cmp .lss (.int k) a)=>match (baseE a).beq c with
   | true=>hiIn c es (minO r (k - offE a))
   | false=>hiIn c es r
  | .cmp .lss a (.int k)=>match (baseE a).beq c with
   | true=>hiIn c es (minO r (k - 1 - offE a))
   | false=>hiIn c es r
  | .cmp .eql a (.int k)=>match (baseE a).beq c with
   | true=>hiIn c es (minO r (k - offE a))
   | false=>hiIn c es r
  | _=>hiIn c es r
def natForm:E→Bool
 | .fn f _=>match f with
  | 0=>true
  | 9=>true
  | 13=>true
  | 22=>true
  | 26=>true
  | 29=>true
  | _=>false
 | _=>false
def neIn (c:E) (k:Int):List E→Bool
 | []=>false
 | e::es=>match e with
  | .not (.cmp .eql a (.int j))=>match (baseE a).beq c && intB (j - offE a) k with
   | true=>true
   | false=>neIn c k es
  | _=>neIn c k es
def bumpLo (pc:List E) (c:E):Nat→Int→Int
 | 0,k=>k
 | n + 1,k=>match neIn c k pc with
  | true=>bumpLo pc c n (k + 1)
  | false=>k
def bumpHi (pc:List E) (c:E):Nat→Int→Int
 | 0,k=>k
 | n + 1,k=>match neIn c k pc with
  | true=>bumpHi pc c n (k - 1)
  | false=>k
def loOf0 (c:E) (pc:List E):Option Int :=
 match loIn c pc (match natForm c with | true=>some 0 | false=>none) with
 | some k=>some (bumpLo pc c 4 k)
 | none=>none
def hiOf0 (c:E) (pc:List E):Option Int :=
 match hiIn c pc none with
 | some k=>some (bumpHi pc c 4 k)
 | none=>none
def loOf (pc:List E) (c:E):Option Int:=forceK (codeE c) fun n=>loOf0 c (filtB n pc)
def hiOf (pc:List E) (c:E):Option Int:=forceK (codeE c) fun n=>hiOf0 c (filtB n pc)
def leI (a b:Int):Bool:=cmpI .leq a b
def ltI (a b:Int):Bool:=cmpI .lss a b
def boundE (pc:List E) (e:E):Option Bool :=
 match e with
 | .cmp .lss a (.int k)=>match loOf pc (baseE a) with
  | some x=>match leI k (x + offE a) with
   | true=>some false
   | false=>match hiOf pc (baseE a) with
    | some y=>match ltI (y + offE a) k with
     | true=>some true
     | false=>none
    | none=>none
  | none=>match hiOf pc (baseE a) with
   | some y=>match ltI (y + offE a) k with
    | true=>some true
    | false=>none
   | none=>none
 | .cmp .lss (.int k) a=>match loOf pc (baseE a) with
  | some x=>match ltI k (x + offE a) with
   | true=>some true
   | false=>match hiOf pc (baseE a) with
    | some y=>match leI (y + offE a) k with
     | true=>some false
     | false=>none
    | none=>none
  | none=>match hiOf pc (baseE a) with
   | some y=>match leI (y + offE a) k with
    | true=>some false
    | false=>none
   | none=>none
 | .cmp .eql a (.int k)=>match loOf pc (baseE a) with
  | some x=>match ltI k (x + offE a) with
   | true=>some false
   | false=>match hiOf pc (baseE a) with
    | some y=>match ltI (y + offE a) k with
     | true=>some false
     | false=>match intB (x + offE a) k && intB (y + offE a) k with
      | true=>some true
      | false=>none
    | none=>none
  | none=>match hiOf pc (baseE a) with
   | some y=>match ltI (y + offE a) k with
    | true=>some false
    | false=>none
   | none=>none
 | _=>none
def notO:Option Bool→Option Bool
 | some b=>some (!b)
 | none=>none
def knownQ (fs pc:List E) (e:E):Option Bool :=
 match hasE pc e pc with
  | true=>some true
  | false=>match hasE pc (mkNot e) pc with
   | true=>some false
   | false=>match hasE pc e fs with
    | true=>some true
    | false=>match hasE pc (mkNot e) fs with
     | true=>some false
     | false=>match e with
      | .not x=>notO (boundE pc x)
      | _=>boundE pc e
noncomputable def litB (e:E):Option Bool:=E.rec (motive:=fun _=>Option Bool) (fun _=>none) some (fun _=>none) (fun _=>none) (fun _ _ _ _ _ _=>none) (fun _ _ _ _ _=>none) (fun _ _ _ _=>none) (fun _ _ _ _=>none) (fun _ _ _=>none) (fun _ _=>none) (fun _ _ _ _=>none) (fun _ _ _ _=>none) (fun _ _ _ _=>none) (fun _ _ _ _=>none) (fun _ _ _=>none) (fun _ _ _ _=>none) e
noncomputable def knownE (fs pc:List E) (e:E):Option Bool:=Option.rec (motive:=fun _=>Option Bool) (knownQ fs pc e) some (litB e)
theorem knownE_eq (fs pc:List E) (e:E):knownE fs pc e=(match e with
 | .bool b=>some b
 | _=>knownQ fs pc e):=by cases e <;> rfl
def ltE (fs pc:List E) (a b:E):Bool :=
 match knownE fs pc (mkCmp .lss a b) with
 | some true=>true
 | _=>false
def geE (fs pc:List E) (a b:E):Bool :=
 match knownE fs pc (mkCmp .lss a b) with
 | some false=>true
 | _=>false
def nonneg (fs pc:List E) (e:E):Bool :=
 match natForm e with
 | true=>true
 | false=>geE fs pc e (.int 0)
inductive Rz where
 | lit (j:Nat)
 | ask (e:E)
 | lack (e:E)
def whichOf (fs pc:List E) (i:E):Nat→Nat→Rz
 | 0,_=>.lack (.bool false)
 | n + 1,j=>match knownE fs pc (mkCmp .eql i (.int (.ofNat j))) with
  | some true=>.lit j
  | some false=>whichOf fs pc i n (Nat.succ j)
  | none=>.ask (mkCmp .eql i (.int (.ofNat j)))
def litOff (o:Off):Option Nat:=match o.scale with | 0=>some o.base | _=>none
def loadS (tb:Tab) (st:St) (t:TypeId) (x:SV):Option SV :=
 match x with
 | .ptr b o=>match st.heap.get b with
  | some ⟨_,.cells cs _ _⟩=>match litOff o with
   | some n=>match isAggS tb t with
    | some true=>match sizeS tb t with
     | some sz=>match takeI (dropI cs n) sz with
      | some l=>some (.agg l)
      | none=>none
     | none=>none
    | some false=>getI cs n
    | none=>none
   | none=>none
  | _=>none
 | _=>none
def storeS (tb:Tab) (st:St) (t:TypeId) (x v:SV):Option St :=
 match x with
 | .ptr b o=>match st.heap.get b with
  | some ⟨true,.cells cs tot elem⟩=>match litOff o with
   | some n=>match sizeS tb t with
    | some sz=>if Nat.beq v.cells.length sz && allOne v.cells then
      match overAt cs n v.cells with
      | some cs'=>T.setK st.heap b ⟨true,.cells cs' tot elem⟩ fun h=>some { st with heap:=h }
      | none=>none
     else none
    | none=>none
   | none=>none
  | _=>none
 | _=>none
def newS (tmps:Tm) (st:St) (elem:TypeId) (cs:List SV):Option (SV × St) :=
 if st.scp && tmScoped st.nv st.nb tmps && SV.scps st.nv st.nb cs then
  T.insK st.heap st.nb ⟨true,.cells cs (.int (.ofNat cs.length)) elem⟩ fun h=>some (.ptr st.nb ⟨0,0,.int 0⟩,{ st with nb:=Nat.succ st.nb,heap:=h })
 else none
def repeatCells (z:List SV):Nat→List SV
 | 0=>[]
 | n + 1=>z++repeatCells z n
inductive EffR where
 | val (v:SV) (st:St)
 | skip (st:St)
 | ask (e:E)
 | lack (e:E)
 | bad
def EffR.ofVal:Option SV→St→EffR
 | some v,st=>.val v st
 | none,_=>.bad
def EffR.ofPair:Option (SV × St)→EffR
 | some (v,st)=>.val v st
 | none=>.bad
noncomputable def isJunk (v:SV):Bool :=
 SV.rec (motive_1:=fun _=>Bool) (motive_2:=fun _=>Bool) (fun _ _=>false) (fun _=>false) (fun _=>false) false (fun _ _=>false) false (fun _ _ _ _=>false)
  (fun _ _ _=>false) (fun _ _=>false) (fun _ _ _ _=>false) false (fun _=>false) false false (fun _ _ _ _ _=>false) (fun _ _=>false) (fun _ _=>false) true
  (fun _ _ _ _ _=>false) (fun _ _ _ _ _ _ _=>false)
  false (fun _ _ _ _=>false) v
noncomputable def evGet (v:SV):Option SV:=Bool.rec (some v) none (isJunk v)
noncomputable def evTmp (x:Option SV):Option SV:=Option.rec (motive:=fun _=>Option SV) (some .undef) evGet x
noncomputable def evalS (tmps:Tm) (x:Operand):Option SV :=
 Operand.rec (motive:=fun _=>Option SV) (fun t=>evTmp (tmps.get t)) ofVal (fun _=>none) (fun f=>some (.func (.func f) [] [])) x
theorem evalS_tmp (tmps:Tm) (t:Tmp):evalS tmps (.tmp t)=(match tmps.get t with
  | some v=>match v with
   | .junk=>none
   | _=>some v
  | none=>some .undef):=by
 show evTmp (tmps.get t)=_
 cases tmps.get t with
 | none=>rfl
 | some v=>cases v <;> rfl
theorem evalS_global (tmps:Tm) (g:Nat):evalS tmps (.global g)=none:=rfl
theorem evalS_func (tmps:Tm) (f:FuncId):evalS tmps (.func f)=some (.func (.func f) [] []):=rfl
def lenI {α:Type}:List α→Nat
 | []=>0
 | _::xs=>Nat.succ (lenI xs)
def rowsB (w:Nat) (e:E):E :=
 match e with
 | .fn 24 (.pr _ (.pr l (.pr h _)))=>match l with
  | .int (.ofNat 0)=>h
  | _=>.fn 29 (.pr h l)
 | .fn 28 (.pr (.pr _ n) _)=>n
 | .fn 30 _=>.int 0
 | e=>match w with | 1=>mkLen e | _=>.fn 9 (.pr e (.int (.ofNat w)))
def capB (e:E):E :=
 match e with
 | .fn 24 (.pr _ (.pr l (.pr _ m)))=>match l with
  | .int (.ofNat 0)=>m
  | _=>.fn 29 (.pr m l)
 | .fn 30 _=>.int 0
 | e=>.fn 22 e
def mkPos (w:Nat) (idx:E) (j:Nat):E :=
 match w with
 | 1=>idx
 | _=>match idx with
  | .int n=>.int (n * .ofNat w + .ofNat j)
  | _=>.fn 6 (.pr (.fn 8 (.pr idx (.int (.ofNat w)))) (.int (.ofNat j)))
def nthP (fs pc:List E):E→E→E
 | .fn 2 (.pr l' (.pr j v)),i=>match i.beq j with
  | true=>v
  | false=>match i,j with
   | .int (.ofNat _),.int (.ofNat _)=>nthP fs pc l' i
   | _,_=>match knownE fs pc (mkCmp .eql i j) with
    | some true=>match geE fs pc j (.int 0) with
     | true=>v
     | false=>.fn 1 (.pr (.fn 2 (.pr l' (.pr j v))) i)
    | some false=>match geE fs pc j (.int 0) with
     | true=>nthP fs pc l' i
     | false=>.fn 1 (.pr (.fn 2 (.pr l' (.pr j v))) i)
    | none=>.fn 1 (.pr (.fn 2 (.pr l' (.pr j v))) i)
 | .fn 3 (.pr a b),i=>match ltE fs pc i (mkLen a) with
  | true=>nthP fs pc a i
  | false=>match geE fs pc i (mkLen a) with
   | true=>nthP fs pc b (mkIsub i (mkLen a))
   | false=>.fn 1 (.pr (.fn 3 (.pr a b)) i)
 | .fn 23 (.pr x r),i=>match i with
  | .int (.ofNat n)=>match n with
   | 0=>x
   | n + 1=>nthP fs pc r (.int (.ofNat n))
  | _=>.fn 1 (.pr (.fn 23 (.pr x r)) i)
 | .fn 5 (.pr n x),i=>x
 | .fn 11 x,i=>x
 | .fn 21 (.pr r c),i=>nthP fs pc c i
 | .fn 28 (.pr r c),i=>nthP fs pc c i
 | .fn 24 (.pr (.pr (.int (.ofNat 1)) e) (.pr l m)),i=>match geE fs pc l (.int 0) with
  | true=>nthP fs pc e (mkIadd l i)
  | false=>.fn 1 (.pr (.fn 24 (.pr (.pr (.int (.ofNat 1)) e) (.pr l m))) i)
 | l,i=>.fn 1 (.pr l i)
inductive FA where
 | at (idx:E) (j:Nat)
 | lack (e:E)
 | bad
def flatIn (fs pc:List E) (n idx:E) (j:Nat):FA :=
 match ltE fs pc idx n with
 | true=>.at idx j
 | false=>.lack (mkCmp .lss idx n)
def flatAt (fs pc:List E) (w:Nat) (n:E) (o:Off):FA :=
 match w with
 | 0=>.bad
 | _=>match o.scale with
  | 0=>flatIn fs pc n (.int (.ofNat (Nat.div o.base w))) (Nat.mod o.base w)
  | s=>match Nat.beq s w with
   | true=>match nonneg fs pc o.idx with
    | true=>flatIn fs pc n (mkIadd o.idx (.int (.ofNat (Nat.div o.base w)))) (Nat.mod o.base w)
    | false=>.lack (mkNot (mkCmp .lss o.idx (.int 0)))
   | false=>.bad
def cellOf (c:CK) (e:E):SV :=
 match c with
 | .int k=>.int k e
 | .bool=>.bool e
 | .str=>.str e
 | .slc ks=>.bsl ks e
def cellsAt (fs pc:List E) (ks:List CK) (w:Nat) (l idx:E):Nat→Nat→Option (List SV)
 | 0,_=>some []
 | n + 1,j=>match getI ks j with
  | some c=>match cellsAt fs pc ks w l idx n (Nat.succ j) with
   | some vs=>some (cellOf c (nthP fs pc l (mkPos w idx j))::vs)
   | none=>none
  | none=>none
def loadAtF (tb:Tab) (st:St) (t:TypeId) (ks:List CK) (l idx:E) (j:Nat):EffR :=
 match isAggS tb t with
 | some true=>match sizeS tb t with
  | some sz=>match cellsAt tb.facts st.pc ks (lenI ks) l idx sz j with
   | some vs=>.val (.agg vs) st
   | none=>.bad
  | none=>.bad
 | some false=>match cellsAt tb.facts st.pc ks (lenI ks) l idx 1 j with
  | some vs=>match vs with
   | [v]=>.val v st
   | _=>.bad
  | none=>.bad
 | none=>.bad
def hdE:E→E
 | .fn 21 (.pr x _)=>hdE x
 | e=>e
def contE (e:E):E:=match e with
 | .fn 21 (.pr _ c)=>c
 | .fn 28 (.pr _ c)=>c
 | e=>e
def cellNest (b:Nat) (c:CK) (e idx:E) (j:Nat):SV :=
 match c with
 | .int k=>.int k e
 | .bool=>.bool e
 | .str=>.str e
 | .slc ks=>.nsl b ks e idx j
def cellsNest (fs pc:List E) (b:Nat) (ks:List CK) (w:Nat) (l idx:E):Nat→Nat→Option (List SV)
 | 0,_=>some []
 | n + 1,j=>match getI ks j with
  | some c=>match cellsNest fs pc b ks w l idx n (Nat.succ j) with
   | some vs=>some (cellNest b c (nthP fs pc l (mkPos w idx j)) idx j::vs)
   | none=>none
  | none=>none
def loadAtN (tb:Tab) (st:St) (t:TypeId) (b:Nat) (ks:List CK) (l idx:E) (j:Nat):EffR :=
 match isAggS tb t with
 | some true=>match sizeS tb t with
  | some sz=>match cellsNest tb.facts st.pc b ks (lenI ks) l idx sz j with
   | some vs=>.val (.agg vs) st
   | none=>.bad
  | none=>.bad
 | some false=>match cellsNest tb.facts st.pc b ks (lenI ks) l idx 1 j with
  | some vs=>match vs with
   | [v]=>.val v st
   | _=>.bad
  | none=>.bad
 | none=>.bad
inductive NA where
 | at (cur p:E)
 | lack (e:E)
 | bad
def nestCur (e cur p:E):NA:=match (hdE cur).beq (hdE e) with | true=>.at cur p | false=>.bad
def nestAt (fs pc:List E) (h:T Blk) (b:Nat) (ks:List CK) (e idx:E) (c:Nat):NA :=
 match h.get b with
 | some ⟨true,.nest ks0 l n _ _⟩=>match getI ks0 c with
  | some (.slc ks')=>match ksB ks ks' with
   | true=>match nonneg fs pc idx with
    | true=>match ltE fs pc idx n with
     | true=>nestCur e (nthP fs pc l (mkPos (lenI ks0) idx c)) (mkPos (lenI ks0) idx c)
     | false=>.lack (mkCmp .lss idx n)
    | false=>.lack (mkNot (mkCmp .lss idx (.int 0)))
   | false=>.bad
  | _=>.bad
 | _=>.bad
def loadF (tb:Tab) (st:St) (t:TypeId) (x:SV):EffR :=
 match x with
 | .ptr b o=>match st.heap.get b with
  | some ⟨_,.flat ks l n _ _⟩=>match flatAt tb.facts st.pc (lenI ks) n o with
   | .at idx j=>loadAtF tb st t ks l idx j
   | .lack e=>.lack e
   | .bad=>.bad
  | some ⟨_,.nest ks l n _ _⟩=>match flatAt tb.facts st.pc (lenI ks) n o with
   | .at idx j=>loadAtN tb st t b ks l idx j
   | .lack e=>.lack e
   | .bad=>.bad
  | _=>.bad
 | .bptr ks e idx j=>loadAtF tb st t ks e idx j
 | .nptr b ks e idx c x j=>match nestAt tb.facts st.pc st.heap b ks e idx c with
  | .at cur _=>loadAtF tb st t ks cur x j
  | .lack e=>.lack e
  | .bad=>.bad
 | _=>.bad
def fitsCK (c:CK) (v:SV):Option E :=
 match c,v with
 | .int k,.int k' e=>match ikB k k' with | true=>some e | false=>none
 | .bool,.bool e=>some e
 | .str,.str e=>some e
 | .slc ks,.bsl ks' e=>match ksB ks ks' with | true=>some e | false=>none
 | .slc _,.nils=>some (.fn 30 (.int 0))
 | _,_=>none
def putCells (ks:List CK) (w:Nat) (idx:E):List SV→Nat→E→Option E
 | [],_,l=>some l
 | v::vs,j,l=>match getI ks j with
  | some c=>match fitsCK c v with
   | some e=>putCells ks w idx vs (Nat.succ j) (mkUpd l (mkPos w idx j) e)
   | none=>none
  | none=>none
def plainK (c:CK) (v:SV):Bool :=
 match c,v with
 | .slc _,.nils=>true
 | .slc _,_=>false
 | _,_=>true
def plainKs:List CK→Nat→List SV→Bool
 | _,_,[]=>true
 | ks,j,v::vs=>match getI ks j with
  | some c=>plainK c v && plainKs ks (Nat.succ j) vs
  | none=>false
def setNest (st:St) (b:Nat) (l':E):EffR :=
 match st.heap.get b with
 | some ⟨true,.nest ks _ n tot elem⟩=>T.setK st.heap b ⟨true,.nest ks l' n tot elem⟩ fun h=>.skip { st with heap:=h }
 | _=>.bad
def nestL (st:St) (b:Nat):E :=
 match st.heap.get b with
 | some ⟨_,.nest _ l _ _ _⟩=>l
 | _=>.int 0
def storeN (tb:Tab) (st:St) (t:TypeId) (b:Nat) (ks:List CK) (x:E) (j:Nat) (v:SV) (cur p:E):EffR :=
 match sizeS tb t with
 | some sz=>match Nat.beq v.cells.length sz && Nat.ble j (lenI ks) with
  | true=>match putCells ks (lenI ks) x v.cells j (contE cur) with
   | some c'=>setNest st b (mkUpd (nestL st b) p (.fn 21 (.pr (hdE cur) c')))
   | none=>.bad
  | false=>.bad
 | none=>.bad
def storeF (tb:Tab) (st:St) (t:TypeId) (x v:SV):EffR :=
 match x with
 | .nptr b ks e idx c x j=>match nestAt tb.facts st.pc st.heap b ks e idx c with
  | .at cur p=>storeN tb st t b ks x j v cur p
  | .lack e=>.lack e
  | .bad=>.bad
 | .ptr b o=>match st.heap.get b with
  | some ⟨true,.flat ks l n tot elem⟩=>match flatAt tb.facts st.pc (lenI ks) n o with
   | .at idx j=>match sizeS tb t with
    | some sz=>match Nat.beq v.cells.length sz with
     | true=>match putCells ks (lenI ks) idx v.cells j l with
      | some l'=>T.setK st.heap b ⟨true,.flat ks l' n tot elem⟩ fun h=>.skip { st with heap:=h }
      | none=>.bad
     | false=>.bad
    | none=>.bad
   | .lack e=>.lack e
   | .bad=>.bad
  | some ⟨true,.nest ks l n tot elem⟩=>match flatAt tb.facts st.pc (lenI ks) n o with
   | .at idx j=>match sizeS tb t with
    | some sz=>match Nat.beq v.cells.length sz && plainKs ks j v.cells with
     | true=>match putCells ks (lenI ks) idx v.cells j l with
      | some l'=>T.setK st.heap b ⟨true,.nest ks l' n tot elem⟩ fun h=>.skip { st with heap:=h }
      | none=>.bad
     | false=>.bad
    | none=>.bad
   | .lack e=>.lack e
   | .bad=>.bad
  | _=>.bad
 | _=>.bad
def addIdx (fs pc:List E) (o:Off) (sz:Nat) (i:E):Option Off :=
 match o.scale with
 | 0=>some ⟨o.base,sz,i⟩
 | s=>match Nat.beq s sz with
  | true=>match nonneg fs pc o.idx with
   | true=>some ⟨o.base,sz,mkIadd o.idx i⟩
   | false=>none
  | false=>none
def lit (k:IntKind) (j:Nat):SV:=.int k (.int (.ofNat j))
def atR (tb:Tab) (st:St) (e:E) (n:Nat) (f:Nat→Option SV):EffR :=
 match whichOf tb.facts st.pc e n 0 with
 | .lit j=>.ofVal (f j) st
 | .ask e=>.ask e
 | .lack e=>.lack e
inductive BK where
 | cells | flat (n:E) | other
def kindOf (st:St) (b:Nat):BK :=
 match st.heap.get b with
 | some ⟨_,.flat _ _ n _ _⟩=>.flat n
 | some ⟨_,.nest _ _ n _ _⟩=>.flat n
 | some ⟨_,.cells _ _ _⟩=>.cells
 | _=>.other
def inB (tb:Tab) (st:St) (e l:E) (k:EffR):EffR :=
 match nonneg tb.facts st.pc e with
 | true=>match ltE tb.facts st.pc e l with
  | true=>k
  | false=>.lack (mkCmp .lss e l)
 | false=>.lack (mkNot (mkCmp .lss e (.int 0)))
def idxAddrF (tb:Tab) (st:St) (t:TypeId) (x i:SV):EffR :=
 match i with
 | .int k e=>match tb.und t with
  | some (.array len _)=>match x with
   | .ptr _ _=>atR tb st e len fun j=>indexAtS tb t x (lit k j)
   | _=>.bad
  | some (.slice elem)=>match sizeS tb elem with
   | some sz=>match x with
    | .slice b o l _=>match kindOf st b with
     | .flat _=>inB tb st e l (match addIdx tb.facts st.pc o sz e with
      | some o'=>.val (.ptr b o') st
      | none=>.bad)
     | _=>match litNat l with
      | some n=>atR tb st e n fun j=>indexAtS tb t x (lit k j)
      | none=>.bad
    | .nslice b l _=>match kindOf st b with
     | .flat n=>inB tb st e l (match ltE tb.facts st.pc e n with
      | true=>.val (.ptr b ⟨0,sz,e⟩) st
      | false=>.lack (mkCmp .lss e n))
     | .cells=>match litNat l with
      | some n=>atR tb st e n fun j=>match Nat.blt j n with
       | true=>some (.ptr b ⟨Nat.mul j sz,0,.int 0⟩)
       | false=>none
      | none=>.bad
     | .other=>.bad
    | .bsl ks y=>match Nat.beq (lenI ks) sz && Nat.blt 0 sz with
     | true=>inB tb st e (rowsB sz y) (.val (.bptr ks y e 0) st)
     | false=>.bad
    | .nsl b ks y idx c=>match Nat.beq (lenI ks) sz && Nat.blt 0 sz with
     | true=>match nestAt tb.facts st.pc st.heap b ks y idx c with
      | .at cur _=>inB tb st e (rowsB sz cur) (.val (.nptr b ks y idx c e 0) st)
      | .lack e=>.lack e
      | .bad=>.bad
     | false=>.bad
    | _=>.bad
   | none=>.bad
  | _=>.bad
 | _=>.bad
def idxF (tb:Tab) (st:St) (t:TypeId) (x i:SV):EffR :=
 match i with
 | .int k e=>match tb.und t with
  | some (.array len _)=>atR tb st e len fun j=>indexS tb t x (lit k j)
  | _=>.bad
 | _=>.bad
def lenV (tb:Tab) (st:St) (e:E):EffR :=
 match nonneg tb.facts st.pc e with
 | true=>.val (.int .i64 e) st
 | false=>.lack (mkNot (mkCmp .lss e (.int 0)))
def lenF (tb:Tab) (st:St) (c:Bool) (t:TypeId) (x:SV):EffR :=
 match tb.und t with
 | some (.slice elem)=>match x with
  | .slice _ _ l m=>lenV tb st (match c with | true=>m | false=>l)
  | .nslice _ l m=>lenV tb st (match c with | true=>m | false=>l)
  | .bsl ks e=>match ks with
   | []=>.bad
   | _=>lenV tb st (match c with | true=>capB e | false=>rowsB (lenI ks) e)
  | .nsl b ks e idx j=>match ks with
   | []=>.bad
   | _=>match nestAt tb.facts st.pc st.heap b ks e idx j with
    | .at cur _=>lenV tb st (match c with | true=>capB (hdE cur) | false=>rowsB (lenI ks) cur)
    | .lack e=>.lack e
    | .bad=>.bad
  | _=>.bad
 | some .string=>match c with
  | true=>.bad
  | false=>match x with
   | .str e=>.val (.int .i64 (.fn 13 e)) st
   | _=>.bad
 | some (.map _ _)=>match c with
  | true=>.bad
  | false=>match x with
  | .map b=>match st.heap.get b with
   | some ⟨_,.map es _⟩=>.val (.int .i64 (.int (.ofNat (lenI es)))) st
   | some ⟨_,.mapl _ _ e⟩=>.val (.int .i64 (.fn 0 e)) st
   | _=>.bad
  | _=>.bad
 | _=>.bad
def leB (fs pc:List E) (a b:E):Bool:=geE fs pc b a
def optE (d:E):Option SV→Option E
 | none=>some d
 | some (.int _ e)=>some e
 | some _=>none
def boundsE (fs pc:List E) (c lo hi mx:E) (hlo hhi hmx:Bool):Option E :=
 match hlo && !(nonneg fs pc lo) with
 | true=>some (mkNot (mkCmp .lss lo (.int 0)))
 | false=>match hhi && !(nonneg fs pc hi) with
  | true=>some (mkNot (mkCmp .lss hi (.int 0)))
  | false=>match hmx && !(nonneg fs pc mx) with
   | true=>some (mkNot (mkCmp .lss mx (.int 0)))
   | false=>match hmx && !(leB fs pc mx c) with
    | true=>some (mkNot (mkCmp .lss c mx))
    | false=>match hhi && !(leB fs pc hi mx) with
     | true=>some (mkNot (mkCmp .lss mx hi))
     | false=>match hlo && !(leB fs pc lo hi) with
      | true=>some (mkNot (mkCmp .lss hi lo))
      | false=>none
def isSomeV:Option SV→Bool | some _=>true | none=>false
def moved (fs pc:List E) (lo hi mx:E):Option Bool :=
 match ltE fs pc lo hi && leB fs pc hi mx with
 | true=>some true
 | false=>match knownE fs pc (mkCmp .eql mx lo) with
  | some true=>some false
  | some false=>some true
  | none=>none
def zeroE:E→Bool
 | .int (.ofNat n)=>Nat.beq n 0
 | _=>false
def cutB (fs pc:List E) (len cap lo hi mx:E) (hlo hhi hmx:Bool):Option E :=
 match hlo && !(nonneg fs pc lo) with
 | true=>some (mkNot (mkCmp .lss lo (.int 0)))
 | false=>match hhi && !(nonneg fs pc hi) with
  | true=>some (mkNot (mkCmp .lss hi (.int 0)))
  | false=>match hmx && !(nonneg fs pc mx) with
   | true=>some (mkNot (mkCmp .lss mx (.int 0)))
   | false=>match hmx && !(leB fs pc mx cap || leB fs pc mx len) with
    | true=>some (mkNot (mkCmp .lss len mx))
    | false=>match hhi && !(leB fs pc hi len) with
     | true=>some (mkNot (mkCmp .lss len hi))
     | false=>match hmx && !(leB fs pc hi mx) with
      | true=>some (mkNot (mkCmp .lss mx hi))
      | false=>match hlo && !(leB fs pc lo hi) with
       | true=>some (mkNot (mkCmp .lss hi lo))
       | false=>none
def lackOf (fs pc:List E):List E→E
 | []=>.bool false
 | c::cs=>match knownE fs pc c with
  | some true=>lackOf fs pc cs
  | _=>c
def cutF (tb:Tab) (st:St) (sz:Nat) (x:SV) (lo hi mx:E):EffR :=
 match x with
 | .nslice b _ c=>match zeroE lo with
  | true=>.val (.nslice b hi mx) st
  | false=>match moved tb.facts st.pc lo hi mx with
   | some false=>match leB tb.facts st.pc hi mx && leB tb.facts st.pc lo hi with
    | true=>.val (.nslice b (.int 0) (.int 0)) st
    | false=>.lack (lackOf tb.facts st.pc [mkNot (mkCmp .lss mx hi),mkNot (mkCmp .lss hi lo)])
   | some true=>match st.heap.get b with
    | some ⟨_,.flat _ _ _ tot _⟩=>match leB tb.facts st.pc c tot && (leB tb.facts st.pc mx c && (nonneg tb.facts st.pc lo && (leB tb.facts st.pc lo hi && leB tb.facts st.pc hi mx))) with
     | true=>.val (.slice b ⟨0,sz,lo⟩ (mkIsub hi lo) (mkIsub mx lo)) st
     | false=>.lack (lackOf tb.facts st.pc [mkNot (mkCmp .lss tot c),mkNot (mkCmp .lss c mx),mkNot (mkCmp .lss lo (.int 0)),mkNot (mkCmp .lss hi lo),mkNot (mkCmp .lss mx hi)])
    | some ⟨_,.cells _ _ _⟩=>match litNat lo with
     | some n=>match leB tb.facts st.pc lo hi && leB tb.facts st.pc hi mx with
      | true=>.val (.slice b ⟨Nat.mul n sz,0,.int 0⟩ (mkIsub hi lo) (mkIsub mx lo)) st
      | false=>.bad
     | none=>.bad
    | _=>.bad
   | none=>.ask (mkCmp .eql mx lo)
 | .slice b o _ _=>match zeroE lo with
  | true=>.val (.slice b o hi mx) st
  | false=>match moved tb.facts st.pc lo hi mx with
   | some false=>match leB tb.facts st.pc hi mx && leB tb.facts st.pc lo hi with
    | true=>.val (.slice b o (.int 0) (.int 0)) st
    | false=>.bad
   | some true=>match nonneg tb.facts st.pc lo && (leB tb.facts st.pc lo hi && leB tb.facts st.pc hi mx) with
    | true=>match litNat lo with
     | some n=>.val (.slice b (addOff o (Nat.mul n sz)) (mkIsub hi lo) (mkIsub mx lo)) st
     | none=>match addIdx tb.facts st.pc o sz lo with
      | some o'=>.val (.slice b o' (mkIsub hi lo) (mkIsub mx lo)) st
      | none=>.bad
    | false=>.bad
   | none=>.ask (mkCmp .eql mx lo)
 | _=>.bad
def lenCap:SV→Option (E × E)
 | .slice _ _ l c=>some (l,c)
 | .nslice _ l c=>some (l,c)
 | _=>none
def sliceF (tb:Tab) (st:St) (t:TypeId) (x:SV) (lo hi mx:Option SV):EffR :=
 match tb.und t with
 | some (.slice elem)=>match sizeS tb elem with
  | some sz=>match isSomeV mx && !(isSomeV hi) with
   | true=>.bad
   | false=>match x with
    | .bsl ks e=>match Nat.beq (lenI ks) sz && Nat.blt 0 sz with
     | true=>match optE (.int 0) lo,optE (rowsB sz e) hi,optE (capB e) mx with
      | some lo',some hi',some mx'=>match cutB tb.facts st.pc (rowsB sz e) (capB e) lo' hi' mx' (isSomeV lo) (isSomeV hi) (isSomeV mx) with
       | some e=>.lack e
       | none=>.val (.bsl ks (.fn 24 (.pr (.pr (.int (.ofNat sz)) e) (.pr lo' (.pr hi' mx'))))) st
      | _,_,_=>.bad
     | false=>.bad
    | _=>match lenCap x with
     | some (l,c)=>match optE (.int 0) lo,optE l hi,optE c mx with
      | some lo',some hi',some mx'=>match boundsE tb.facts st.pc c lo' hi' mx' (isSomeV lo) (isSomeV hi) (isSomeV mx) with
       | some e=>.lack e
       | none=>cutF tb st sz x lo' hi' mx'
      | _,_,_=>.bad
     | none=>.bad
  | none=>.bad
 | _=>.bad
def eqInts:List SV→List SV→Nat→Option E
 | [],[],0=>some (.bool true)
 | x::xs,y::ys,n + 1=>match x,y with
  | .int k a,.int k' b=>match ikB k k',eqInts xs ys n with
   | true,some e=>some (mkAnd (mkCmp .eql a b) e)
   | _,_=>none
  | _,_=>none
 | _,_,_=>none
def eqKey (tb:Tab) (t:TypeId) (x y:SV):Option E :=
 match tb.und t with
 | some (.array len elem)=>match tb.und elem with
  | some (.int _)=>match sizeS tb elem,isAggS tb elem with
   | some 1,some false=>match x,y with
    | .agg xs,.agg ys=>eqInts xs ys len
    | _,_=>none
   | _,_=>none
  | _=>none
 | some .bool=>match x,y with
  | .bool a,.bool b=>mkBeq a b
  | _,_=>none
 | some (.int _)=>match x,y with
  | .int k a,.int k' b=>match ikB k k' with
   | true=>some (mkCmp .eql a b)
   | false=>none
  | _,_=>none
 | some .string=>match x,y with
  | .str a,.str b=>some (mkSeq a b)
  | _,_=>none
 | _=>none
inductive FR where
 | at (i:Nat) (v:SV) (born:E)
 | no
 | ask (e:E)
 | bad
def findS (tb:Tab) (pc:List E) (kt:TypeId) (k:SV):List Ent→Nat→FR
 | [],_=>.no
 | x::es,i=>match eqKey tb kt k x.k with
  | some e=>match knownE tb.facts pc e with
   | some true=>.at i x.v x.born
   | some false=>findS tb pc kt k es (Nat.succ i)
   | none=>.ask e
  | none=>.bad
def keyFine (tb:Tab) (kt:TypeId) (k:SV):Bool :=
 match eqKey tb kt k k with
 | some _=>true
 | none=>false
def commaS (ok:Bool) (v:SV) (is:E):SV:=match ok with | true=>.tup [v,.bool is] | false=>v
def lookF (tb:Tab) (st:St) (t:TypeId) (x k:SV) (ok:Bool):EffR :=
 match tb.und t with
 | some (.map kt vt)=>match zeroS tb vt,keyFine tb kt k with
  | some z,true=>match x with
   | .nilm=>.val (commaS ok z (.bool false)) st
   | .map b=>match st.heap.get b with
    | some ⟨_,.map es _⟩=>match findS tb st.pc kt k es 0 with
     | .at _ v _=>.val (commaS ok v (.bool true)) st
     | .no=>.val (commaS ok z (.bool false)) st
     | .ask e=>.ask e
     | .bad=>.bad
    | some ⟨_,.mapl k0 c e⟩=>match k,fitsCK c z with
     | .int k1 ke,some ze=>match ikB k1 k0 with
      | true=>.val (commaS ok (cellOf c (.fn 32 (.pr e (.pr ke ze)))) (.fn 33 (.pr e ke))) st
      | false=>.bad
     | _,_=>.bad
    | _=>.bad
   | _=>.bad
  | _,_=>.bad
 | _=>.bad
def eO_load (tb:Tab) (tmps:Tm) (st:St) (t:TypeId) (x:Operand):EffR :=
 match evalS tmps x with
  | some v=>match loadS tb st t v with
   | some u=>.val u st
   | none=>loadF tb st t v
  | none=>.bad
def eO_store (tb:Tab) (tmps:Tm) (st:St) (t:TypeId) (x:Operand) (y:Operand):EffR :=
 match evalS tmps x,evalS tmps y with
  | some v,some w=>match storeS tb st t v w with
   | some st'=>.skip st'
   | none=>storeF tb st t v w
  | _,_=>.bad
def eO_indexAddr (tb:Tab) (tmps:Tm) (st:St) (t:TypeId) (x:Operand) (i:Operand):EffR :=
 match evalS tmps x,evalS tmps i with
  | some v,some w=>idxAddrF tb st t v w
  | _,_=>.bad
def eO_index (tb:Tab) (tmps:Tm) (st:St) (t:TypeId) (x:Operand) (i:Operand):EffR :=
 match evalS tmps x,evalS tmps i with
  | some v,some w=>idxF tb st t v w
  | _,_=>.bad
def eO_call (tb:Tab) (tmps:Tm) (st:St) (c:Call):EffR :=
 match c.callee with
  | .builtin b=>match getI c.argTypes.toList 0,evList (evalS tmps) c.args.toList with
   | some t,some vs=>match getI vs 0 with
    | some v=>match b with
     | .len=>lenF tb st false t v
     | .cap=>lenF tb st true t v
     | _=>.bad
    | none=>.bad
   | _,_=>.bad
  | _=>.bad
def eO_slice (tb:Tab) (tmps:Tm) (st:St) (t:TypeId) (x:Operand) (lo:Option Operand) (hi:Option Operand) (mx:Option Operand):EffR :=
 match evalS tmps x,evOpt (evalS tmps) lo,evOpt (evalS tmps) hi,evOpt (evalS tmps) mx with
  | some v,some l,some h,some m=>sliceF tb st t v l h m
  | _,_,_,_=>.bad
def eO_lookup (tb:Tab) (tmps:Tm) (st:St) (t:TypeId) (x:Operand) (k:Operand) (ok:Bool):EffR :=
 match evalS tmps x,evalS tmps k with
  | some v,some w=>lookF tb st t v w ok
  | _,_=>.bad
def eO_box (tb:Tab) (tmps:Tm) (st:St) (elem:TypeId) (x:Operand):EffR :=
 match evalS tmps x with
  | some v=>.ofPair (newS tmps st elem v.cells)
  | none=>.bad
def eO_alloc (tb:Tab) (tmps:Tm) (st:St) (elem:TypeId):EffR :=
 match zeroS tb elem with
  | some v=>.ofPair (newS tmps st elem v.cells)
  | none=>.bad
def eO_buildSlice (tb:Tab) (tmps:Tm) (st:St) (t:TypeId) (len:Nat) (parts:Array (Nat × Operand)):EffR :=
 match tb.und t,evParts (evalS tmps) parts.toList with
  | some (.slice elem),some ps=>match sizeS tb elem,zeroS tb elem with
   | some sz,some z=>if Nat.ble (Nat.mul len sz) 16777216 && Nat.beq z.cells.length sz then match fillS (fun i=>some (Nat.mul i sz,sz)) (repeatCells z.cells len) ps with
    | some cs=>match newS tmps st elem cs with
     | some (.ptr b o,st')=>.val (.slice b o (.int (.ofNat len)) (.int (.ofNat len))) st'
     | _=>.bad
    | none=>.bad
    else .bad
   | _,_=>.bad
  | _,_=>.bad
def divF (tb:Tab) (st:St) (op:BinOp) (k:IntKind) (a:E) (k':IntKind) (b:E):EffR :=
 match ikB k k' with
 | true=>match knownE tb.facts st.pc (mkCmp .eql b (.int 0)) with
  | some false=>match op with
   | .quo=>.val (.int k (mkAr .quo k a b)) st
   | .rem=>.val (.int k (mkAr .rem k a b)) st
   | _=>.bad
  | _=>match op with
   | .quo=>.lack (mkNot (mkCmp .eql b (.int 0)))
   | .rem=>.lack (mkNot (mkCmp .eql b (.int 0)))
   | _=>.bad
 | false=>.bad
def eO_binOp (tb:Tab) (tmps:Tm) (st:St) (op:BinOp) (t:TypeId) (x:Operand) (y:Operand):EffR :=
 match evalS tmps x,evalS tmps y with
  | some (.int k a),some (.int k' b)=>divF tb st op k a k' b
  | some (.ptr a i),some (.ptr b j) =>
   match tb.und t with
   | some (.pointer elem)=>match sizeS tb elem with
    | some (Nat.succ _)=>match st.heap.get a,st.heap.get b,litOff i,litOff j with
     | some ⟨own1,.cells (_::_) _ _⟩,some ⟨own2,.cells (_::_) _ _⟩,some m,some n =>
      match own1 || own2 with
      | true=>match op with
       | .eql=>.val (.bool (.bool (Nat.beq a b && Nat.beq m n))) st
       | .neq=>.val (.bool (.bool (!(Nat.beq a b && Nat.beq m n)))) st
       | _=>.bad
      | false=>.bad
     | _,_,_,_=>.bad
    | _=>.bad
   | _=>.bad
  | _,_=>.bad
def eO_pick (tb:Tab) (tmps:Tm) (st:St) (c:Operand) (a:Operand) (b:Operand):EffR :=
 match evalS tmps c with
  | some (.bool e)=>match knownE tb.facts st.pc e with
   | some true=>.ofVal (evalS tmps a) st
   | some false=>.ofVal (evalS tmps b) st
   | none=>.ask e
  | _=>.bad
noncomputable def effOp (tb:Tab) (tmps:Tm) (st:St) (o:Op):EffR :=
 Op.rec (motive:=fun _=>EffR)
  (fun _=>.bad)
  (fun _=>.bad)
  (fun c a b=>eO_pick tb tmps st c a b)
  (fun elem=>eO_alloc tb tmps st elem)
  (fun elem x=>eO_box tb tmps st elem x)
  (fun _ _=>.bad)
  (fun t len parts=>eO_buildSlice tb tmps st t len parts)
  (fun _ _ _ _=>.bad)
  (fun t x=>eO_load tb tmps st t x)
  (fun t x y=>eO_store tb tmps st t x y)
  (fun _=>.bad)
  (fun _=>.bad)
  (fun _=>.bad)
  (fun op t x y _=>eO_binOp tb tmps st op t x y)
  (fun _ _ _=>.bad)
  (fun _ _ _=>.bad)
  (fun _ _=>.bad)
  (fun _ _=>.bad)
  (fun _ _ _=>.bad)
  (fun _ _=>.bad)
  (fun _ _=>.bad)
  (fun _ _ _=>.bad)
  (fun t x lo hi mx=>eO_slice tb tmps st t x lo hi mx)
  (fun _ _ _=>.bad)
  (fun _ _ _=>.bad)
  (fun t x i=>eO_indexAddr tb tmps st t x i)
  (fun t x i=>eO_index tb tmps st t x i)
  (fun t x k ok=>eO_lookup tb tmps st t x k ok)
  (fun _ _ _ _=>.bad)
  (fun _ _ _=>.bad)
  (fun _ _ _ _=>.bad)
  (fun _ _=>.bad)
  (fun _ _=>.bad)
  (fun _=>.bad)
  (fun _ _ _ _=>.bad)
  (fun _ _=>.bad)
  (fun c=>eO_call tb tmps st c)
  (fun _=>.bad)
  (fun _=>.bad)
  (fun _=>.bad)
  (fun _ _=>.bad)
  (fun _ _ _=>.bad)
  (fun _ _=>.bad)
  o
theorem effOp_eq  (tb:Tab) (tmps:Tm) (st:St) (o:Op):effOp tb tmps st o=(match o with
 | .load t x=>eO_load tb tmps st t x
 | .store t x y=>eO_store tb tmps st t x y
 | .indexAddr t x i=>eO_indexAddr tb tmps st t x i
 | .index t x i=>eO_index tb tmps st t x i
 | .call c=>eO_call tb tmps st c
 | .slice t x lo hi mx=>eO_slice tb tmps st t x lo hi mx
 | .lookup t x k ok=>eO_lookup tb tmps st t x k ok
 | .box elem x=>eO_box tb tmps st elem x
 | .alloc elem=>eO_alloc tb tmps st elem
 | .buildSlice t len parts=>eO_buildSlice tb tmps st t len parts
 | .binOp op t x y _=>eO_binOp tb tmps st op t x y
 | .pick c a b=>eO_pick tb tmps st c a b
 | _=>.bad):=by cases o <;> rfl
def ksParts (f:TypeId→Option (List CK)):List Field→Option (List CK)
 | []=>some []
 | fd::fds=>match f fd.type,ksParts f fds with
  | some a,some b=>some (a++b)
  | _,_=>none
def ksTimes (l:List CK):Nat→List CK
 | 0=>[]
 | n + 1=>l++ksTimes l n
def ksType (tb:Tab):Nat→TypeId→Option (List CK)
 | 0,_=>none
 | d + 1,t=>match tb.und t with
  | some (.int k)=>some [.int k]
  | some .bool=>some [.bool]
  | some .string=>some [.str]
  | some (.slice e)=>match ksType tb d e with
   | some ks=>some [.slc ks]
   | none=>none
  | some (.struct fs)=>ksParts (ksType tb d) fs.toList
  | some (.array n e)=>match ksType tb d e with
   | some ks=>some (ksTimes ks n)
   | none=>none
  | _=>none
def fitsAll:List CK→List SV→Option (List E)
 | [],[]=>some []
 | c::cs,v::vs=>match fitsCK c v,fitsAll cs vs with
  | some e,some l=>some (e::l)
  | _,_=>none
 | _,_=>none
def listOf (ks:List CK) (n:Nat) (vs:List SV):Option E :=
 match fitsAll (ksTimes ks n) vs with
 | some l=>some (mkList l)
 | none=>none
inductive Held where
 | cells (vs:List SV)
 | list (ks:List CK) (l n:E)
def subE (w:Nat) (l n lo len:E):E :=
 match zeroE lo && len.beq n with
 | true=>l
 | false=>match w with
  | 1=>.fn 4 (.pr l (.pr lo (mkIadd lo len)))
  | _=>match zeroE lo with
   | true=>.fn 18 (.pr l (.fn 8 (.pr len (.int (.ofNat w)))))
   | false=>.fn 4 (.pr l (.pr (.fn 8 (.pr lo (.int (.ofNat w)))) (.fn 8 (.pr (mkIadd lo len) (.int (.ofNat w))))))
def offRow (w:Nat) (o:Off):Option E :=
 match o.scale with
 | 0=>match Nat.beq (Nat.mod o.base w) 0 with
  | true=>some (.int (.ofNat (Nat.div o.base w)))
  | false=>none
 | s=>match Nat.beq s w && Nat.beq o.base 0 with
  | true=>some o.idx
  | false=>none
def contS (tb:Tab) (st:St) (sz:Nat) (v:SV):Option Held :=
 match v with
 | .nils=>some (.cells [])
 | .bsl ks e=>match Nat.beq (lenI ks) sz && Nat.blt 0 sz with
  | true=>some (.list ks e (rowsB sz e))
  | false=>none
 | .slice b o len _=>match st.heap.get b with
  | some ⟨_,.cells cs _ _⟩=>match litNat len,litOff o with
   | some n,some m=>match takeI (dropI cs m) (Nat.mul n sz) with
    | some l=>match allOne l with
     | true=>some (.cells l)
     | false=>none
    | none=>none
   | _,_=>none
  | some ⟨_,.flat ks l n _ _⟩=>match Nat.beq (lenI ks) sz && Nat.blt 0 sz,offRow sz o with
   | true,some lo=>match nonneg tb.facts st.pc lo && (nonneg tb.facts st.pc len && leB tb.facts st.pc (mkIadd lo len) n) with
    | true=>some (.list ks (subE sz l n lo len) len)
    | false=>none
   | _,_=>none
  | _=>none
 | .nslice b len _=>match st.heap.get b with
  | some ⟨_,.cells cs _ _⟩=>match litNat len with
   | some n=>match takeI cs (Nat.mul n sz) with
    | some l=>match allOne l with
     | true=>some (.cells l)
     | false=>none
    | none=>none
   | none=>none
  | some ⟨_,.flat ks l n _ _⟩=>match Nat.beq (lenI ks) sz && Nat.blt 0 sz with
   | true=>match nonneg tb.facts st.pc len && leB tb.facts st.pc len n with
    | true=>some (.list ks (subE sz l n (.int 0) len) len)
    | false=>none
   | false=>none
  | _=>none
 | _=>none
def scpAllV (tmps:Tm) (st:St):Bool:=st.scp && tmScoped st.nv st.nb tmps
def totE (sz:Nat) (c:E):E:=match sz with | 1=>c | _=>.fn 8 (.pr c (.int (.ofNat sz)))
def objOf (sz:Nat) (elem:TypeId) (ct:Held) (c:E):SObj :=
 match ct with
 | .cells vs=>.cells vs (totE sz c) elem
 | .list ks l n=>.flat ks l n c elem
def Held.scp (nv nb:Nat):Held→Bool
 | .cells vs=>SV.scps nv nb vs
 | .list _ l n=>l.scp nv && n.scp nv
def growS (tmps:Tm) (st:St) (sz:Nat) (elem:TypeId) (ct:Held) (need:E):Option (SV × St) :=
 let c:=E.var st.nv
 match scpAllV tmps st && (need.scp st.nv && ct.scp st.nv st.nb) with
 | true=>T.insK st.heap st.nb ⟨true,objOf sz elem ct c⟩ fun h=>some (.nslice st.nb need c,⟨Nat.succ st.nv,Nat.succ st.nb,h,mkNot (mkCmp .lss c need)::mkNot (mkCmp .lss c (.int 0))::st.pc⟩)
 | false=>none
def preApp (l l':E):E :=
 match isNilE l with
 | true=>l'
 | false=>.fn 3 (.pr l l')
def appC (sz:Nat) (n m:Option Nat) (a b:Held):Option Held :=
 match a,b with
 | .cells x,.cells y=>some (.cells (x++y))
 | .list ks l n,.list ks' l' n'=>match ksB ks ks' with
  | true=>some (.list ks (mkApp l l') (mkIadd n n'))
  | false=>none
 | .list ks l n,.cells y=>match m with
  | some m=>match listOf ks m y with
   | some l'=>some (.list ks (mkApp l l') (mkIadd n (.int (.ofNat m))))
   | none=>none
  | none=>none
 | .cells x,.list ks l' n'=>match n with
  | some n=>match listOf ks n x with
   | some l=>some (.list ks (preApp l l') (mkIadd (.int (.ofNat n)) n'))
   | none=>none
  | none=>none
def lenOfV (sz:Nat) (v:SV):Option E :=
 match v with
 | .nils=>some (.int 0)
 | .slice _ _ l _=>some l
 | .nslice _ l _=>some l
 | .bsl _ e=>some (rowsB sz e)
 | _=>none
def capOfV (v:SV):Option E :=
 match v with
 | .nils=>some (.int 0)
 | .slice _ _ _ c=>some c
 | .nslice _ _ c=>some c
 | .bsl _ e=>some (capB e)
 | _=>none
inductive Eff2 where
 | val (v:SV) (st:St)
 | skip (st:St)
 | ask (e:E)
 | lack (e:E)
 | bad
def appLim:E:=.int 2147483648
def totIs (sz:Nat) (c tot:E):Bool :=
 match litNat c with
 | some n=>(E.int (.ofNat (Nat.mul n sz))).beq tot
 | none=>(totE sz c).beq tot
def wholeS (st:St) (sz:Nat) (elem:TypeId) (v:SV):Option Nat :=
 match v with
 | .nslice b _ c=>match st.heap.get b with
  | some ⟨true,.flat ks _ _ tot e⟩=>match c.beq tot && (Nat.beq (lenI ks) sz && Nat.beq e elem) with | true=>some b | false=>none
  | some ⟨true,.cells _ tot e⟩=>match totIs sz c tot && Nat.beq e elem with | true=>some b | false=>none
  | _=>none
 | .slice b o _ c=>match litOff o with
  | some 0=>match st.heap.get b with
   | some ⟨true,.cells _ tot e⟩=>match totIs sz c tot && Nat.beq e elem with | true=>some b | false=>none
   | _=>none
  | _=>none
 | _=>none
def bytesS (tb:Tab) (t:TypeId):Option Nat :=
 match tb.ty.get t with
 | some i=>some i.bytes
 | none=>none
def newObjS (old:SObj) (ct:Held):Option SObj :=
 match old,ct with
 | .cells _ tot e,.cells vs=>some (.cells vs tot e)
 | .flat _ _ _ tot e,.list ks l n=>some (.flat ks l n tot e)
 | _,_=>none
def heldFits (old:SObj) (ct:Held):Bool :=
 match old,ct with
 | .cells _ _ _,_=>true
 | .flat _ _ _ _ _,.list _ _ _=>true
 | _,_=>false
def takeS (tmps:Tm) (st:St) (b:Nat) (sz:Nat) (elem:TypeId) (ct:Held) (need:E):Option (SV × St) :=
 match st.heap.get b with
 | some ⟨_,old⟩=>match heldFits old ct with
  | true=>T.setK st.heap b ⟨true,.gone⟩ fun h=>growS tmps { st with heap:=h } sz elem ct need
  | false=>none
 | none=>none
def isBsl:SV→Bool
 | .bsl _ _=>true
 | _=>false
def Eff2.ofPair:Option (SV × St)→Eff2
 | some (v,st)=>.val v st
 | none=>.bad
def isSliceT (tb:Tab) (t:TypeId):Bool :=
 match tb.und t with
 | some (.slice _)=>true
 | _=>false
def zeroK (fs pc:List E) (e:E):Bool :=
 match zeroE e with
 | true=>true
 | false=>match knownE fs pc (mkCmp .eql e (.int 0)) with
  | some true=>true
  | _=>false
def lackNN (fs pc:List E) (ls lx c:E):E :=
 match nonneg fs pc ls with
 | false=>mkNot (mkCmp .lss ls (.int 0))
 | true=>match nonneg fs pc lx with
  | false=>mkNot (mkCmp .lss lx (.int 0))
  | true=>mkNot (mkCmp .lss c (.int 0))
def appendC (tb:Tab) (tmps:Tm) (st:St) (elem:TypeId) (sz:Nat) (s:SV) (a b:Held) (ls lx c:E):Eff2 :=
 match appC sz (litNat ls) (litNat lx) a b with
 | some ct =>
  let need:=mkIadd ls lx
  match nonneg tb.facts st.pc ls && (nonneg tb.facts st.pc lx && nonneg tb.facts st.pc c) with
  | true=>match leB tb.facts st.pc need appLim with
   | true=>match knownE tb.facts st.pc (mkCmp .lss c need) with
    | some true=>.ofPair (growS tmps st sz elem ct need)
    | some false=>match zeroK tb.facts st.pc lx with
     | true=>.val s st
     | false=>match wholeS st sz elem s with
      | some b=>match st.heap.get b with
       | some ⟨_,old⟩=>match newObjS old ct with
        | some obj=>T.setK st.heap b ⟨true,obj⟩ fun h=>.val (.nslice b need c) { st with heap:=h }
        | none=>.lack (mkCmp .eql lx (.int 0))
       | none=>.lack (mkCmp .eql lx (.int 0))
      | none=>.lack (mkCmp .eql lx (.int 0))
    | none=>match wholeS st sz elem s with
     | some b=>.ofPair (takeS tmps st b sz elem ct need)
     | none=>match isBsl s with
      | true=>match knownE tb.facts st.pc (mkCmp .eql lx (.int 0)) with
       | some true=>.val s st
       | some false=>.lack (mkCmp .lss c need)
       | none=>.ask (mkCmp .eql lx (.int 0))
      | false=>match s with
       | .nils=>match knownE tb.facts st.pc (mkCmp .eql lx (.int 0)) with
        | some true=>.val s st
        | some false=>.lack (mkCmp .lss c need)
        | none=>.ask (mkCmp .eql lx (.int 0))
       | _=>.ask (mkCmp .lss c need)
   | false=>.lack (mkNot (mkCmp .lss appLim need))
  | false=>.lack (lackNN tb.facts st.pc ls lx c)
 | none=>.bad
def contLack (tb:Tab) (st:St) (sz:Nat) (v:SV):Option E :=
 match v with
 | .nslice b len _=>match st.heap.get b with
  | some ⟨_,o⟩=>match o with
   | .flat _ _ n _ _=>some (lackOf tb.facts st.pc [mkNot (mkCmp .lss len (.int 0)),mkNot (mkCmp .lss n len)])
   | _=>none
  | none=>none
 | .slice b off len _=>match st.heap.get b with
  | some ⟨_,o⟩=>match o with
   | .flat _ _ n _ _=>match offRow sz off with
    | some lo=>some (lackOf tb.facts st.pc [mkNot (mkCmp .lss lo (.int 0)),mkNot (mkCmp .lss len (.int 0)),mkNot (mkCmp .lss n (mkIadd lo len))])
    | none=>none
   | _=>none
  | none=>none
 | _=>none
def lackOr (x:Option E):Eff2 :=
 match x with
 | some e=>.lack e
 | none=>.bad
def repE (c pat:E):E :=
 match pat with
 | .fn 23 (.pr e (.fn 10 _))=>.fn 5 (.pr c e)
 | _=>.fn 17 (.pr c pat)
def zerosS (tb:Tab) (st:St) (elem xt:TypeId) (z x:SV):Option (Held × E) :=
 match tb.und xt with
 | some (.int .i64)=>match x with
  | .int .i64 n=>match litNat n with
   | some m=>match Nat.ble m 4096 && allOne (repeatCells z.cells m) with
    | true=>some (.cells (repeatCells z.cells m),.int (.ofNat m))
    | false=>none
   | none=>match ksType tb 12 elem with
    | some ks=>match listOf ks 1 z.cells with
     | some pat=>match nonneg tb.facts st.pc n && (leB tb.facts st.pc n (.int 4096) && Nat.blt 0 (lenI ks)) with
      | true=>some (.list ks (repE n pat) n,n)
      | false=>none
     | none=>none
    | none=>none
  | _=>none
 | _=>none
def zerosLack (tb:Tab) (st:St) (x:SV):Option E :=
 match x with
 | .int .i64 n=>match litNat n with
  | some _=>none
  | none=>some (lackOf tb.facts st.pc [mkNot (mkCmp .lss n (.int 0)),mkNot (mkCmp .lss (.int 4096) n)])
 | _=>none
def appendF (tb:Tab) (tmps:Tm) (st:St) (t xt:TypeId) (s x:SV):Eff2 :=
 match tb.und t with
 | some (.slice elem)=>match sizeS tb elem,bytesS tb elem,zeroS tb elem with
  | some sz,some bytes,some z=>match Nat.blt 0 bytes && (Nat.ble bytes 32768 && (Nat.blt 0 sz && Nat.beq z.cells.length sz)) with
   | true=>match contS tb st sz s,lenOfV sz s,capOfV s with
    | some a,some ls,some c=>match isSliceT tb xt with
     | true=>match contS tb st sz x,lenOfV sz x with
      | some b,some lx=>appendC tb tmps st elem sz s a b ls lx c
      | _,_=>lackOr (contLack tb st sz x)
     | false=>match zerosS tb st elem xt z x with
      | some (b,lx)=>appendC tb tmps st elem sz s a b ls lx c
      | none=>lackOr (zerosLack tb st x)
    | _,_,_=>lackOr (contLack tb st sz s)
   | false=>.bad
  | _,_,_=>.bad
 | _=>.bad
def makeBigF (tb:Tab) (tmps:Tm) (st:St) (elem:TypeId) (z:SV) (n c:E):Eff2 :=
 match ksType tb 12 elem with
 | some ks=>match listOf ks 1 z.cells with
  | some pat=>match scpAllV tmps st && (n.scp st.nv && (c.scp st.nv && (pat.scp st.nv && Nat.blt 0 (lenI ks)))) with
   | true=>T.insK st.heap st.nb ⟨true,.flat ks (repE c pat) c c elem⟩ fun h=>.val (.nslice st.nb n c) { st with nb:=Nat.succ st.nb,heap:=h }
   | false=>.bad
  | none=>.bad
 | none=>.bad
def makeSliceF (tb:Tab) (tmps:Tm) (st:St) (t:TypeId) (n c:SV):Eff2 :=
 match tb.und t with
 | some (.slice elem)=>match sizeS tb elem,bytesS tb elem,zeroS tb elem with
  | some sz,some bytes,some z=>match Nat.beq z.cells.length sz && (Nat.blt 0 sz && Nat.ble bytes 32768) with
   | true=>match n,c with
    | .int .i64 n,.int .i64 c=>match nonneg tb.facts st.pc n && leB tb.facts st.pc n c with
     | true=>match leB tb.facts st.pc c appLim with
      | true=>match litNat c with
       | some m=>match Nat.ble (Nat.mul m sz) 256 && n.scp st.nv with
        | true=>match newS tmps st elem (repeatCells z.cells m) with
         | some (.ptr b _,st')=>.val (.nslice b n c) st'
         | _=>.bad
        | false=>makeBigF tb tmps st elem z n c
       | none=>makeBigF tb tmps st elem z n c
      | false=>.lack (mkNot (mkCmp .lss appLim c))
     | false=>match nonneg tb.facts st.pc n with
      | true=>.lack (mkNot (mkCmp .lss c n))
      | false=>.lack (mkNot (mkCmp .lss n (.int 0)))
    | _,_=>.bad
   | false=>.bad
  | _,_,_=>.bad
 | _=>.bad
def putS (st:St) (b off:Nat) (ws:List SV) (v:SV):Eff2 :=
 match st.heap.get b with
 | some ⟨true,.cells cs tot e⟩=>match overAt cs off ws with
  | some cs'=>T.setK st.heap b ⟨true,.cells cs' tot e⟩ fun h=>.val v { st with heap:=h }
  | none=>.bad
 | _=>.bad
def copyF (tb:Tab) (st:St) (t xt:TypeId) (d s:SV):Eff2 :=
 match tb.und t,isSliceT tb xt with
 | some (.slice elem),true=>match sizeS tb elem with
  | some sz=>match lenOfV sz d,lenOfV sz s,contS tb st sz s with
   | some ld,some ls,some ct=>match ct with
    | .cells vs=>match litNat ld,litNat ls with
     | some n,some m=>match Nat.ble m n with
      | true=>match d with
       | .nils=>.val (.int .i64 (.int 0)) st
       | .slice b o _ _=>match litOff o with
        | some off=>putS st b off vs (.int .i64 (.int (.ofNat m)))
        | none=>.bad
       | .nslice b _ _=>putS st b 0 vs (.int .i64 (.int (.ofNat m)))
       | _=>.bad
      | false=>.bad
     | _,_=>.bad
    | .list ks l n=>match d with
     | .nslice b _ _=>match st.heap.get b with
      | some ⟨true,.flat ks' _ n' tot e⟩=>match ksB ks ks' && (ld.beq ls && (nonneg tb.facts st.pc ls && leB tb.facts st.pc ld n')) with
       | true=>T.setK st.heap b ⟨true,.flat ks l n tot e⟩ fun h=>.val (.int .i64 ls) { st with heap:=h }
       | false=>match ksB ks ks' && ld.beq ls with
        | true=>.lack (lackOf tb.facts st.pc [mkNot (mkCmp .lss ls (.int 0)),mkNot (mkCmp .lss n' ld)])
        | false=>.bad
      | _=>match litNat ls with
       | some m=>match m with
        | 0=>.val (.int .i64 (.int 0)) st
        | _ + 1=>.bad
       | none=>.bad
     | _=>.bad
   | _,_,_=>lackOr (contLack tb st sz s)
  | none=>.bad
 | _,_=>.bad
def roomC (fs pc:List E) (m:Nat) (tot:E):Bool :=
 match leB fs pc (.int (.ofNat m)) tot with
 | true=>true
 | false=>match tot with
  | .fn f (.pr c (.int (.ofNat k)))=>match Nat.beq f 8,Nat.blt 0 k with
   | true,true=>leB fs pc (.int (.ofNat (Nat.div (Nat.pred (Nat.add m k)) k))) c
   | _,_=>false
  | _=>false
def clear0 (tb:Tab) (st:St) (elem:TypeId) (b:Nat) (o:Off) (z:SV):Eff2 :=
 match storeS tb st elem (.ptr b o) z with
 | some st'=>.val .undef st'
 | none=>match storeF tb st elem (.ptr b o) z with
  | .skip st'=>.val .undef st'
  | .ask e=>.ask e
  | .lack e=>.lack e
  | _=>.bad
def clear1 (tb:Tab) (st:St) (elem:TypeId) (b:Nat) (o:Off):Eff2 :=
 match sizeS tb elem,zeroS tb elem with
 | some sz,some z=>match Nat.beq z.cells.length sz && allOne z.cells with
  | true=>match st.heap.get b with
   | some ⟨true,.cells cs tot e'⟩=>match litOff o with
    | some off=>match Nat.ble cs.length off with
     | true=>match roomC tb.facts st.pc (Nat.add off z.cells.length) tot with
      | true=>T.setK st.heap b ⟨true,.cells cs tot e'⟩ fun h=>.val .undef { st with heap:=h }
      | false=>.lack (mkNot (mkCmp .lss tot (.int (.ofNat (Nat.add off z.cells.length)))))
     | false=>clear0 tb st elem b o z
    | none=>.bad
   | some ⟨true,.flat ks l n tot e'⟩=>match flatAt tb.facts st.pc (lenI ks) tot o with
    | .at idx j=>match Nat.beq j 0 && (Nat.beq z.cells.length (lenI ks) && leB tb.facts st.pc n idx) with
     | true=>T.setK st.heap b ⟨true,.flat ks l n tot e'⟩ fun h=>.val .undef { st with heap:=h }
     | false=>clear0 tb st elem b o z
    | .lack e=>.lack e
    | .bad=>.bad
   | _=>.bad
  | false=>.bad
 | _,_=>.bad
def clearF (tb:Tab) (st:St) (t:TypeId) (v:SV):Eff2 :=
 match tb.und t with
 | some (.slice elem)=>match v with
  | .slice b o n _=>match litNat n with
   | some m=>match m with
    | 0=>.val .undef st
    | k + 1=>match k with
     | 0=>clear1 tb st elem b o
     | _ + 1=>.bad
   | none=>match knownE tb.facts st.pc (mkCmp .eql n (.int 1)) with
    | some true=>clear1 tb st elem b o
    | _=>.lack (mkCmp .eql n (.int 1))
  | .nslice b n _=>match st.heap.get b,litNat n with
   | some ⟨true,.cells _ _ _⟩,some m=>match m with
    | 0=>.val .undef st
    | k + 1=>match k with
     | 0=>clear1 tb st elem b ⟨0,0,.int 0⟩
     | _ + 1=>.bad
   | _,_=>.bad
  | .nils=>.val .undef st
  | _=>.bad
 | _=>.bad
def setAt (es:List Ent) (i:Nat) (v:SV):List Ent :=
 match es with
 | []=>[]
 | x::es=>match i with
  | 0=>⟨x.k,v,x.born⟩::es
  | i + 1=>x::setAt es i v
def dropAt (es:List Ent) (i:Nat):List Ent :=
 match es with
 | []=>[]
 | e::es=>match i with
  | 0=>es
  | i + 1=>e::dropAt es i
def putMap (st:St) (b:Nat) (es:List Ent) (clk:E):St:=T.setK st.heap b ⟨true,.map es clk⟩ fun h=>{ st with heap:=h }
def putMapl (st:St) (b:Nat) (k:IntKind) (c:CK) (e:E):St:=T.setK st.heap b ⟨true,.mapl k c e⟩ fun h=>{ st with heap:=h }
def mapSetF (tb:Tab) (st:St) (t:TypeId) (x k v:SV):Eff2 :=
 match tb.und t with
 | some (.map kt _)=>match x,keyFine tb kt k with
  | .map b,true=>match st.heap.get b with
   | some ⟨true,.map es clk⟩=>match findS tb st.pc kt k es 0 with
    | .at i _ _=>.skip (putMap st b (setAt es i v) clk)
    | .no=>.skip (putMap st b (es++[⟨k,v,clk⟩]) (mkIadd clk (.int 1)))
    | .ask e=>.ask e
    | .bad=>.bad
   | some ⟨true,.mapl k0 c e⟩=>match k,fitsCK c v with
    | .int k1 ke,some ve=>match ikB k1 k0 with
     | true=>.skip (putMapl st b k0 c (.fn 34 (.pr e (.pr ke ve))))
     | false=>.bad
    | _,_=>.bad
   | _=>.bad
  | _,_=>.bad
 | _=>.bad
def putMaplp (st:St) (b:Nat) (k:IntKind) (c:CK) (e ke s:E):St:=T.setK st.heap b ⟨true,.maplp k c e ke s⟩ fun h=>{ st with heap:=h }
def rePut (e ke ve:E):E :=
 match e with
 | .fn 34 (.pr e0 (.pr ke0 _))=>match ke0.beq ke with
  | true=>.fn 34 (.pr e0 (.pr ke ve))
  | false=>.fn 34 (.pr e (.pr ke ve))
 | e=>.fn 34 (.pr e (.pr ke ve))
def mapEntryF (tb:Tab) (tmps:Tm) (st:St) (t:TypeId) (x k:SV):Eff2 :=
 match tb.und t with
 | some (.map kt vt)=>match x,keyFine tb kt k with
  | .map b,true=>match st.heap.get b with
   | some ⟨true,.map es clk⟩=>match findS tb st.pc kt k es 0 with
    | .at _ v s=>.val (.tup [v,.int .i64 s]) st
    | .no=>match zeroS tb vt with
     | some z=>.val (.tup [z,.int .i64 clk]) (putMap st b (es++[⟨k,z,clk⟩]) (mkIadd clk (.int 1)))
     | none=>.bad
    | .ask e=>.ask e
    | .bad=>.bad
   | some ⟨true,.mapl k0 c e⟩=>match zeroS tb vt with
    | some z=>match k,fitsCK c z with
     | .int k1 ke,some ze=>match ikB k1 k0,scpAllV tmps st && ke.scp st.nv with
      | true,true=>.val (.tup [cellOf c (.fn 32 (.pr e (.pr ke ze))),.int .i64 (.var st.nv)])
        (putMaplp { st with nv:=Nat.succ st.nv } b k0 c (.fn 34 (.pr e (.pr ke (.fn 32 (.pr e (.pr ke ze)))))) ke (.var st.nv))
      | _,_=>.bad
     | _,_=>.bad
    | none=>.bad
   | _=>.bad
  | _,_=>.bad
 | _=>.bad
def findBorn (s:E):List Ent→Nat→Option Nat
 | [],_=>none
 | x::es,i=>match x.born.beq s with
  | true=>some i
  | false=>findBorn s es (Nat.succ i)
def entryStoreF (st:St) (x s v:SV):Eff2 :=
 match x,s with
 | .map b,.int _ s=>match st.heap.get b with
  | some ⟨true,.map es clk⟩=>match findBorn s es 0 with
   | some i=>.skip (putMap st b (setAt es i v) clk)
   | none=>.bad
  | some ⟨true,.maplp k0 c e ke s0⟩=>match s0.beq s,fitsCK c v with
   | true,some ve=>.skip (putMapl st b k0 c (rePut e ke ve))
   | _,_=>.bad
  | _=>.bad
 | _,_=>.bad
def deleteF (tb:Tab) (st:St) (t:TypeId) (x k:SV):Eff2 :=
 match tb.und t with
 | some (.map kt _)=>match x,keyFine tb kt k with
  | .nilm,true=>.val .undef st
  | .map b,true=>match st.heap.get b with
   | some ⟨true,.map es clk⟩=>match findS tb st.pc kt k es 0 with
    | .at i _ _=>.val .undef (putMap st b (dropAt es i) clk)
    | .no=>.val .undef st
    | .ask e=>.ask e
    | .bad=>.bad
   | some ⟨true,.mapl k0 c e⟩=>match k with
    | .int k1 ke=>match ikB k1 k0 with
     | true=>.val .undef (putMapl st b k0 c (.fn 35 (.pr e ke)))
     | false=>.bad
    | _=>.bad
   | _=>.bad
  | _,_=>.bad
 | _=>.bad
def isNilF (tb:Tab) (tmps:Tm) (st:St) (v:SV) (yes:Bool):Eff2 :=
 match v with
 | .nslice b len _=>match st.heap.get b with
  | some ⟨_,.cells _ _ _⟩=>.val (.bool (.bool (!yes))) st
  | some ⟨_,.flat _ _ n tot _⟩=>match ltE tb.facts st.pc (.int 0) tot || ltE tb.facts st.pc (.int 0) n with
   | true=>.val (.bool (.bool (!yes))) st
   | false=>match scpAllV tmps st && n.scp st.nv with
    | true=>.val (.bool (match yes with | true=>.var st.nv | false=>.not (.var st.nv))) { st with nv:=Nat.succ st.nv,pc:=.imp (.var st.nv) (mkCmp .eql n (.int 0))::st.pc }
    | false=>.bad
  | _=>.bad
 | .bsl ks e=>match Nat.blt 0 (lenI ks) with
  | true=>.val (.bool (match yes with | true=>.fn 31 e | false=>.not (.fn 31 e))) (match natForm (rowsB (lenI ks) e) with
    | true=>{ st with pc:=.imp (.fn 31 e) (mkCmp .eql (rowsB (lenI ks) e) (.int 0))::st.pc }
    | false=>st)
  | false=>.bad
 | _=>.bad
def isNils:SV→Bool
 | .nils=>true
 | _=>false
def bytesOf:List SV→Option (List UInt8)
 | []=>some []
 | v::vs=>match v with
  | .int .u8 (.int (.ofNat n))=>match bytesOf vs with
   | some l=>match Nat.blt n 256 with
    | true=>some (UInt8.ofNat n::l)
    | false=>none
   | none=>none
  | _=>none
def bytesStrF (tb:Tab) (st:St) (src dst:TypeId) (v:SV):Eff2 :=
 match tb.und src,tb.und dst with
 | some (.slice e),some .string=>match tb.und e with
  | some (.int .u8)=>match v with
   | .nils=>.val (.str (.str ByteArray.empty)) st
   | _=>match contS tb st 1 v with
    | some (.cells vs)=>match bytesOf vs with
     | some l=>.val (.str (.str ⟨l.toArray⟩)) st
     | none=>.bad
    | some (.list ks l _)=>match ks with
     | [.int .u8]=>.val (.str (.fn 41 l)) st
     | _=>.bad
    | none=>lackOr (contLack tb st 1 v)
  | _=>.bad
 | _,_=>.bad
def byteEs:List UInt8→List E
 | []=>[]
 | b::l=>.int (.ofNat b.toNat)::byteEs l
def strBytesF (tb:Tab) (tmps:Tm) (st:St) (src dst:TypeId) (v:SV):Eff2 :=
 match tb.und src,tb.und dst with
 | some .string,some (.slice e)=>match tb.und e with
  | some (.int .u8)=>match v with
   | .str (.str s)=>match scpAllV tmps st with
    | true=>.val (.bsl [.int .u8] (.fn 28 (.pr (.pr (.var st.nv) (.int (.ofNat s.size))) (mkList (byteEs s.data.toList))))) { st with nv:=Nat.succ st.nv }
    | false=>.bad
   | _=>.bad
  | _=>.bad
 | _,_=>bytesStrF tb st src dst v
def rangeF (tb:Tab) (tmps:Tm) (st:St) (t:TypeId) (x:SV):Eff2 :=
 match tb.und t,x with
 | some (.map _ _),.map b=>match st.heap.get b with
  | some ⟨true,.mapl k c e⟩=>match knownE tb.facts st.pc (.fn 39 e),scpAllV tmps st with
   | some true,true=>T.setK st.heap b ⟨true,.gone⟩ fun h=>T.insK h st.nb ⟨true,.iter k c e (.fn 0 e) none⟩ fun h=>.val (.ptr st.nb ⟨0,0,.int 0⟩) { st with nb:=Nat.succ st.nb,heap:=h }
   | some true,false=>.bad
   | _,_=>.lack (.fn 39 e)
  | _=>.bad
 | _,_=>.bad
def nextF (tb:Tab) (tmps:Tm) (st:St) (x:SV) (str:Bool):Eff2 :=
 match str,x with
 | false,.ptr b o=>match litOff o with
  | some 0=>match st.heap.get b with
   | some ⟨true,.iter k c e n _⟩=>match knownE tb.facts st.pc (mkCmp .eql n (.int 0)) with
    | some true=>.val (.tup [.bool (.bool false)]) st
    | some false=>match scpAllV tmps st with
     | true=>T.setK st.heap b ⟨true,.iter k c e (mkIadd n (.int (-1))) (some (.var st.nv))⟩ fun h =>
       .val (.tup [.bool (.bool true),.int k (.var st.nv),cellOf c (.fn 32 (.pr e (.pr (.var st.nv) (.int 0))))]) { st with nv:=Nat.succ st.nv,heap:=h,pc:=.fn 33 (.pr e (.var st.nv))::st.pc }
     | false=>.bad
    | none=>.ask (mkCmp .eql n (.int 0))
   | _=>.bad
  | _=>.bad
 | _,_=>.bad
def entryF (st:St) (x:SV):Eff2 :=
 match x with
 | .ptr b o=>match litOff o with
  | some 0=>match st.heap.get b with
   | some ⟨true,.iter k c e _ (some u)⟩=>.val (.tup [.int k u,cellOf c (.fn 32 (.pr e (.pr u (.int 0))))]) st
   | _=>.bad
  | _=>.bad
 | _=>.bad
def fO_range (tb:Tab) (tmps:Tm) (st:St) (t:TypeId) (x:Operand):Eff2 :=
 match evalS tmps x with
  | some v=>rangeF tb tmps st t v
  | none=>.bad
def fO_next (tb:Tab) (tmps:Tm) (st:St) (x:Operand) (str:Bool):Eff2 :=
 match evalS tmps x with
  | some v=>nextF tb tmps st v str
  | none=>.bad
def fO_entry (tb:Tab) (tmps:Tm) (st:St) (x:Operand):Eff2 :=
 match evalS tmps x with
  | some v=>entryF st v
  | none=>.bad
def frzIs (st:St) (n len cap tot l:E):Bool :=
 n.beq len && (cap.beq tot && (st.scp && (l.scp st.nv && (len.scp st.nv && cap.scp st.nv))))
def frz1 (ks0:List CK) (fs:List E) (p:SV × St):SV × St :=
 match p.1 with
 | .nils=>(.bsl ks0 (.fn 30 (.int 0)),p.2)
 | .nslice _ (.int 0) (.int 0)=>match p.2.scp with
  | true=>(.bsl ks0 (.fn 28 (.pr (.pr (.var p.2.nv) (.int 0)) (.fn 10 (.int 0)))),{ p.2 with nv:=Nat.succ p.2.nv })
  | false=>p
 | .nslice b len cap=>match p.2.heap.get b with
  | some ⟨true,.flat ks l n tot _⟩=>match frzIs p.2 n len cap tot l with
   | true=>T.setK p.2.heap b ⟨true,.gone⟩ fun h=>(.bsl ks (.fn 28 (.pr (.pr (.var p.2.nv) len) l)),{ p.2 with nv:=Nat.succ p.2.nv,heap:=h })
   | false=>p
  | _=>p
 | .slice _ _ (.int 0) (.int 0)=>match p.2.scp with
  | true=>(.bsl ks0 (.fn 28 (.pr (.pr (.var p.2.nv) (.int 0)) (.fn 10 (.int 0)))),{ p.2 with nv:=Nat.succ p.2.nv })
  | false=>p
 | _=>p
def frzL (fs:List E):List (List CK)→List SV→St→List SV × St
 | ks::kss,v::vs,st=>match ks with
  | []=>match v.scp st.nv st.nb with
   | true=>match frzL fs kss vs st with
    | (vs',st')=>(v::vs',st')
   | false=>(v::vs,st)
  | _=>match frz1 ks fs (v,st) with
   | (v',st1)=>match v'.scp st1.nv st1.nb && SV.scps st.nv st.nb vs with
    | true=>match frzL fs kss vs st1 with
     | (vs',st')=>(v'::vs',st')
    | false=>(v::vs,st)
 | _,vs,st=>(vs,st)
def frzP (kss:List (List CK)) (fs:List E) (p:SV × St):SV × St :=
 match p.1 with
 | .agg cs=>match frzL fs kss cs p.2 with
  | (cs',st')=>(.agg cs',st')
 | _=>match kss with
  | ks::_=>frz1 ks fs p
  | []=>p
def frzKs:List CK→List (List CK)
 | []=>[]
 | c::cs=>match c with
  | .slc ks=>ks::frzKs cs
  | _=>[]::frzKs cs
def nestPut (tb:Tab) (tmps:Tm) (st:St) (t:TypeId) (p v:SV):Eff2 :=
 match p,v with
 | .ptr b o,.nslice b2 len cap=>match st.heap.get b,st.heap.get b2 with
  | some ⟨true,.nest ks l n tot elem⟩,some ⟨true,.flat ks2 l2 n2 tot2 _⟩=>match flatAt tb.facts st.pc (lenI ks) n o with
   | .at idx j=>match getI ks j with
    | some (.slc ks')=>match ksB ks' ks2 && frzIs st n2 len cap tot2 l2 && tmScoped st.nv st.nb tmps && p.scp st.nv st.nb with
     | true=>match sizeS tb t with
      | some 1=>T.setK st.heap b2 ⟨true,.gone⟩ fun h=>T.setK h b ⟨true,.nest ks (mkUpd l (mkPos (lenI ks) idx j) (.fn 28 (.pr (.pr (.var st.nv) len) l2))) n tot elem⟩ fun h=>.skip { st with nv:=Nat.succ st.nv,heap:=h }
      | _=>.bad
     | false=>.bad
    | _=>.bad
   | .lack e=>.lack e
   | .bad=>.bad
  | _,_=>.bad
 | _,_=>.bad
def isNest (st:St) (p:SV):Bool :=
 match p with
 | .ptr b _=>match st.heap.get b with
  | some ⟨_,.nest _ _ _ _ _⟩=>true
  | _=>false
 | _=>false
def fO_store (tb : Tab) (tmps : Tm) (st : St) (t : TypeId) (x : Operand) (y : Operand) : Eff2 :=
  match evalS tmps x, evalS tmps y with
  | some p, some v => match isNest st p with
   | true => nestPut tb tmps st t p v
   | false => match ksType tb 12 t with
    | some ks => match tmScoped st.nv st.nb tmps && p.scp st.nv st.nb with
      | true => match frzP (frzKs ks) tb.facts (v, st) with
        | (v', st') => match storeF tb st' t p v' with
          | .skip st'' => .skip st''
          | .lack e => .lack e
          | _ => .bad
      | false => .bad
    | none => .bad
  | _, _ => .bad
def fO_makeSlice (tb:Tab) (tmps:Tm) (st:St) (t:TypeId) (n:Operand) (c:Operand):Eff2 :=
 match evalS tmps n,evalS tmps c with
  | some a,some b=>makeSliceF tb tmps st t a b
  | _,_=>.bad
def fO_makeMap (tb:Tab) (tmps:Tm) (st:St) (t:TypeId) (r:Option Operand):Eff2 :=
 match r with
  | none=>match scpAllV tmps st with
   | true=>T.insK st.heap st.nb ⟨true,.map [] (.int 0)⟩ fun h=>.val (.map st.nb) { st with nb:=Nat.succ st.nb,heap:=h }
   | false=>.bad
  | some _=>.bad
def fO_mapUpdate (tb:Tab) (tmps:Tm) (st:St) (t:TypeId) (m:Operand) (k:Operand) (x:Operand):Eff2 :=
 match evalS tmps m,evalS tmps k,evalS tmps x with
  | some a,some b,some c=>mapSetF tb st t a b c
  | _,_,_=>.bad
def fO_insert (tb:Tab) (tmps:Tm) (st:St) (t:TypeId) (m:Operand) (k:Operand) (x:Operand):Eff2 :=
 match evalS tmps m,evalS tmps k,evalS tmps x with
  | some a,some b,some c=>mapSetF tb st t a b c
  | _,_,_=>.bad
def fO_mapEntry (tb:Tab) (tmps:Tm) (st:St) (t:TypeId) (m:Operand) (k:Operand):Eff2 :=
 match evalS tmps m,evalS tmps k with
  | some a,some b=>mapEntryF tb tmps st t a b
  | _,_=>.bad
def fO_entryStore (tb:Tab) (tmps:Tm) (st:St) (m:Operand) (s:Operand) (x:Operand):Eff2 :=
 match evalS tmps m,evalS tmps s,evalS tmps x with
  | some a,some b,some c=>entryStoreF st a b c
  | _,_,_=>.bad
def fO_binOp (tb:Tab) (tmps:Tm) (st:St) (op:BinOp) (t:TypeId) (x:Operand) (y:Operand):Eff2 :=
 match isSliceT tb t,evalS tmps x,evalS tmps y with
  | true,some a,some b=>match op with
   | .eql=>match isNils b with
    | true=>isNilF tb tmps st a true
    | false=>match isNils a with | true=>isNilF tb tmps st b true | false=>.bad
   | .neq=>match isNils b with
    | true=>isNilF tb tmps st a false
    | false=>match isNils a with | true=>isNilF tb tmps st b false | false=>.bad
   | _=>.bad
  | _,_,_=>.bad
def fO_convert (tb:Tab) (tmps:Tm) (st:St) (src:TypeId) (dst:TypeId) (x:Operand):Eff2 :=
 match evalS tmps x with
  | some v=>strBytesF tb tmps st src dst v
  | none=>.bad
def fO_call (tb:Tab) (tmps:Tm) (st:St) (c:Call):Eff2 :=
 match c.callee with
  | .builtin b=>match evList (evalS tmps) c.args.toList with
   | some [v,w]=>match b with
    | .append=>match c.argTypes.toList with
     | [t,xt]=>appendF tb tmps st t xt v w
     | _=>.bad
    | .copy=>match c.argTypes.toList with
     | [t,xt]=>copyF tb st t xt v w
     | _=>.bad
    | .delete=>match c.argTypes.toList with
     | t::_=>deleteF tb st t v w
     | _=>.bad
    | _=>.bad
   | some [v]=>match b with
    | .clear=>match c.argTypes.toList with
     | [t]=>clearF tb st t v
     | _=>.bad
    | _=>.bad
   | _=>.bad
  | _=>.bad
noncomputable def effOp2 (tb:Tab) (tmps:Tm) (st:St) (o:Op):Eff2 :=
 Op.rec (motive:=fun _=>Eff2)
  (fun _=>.bad)
  (fun _=>.bad)
  (fun _ _ _=>.bad)
  (fun _=>.bad)
  (fun _ _=>.bad)
  (fun _ _=>.bad)
  (fun _ _ _=>.bad)
  (fun t m k x=>fO_insert tb tmps st t m k x)
  (fun _ _=>.bad)
  (fun t x y=>fO_store tb tmps st t x y)
  (fun _=>.bad)
  (fun _=>.bad)
  (fun _=>.bad)
  (fun op t x y _=>fO_binOp tb tmps st op t x y)
  (fun _ _ _=>.bad)
  (fun src dst x=>fO_convert tb tmps st src dst x)
  (fun _ _=>.bad)
  (fun _ _=>.bad)
  (fun _ _ _=>.bad)
  (fun t r=>fO_makeMap tb tmps st t r)
  (fun _ _=>.bad)
  (fun t n c=>fO_makeSlice tb tmps st t n c)
  (fun _ _ _ _ _=>.bad)
  (fun _ _ _=>.bad)
  (fun _ _ _=>.bad)
  (fun _ _ _=>.bad)
  (fun _ _ _=>.bad)
  (fun _ _ _ _=>.bad)
  (fun t m k x=>fO_mapUpdate tb tmps st t m k x)
  (fun t m k=>fO_mapEntry tb tmps st t m k)
  (fun _ m s x=>fO_entryStore tb tmps st m s x)
  (fun t x=>fO_range tb tmps st t x)
  (fun x s=>fO_next tb tmps st x s)
  (fun x=>fO_entry tb tmps st x)
  (fun _ _ _ _=>.bad)
  (fun _ _=>.bad)
  (fun c=>fO_call tb tmps st c)
  (fun _=>.bad)
  (fun _=>.bad)
  (fun _=>.bad)
  (fun _ _=>.bad)
  (fun _ _ _=>.bad)
  (fun _ _=>.bad)
  o
theorem effOp2_eq  (tb:Tab) (tmps:Tm) (st:St) (o:Op):effOp2 tb tmps st o=(match o with
 | .makeSlice t n c=>fO_makeSlice tb tmps st t n c
 | .makeMap t r=>fO_makeMap tb tmps st t r
 | .mapUpdate t m k x=>fO_mapUpdate tb tmps st t m k x
 | .insert t m k x=>fO_insert tb tmps st t m k x
 | .mapEntry t m k=>fO_mapEntry tb tmps st t m k
 | .entryStore _ m s x=>fO_entryStore tb tmps st m s x
 | .range t x=>fO_range tb tmps st t x
 | .next x s=>fO_next tb tmps st x s
 | .entry x=>fO_entry tb tmps st x
 | .binOp op t x y _=>fO_binOp tb tmps st op t x y
 | .convert src dst x=>fO_convert tb tmps st src dst x
 | .call c=>fO_call tb tmps st c
 | .store t x y=>fO_store tb tmps st t x y
 | _=>.bad):=by cases o <;> rfl
structure Node where
 listed:Nat
 left:Nat
 tmps:Tm
 st:St
 deriving Inhabited
abbrev Res:=Option (List Out)
abbrev Cont:=Tm→St→Res
structure Info where
 wait:Nat
 reads:Nat
 dst:Nat
inductive Task where
 | code (g:FuncId) (c:Code)
 | rounds (g:FuncId) (c:Code)
 | call (f:FuncId) (args:List SV)
 | draw (all:List Oper) (n:Nat)
 | layer (all:List Oper) (infos:List Info) (l:List Node)
def join (a b:Res):Res :=
 match a with
 | some l=>match b with
  | some m=>some (l++m)
  | none=>none
 | none=>none
def waitsOf:List Edge→Nat
 | []=>0
 | e::es=>match Region.binds .any e with
  | true=>Nat.lor (Nat.pow 2 e.on) (waitsOf es)
  | false=>waitsOf es
def readsOf:List Operand→Nat
 | []=>0
 | x::xs=>match x with
  | .tmp t=>Nat.lor (Nat.pow 2 t) (readsOf xs)
  | _=>readsOf xs
def slotOf (all:List Oper) (j:Nat):Option Tmp:=match getI all j with | some o=>o.dst | none=>none
def bitOf:Option Tmp→Nat
 | some t=>Nat.pow 2 t
 | none=>0
def guardOf (all:List Oper) (o:Oper):Nat :=
 match o.guard with
 | some (j,_)=>bitOf (slotOf all j)
 | none=>0
def infoK (all:List Oper) (o:Oper):Info :=
 ⟨waitsOf o.after.toList,Nat.lor (guardOf all o) (readsOf o.op.operands.toList),bitOf o.dst⟩
def infosOf (all:List Oper):List Oper→List Info
 | []=>[]
 | o::os=>infoK all o::infosOf all os
def readyFrom (listed:Nat):List Oper→List Info→Nat→List (Nat × Oper × Info)
 | o::os,m::ms,i=>match Nat.testBit listed i with
  | true=>readyFrom listed os ms (Nat.succ i)
  | false=>match Nat.beq (Nat.land m.wait listed) m.wait with
   | true=>(i,o,m)::readyFrom listed os ms (Nat.succ i)
   | false=>readyFrom listed os ms (Nat.succ i)
 | _,_,_=>[]
def freeFrom (listed i:Nat) (x:Info):List Info→Nat→Bool
 | [],_=>true
 | m::ms,j=>match Nat.testBit listed j with
  | true=>freeFrom listed i x ms (Nat.succ j)
  | false=>match Nat.beq i j with
   | true=>freeFrom listed i x ms (Nat.succ j)
   | false=>match Nat.testBit m.wait i with
    | true=>freeFrom listed i x ms (Nat.succ j)
    | false=>match Nat.beq (Nat.land x.dst m.reads) 0 with
     | true=>match Nat.beq (Nat.land x.dst m.dst) 0 with
      | true=>match Nat.beq (Nat.land m.dst x.reads) 0 with
       | true=>freeFrom listed i x ms (Nat.succ j)
       | false=>false
      | false=>false
     | false=>false
def callS (tb:Tab) (tmps:Tm) (c:Call):Option (FuncId × List SV) :=
 match c.callee with
 | .value f=>match evalS tmps f,evList (evalS tmps) c.args.toList with
  | some (.func (.func f) fi ca),some vs=>match tb.fn.get f with
   | some fn=>match fn.body with
    | some _=>some (f,fi++(vs++ca))
    | none=>none
   | none=>none
  | _,_=>none
 | _=>none
inductive Want where
 | yes | no | bad | ask (slot:Tmp) (e:E) (want:Bool)
def wantS (all:List Oper) (tmps:Tm) (o:Oper):Want :=
 match o.guard with
 | none=>.yes
 | some (j,want)=>match slotOf all j with
  | some t=>match tmps.get t with
   | some (.bool e)=>match e with
    | .bool b=>match boolB b want with | true=>.yes | false=>.no
    | _=>.ask t e want
   | some .junk=>.bad
   | _=>.no
  | none=>.no
def putK {β:Type} (tmps:Tm) (d:Option Tmp) (v:SV) (k:Tm→β):β :=
 match d with
 | none=>k tmps
 | some t=>T.setK tmps t v k
def resOf (tb:Tab) (st:St) (tmps:Tm):List ResultVar→Option (List SV)
 | []=>some []
 | .tmp t::rs=>match resOf tb st tmps rs with
  | some l=>match tmps.get t with
   | some v=>match v with
    | .junk=>none
    | _=>some (v::l)
   | none=>some (.undef::l)
  | none=>none
 | .cell a t::rs=>match tmps.get a with
  | some x=>match loadS tb st t x,resOf tb st tmps rs with
   | some v,some l=>some (v::l)
   | _,_=>none
  | none=>none
def tupOf:List SV→SV
 | [v]=>v
 | vs=>.tup vs
def fnB:Fn→Fn→Bool
 | .func a,.func b=>Nat.beq a b
 | _,_=>false
mutual
def SV.beq:SV→SV→Bool
 | .int k e,.int k' e'=>ikB k k' && e.beq e'
 | .bool e,.bool e'=>e.beq e'
 | .str e,.str e'=>e.beq e'
 | .nilp,.nilp | .nils,.nils | .nilm,.nilm | .nili,.nili | .nilf,.nilf=>true
 | .ptr b o,.ptr b' o'=>Nat.beq b b' && Nat.beq o.base o'.base && Nat.beq o.scale o'.scale && o.idx.beq o'.idx
 | .slice b o l c,.slice b' o' l' c'=>Nat.beq b b' && Nat.beq o.base o'.base && Nat.beq o.scale o'.scale && o.idx.beq o'.idx && l.beq l' && c.beq c'
 | .map b,.map b'=>Nat.beq b b'
 | .nslice b l c,.nslice b' l' c'=>Nat.beq b b' && l.beq l' && c.beq c'
 | .bsl ks e,.bsl ks' e'=>ksB ks ks' && e.beq e'
 | .bptr ks e i j,.bptr ks' e' i' j'=>ksB ks ks' && e.beq e' && i.beq i' && Nat.beq j j'
 | .func fn fi ca,.func fn' fi' ca'=>fnB fn fn' && SV.beqs fi fi' && SV.beqs ca ca'
 | .agg cs,.agg cs'=>SV.beqs cs cs'
 | .tup cs,.tup cs'=>SV.beqs cs cs'
 | .junk,.junk=>true
 | .nsl b ks e i c,.nsl b' ks' e' i' c'=>Nat.beq b b' && ksB ks ks' && e.beq e' && i.beq i' && Nat.beq c c'
 | .nptr b ks e i c x j,.nptr b' ks' e' i' c' x' j'=>Nat.beq b b' && ksB ks ks' && e.beq e' && i.beq i' && Nat.beq c c' && x.beq x' && Nat.beq j j'
 | _,_=>false
def SV.beqs:List SV→List SV→Bool
 | [],[]=>true
 | x::xs,y::ys=>x.beq y && SV.beqs xs ys
 | _,_=>false
end
def pairsB:List Ent→List Ent→Bool
 | [],[]=>true
 | x::xs,y::ys=>x.k.beq y.k && (x.v.beq y.v && (x.born.beq y.born && pairsB xs ys))
 | _,_=>false
def optB:Option E→Option E→Bool
 | none,none=>true
 | some a,some b=>a.beq b
 | _,_=>false
def SObj.beq:SObj→SObj→Bool
 | .gone,.gone=>true
 | .cells cs t e,.cells cs' t' e'=>Nat.beq e e' && t.beq t' && SV.beqs cs cs'
 | .flat ks l n t e,.flat ks' l' n' t' e'=>Nat.beq e e' && l.beq l' && n.beq n' && t.beq t' && ksB ks ks'
 | .map es c,.map es' c'=>c.beq c' && pairsB es es'
 | .mapl k c e,.mapl k' c' e'=>ikB k k' && c.beq c' && e.beq e'
 | .maplp k c e ke s,.maplp k' c' e' ke' s'=>ikB k k' && c.beq c' && e.beq e' && ke.beq ke' && s.beq s'
 | .iter k c e n u,.iter k' c' e' n' u'=>ikB k k' && c.beq c' && e.beq e' && n.beq n' && optB u u'
 | .nest ks l n t e,.nest ks' l' n' t' e'=>Nat.beq e e' && l.beq l' && n.beq n' && t.beq t' && ksB ks ks'
 | _,_=>false
def T.beq {α:Type} (f:α→α→Bool):T α→T α→Bool
 | .nil,.nil=>true
 | .node v l r,.node v' l' r'=>f v v' && T.beq f l l' && T.beq f r r'
 | _,_=>false
def Blk.beq (x y:Blk):Bool:=boolB x.own y.own && x.obj.beq y.obj
def pcB:List E→List E→Bool
 | [],[]=>true
 | x::xs,y::ys=>x.beq y && pcB xs ys
 | _,_=>false
def St.beq (a b:St):Bool:=Nat.beq a.nv b.nv && Nat.beq a.nb b.nb && pcB a.pc b.pc && T.beq Blk.beq a.heap b.heap
def Node.beq (a b:Node):Bool :=
 Nat.beq a.listed b.listed && Nat.beq a.left b.left && T.beq SV.beq a.tmps b.tmps && a.st.beq b.st
def hasNode:List Node→Node→Bool
 | [],_=>false
 | x::xs,n=>match x.beq n with | true=>true | false=>hasNode xs n
def pureScan {β:Type} (P:Program) (tb:Tab) (all:List Oper) (infos:List Info):List Oper→List Info→Nat→Nat→Nat→Tm→(Nat→Nat→Tm→β)→β
 | o::os,m::ms,i,listed,left,tmps,k =>
  match Nat.testBit listed i with
  | true=>pureScan P tb all infos os ms (Nat.succ i) listed left tmps k
  | false=>match Nat.beq (Nat.land m.wait listed) m.wait with
   | true=>match left with
    | 0=>k listed left tmps
    | left' + 1=>match wantS all tmps o with
     | .yes=>match pureOp P tb (evalS tmps) o.op with
      | some v=>match freeFrom listed i m infos 0 with
       | true=>putK tmps o.dst v fun tmps=>forceK (Nat.lor (Nat.pow 2 i) listed) fun listed=>pureScan P tb all infos os ms (Nat.succ i) listed left' tmps k
       | false=>pureScan P tb all infos os ms (Nat.succ i) listed left tmps k
      | none=>pureScan P tb all infos os ms (Nat.succ i) listed left tmps k
     | .no=>match freeFrom listed i m infos 0 with
      | true=>putK tmps o.dst .undef fun tmps=>forceK (Nat.lor (Nat.pow 2 i) listed) fun listed=>pureScan P tb all infos os ms (Nat.succ i) listed left' tmps k
      | false=>pureScan P tb all infos os ms (Nat.succ i) listed left tmps k
     | _=>pureScan P tb all infos os ms (Nat.succ i) listed left tmps k
   | false=>pureScan P tb all infos os ms (Nat.succ i) listed left tmps k
 | _,_,_,listed,left,tmps,k=>k listed left tmps
def putNode (acc:List Node) (x:Node):List Node:=match hasNode acc x with | true=>acc | false=>x::acc
def toNodes (P:Program) (tb:Tab) (all:List Oper) (infos:List Info) (listed left:Nat):List Out→List Node→List Node
 | [],acc=>acc
 | o::os,acc=>pureScan P tb all infos all infos 0 listed left o.tmps fun listed' left' tmps =>
  toNodes P tb all infos listed left os (putNode acc ⟨listed',left',tmps,o.st⟩)
def failAt (_:String):Res:=none
def lackAt (_:String) (_:St) (_:E):Res:=none
abbrev Runner:=Task→Tm→St→(Out→Res)→Res
def opName (o:Op):String :=
 match o with
 | .load _ _ => "load" | .store _ _ _ => "store" | .move _ => "move" | .assign _ => "assign" | .pick _ _ _ => "pick" | .nilCheck _ => "nilCheck" | .binOp _ _ _ _ _ => "binOp" | .unOp _ _ _ => "unOp" | .convert _ _ _ => "convert"
 | .fieldAddr _ _ _ => "fieldAddr" | .field _ _ _ => "field" | .indexAddr _ _ _ => "indexAddr" | .index _ _ _ => "index" | .extract _ _ => "extract" | .build _ _ => "build" | .makeFunc _ _ _ => "makeFunc" | .slice _ _ _ _ _ => "slice"
 | .box _ _ => "box" | .alloc _ => "alloc" | .buildSlice _ _ _ => "buildSlice" | .insert _ _ _ _ => "insert" | .ready _ => "ready" | .waits _ => "waits" | .sliceToArrayPointer _ _ => "sliceToArrayPointer" | .makeInterface _ _ => "makeInterface" | .makeMap _ _ => "makeMap" | .makeChan _ _ => "makeChan" | .makeSlice _ _ _ => "makeSlice" | .lookup _ _ _ _ => "lookup" | .mapUpdate _ _ _ _ => "mapUpdate" | .mapEntry _ _ _ => "mapEntry" | .entryStore _ _ _ _ => "entryStore" | .range _ _ => "range" | .next _ _ => "next" | .entry _ => "entry" | .typeAssert _ _ _ _ => "typeAssert" | .call _ => "call" | _ => "other"
def Blk.same (x y:Blk):Bool :=
 match x.obj with
 | .iter _ _ _ _ _=>false
 | _=>x.beq y
def heapIn:T Blk→T Blk→Bool
 | .nil,_=>true
 | .node v l r,.node v' l' r'=>match Blk.same v v' with
  | true=>match heapIn l l' with
   | true=>heapIn r r'
   | false=>false
  | false=>false
 | _,_=>false
mutual
def SV.plain:SV→Bool
 | .bsl _ _ | .bptr _ _ _ _ | .nsl _ _ _ _ _ | .nptr _ _ _ _ _ _ _=>false
 | .func _ fi ca=>SV.plains fi && SV.plains ca
 | .agg cs | .tup cs=>SV.plains cs
 | _=>true
def SV.plains:List SV→Bool
 | []=>true
 | v::vs=>v.plain && SV.plains vs
end
structure Sub where
 n0:Nat
 es:List E
 b0:Nat
 bs:List Nat
def subVar (n0:Nat) (es:List E) (i:Nat):E :=
 match Nat.blt i n0 with
 | true=>.var i
 | false=>match getI es (Nat.sub i n0) with
  | some e=>e
  | none=>.var i
def subFn (f:Nat) (a:E):E :=
 match f with
 | 0=>mkLen a
 | 6=>match a with
  | .pr (.int x) (.int y)=>.int (x + y)
  | _=>.fn f a
 | 7=>match a with
  | .pr (.int x) (.int y)=>.int (x - y)
  | _=>.fn f a
 | _=>.fn f a
def subNot (a:E):E :=
 match a with
 | .bool b=>.bool (!b)
 | _=>.not a
noncomputable def E.sub (n0:Nat) (es:List E) (e:E):E :=
 E.rec (motive:=fun _=>E)
  (fun n=>.int n)
  (fun b=>.bool b)
  (fun s=>.str s)
  (fun i=>subVar n0 es i)
  (fun o k _ _ ia ib=>mkAr o k ia ib)
  (fun o _ _ ia ib=>mkCmp o ia ib)
  (fun _ _ ia ib=>mkMn ia ib)
  (fun _ _ ia ib=>mkMx ia ib)
  (fun k _ ia=>mkWr k ia)
  (fun _ ia=>subNot ia)
  (fun _ _ ia ib=>.and ia ib)
  (fun _ _ ia ib=>mkSeq ia ib)
  (fun _ _ ia ib=>.iff ia ib)
  (fun _ _ ia ib=>.imp ia ib)
  (fun f _ ia=>subFn f ia)
  (fun _ _ ia ib=>.pr ia ib)
  e
theorem E.sub_eq_ar (n0:Nat) (es:List E) (o:BinOp) (k:IntKind) (a:E) (b:E):(E.ar o k a b).sub n0 es=mkAr o k (a.sub n0 es) (b.sub n0 es):=rfl
theorem E.sub_eq_cmp (n0:Nat) (es:List E) (o:BinOp) (a:E) (b:E):(E.cmp o a b).sub n0 es=mkCmp o (a.sub n0 es) (b.sub n0 es):=rfl
theorem E.sub_eq_mn (n0:Nat) (es:List E) (a:E) (b:E):(E.mn a b).sub n0 es=mkMn (a.sub n0 es) (b.sub n0 es):=rfl
theorem E.sub_eq_mx (n0:Nat) (es:List E) (a:E) (b:E):(E.mx a b).sub n0 es=mkMx (a.sub n0 es) (b.sub n0 es):=rfl
theorem E.sub_eq_wr (n0:Nat) (es:List E) (k:IntKind) (a:E):(E.wr k a).sub n0 es=mkWr k (a.sub n0 es):=rfl
theorem E.sub_eq_not (n0:Nat) (es:List E) (a:E):(E.not a).sub n0 es=subNot (a.sub n0 es):=rfl
theorem E.sub_eq_and (n0:Nat) (es:List E) (a:E) (b:E):(E.and a b).sub n0 es=.and (a.sub n0 es) (b.sub n0 es):=rfl
theorem E.sub_eq_seq (n0:Nat) (es:List E) (a:E) (b:E):(E.seq a b).sub n0 es=mkSeq (a.sub n0 es) (b.sub n0 es):=rfl
theorem E.sub_eq_iff (n0:Nat) (es:List E) (a:E) (b:E):(E.iff a b).sub n0 es=.iff (a.sub n0 es) (b.sub n0 es):=rfl
theorem E.sub_eq_imp (n0:Nat) (es:List E) (a:E) (b:E):(E.imp a b).sub n0 es=.imp (a.sub n0 es) (b.sub n0 es):=rfl
theorem E.sub_eq_fn (n0:Nat) (es:List E) (f:Nat) (a:E):(E.fn f a).sub n0 es=subFn f (a.sub n0 es):=rfl
theorem E.sub_eq_pr (n0:Nat) (es:List E) (a:E) (b:E):(E.pr a b).sub n0 es=.pr (a.sub n0 es) (b.sub n0 es):=rfl
def subBlk (b0:Nat) (bs:List Nat) (i:Nat):Nat :=
 match Nat.blt i b0 with
 | true=>i
 | false=>match getI bs (Nat.sub i b0) with
  | some j=>j
  | none=>i
def Off.sub (n0:Nat) (es:List E) (o:Off):Off:=⟨o.base,o.scale,o.idx.sub n0 es⟩
mutual
def SV.sub (z:Sub):SV→SV
 | .int k e=>.int k (e.sub z.n0 z.es)
 | .bool e=>.bool (e.sub z.n0 z.es)
 | .str e=>.str (e.sub z.n0 z.es)
 | .ptr b o=>.ptr (subBlk z.b0 z.bs b) (o.sub z.n0 z.es)
 | .slice b o l c=>.slice (subBlk z.b0 z.bs b) (o.sub z.n0 z.es) (l.sub z.n0 z.es) (c.sub z.n0 z.es)
 | .nslice b l c=>.nslice (subBlk z.b0 z.bs b) (l.sub z.n0 z.es) (c.sub z.n0 z.es)
 | .bsl ks e=>.bsl ks (e.sub z.n0 z.es)
 | .bptr ks e i j=>.bptr ks (e.sub z.n0 z.es) (i.sub z.n0 z.es) j
 | .nsl b ks e i c=>.nsl (subBlk z.b0 z.bs b) ks (e.sub z.n0 z.es) (i.sub z.n0 z.es) c
 | .nptr b ks e i c x j=>.nptr (subBlk z.b0 z.bs b) ks (e.sub z.n0 z.es) (i.sub z.n0 z.es) c (x.sub z.n0 z.es) j
 | .map b=>.map (subBlk z.b0 z.bs b)
 | .func fn fi ca=>.func fn (SV.subs z fi) (SV.subs z ca)
 | .agg cs=>.agg (SV.subs z cs)
 | .tup cs=>.tup (SV.subs z cs)
 | .nilp=>.nilp
 | .nils=>.nils
 | .nilm=>.nilm
 | .nili=>.nili
 | .nilf=>.nilf
 | .junk=>.junk
def SV.subs (z:Sub):List SV→List SV
 | []=>[]
 | v::vs=>v.sub z::SV.subs z vs
end
def pairsSub (z:Sub):List Ent→List Ent
 | []=>[]
 | x::es=>⟨x.k.sub z,x.v.sub z,x.born.sub z.n0 z.es⟩::pairsSub z es
def SObj.sub (z:Sub):SObj→SObj
 | .gone=>.gone
 | .cells cs tot elem=>.cells (SV.subs z cs) (tot.sub z.n0 z.es) elem
 | .flat ks l n tot elem=>.flat ks (l.sub z.n0 z.es) (n.sub z.n0 z.es) (tot.sub z.n0 z.es) elem
 | .map es c=>.map (pairsSub z es) (c.sub z.n0 z.es)
 | .mapl k c e=>.mapl k c (e.sub z.n0 z.es)
 | .maplp k c e ke s=>.maplp k c (e.sub z.n0 z.es) (ke.sub z.n0 z.es) (s.sub z.n0 z.es)
 | .nest ks l n tot elem=>.nest ks (l.sub z.n0 z.es) (n.sub z.n0 z.es) (tot.sub z.n0 z.es) elem
 | .iter k c e n u=>.iter k c (e.sub z.n0 z.es) (n.sub z.n0 z.es) (match u with | none=>none | some x=>some (x.sub z.n0 z.es))
def entsL (k:IntKind) (c:CK):List Ent→Option (List E)
 | []=>some []
 | x::es=>match x.k with
  | .int k' ke=>match ikB k' k,fitsCK c x.v with
   | true,some ve=>match entsL k c es with
    | some l=>some (.pr ke ve::l)
    | none=>none
   | _,_=>none
  | _=>none
def nextK (ks r:List CK):List CK:=match r with | []=>ks | x::xs=>x::xs
def headK (l:List CK):Option CK:=match l with | []=>none | c::_=>some c
def tailK (l:List CK):List CK:=match l with | []=>[] | _::r=>r
def cellsK (ks:List CK):List SV→List CK→Option (List E)
 | [],_=>some []
 | v::vs,r=>match headK (nextK ks r) with
  | none=>none
  | some c=>match fitsCK c v with
   | some e=>match cellsK ks vs (tailK (nextK ks r)) with
    | some l=>some (e::l)
    | none=>none
   | none=>none
def totOf (w:Nat) (tot:E):Option E :=
 match w with
 | 1=>some tot
 | w=>match tot with
  | .fn 8 (.pr c (.int (.ofNat m)))=>match Nat.beq m w with
   | true=>some c
   | false=>none
  | .int (.ofNat t)=>match Nat.beq (Nat.mul (Nat.div t w) w) t with
   | true=>some (.int (.ofNat (Nat.div t w)))
   | false=>none
  | _=>none
def objConv (p x:SObj):Option SObj :=
 match p with
 | .mapl k c _=>match x with
  | .map es _=>match entsL k c es with
   | some l=>some (.mapl k c (mkList l))
   | none=>none
  | _=>none
 | .iter _ _ _ _ u=>match u with
  | none=>match x with
   | .iter k c e n _=>some (.iter k c e n none)
   | _=>none
  | some _=>none
 | .nest ks _ _ _ _=>match x with
  | .flat ks' l n tot elem=>match ksB ks ks' && Nat.beq (lenI ks) 1 with
   | true=>match l with
    | .fn 5 (.pr _ (.fn 30 _))=>some (.nest ks' l n tot elem)
    | _=>none
   | false=>none
  | _=>none
 | .flat ks _ _ _ _=>match x with
  | .cells cs tot elem=>match cellsK ks cs [],totOf (lenI ks) tot with
   | some l,some t=>match l with
    | []=>match t with
     | .int (.ofNat m)=>match Nat.blt 0 (lenI ks) with
      | true=>some (.flat ks (.fn 10 (.int 0)) (.int 0) (.int (.ofNat m)) elem)
      | false=>none
     | _=>none
    | _=>match Nat.beq (Nat.mul (Nat.div (lenI cs) (lenI ks)) (lenI ks)) (lenI cs) with
     | true=>some (.flat ks (mkList l) (.int (.ofNat (Nat.div (lenI cs) (lenI ks)))) t elem)
     | false=>none
   | _,_=>none
  | _=>none
 | _=>none
noncomputable def E.go_ar (b:E) (f:BinOp→IntKind→E→E→T E→T E):T E→T E:=E.rec (motive:=fun _=>T E→T E) (fun _ t=>t) (fun _ t=>t) (fun _ t=>t) (fun _ t=>t) (fun x0 x1 x2 x3 _ _=>f x0 x1 x2 x3) (fun _ _ _ _ _ t=>t) (fun _ _ _ _ t=>t) (fun _ _ _ _ t=>t) (fun _ _ _ t=>t) (fun _ _ t=>t) (fun _ _ _ _ t=>t) (fun _ _ _ _ t=>t) (fun _ _ _ _ t=>t) (fun _ _ _ _ t=>t) (fun _ _ _ t=>t) (fun _ _ _ _ t=>t) b
noncomputable def E.go_fn (b:E) (f:Nat→E→T E→T E):T E→T E:=E.rec (motive:=fun _=>T E→T E) (fun _ t=>t) (fun _ t=>t) (fun _ t=>t) (fun _ t=>t) (fun _ _ _ _ _ _ t=>t) (fun _ _ _ _ _ t=>t) (fun _ _ _ _ t=>t) (fun _ _ _ _ t=>t) (fun _ _ _ t=>t) (fun _ _ t=>t) (fun _ _ _ _ t=>t) (fun _ _ _ _ t=>t) (fun _ _ _ _ t=>t) (fun _ _ _ _ t=>t) (fun x0 x1 _=>f x0 x1) (fun _ _ _ _ t=>t) b
noncomputable def E.go_pr (b:E) (f:E→E→T E→T E):T E→T E:=E.rec (motive:=fun _=>T E→T E) (fun _ t=>t) (fun _ t=>t) (fun _ t=>t) (fun _ t=>t) (fun _ _ _ _ _ _ t=>t) (fun _ _ _ _ _ t=>t) (fun _ _ _ _ t=>t) (fun _ _ _ _ t=>t) (fun _ _ _ t=>t) (fun _ _ t=>t) (fun _ _ _ _ t=>t) (fun _ _ _ _ t=>t) (fun _ _ _ _ t=>t) (fun _ _ _ _ t=>t) (fun _ _ _ t=>t) (fun x0 x1 _ _=>f x0 x1) b
noncomputable def E.go_not (b:E) (f:E→T E→T E):T E→T E:=E.rec (motive:=fun _=>T E→T E) (fun _ t=>t) (fun _ t=>t) (fun _ t=>t) (fun _ t=>t) (fun _ _ _ _ _ _ t=>t) (fun _ _ _ _ _ t=>t) (fun _ _ _ _ t=>t) (fun _ _ _ _ t=>t) (fun _ _ _ t=>t) (fun x0 _=>f x0) (fun _ _ _ _ t=>t) (fun _ _ _ _ t=>t) (fun _ _ _ _ t=>t) (fun _ _ _ _ t=>t) (fun _ _ _ t=>t) (fun _ _ _ _ t=>t) b
noncomputable def guessE (n0:Nat) (a:E):E→T E→T E :=
 E.rec (motive:=fun _=>E→T E→T E)
  (fun _ _ t=>t)
  (fun _ _ t=>t)
  (fun _ _ t=>t)
  (fun i e t=>Bool.rec (t.set (Nat.sub i n0) e) t (Nat.blt i n0))
  (fun _ _ _ _ f g e=>e.go_ar fun _ _ a b t=>g b (f a t))
  (fun _ _ _ _ _ _ t=>t)
  (fun _ _ _ _ _ t=>t)
  (fun _ _ _ _ _ t=>t)
  (fun _ _ _ _ t=>t)
  (fun _ f e=>e.go_not fun a t=>f a t)
  (fun _ _ _ _ _ t=>t)
  (fun _ _ _ _ _ t=>t)
  (fun _ _ _ _ _ t=>t)
  (fun _ _ _ _ _ t=>t)
  (fun _ _ f e=>e.go_fn fun _ a t=>f a t)
  (fun _ _ f g e=>e.go_pr fun a b t=>g b (f a t))
  a
abbrev G2:=T E × T Nat
noncomputable def SV.go_int (v:SV) (f:E→G2→G2):G2→G2:=SV.rec (motive_1:=fun _=>G2→G2) (motive_2:=fun _=>G2→G2) (fun _ e=>f e) (fun _ g=>g) (fun _ g=>g) (fun g=>g) (fun _ _ g=>g) (fun g=>g) (fun _ _ _ _ g=>g) (fun _ _ _ g=>g) (fun _ _ g=>g) (fun _ _ _ _ g=>g) (fun g=>g) (fun _ g=>g) (fun g=>g) (fun g=>g) (fun _ _ _ _ _ g=>g) (fun _ _ g=>g) (fun _ _ g=>g) (fun g=>g) (fun _ _ _ _ _ g=>g) (fun _ _ _ _ _ _ _ g=>g) (fun g=>g) (fun _ _ _ _ g=>g) v
noncomputable def SV.go_bool (v:SV) (f:E→G2→G2):G2→G2:=SV.rec (motive_1:=fun _=>G2→G2) (motive_2:=fun _=>G2→G2) (fun _ _ g=>g) (fun e=>f e) (fun _ g=>g) (fun g=>g) (fun _ _ g=>g) (fun g=>g) (fun _ _ _ _ g=>g) (fun _ _ _ g=>g) (fun _ _ g=>g) (fun _ _ _ _ g=>g) (fun g=>g) (fun _ g=>g) (fun g=>g) (fun g=>g) (fun _ _ _ _ _ g=>g) (fun _ _ g=>g) (fun _ _ g=>g) (fun g=>g) (fun _ _ _ _ _ g=>g) (fun _ _ _ _ _ _ _ g=>g) (fun g=>g) (fun _ _ _ _ g=>g) v
noncomputable def SV.go_str (v:SV) (f:E→G2→G2):G2→G2:=SV.rec (motive_1:=fun _=>G2→G2) (motive_2:=fun _=>G2→G2) (fun _ _ g=>g) (fun _ g=>g) (fun e=>f e) (fun g=>g) (fun _ _ g=>g) (fun g=>g) (fun _ _ _ _ g=>g) (fun _ _ _ g=>g) (fun _ _ g=>g) (fun _ _ _ _ g=>g) (fun g=>g) (fun _ g=>g) (fun g=>g) (fun g=>g) (fun _ _ _ _ _ g=>g) (fun _ _ g=>g) (fun _ _ g=>g) (fun g=>g) (fun _ _ _ _ _ g=>g) (fun _ _ _ _ _ _ _ g=>g) (fun g=>g) (fun _ _ _ _ g=>g) v
noncomputable def SV.go_ptr (v:SV) (f:Nat→Off→G2→G2):G2→G2:=SV.rec (motive_1:=fun _=>G2→G2) (motive_2:=fun _=>G2→G2) (fun _ _ g=>g) (fun _ g=>g) (fun _ g=>g) (fun g=>g) (fun b o=>f b o) (fun g=>g) (fun _ _ _ _ g=>g) (fun _ _ _ g=>g) (fun _ _ g=>g) (fun _ _ _ _ g=>g) (fun g=>g) (fun _ g=>g) (fun g=>g) (fun g=>g) (fun _ _ _ _ _ g=>g) (fun _ _ g=>g) (fun _ _ g=>g) (fun g=>g) (fun _ _ _ _ _ g=>g) (fun _ _ _ _ _ _ _ g=>g) (fun g=>g) (fun _ _ _ _ g=>g) v
noncomputable def SV.go_slice (v:SV) (f:Nat→Off→E→E→G2→G2):G2→G2:=SV.rec (motive_1:=fun _=>G2→G2) (motive_2:=fun _=>G2→G2) (fun _ _ g=>g) (fun _ g=>g) (fun _ g=>g) (fun g=>g) (fun _ _ g=>g) (fun g=>g) (fun b o l c=>f b o l c) (fun _ _ _ g=>g) (fun _ _ g=>g) (fun _ _ _ _ g=>g) (fun g=>g) (fun _ g=>g) (fun g=>g) (fun g=>g) (fun _ _ _ _ _ g=>g) (fun _ _ g=>g) (fun _ _ g=>g) (fun g=>g) (fun _ _ _ _ _ g=>g) (fun _ _ _ _ _ _ _ g=>g) (fun g=>g) (fun _ _ _ _ g=>g) v
noncomputable def SV.go_nslice (v:SV) (f:Nat→E→E→G2→G2):G2→G2:=SV.rec (motive_1:=fun _=>G2→G2) (motive_2:=fun _=>G2→G2) (fun _ _ g=>g) (fun _ g=>g) (fun _ g=>g) (fun g=>g) (fun _ _ g=>g) (fun g=>g) (fun _ _ _ _ g=>g) (fun b l c=>f b l c) (fun _ _ g=>g) (fun _ _ _ _ g=>g) (fun g=>g) (fun _ g=>g) (fun g=>g) (fun g=>g) (fun _ _ _ _ _ g=>g) (fun _ _ g=>g) (fun _ _ g=>g) (fun g=>g) (fun _ _ _ _ _ g=>g) (fun _ _ _ _ _ _ _ g=>g) (fun g=>g) (fun _ _ _ _ g=>g) v
noncomputable def SV.go_bsl (v:SV) (f:E→G2→G2):G2→G2:=SV.rec (motive_1:=fun _=>G2→G2) (motive_2:=fun _=>G2→G2) (fun _ _ g=>g) (fun _ g=>g) (fun _ g=>g) (fun g=>g) (fun _ _ g=>g) (fun g=>g) (fun _ _ _ _ g=>g) (fun _ _ _ g=>g) (fun _ e=>f e) (fun _ _ _ _ g=>g) (fun g=>g) (fun _ g=>g) (fun g=>g) (fun g=>g) (fun _ _ _ _ _ g=>g) (fun _ _ g=>g) (fun _ _ g=>g) (fun g=>g) (fun _ _ _ _ _ g=>g) (fun _ _ _ _ _ _ _ g=>g) (fun g=>g) (fun _ _ _ _ g=>g) v
noncomputable def SV.go_bptr (v:SV) (f:E→E→G2→G2):G2→G2:=SV.rec (motive_1:=fun _=>G2→G2) (motive_2:=fun _=>G2→G2) (fun _ _ g=>g) (fun _ g=>g) (fun _ g=>g) (fun g=>g) (fun _ _ g=>g) (fun g=>g) (fun _ _ _ _ g=>g) (fun _ _ _ g=>g) (fun _ _ g=>g) (fun _ e i _=>f e i) (fun g=>g) (fun _ g=>g) (fun g=>g) (fun g=>g) (fun _ _ _ _ _ g=>g) (fun _ _ g=>g) (fun _ _ g=>g) (fun g=>g) (fun _ _ _ _ _ g=>g) (fun _ _ _ _ _ _ _ g=>g) (fun g=>g) (fun _ _ _ _ g=>g) v
noncomputable def SV.go_map (v:SV) (f:Nat→G2→G2):G2→G2:=SV.rec (motive_1:=fun _=>G2→G2) (motive_2:=fun _=>G2→G2) (fun _ _ g=>g) (fun _ g=>g) (fun _ g=>g) (fun g=>g) (fun _ _ g=>g) (fun g=>g) (fun _ _ _ _ g=>g) (fun _ _ _ g=>g) (fun _ _ g=>g) (fun _ _ _ _ g=>g) (fun g=>g) (fun b=>f b) (fun g=>g) (fun g=>g) (fun _ _ _ _ _ g=>g) (fun _ _ g=>g) (fun _ _ g=>g) (fun g=>g) (fun _ _ _ _ _ g=>g) (fun _ _ _ _ _ _ _ g=>g) (fun g=>g) (fun _ _ _ _ g=>g) v
noncomputable def SV.go_func (v:SV) (f:List SV→List SV→G2→G2):G2→G2:=SV.rec (motive_1:=fun _=>G2→G2) (motive_2:=fun _=>G2→G2) (fun _ _ g=>g) (fun _ g=>g) (fun _ g=>g) (fun g=>g) (fun _ _ g=>g) (fun g=>g) (fun _ _ _ _ g=>g) (fun _ _ _ g=>g) (fun _ _ g=>g) (fun _ _ _ _ g=>g) (fun g=>g) (fun _ g=>g) (fun g=>g) (fun g=>g) (fun _ fi ca _ _=>f fi ca) (fun _ _ g=>g) (fun _ _ g=>g) (fun g=>g) (fun _ _ _ _ _ g=>g) (fun _ _ _ _ _ _ _ g=>g) (fun g=>g) (fun _ _ _ _ g=>g) v
noncomputable def SV.go_agg (v:SV) (f:List SV→G2→G2):G2→G2:=SV.rec (motive_1:=fun _=>G2→G2) (motive_2:=fun _=>G2→G2) (fun _ _ g=>g) (fun _ g=>g) (fun _ g=>g) (fun g=>g) (fun _ _ g=>g) (fun g=>g) (fun _ _ _ _ g=>g) (fun _ _ _ g=>g) (fun _ _ g=>g) (fun _ _ _ _ g=>g) (fun g=>g) (fun _ g=>g) (fun g=>g) (fun g=>g) (fun _ _ _ _ _ g=>g) (fun cs _=>f cs) (fun _ _ g=>g) (fun g=>g) (fun _ _ _ _ _ g=>g) (fun _ _ _ _ _ _ _ g=>g) (fun g=>g) (fun _ _ _ _ g=>g) v
noncomputable def SV.go_tup (v:SV) (f:List SV→G2→G2):G2→G2:=SV.rec (motive_1:=fun _=>G2→G2) (motive_2:=fun _=>G2→G2) (fun _ _ g=>g) (fun _ g=>g) (fun _ g=>g) (fun g=>g) (fun _ _ g=>g) (fun g=>g) (fun _ _ _ _ g=>g) (fun _ _ _ g=>g) (fun _ _ g=>g) (fun _ _ _ _ g=>g) (fun g=>g) (fun _ g=>g) (fun g=>g) (fun g=>g) (fun _ _ _ _ _ g=>g) (fun _ _ g=>g) (fun cs _=>f cs) (fun g=>g) (fun _ _ _ _ _ g=>g) (fun _ _ _ _ _ _ _ g=>g) (fun g=>g) (fun _ _ _ _ g=>g) v
noncomputable def guessB (b0 b b':Nat) (t:T Nat):T Nat:=Bool.rec (t.set (Nat.sub b b0) b') t (Nat.blt b b0)
noncomputable def gE (n0:Nat) (e e':E) (g:G2):G2:=(guessE n0 e e' g.1,g.2)
noncomputable def gB (b0 b b':Nat) (g:G2):G2:=(g.1,guessB b0 b b' g.2)
noncomputable def List.goK (l:List SV) (f:SV→List SV→G2→G2):G2→G2:=List.rec (motive:=fun _=>G2→G2) (fun g=>g) (fun v vs _=>f v vs) l
noncomputable def gSlice (n0 b0:Nat) (v:SV) (b:Nat) (l c:E):G2→G2 :=
 v.go_slice fun b' _ l' c' g=>gE n0 c c' (gE n0 l l' (gB b0 b b' g))
noncomputable def guessV (n0 b0:Nat) (v:SV):SV→G2→G2 :=
 SV.rec (motive_1:=fun _=>SV→G2→G2) (motive_2:=fun _=>List SV→G2→G2)
  (fun _ e v=>v.go_int fun e' g=>gE n0 e e' g)
  (fun e v=>v.go_bool fun e' g=>gE n0 e e' g)
  (fun e v=>v.go_str fun e' g=>gE n0 e e' g)
  (fun _ g=>g)
  (fun b o v=>v.go_ptr fun b' o' g=>gE n0 o.idx o'.idx (gB b0 b b' g))
  (fun _ g=>g)
  (fun b o l c v=>v.go_slice fun b' o' l' c' g=>gE n0 c c' (gE n0 l l' (gE n0 o.idx o'.idx (gB b0 b b' g))))
  (fun b l c v g=>gSlice n0 b0 v b l c (v.go_nslice (fun b' l' c' g=>gE n0 c c' (gE n0 l l' (gB b0 b b' g))) g))
  (fun _ e v=>v.go_bsl fun e' g=>gE n0 e e' g)
  (fun _ e i _ v=>v.go_bptr fun e' i' g=>gE n0 i i' (gE n0 e e' g))
  (fun _ g=>g)
  (fun b v=>v.go_map fun b' g=>gB b0 b b' g)
  (fun _ g=>g) (fun _ g=>g)
  (fun _ _ _ f1 f2 v=>v.go_func fun fi ca g=>f2 ca (f1 fi g))
  (fun _ f v=>v.go_agg fun cs g=>f cs g)
  (fun _ f v=>v.go_tup fun cs g=>f cs g)
  (fun _ g=>g)
  (fun _ _ _ _ _ _ g=>g) (fun _ _ _ _ _ _ _ _ g=>g)
  (fun _ g=>g)
  (fun _ _ f1 f2 l=>List.goK l fun v vs g=>f2 vs (f1 v g)) v
noncomputable def guessVs (n0 b0:Nat) (vs:List SV):List SV→G2→G2 :=
 List.rec (motive:=fun _=>List SV→G2→G2) (fun _ g=>g) (fun v _ f l=>List.goK l fun v' vs' g=>f vs' (guessV n0 b0 v v' g)) vs
noncomputable def T.goK (t:T SV) (f:SV→T SV→T SV→G2→G2):G2→G2:=T.rec (motive:=fun _=>G2→G2) (fun g=>g) (fun v l r _ _=>f v l r) t
noncomputable def guessT (n0 b0:Nat) (t:Tm):Tm→G2→G2 :=
 T.rec (motive:=fun _=>Tm→G2→G2) (fun _ g=>g) (fun v _ _ f1 f2 t=>T.goK t fun v' l' r' g=>f2 r' (f1 l' (guessV n0 b0 v v' g))) t
def guessPs (n0 b0:Nat):List Ent→List Ent→T E × T Nat→T E × T Nat
 | x::es,y::es',g=>guessPs n0 b0 es es' (let h:=guessV n0 b0 x.v y.v (guessV n0 b0 x.k y.k g); (guessE n0 x.born y.born h.1,h.2))
 | _,_,g=>g
def guessH (n0 b0:Nat) (heap:T Blk):T Blk→Nat→Nat→T E × T Nat→T E × T Nat
 | .nil,_,_,g=>g
 | .node x l r,a,d,g =>
  let j:=match Nat.blt a b0 with | true=>some a | false=>g.2.get (Nat.sub a b0)
  let g:=match j with
   | some j=>match heap.get j with
    | some y=>match x.obj,(match objConv x.obj y.obj with | some o=>o | none=>y.obj) with
     | .mapl _ _ e,.mapl _ _ e'=>(guessE n0 e e' g.1,g.2)
     | .iter _ _ e n u,.iter _ _ e' n' u'=>(match u,u' with
      | some x,some x'=>guessE n0 x x' (guessE n0 n n' (guessE n0 e e' g.1))
      | _,_=>guessE n0 n n' (guessE n0 e e' g.1),g.2)
     | .cells cs t _,.cells cs' t' _=>let g:=guessVs n0 b0 cs cs' g; (guessE n0 t t' g.1,g.2)
     | .nest _ e n t _,.nest _ e' n' t' _=>(guessE n0 t t' (guessE n0 n n' (guessE n0 e e' g.1)),g.2)
     | .flat _ e n t _,.flat _ e' n' t' _=>(guessE n0 t t' (guessE n0 n n' (guessE n0 e e' g.1)),g.2)
     | .map es c,.map es' c'=>let h:=guessPs n0 b0 es es' g; (guessE n0 c c' h.1,h.2)
     | _,_=>g
    | none=>g
   | none=>g
  guessH n0 b0 heap r (Nat.add a (Nat.add d d)) (Nat.add d d) (guessH n0 b0 heap l (Nat.add a d) (Nat.add d d) g)
def upTo {α:Type} (t:T α) (x:α):Nat→Nat→List α
 | 0,_=>[]
 | n + 1,i=>(match t.get i with | some y=>y | none=>x)::upTo t x n (Nat.succ i)
def guess (n0 b0:Nat) (tmps:Tm) (st:St) (τ:Tmpl):Sub :=
 let nE:=Nat.sub τ.st.nv n0
 let nB:=Nat.sub τ.st.nb b0
 let g:=guessH n0 b0 st.heap τ.st.heap 0 1 (guessT n0 b0 τ.tmps tmps (T.fill (.int 0) 20 nE,T.fill 0 20 nB))
 let g:=guessH n0 b0 st.heap τ.st.heap 0 1 g
 ⟨n0,upTo g.1 (.int 0) nE 0,b0,upTo g.2 0 nB 0⟩
def scpAll (nv:Nat):List E→Bool
 | []=>true
 | e::es=>match e.scp nv with
  | true=>scpAll nv es
  | false=>false
def bltAll (nb:Nat):List Nat→Bool
 | []=>true
 | b::bs=>match Nat.blt b nb with
  | true=>bltAll nb bs
  | false=>false
noncomputable def slotFits (z:Sub) (p v:SV):Bool:=Bool.rec ((p.sub z).beq v) true (isJunk p)
theorem slotFits_eq (z:Sub) (p v:SV):slotFits z p v=(match p with
 | .junk=>true
 | _=>(p.sub z).beq v):=by cases p <;> rfl
noncomputable def tmNil (t:Tm):Bool:=T.rec (motive:=fun _=>Bool) true (fun _ _ _ _ _=>false) t
noncomputable def tmNode (t:Tm) (f:SV→Tm→Tm→Bool):Bool:=T.rec (motive:=fun _=>Bool) false (fun v l r _ _=>f v l r) t
noncomputable def tmFits (z:Sub) (p:Tm):Tm→Bool :=
 T.rec (motive:=fun _=>Tm→Bool) tmNil (fun p _ _ fl fr t=>tmNode t fun v l' r'=>Bool.rec false (Bool.rec false (fr r') (fl l')) (slotFits z p v)) p
theorem tmFits_nn (z:Sub) (p v:SV) (l r l' r':Tm):tmFits z (.node p l r) (.node v l' r')=(match slotFits z p v with
  | true=>match tmFits z l l' with
   | true=>tmFits z r r'
   | false=>false
  | false=>false):=by
 have h:tmFits z (.node p l r) (.node v l' r')=Bool.rec (motive:=fun _=>Bool) false (Bool.rec (motive:=fun _=>Bool) false (tmFits z r r') (tmFits z l l')) (slotFits z p v):=rfl
 rw [h]
 cases slotFits z p v
 ·rfl
 ·cases tmFits z l l' <;> rfl
def objFits (z:Sub) (p x:SObj):Bool :=
 match p with
 | .gone=>true
 | _=>match objConv p x with
  | some x'=>(p.sub z).beq x'
  | none=>(p.sub z).beq x
def blkFits (z:Sub) (heap:T Blk) (nb a:Nat) (p:Blk):Bool :=
 match Nat.blt a nb with
 | true=>match p.obj with
  | .gone=>true
  | _=>match heap.get (subBlk z.b0 z.bs a) with
   | some x=>boolB p.own x.own && objFits z p.obj x.obj
   | none=>false
 | false=>false
def heapFits (z:Sub) (heap:T Blk) (nb:Nat):T Blk→Nat→Nat→Bool
 | .nil,_,_=>true
 | .node p l r,a,d=>match blkFits z heap nb a p with
  | true=>match heapFits z heap nb l (Nat.add a d) (Nat.add d d) with
   | true=>heapFits z heap nb r (Nat.add a (Nat.add d d)) (Nat.add d d)
   | false=>false
  | false=>false
def liveAt:T Blk→Nat→Nat→List Nat→List Nat
 | .nil,_,_,acc=>acc
 | .node p l r,a,d,acc =>
  match p.obj with
  | .gone=>liveAt r (Nat.add a (Nat.add d d)) (Nat.add d d) (liveAt l (Nat.add a d) (Nat.add d d) acc)
  | _=>liveAt r (Nat.add a (Nat.add d d)) (Nat.add d d) (liveAt l (Nat.add a d) (Nat.add d d) (a::acc))
def images (z:Sub):List Nat→List Nat
 | []=>[]
 | i::l=>subBlk z.b0 z.bs i::images z l
def hasNat (n:Nat):List Nat→Bool
 | []=>false
 | m::ms=>match Nat.beq n m with
  | true=>true
  | false=>hasNat n ms
def allDiff:List Nat→Bool
 | []=>true
 | n::ns=>match hasNat n ns with
  | true=>false
  | false=>allDiff ns
inductive Fit where
 | ok (z:Sub)
 | lack (e:E)
 | bad (n:Nat)
def pcLack (fs:List E) (z:Sub) (pc:List E):List E→Fit
 | []=>.ok z
 | e::es=>match knownE fs pc (e.sub z.n0 z.es) with
  | some true=>pcLack fs z pc es
  | _=>.lack (e.sub z.n0 z.es)
def fits (fs:List E) (n0 b0:Nat) (tmps:Tm) (st:St) (τ:Tmpl):Fit :=
 let z:=guess n0 b0 tmps st τ
 match Nat.beq (Nat.add n0 (lenI z.es)) τ.st.nv && Nat.beq (Nat.add b0 (lenI z.bs)) τ.st.nb && (scpAll st.nv z.es && bltAll st.nb z.bs) with
 | true=>match tmFits z τ.tmps tmps with
  | true=>match heapFits z st.heap τ.st.nb τ.st.heap 0 1 with
   | true=>match allDiff (images z (liveAt τ.st.heap 0 1 [])) with
    | true=>pcLack fs z st.pc τ.st.pc
    | false=>.bad 4
   | false=>.bad 3
  | false=>.bad 2
 | false=>.bad 1
noncomputable def T.map {α β:Type} (f:α→β) (t:T α):T β:=T.rec (motive:=fun _=>T β) T.nil (fun v _ _ a b=>T.node (f v) a b) t
def isCellsO:Option Blk→Bool
 | some b=>match b.obj with
  | .cells _ _ _=>true
  | _=>false
 | none=>false
def offZero (o:Off):Bool :=
 match litOff o with
 | some n=>Nat.beq n 0
 | none=>false
mutual
def SV.norm (h:T Blk):SV→SV
 | .int k e=>.int k e
 | .bool e=>.bool e
 | .str e=>.str e
 | .ptr b o=>.ptr b o
 | .slice b o l c=>match isCellsO (h.get b) && offZero o with
  | true=>.nslice b l c
  | false=>.slice b o l c
 | .nslice b l c=>.nslice b l c
 | .bsl ks e=>.bsl ks e
 | .bptr ks e i j=>.bptr ks e i j
 | .nsl b ks e i c=>.nsl b ks e i c
 | .nptr b ks e i c x j=>.nptr b ks e i c x j
 | .map b=>.map b
 | .func fn fi ca=>.func fn (SV.norms h fi) (SV.norms h ca)
 | .agg cs=>.agg (SV.norms h cs)
 | .tup cs=>.tup (SV.norms h cs)
 | .nilp=>.nilp
 | .nils=>.nils
 | .nilm=>.nilm
 | .nili=>.nili
 | .nilf=>.nilf
 | .junk=>.junk
def SV.norms (h:T Blk):List SV→List SV
 | []=>[]
 | v::vs=>v.norm h::SV.norms h vs
end
def SObj.norm (h:T Blk):SObj→SObj
 | .cells cs tot e=>.cells (SV.norms h cs) tot e
 | .gone=>.gone
 | .flat ks l n tot e=>.flat ks l n tot e
 | .map es c=>.map es c
 | .mapl k c e=>.mapl k c e
 | .maplp k c e ke s=>.maplp k c e ke s
 | .iter k c e n u=>.iter k c e n u
 | .nest ks l n tot e=>.nest ks l n tot e
def Blk.norm (h:T Blk) (b:Blk):Blk:=⟨b.own,b.obj.norm h⟩
def St.norm (st:St):St:=⟨st.nv,st.nb,st.heap.map (Blk.norm st.heap),st.pc⟩
def fitsN (fs:List E) (n0 b0:Nat) (tmps:Tm) (st:St) (τ:Tmpl):Fit:=fits fs n0 b0 (tmps.map (SV.norm st.heap)) st.norm τ
def keepScp (nv:Nat):List E→List E
 | []=>[]
 | e::es=>match e.scp nv with
  | true=>e::keepScp nv es
  | false=>keepScp nv es
def backSt (st:St) (v:SV) (st':St):St :=
 match Nat.beq st.nb st'.nb && Nat.beq st.nv st'.nv with
 | true=>st'
 | false=>match v.plain && (v.scp st.nv st.nb && (st.scp && heapIn st.heap st'.heap)) with
  | true=>⟨st.nv,st.nb,st.heap,keepScp st.nv st'.pc⟩
  | false=>st'
def addBit (b:Nat) (m:Nat):Nat:=Nat.lor (Nat.pow 2 b) m
mutual
def SV.blks:SV→Nat→Nat
 | .ptr b _,m=>addBit b m
 | .slice b _ _ _,m=>addBit b m
 | .nslice b _ _,m=>addBit b m
 | .map b,m=>addBit b m
 | .nsl b _ _ _ _,m=>addBit b m
 | .nptr b _ _ _ _ _ _,m=>addBit b m
 | .func _ fi ca,m=>SV.blkss ca (SV.blkss fi m)
 | .agg cs,m=>SV.blkss cs m
 | .tup cs,m=>SV.blkss cs m
 | _,m=>m
def SV.blkss:List SV→Nat→Nat
 | [],m=>m
 | v::vs,m=>SV.blkss vs (SV.blks v m)
end
def entBlks:List Ent→Nat→Nat
 | [],m=>m
 | x::es,m=>entBlks es (SV.blks x.v (SV.blks x.k m))
def SObj.blks:SObj→Nat→Nat
 | .cells cs _ _,m=>SV.blkss cs m
 | .map es _,m=>entBlks es m
 | _,m=>m
def reach1 (heap:T Blk) (m:Nat):Nat→Nat→Nat→Nat
 | 0,_,r=>r
 | n + 1,b,r=>match Nat.testBit m b with
  | true=>match heap.get b with
   | some x=>forceK (x.obj.blks r) fun r=>reach1 heap m n (Nat.succ b) r
   | none=>reach1 heap m n (Nat.succ b) r
  | false=>reach1 heap m n (Nat.succ b) r
def reachN (heap:T Blk) (n b0:Nat):Nat→Nat→Nat
 | 0,m=>m
 | k + 1,m=>forceK (reach1 heap m n b0 m) fun m'=>match Nat.beq m m' with
  | true=>m
  | false=>reachN heap n b0 k m'
def dropB (m:Nat):Nat→Nat→T Blk→T Blk
 | 0,_,h=>h
 | n + 1,b,h=>match Nat.testBit m b with
  | true=>dropB m n (Nat.succ b) h
  | false=>T.setK h b ⟨true,.gone⟩ fun h=>dropB m n (Nat.succ b) h
def E.vset:E→Nat→Nat
 | .var i,m=>addBit i m
 | .ar _ _ a b,m=>E.vset b (E.vset a m)
 | .cmp _ a b,m=>E.vset b (E.vset a m)
 | .mn a b,m=>E.vset b (E.vset a m)
 | .mx a b,m=>E.vset b (E.vset a m)
 | .wr _ a,m=>E.vset a m
 | .not a,m=>E.vset a m
 | .and a b,m=>E.vset b (E.vset a m)
 | .seq a b,m=>E.vset b (E.vset a m)
 | .iff a b,m=>E.vset b (E.vset a m)
 | .imp a b,m=>E.vset b (E.vset a m)
 | .fn _ a,m=>E.vset a m
 | .pr a b,m=>E.vset b (E.vset a m)
 | _,m=>m
mutual
def SV.vset:SV→Nat→Nat
 | .int _ e,m=>e.vset m
 | .bool e,m=>e.vset m
 | .str e,m=>e.vset m
 | .ptr _ o,m=>o.idx.vset m
 | .slice _ o l c,m=>c.vset (l.vset (o.idx.vset m))
 | .nslice _ l c,m=>c.vset (l.vset m)
 | .bsl _ e,m=>e.vset m
 | .bptr _ e i _,m=>i.vset (e.vset m)
 | .nsl _ _ e i _,m=>i.vset (e.vset m)
 | .nptr _ _ e i _ x _,m=>x.vset (i.vset (e.vset m))
 | .func _ fi ca,m=>SV.vsets ca (SV.vsets fi m)
 | .agg cs,m=>SV.vsets cs m
 | .tup cs,m=>SV.vsets cs m
 | _,m=>m
def SV.vsets:List SV→Nat→Nat
 | [],m=>m
 | v::vs,m=>SV.vsets vs (SV.vset v m)
end
def entVset:List Ent→Nat→Nat
 | [],m=>m
 | x::es,m=>entVset es (x.born.vset (SV.vset x.v (SV.vset x.k m)))
def SObj.vset:SObj→Nat→Nat
 | .gone,m=>m
 | .cells cs t _,m=>t.vset (SV.vsets cs m)
 | .flat _ l n t _,m=>t.vset (n.vset (l.vset m))
 | .nest _ l n t _,m=>t.vset (n.vset (l.vset m))
 | .map es c,m=>c.vset (entVset es m)
 | .mapl _ _ e,m=>e.vset m
 | .maplp _ _ e ke s,m=>s.vset (ke.vset (e.vset m))
 | .iter _ _ e n u,m=>match u with | none=>n.vset (e.vset m) | some x=>x.vset (n.vset (e.vset m))
def blkVset (heap:T Blk) (bs:Nat):Nat→Nat→Nat→Nat
 | 0,_,r=>r
 | n + 1,b,r=>match Nat.testBit bs b with
  | true=>match heap.get b with
   | some x=>forceK (x.obj.vset r) fun r=>blkVset heap bs n (Nat.succ b) r
   | none=>blkVset heap bs n (Nat.succ b) r
  | false=>blkVset heap bs n (Nat.succ b) r
def keepVs (nv live:Nat):List E→List E
 | []=>[]
 | e::es=>match Nat.beq (Nat.land (Nat.shiftRight (e.vset 0) nv) live) (Nat.shiftRight (e.vset 0) nv) with
  | true=>e::keepVs nv live es
  | false=>keepVs nv live es
def gcSt (st:St) (v:SV) (st':St):St :=
 match Nat.beq st.nb st'.nb with
 | true=>st'
 | false=>match heapIn st.heap st'.heap with
  | true=>forceK (reachN st'.heap (Nat.sub st'.nb st.nb) st.nb 40 (SV.blks v 0)) fun m =>
    forceK (Nat.shiftRight (blkVset st'.heap m (Nat.sub st'.nb st.nb) st.nb (SV.vset v 0)) st.nv) fun live =>
     ⟨st'.nv,st'.nb,dropB m (Nat.sub st'.nb st.nb) st.nb st'.heap,keepVs st.nv live st'.pc⟩
  | false=>st'
def hasVal (v:SV) (st:St):List (SV × St)→Bool
 | []=>false
 | x::xs=>match v.beq x.1 && st.beq x.2 with
  | true=>true
  | false=>hasVal v st xs
def oneTm (v:SV):Tm:=.node v .nil .nil
def tmplOk (n0 b0:Nat) (t:Tm) (st:St):Bool:=Nat.ble n0 st.nv && (Nat.ble b0 st.nb && (st.scp && tmScoped st.nv st.nb t))
def isOk:Fit→Bool
 | .ok _=>true
 | _=>false
def likeOne (fs:List E) (n0 b0:Nat) (t:Tm) (st:St):List (Tm × St)→Bool
 | []=>false
 | x::xs=>match tmplOk n0 b0 x.1 x.2 && isOk (fits fs n0 b0 t st ⟨x.1,x.2,.int 0⟩) with
  | true=>true
  | false=>likeOne fs n0 b0 t st xs
def asTms:List (SV × St)→List (Tm × St)
 | []=>[]
 | x::xs=>match x.1 with
  | .junk=>asTms xs
  | v=>(oneTm v,x.2)::asTms xs
def addVal (fs:List E) (st0:St) (v:SV) (st:St) (acc:List (SV × St)):List (SV × St) :=
 match acc with
 | []=>[(v,st)]
 | _=>match hasVal v st acc with
  | true=>acc
  | false=>match Nat.beq st0.nb st.nb && Nat.beq st0.nv st.nv with
   | true=>(v,st)::acc
   | false=>match likeOne fs st0.nv st0.nb (oneTm v) (gcSt st0 v st) (asTms acc) with
    | true=>acc
    | false=>(v,gcSt st0 v st)::acc
def callOuts (fs:List E) (st:St):List Out→List (SV × St)→Option (List (SV × St))
 | [],acc=>some acc
 | r::rs,acc=>match r.tmps with
  | .node v _ _=>callOuts fs st rs (addVal fs st v (backSt st v r.st) acc)
  | _=>none
def putOuts (tmps:Tm) (d:Option Tmp) (k:Cont):List (SV × St)→Res
 | []=>some []
 | x::xs=>join (putK tmps d x.1 fun tmps=>k tmps x.2) (putOuts tmps d k xs)
def rawOuts (_:List Out):List Out:=[]
def opDbg (_:Tm) (_:St) (_:Op):String := ""
def stepCallee (tb:Tab) (rec:Runner) (o:Oper) (tmps:Tm) (st:St) (k:Cont):Res :=
 match o.op with
 | .call c=>match callS tb tmps c with
  | some (g,args)=>match tmScoped st.nv st.nb tmps with
   | true=>match rec (.call g args) .nil st (fun r=>some [r]) with
    | some rs=>match rawOuts rs with
     | []=>match callOuts tb.facts st rs [] with
      | some l=>putOuts tmps o.dst k l
      | none=>none
     | raw=>some raw
    | none=>none
   | false=>failAt (o.pos ++ " scope")
  | none=>failAt (o.pos ++ " callee" ++ (match o.op with | .call c=>c.args.toList.foldl (fun s x=>s++opDbg tmps st (.load 0 x)) "" | _ => ""))
 | _=>failAt (o.pos ++ " operation " ++ opName o.op++opDbg tmps st o.op)
def stepEff (tb:Tab) (rec:Runner) (o:Oper) (tmps:Tm) (k:Cont) (n:Nat):St→Res :=
 Nat.rec (motive:=fun _=>St→Res) (fun _=>none) (fun _ ih st =>
  match effOp tb tmps st o.op with
  | .val v st=>putK tmps o.dst v fun tmps=>k tmps st
  | .skip st=>putK tmps o.dst .undef fun tmps=>k tmps st
  | .ask e=>join (ih { st with pc:=e::st.pc }) (ih { st with pc:=mkNot e::st.pc })
  | .lack e=>lackAt o.pos st e
  | .bad=>match effOp2 tb tmps st o.op with
   | .val v st=>putK tmps o.dst v fun tmps=>k tmps st
   | .skip st=>putK tmps o.dst .undef fun tmps=>k tmps st
   | .ask e=>join (ih { st with pc:=e::st.pc }) (ih { st with pc:=mkNot e::st.pc })
   | .lack e=>lackAt o.pos st e
   | .bad=>stepCallee tb rec o tmps st k) n
def stepGo (P:Program) (tb:Tab) (rec:Runner) (o:Oper) (tmps:Tm) (st:St) (k:Cont):Res :=
 match pureOp P tb (evalS tmps) o.op with
 | some v=>putK tmps o.dst v fun tmps=>k tmps st
 | none=>stepEff tb rec o tmps k 40 st
def stepOper (P:Program) (tb:Tab) (rec:Runner) (all:List Oper) (o:Oper) (tmps:Tm) (st:St) (k:Cont):Res :=
 match wantS all tmps o with
 | .yes=>stepGo P tb rec o tmps st k
 | .no=>putK tmps o.dst .undef fun tmps=>k tmps st
 | .bad=>failAt o.pos
 | .ask t e want=>match knownE tb.facts st.pc e with
  | some b=>T.setK tmps t (.bool (.bool b)) fun tmps=>match boolB b want with
   | true=>stepGo P tb rec o tmps st k
   | false=>putK tmps o.dst .undef fun tmps=>k tmps st
  | none =>
   join (T.setK tmps t (.bool (.bool want)) fun tmps=>stepGo P tb rec o tmps { st with pc:=(match want with | true=>e | false=>mkNot e)::st.pc } k)
    (T.setK tmps t (.bool (.bool (!want))) fun tmps=>putK tmps o.dst .undef fun tmps=>k tmps { st with pc:=(match want with | true=>mkNot e | false=>e)::st.pc })
def stepOps (P:Program) (tb:Tab) (rec:Runner) (all:List Oper) (l:List Oper):Tm→St→Cont→Res :=
 List.rec (motive:=fun _=>Tm→St→Cont→Res) (fun tmps st k=>k tmps st)
  (fun o _ ih tmps st k=>stepOper P tb rec all o tmps st fun tmps st=>ih tmps st k) l
def lexRest (k:Nat) (x:Info):List Info→Bool
 | []=>true
 | m::ms=>match Nat.testBit m.wait k with
  | true=>lexRest k x ms
  | false=>match Nat.beq (Nat.land x.dst m.reads) 0 with
   | true=>match Nat.beq (Nat.land x.dst m.dst) 0 with
    | true=>match Nat.beq (Nat.land m.dst x.reads) 0 with
     | true=>lexRest k x ms
     | false=>false
    | false=>false
   | false=>false
def lexAll:List Info→Nat→Bool
 | [],_=>true
 | m::ms,k=>match Nat.blt m.wait (Nat.pow 2 k) with
  | true=>match lexRest k m ms with
   | true=>lexAll ms (Nat.succ k)
   | false=>false
  | false=>false
inductive QR where
 | done (v:SV)
 | split (e:E)
 | bad
def quietCall (st:St) (r:Res):QR :=
 match r with
 | some os=>match os with
  | [o]=>match o.tmps with
   | .node v _ _=>match v.plain && (v.scp st.nv st.nb && st.scp && heapIn st.heap o.st.heap) with
    | true=>.done v
    | false=>.bad
   | .nil=>.bad
  | _=>.bad
 | none=>.bad
def readsOnly (o:Op):Bool :=
 match o with
 | .load _ _=>true
 | .slice _ _ _ _ _=>true
 | .lookup _ _ _ _=>true
 | .binOp _ _ _ _ _=>true
 | .indexAddr _ _ _=>true
 | .index _ _ _=>true
 | .pick _ _ _=>true
 | .call c=>match c.callee with
  | .builtin _=>true
  | _=>false
 | _=>false
def quietOp (P:Program) (tb:Tab) (rec:Runner) (o:Oper) (tmps:Tm) (st:St):QR :=
 match pureOp P tb (evalS tmps) o.op with
 | some v=>.done v
 | none=>match readsOnly o.op with
  | true=>match effOp tb tmps st o.op with
   | .val v _=>.done v
   | .ask e=>.split e
   | _=>.bad
  | false=>match o.op with
   | .call c=>match callS tb tmps c with
    | some (g,args)=>quietCall st (rec (.call g args) .nil st fun o=>some [o])
    | none=>.bad
   | _=>.bad
inductive QE where
 | done (tmps:Tm)
 | split (e:E)
 | bad
def quietOps (P:Program) (tb:Tab) (rec:Runner) (all:List Oper) (st:St):List Oper→Tm→QE
 | [],tmps=>.done tmps
 | o::os,tmps=>match wantS all tmps o with
  | .yes=>match quietOp P tb rec o tmps st with
   | .done v=>putK tmps o.dst v fun tmps=>quietOps P tb rec all st os tmps
   | .split e=>.split e
   | .bad=>.bad
  | .no=>putK tmps o.dst .undef fun tmps=>quietOps P tb rec all st os tmps
  | .bad=>.bad
  | .ask t e want=>match knownE tb.facts st.pc e with
   | some b=>T.setK tmps t (.bool (.bool b)) fun tmps=>match boolB b want with
    | true=>match quietOp P tb rec o tmps st with
     | .done v=>putK tmps o.dst v fun tmps=>quietOps P tb rec all st os tmps
     | .split e=>.split e
     | .bad=>.bad
    | false=>putK tmps o.dst .undef fun tmps=>quietOps P tb rec all st os tmps
   | none=>.split e
def noSel:List Oper→Bool
 | []=>true
 | o::os=>match o.op with
  | .select _ _=>false
  | _=>noSel os
def cloOf (m:Nat):List Nat→Nat→Nat→Nat
 | [],_,r=>r
 | c::cs,j,r=>match Nat.testBit m j with
  | true=>cloOf m cs (Nat.succ j) (Nat.lor c r)
  | false=>cloOf m cs (Nat.succ j) r
def closFrom:List Info→List Nat→List Nat
 | [],acc=>acc
 | m::ms,acc=>forceK (cloOf m.wait acc 0 m.wait) fun c=>closFrom ms (acc++[c])
inductive NS where
 | val (v:SV)
 | ask (e:E)
 | bad
def neutGo (P:Program) (tb:Tab) (tmps:Tm) (st:St) (o:Oper):NS :=
 match pureOp P tb (evalS tmps) o.op with
 | some v=>.val v
 | none=>match readsOnly o.op with
  | true=>match effOp tb tmps st o.op with
   | .val v _=>.val v
   | .ask e=>.ask e
   | _=>.bad
  | false=>.bad
def neutS (P:Program) (tb:Tab) (all:List Oper) (tmps:Tm) (st:St) (o:Oper):NS :=
 match wantS all tmps o with
 | .yes=>neutGo P tb tmps st o
 | .no=>.val .undef
 | .bad=>.bad
 | .ask _ e want=>match knownE tb.facts st.pc e with
  | some b=>match boolB b want with
   | true=>neutGo P tb tmps st o
   | false=>.val .undef
  | none=>.ask e
def confOf (dst:Nat):List Info→Nat→Nat→Nat
 | [],_,r=>r
 | m::ms,j,r=>match Nat.beq (Nat.land dst (Nat.lor m.reads m.dst)) 0 with
  | true=>confOf dst ms (Nat.succ j) r
  | false=>confOf dst ms (Nat.succ j) (Nat.lor (Nat.pow 2 j) r)
def allClo (cs:Nat) (clos:List Nat):List (Nat × Oper × Info)→Bool
 | []=>true
 | (j,_,_)::rs=>match getI clos j with
  | some c=>match Nat.beq (Nat.land cs c) cs with
   | true=>allClo cs clos rs
   | false=>false
  | none=>false
def confOk (all:List Oper) (infos:List Info) (clos:List Nat) (listed used:Nat) (m:Info):Bool :=
 match Nat.beq (Nat.land m.dst (Nat.lor m.reads used)) 0 with
 | true=>true
 | false=>Nat.beq (Nat.land m.dst m.reads) 0 && allClo (Nat.land (confOf m.dst infos 0 0) listed) clos (readyFrom listed all infos 0)
def canonScan {β:Type} (P:Program) (tb:Tab) (all:List Oper) (infos:List Info) (clos:List Nat) (st:St):List Oper→List Info→Nat→Nat→Nat→Nat→Tm→(Nat→Nat→Nat→Tm→Option E→β)→β
 | o::os,m::ms,i,listed,used,neu,tmps,k =>
  match Nat.testBit listed i with
  | true=>canonScan P tb all infos clos st os ms (Nat.succ i) listed used neu tmps k
  | false=>match Nat.beq (Nat.land m.wait listed) m.wait with
   | true=>match neutS P tb all tmps st o with
    | .val v=>match confOk all infos clos listed used m with
     | true=>putK tmps o.dst v fun tmps=>forceK (Nat.lor (Nat.pow 2 i) listed) fun listed=>forceK (Nat.lor (Nat.lor m.reads m.dst) used) fun used=>forceK (Nat.lor (Nat.pow 2 i) neu) fun neu =>
       canonScan P tb all infos clos st os ms (Nat.succ i) listed used neu tmps k
     | false=>canonScan P tb all infos clos st os ms (Nat.succ i) listed used neu tmps k
    | .ask e=>k listed used neu tmps (some e)
    | .bad=>canonScan P tb all infos clos st os ms (Nat.succ i) listed used neu tmps k
   | false=>canonScan P tb all infos clos st os ms (Nat.succ i) listed used neu tmps k
 | _,_,_,listed,used,neu,tmps,k=>k listed used neu tmps none
def SV.isJunk:SV→Bool
 | .junk=>true
 | _=>false
def recheck (P:Program) (tb:Tab) (all:List Oper) (tmps:Tm) (st:St) (neu:Nat):List Oper→Nat→Bool
 | [],_=>true
 | o::os,i=>match Nat.testBit neu i with
  | false=>recheck P tb all tmps st neu os (Nat.succ i)
  | true=>match neutS P tb all tmps st o with
   | .val v=>match o.dst with
    | none=>recheck P tb all tmps st neu os (Nat.succ i)
    | some d=>match tmps.get d with
     | some u=>match !(v.isJunk) && v.beq u with
      | true=>recheck P tb all tmps st neu os (Nat.succ i)
      | false=>false
     | none=>false
   | _=>false
def andNot (a b:Nat):Nat:=Nat.xor a (Nat.land a b)
def canonTrack (P:Program) (tb:Tab) (rec:Runner) (all:List Oper) (infos:List Info) (clos:List Nat) (listed used neu:Nat) (tmps:Tm) (st:St) (ih:Nat→Nat→Nat→Tm→St→Res):List (Nat × Oper × Info)→Res
 | []=>some []
 | (i,o,m)::rs=>match getI clos i with
  | some c=>match forceK (andNot neu c) fun neu=>stepOper P tb rec all o tmps st fun tmps st=>match recheck P tb all tmps st neu all 0 with
    | true=>forceK (Nat.lor (Nat.pow 2 i) listed) fun listed=>forceK (Nat.lor (Nat.lor m.reads m.dst) used) fun used=>ih listed used neu tmps st
    | false=>none with
   | some os=>match canonTrack P tb rec all infos clos listed used neu tmps st ih rs with
    | some os'=>some (os++os')
    | none=>none
   | none=>none
  | none=>none
def canonNext (P:Program) (tb:Tab) (rec:Runner) (all:List Oper) (infos:List Info) (clos:List Nat) (listed used neu:Nat) (tmps:Tm) (st:St) (k:Cont) (ih:Nat→Nat→Nat→Tm→St→Res):Res :=
 match readyFrom listed all infos 0 with
 | []=>k tmps st
 | rs=>canonTrack P tb rec all infos clos listed used neu tmps st ih rs
def canonGo (P:Program) (tb:Tab) (rec:Runner) (all:List Oper) (infos:List Info) (clos:List Nat) (k:Cont) (n:Nat):Nat→Nat→Nat→Tm→St→Res :=
 Nat.rec (motive:=fun _=>Nat→Nat→Nat→Tm→St→Res) (fun _ _ _ _ _=>none) (fun _ ih listed used neu tmps st =>
  canonScan P tb all infos clos st all infos 0 listed used neu tmps fun listed used neu tmps pend=>match pend with
   | some e=>join (ih listed used neu tmps { st with pc:=e::st.pc }) (ih listed used neu tmps { st with pc:=mkNot e::st.pc })
   | none=>canonNext P tb rec all infos clos listed used neu tmps st k ih) n
def collect (tmps:Tm) (st:St):Res:=some [⟨.normal,tmps,st⟩]
def mergeOuts (fs:List E) (n0 b0:Nat):List Out→List (Tm × St)→List (Tm × St)
 | [],acc=>acc
 | o::os,acc=>match acc with
  | []=>mergeOuts fs n0 b0 os [(o.tmps,o.st)]
  | _=>match likeOne fs n0 b0 o.tmps o.st acc with
   | true=>mergeOuts fs n0 b0 os acc
   | false=>mergeOuts fs n0 b0 os ((o.tmps,o.st)::acc)
def runOuts (k:Out→Res):List (Tm × St)→Res
 | []=>some []
 | x::xs=>join (k ⟨.normal,x.1,x.2⟩) (runOuts k xs)
def stepDraw (P:Program) (tb:Tab) (rec:Runner) (all:List Oper) (n:Nat) (tmps:Tm) (st:St) (k:Out→Res):Res :=
 match noSel all with
 | true=>match lexAll (infosOf all all) 0 with
  | true=>match canonGo P tb rec all (infosOf all all) (closFrom (infosOf all all) []) collect (Nat.add 10 (Nat.add n n)) 0 0 0 tmps st with
   | some outs=>match rawOuts outs with
    | []=>runOuts k (mergeOuts tb.facts st.nv st.nb outs [])
    | raw=>some raw
   | none=>match quietOps P tb rec all st all tmps with
   | .done tmps=>k ⟨.normal,tmps,st⟩
   | .split e=>join (rec (.draw all n) tmps { st with pc:=e::st.pc } k) (rec (.draw all n) tmps { st with pc:=mkNot e::st.pc } k)
   | .bad=>rec (.layer all (infosOf all all) (toNodes P tb all (infosOf all all) 0 n [⟨.normal,tmps,st⟩] [])) tmps st k
  | false=>rec (.layer all (infosOf all all) (toNodes P tb all (infosOf all all) 0 n [⟨.normal,tmps,st⟩] [])) tmps st k
 | false=>none
def keyOf:Code→Option Nat
 | .exit id=>some id
 | .seq a b=>match keyOf a with
  | some n=>some n
  | none=>keyOf b
 | .block _ b=>keyOf b
 | .loop b=>keyOf b
 | .cond _ a b=>match keyOf a with
  | some n=>some n
  | none=>keyOf b
 | _=>none
def findAnn (g key:Nat):List Ann→Option Ann
 | []=>none
 | x::xs=>match Nat.beq x.fn g with
  | true=>match Nat.beq x.key key with
   | true=>some x
   | false=>findAnn g key xs
  | false=>findAnn g key xs
def annOf (tb:Tab) (g:Nat) (b:Code):Option Ann :=
 match tb.anns with
 | []=>none
 | l=>match keyOf b with
  | some key=>findAnn g key l
  | none=>none
def fitsAny (fs:List E) (n0 b0:Nat) (tmps:Tm) (st:St) (bound:Option E):List Tmpl→Option E→Fit
 | [],why=>match why with
  | some e=>.lack e
  | none=>.bad 0
 | τ::τs,why=>match fitsN fs n0 b0 tmps st τ with
  | .ok z=>match bound with
   | none=>.ok z
   | some m=>match ltE fs st.pc (τ.less.sub z.n0 z.es) m with
    | true=>match nonneg fs st.pc (τ.less.sub z.n0 z.es) with
     | true=>.ok z
     | false=>.lack (mkNot (mkCmp .lss (τ.less.sub z.n0 z.es) (.int 0)))
    | false=>.lack (mkCmp .lss (τ.less.sub z.n0 z.es) m)
  | .lack e=>fitsAny fs n0 b0 tmps st bound τs (match why with | some e=>some e | none=>some e)
  | .bad _=>fitsAny fs n0 b0 tmps st bound τs why
def fitRes (_:Tm) (_:St) (f:Fit) (r:Res):Res :=
 match f with
 | .ok _=>r
 | _=>none
def Tmpl.scp (τ:Tmpl):Bool:=τ.st.scp && tmScoped τ.st.nv τ.st.nb τ.tmps && τ.less.scp τ.st.nv
def tmplsScp (n0 b0:Nat):List Tmpl→Bool
 | []=>true
 | τ::τs=>match Nat.ble n0 τ.st.nv && Nat.ble b0 τ.st.nb && τ.scp with
  | true=>tmplsScp n0 b0 τs
  | false=>false
def loopRuns (tb:Tab) (rec:Runner) (g:FuncId) (b:Code) (n0 b0:Nat) (ts:List Tmpl) (k:Out→Res):List Tmpl→Res
 | []=>some []
 | τ::τs=>join (rec (.code g b) τ.tmps τ.st fun o=>match o.ex with
   | .normal=>fitRes o.tmps o.st (fitsAny tb.facts n0 b0 o.tmps o.st (some τ.less) ts none) (some [])
   | _=>k o) (loopRuns tb rec g b n0 b0 ts k τs)
def exitOuts (k:Out→Res):List Out→Res
 | []=>some []
 | o::os=>join (k o) (exitOuts k os)
def padH:Nat→Nat→T Blk→T Blk
 | 0,_,t=>t
 | k + 1,n,t=>padH k (Nat.succ n) (T.ins t n ⟨true,.gone⟩)
def St.pad (st:St) (n b:Nat):St:=⟨n,b,padH (Nat.sub b st.nb) st.nb st.heap,st.pc⟩
def stepKnown (tb:Tab) (n b:Nat) (ts:List Tmpl) (xs:List Out) (tmps:Tm) (st:St) (k:Out→Res):Res :=
 match tmplsScp n b ts with
 | true=>fitRes tmps st (fitsAny tb.facts n b tmps st none ts none) (exitOuts k xs)
 | false=>failAt "templates"
def stepLoop (tb:Tab) (rec:Runner) (g:FuncId) (b:Code) (tmps:Tm) (st:St) (k:Out→Res):Res :=
 match annOf tb g b with
 | none=>rec (.rounds g b) tmps st k
 | some x=>match x.known with
  | none=>match tmplsScp st.nv st.nb x.ts with
   | true=>fitRes tmps st (fitsAny tb.facts st.nv st.nb tmps st none x.ts none) (loopRuns tb rec g b st.nv st.nb x.ts k x.ts)
   | false=>failAt "templates"
  | some y=>match Nat.beq st.nv y.n0 && Nat.beq st.nb y.b0 with
   | true=>stepKnown tb y.n0 y.b0 x.ts y.xs tmps st k
   | false=>match Nat.ble st.nv y.n0 && Nat.ble st.nb y.b0 && st.scp && tmScoped st.nv st.nb tmps with
    | true=>stepKnown tb y.n0 y.b0 x.ts y.xs tmps (st.pad y.n0 y.b0) k
    | false=>failAt "a loop's variables"
def sC_seq (rec:Runner) (g:FuncId) (tmps:Tm) (st:St) (k:Out→Res) (a b:Code):Res :=
 rec (.code g a) tmps st fun o=>match o.ex with
   | .normal=>rec (.code g b) o.tmps o.st k
   | _=>k o
def sC_block (rec:Runner) (g:FuncId) (tmps:Tm) (st:St) (k:Out→Res) (id:Nat) (b:Code):Res :=
 rec (.code g b) tmps st fun o=>match o.ex with
   | .exit i=>match Nat.beq i id with
    | true=>k ⟨.normal,o.tmps,o.st⟩
    | false=>k o
   | _=>k o
def sC_cond (tb:Tab) (rec:Runner) (g:FuncId) (tmps:Tm) (st:St) (k:Out→Res) (c:Operand) (x y:Code):Res :=
 match evalS tmps c with
  | some (.bool e)=>match knownE tb.facts st.pc e with
   | some true=>rec (.code g x) tmps st k
   | some false=>rec (.code g y) tmps st k
   | none=>join (rec (.code g x) tmps { st with pc:=e::st.pc } k) (rec (.code g y) tmps { st with pc:=mkNot e::st.pc } k)
  | _=>none
def sC_region (P:Program) (tb:Tab) (rec:Runner) (tmps:Tm) (st:St) (k:Out→Res) (ops:Array Oper) (d:Bool):Res :=
 match d with
  | false=>stepOps P tb rec ops.toList ops.toList tmps st fun tmps st=>k ⟨.normal,tmps,st⟩
  | true=>rec (.draw ops.toList ops.size) tmps st k
noncomputable def stepCode (P:Program) (tb:Tab) (rec:Runner) (g:FuncId) (c:Code) (tmps:Tm) (st:St) (k:Out→Res):Res :=
 Code.rec (motive:=fun _=>Res)
  (k ⟨.normal,tmps,st⟩)
  (fun _ ops d=>sC_region P tb rec tmps st k ops d)
  (fun a b _ _=>sC_seq rec g tmps st k a b)
  (fun c x y _ _=>sC_cond tb rec g tmps st k c x y)
  (fun id b _=>sC_block rec g tmps st k id b)
  (fun b _=>stepLoop tb rec g b tmps st k)
  (fun _ _ _ _ _ _=>none)
  (fun id=>k ⟨.exit id,tmps,st⟩)
  (fun _ _=>none)
  (fun _=>k ⟨.normal,tmps,st⟩)
  (fun _=>none)
  (k ⟨.ret,tmps,st⟩)
  (fun _=>none)
  c
theorem stepCode_eq  (P:Program) (tb:Tab) (rec:Runner) (g:FuncId) (c:Code) (tmps:Tm) (st:St) (k:Out→Res):stepCode P tb rec g c tmps st k=(match c with
 | .skip=>k ⟨.normal,tmps,st⟩
 | .label _=>k ⟨.normal,tmps,st⟩
 | .ret=>k ⟨.ret,tmps,st⟩
 | .exit id=>k ⟨.exit id,tmps,st⟩
 | .seq a b=>sC_seq rec g tmps st k a b
 | .block id b=>sC_block rec g tmps st k id b
 | .loop b=>stepLoop tb rec g b tmps st k
 | .cond c x y=>sC_cond tb rec g tmps st k c x y
 | .region _ ops d=>sC_region P tb rec tmps st k ops d
 | _=>none):=by cases c <;> rfl
def findNat (fs:List E) (g:FuncId) (args:List SV) (st:St):List Nat1→NatR
 | []=>.no
 | x::xs=>match Nat.beq x.fn g with
  | true=>match x.eff fs args st with
   | .outs l=>.outs l
   | _=>findNat fs g args st xs
  | false=>findNat fs g args st xs
def natOuts (k:Out→Res):List (SV × St)→Res
 | []=>some []
 | (v,st)::l=>join (k ⟨.ret,.node v .nil .nil,st⟩) (natOuts k l)
def stepCall (tb:Tab) (rec:Runner) (g:FuncId) (args:List SV) (st:St) (k:Out→Res):Res :=
 match findNat tb.facts g args st tb.nats with
 | .outs l=>natOuts k l
 | _=>match tb.fn.get g with
 | some fn=>match fn.body with
  | some c=>match Nat.ble args.length fn.ntmps && Nat.ble fn.ntmps 1048575 with
   | true=>T.putsK args 0 (T.fill SV.undef 20 fn.ntmps) fun tmps=>rec (.code g c) tmps st fun o=>match o.ex with
     | .exit _=>none
     | _=>match resOf tb o.st o.tmps fn.results.toList with
      | some vs=>k ⟨.ret,.node (tupOf vs) .nil .nil,o.st⟩
      | none=>none
   | false=>none
  | none=>none
 | none=>none
def each (P:Program) (tb:Tab) (rec:Runner) (all:List Oper) (infos:List Info) (x:Node) (left:Nat):List (Nat × Oper × Info)→List Node→Option (List Node)
 | [],acc=>some acc
 | (i,o,_)::rs,acc=>match stepOper P tb rec all o x.tmps x.st collect with
  | some os=>forceK (Nat.lor (Nat.pow 2 i) x.listed) fun listed=>each P tb rec all infos x left rs (toNodes P tb all infos listed left os acc)
  | none=>none
def stepNodes (P:Program) (tb:Tab) (rec:Runner) (all:List Oper) (infos:List Info) (k:Cont):List Node→List Node→Option (List Node × List Out)
 | [],acc=>some (acc,[])
 | x::xs,acc=>match readyFrom x.listed all infos 0 with
  | []=>match k x.tmps x.st with
   | some os=>match stepNodes P tb rec all infos k xs acc with
    | some (acc,more)=>some (acc,os++more)
    | none=>none
   | none=>none
  | rs=>match x.left with
   | 0=>none
   | left + 1=>match each P tb rec all infos x left rs acc with
    | some acc=>stepNodes P tb rec all infos k xs acc
    | none=>none
def stepLayer (P:Program) (tb:Tab) (rec:Runner) (all:List Oper) (infos:List Info) (l:List Node) (tmps:Tm) (st:St) (k:Out→Res):Res :=
 match stepNodes P tb rec all infos (fun tmps st=>k ⟨.normal,tmps,st⟩) l [] with
 | some (next,os)=>match next with
  | []=>some os
  | _=>match rec (.layer all infos next) tmps st k with
   | some more=>some (os++more)
   | none=>none
 | none=>none
def stepRounds (rec:Runner) (g:FuncId) (b:Code) (tmps:Tm) (st:St) (k:Out→Res):Res :=
 rec (.code g b) tmps st fun o=>match o.ex with
  | .normal=>rec (.rounds g b) o.tmps o.st k
  | _=>k o
def stepAll (P:Program) (tb:Tab) (rec:Runner) (task:Task) (tmps:Tm) (st:St) (k:Out→Res):Res :=
 match task with
 | .code g c=>stepCode P tb rec g c tmps st k
 | .rounds g c=>stepRounds rec g c tmps st k
 | .call g args=>stepCall tb rec g args st k
 | .draw all n=>stepDraw P tb rec all n tmps st k
 | .layer all infos l=>stepLayer P tb rec all infos l tmps st k
def run (P:Program) (tb:Tab) (n:Nat):Runner :=
 Nat.rec (motive:=fun _=>Runner) (fun _ _ _ _=>none) (fun _ ih=>stepAll P tb ih) n
def loopsIn (key:Nat):Code→List Code
 | .seq a b=>loopsIn key a++loopsIn key b
 | .cond _ a b=>loopsIn key a++loopsIn key b
 | .block _ b=>loopsIn key b
 | .loop b=>match keyOf b with
  | some n=>match Nat.beq n key with
   | true=>b::loopsIn key b
   | false=>loopsIn key b
  | none=>loopsIn key b
 | _=>[]
def exB:Ex→Ex→Bool
 | .normal,.normal=>true
 | .ret,.ret=>true
 | .exit a,.exit b=>Nat.beq a b
 | _,_=>false
def exitTs (e:Ex):List Out→List Tmpl
 | []=>[]
 | x::xs=>match exB e x.ex with
  | true=>⟨x.tmps,x.st,.int 0⟩::exitTs e xs
  | false=>exitTs e xs
def exitsTs:List Out→List Tmpl
 | []=>[]
 | x::xs=>⟨x.tmps,x.st,.int 0⟩::exitsTs xs
def bodyK (tb:Tab) (n0 b0:Nat) (ts:List Tmpl) (xs:List Out) (less:E) (o:Out):Res :=
 match o.ex with
 | .normal=>fitRes o.tmps o.st (fitsAny tb.facts n0 b0 o.tmps o.st (some less) ts none) (some [])
 | _=>fitRes o.tmps o.st (fitsAny tb.facts n0 b0 o.tmps o.st none (exitTs o.ex xs) none) (some [])
def isSomeR:Res→Bool
 | some _=>true
 | none=>false
def bodyCheck (P:Program) (tb:Tab) (n:Nat) (g key n0 b0:Nat) (ts:List Tmpl) (xs:List Out) (less:E) (tmps:Tm) (st:St):Bool :=
 match tb.fn.get g with
 | some fn=>match fn.body with
  | some c=>match loopsIn key c with
   | [b]=>match tmplsScp n0 b0 ts && tmplsScp n0 b0 (exitsTs xs) with
    | true=>isSomeR (run P tb n (.code g b) tmps st (bodyK tb n0 b0 ts xs less))
    | false=>false
   | _=>false
  | none=>false
 | none=>false
def withTab {β:Type} (P:Program) (k:Tab→β):β :=
 T.addsK P.types.toList 0 T.nil fun ty=>T.addsK P.funcs.toList 0 T.nil fun fn=>k ⟨ty,fn,[],[],[]⟩
end
end Go.SX

namespace Go.SX
noncomputable section
def rowSt (st:St) (cs:List SV) (n:Nat) (el:TypeId):SV × St :=
 (.nslice st.nb (.int (.ofNat n)) (.var st.nv),⟨Nat.succ st.nv,Nat.succ st.nb,st.heap.ins st.nb ⟨true,.cells cs (.var st.nv) el⟩,mkNot (mkCmp .lss (.var st.nv) (.int (.ofNat n)))::st.pc⟩)
def keyInts:List Ent→Option (List Int)
 | []=>some []
 | x::es=>match x.k with
  | .int .i64 (.int n)=>match keyInts es with
   | some l=>some (n::l)
   | none=>none
  | _=>none
def hasI (n:Int):List Int→Bool
 | []=>false
 | m::l=>match intB n m with
  | true=>true
  | false=>hasI n l
def nodupI:List Int→Bool
 | []=>true
 | n::l=>match hasI n l with
  | true=>false
  | false=>nodupI l
def wfIs:List Int→Bool
 | []=>true
 | n::l=>match leI (-9223372036854775808) n && leI n 9223372036854775807 with
  | true=>wfIs l
  | false=>false
def insI (x:Int):List Int→List Int
 | []=>[x]
 | y::l=>match leI x y with
  | true=>x::y::l
  | false=>y::insI x l
def sortI:List Int→List Int
 | []=>[]
 | x::l=>insI x (sortI l)
def intCells:List Int→List SV
 | []=>[]
 | n::l=>.int .i64 (.int n)::intCells l
def rowRes (st:St) (el:TypeId) (l:List Int):Option (List (SV × St)) :=
 match l with
 | []=>some [(.nils,st)]
 | _=>match st.scp with
  | true=>some [rowSt st (intCells l) (lenI l) el]
  | false=>none
def sortedKeysEff (g1:FuncId) (el:TypeId) (args:List SV) (st:St):Option (List (SV × St)) :=
 match args with
 | [.func (.func g) [] [.ptr b o]]=>match Nat.beq g g1,litOff o with
  | true,some 0=>match st.heap.get b with
   | some ⟨_,.cells (v::_) _ _⟩=>match v with
    | .nilm=>some [(.nils,st)]
    | .map m=>match st.heap.get m with
     | some ⟨_,.map es _⟩=>match keyInts es with
      | some ks=>match nodupI ks && (wfIs ks && Nat.ble (lenI ks) 1000000) with
       | true=>rowRes st el (sortI ks)
       | false=>none
      | none=>none
     | _=>none
    | _=>none
   | _=>none
  | _,_=>none
 | _=>none
def natR:Option (List (SV × St))→NatR
 | some l=>.outs l
 | none=>.no
def keyLo (e:E):E:=.not (.cmp .lss e (.int (-9223372036854775808)))
def keyHi (e:E):E:=.not (.cmp .lss (.int 9223372036854775807) e)
def isT:Option Bool→Bool
 | some true=>true
 | _=>false
def oneKeyOf (g1:FuncId) (args:List SV) (st:St):Option E :=
 match args with
 | [.func (.func g) [] [.ptr b o]]=>match Nat.beq g g1,litOff o with
  | true,some 0=>match st.heap.get b with
   | some ⟨_,.cells (v::_) _ _⟩=>match v with
    | .map m=>match st.heap.get m with
     | some ⟨_,.map es _⟩=>match es with
      | [x]=>match x.k with
       | .int .i64 e=>some e
       | _=>none
      | _=>none
     | _=>none
    | _=>none
   | _=>none
  | _,_=>none
 | _=>none
def oneKeyGo (el:TypeId) (st:St) (e:E) (lo hi:Bool):NatR :=
 match lo with
 | true=>match hi with
  | true=>.outs [rowSt st [.int .i64 e] 1 el]
  | false=>.lack (keyHi e)
 | false=>.lack (keyLo e)
def oneKeyEff (g1:FuncId) (el:TypeId) (fs:List E) (args:List SV) (st:St):NatR :=
 match oneKeyOf g1 args st with
 | some e=>match st.scp with
  | true=>oneKeyGo el st e (isT (knownE fs st.pc (keyLo e))) (isT (knownE fs st.pc (keyHi e)))
  | false=>.no
 | none=>.no
def sortedKeysNat (fS g1:FuncId) (el:TypeId):Nat1:=⟨fS,fun fs args st=>match sortedKeysEff g1 el args st with
 | some l=>.outs l
 | none=>oneKeyEff g1 el fs args st⟩
def flatRow (st:St) (e:E) (el:TypeId):SV × St :=
 (.nslice st.nb (.fn 0 e) (.var st.nv),⟨Nat.succ st.nv,Nat.succ st.nb,st.heap.ins st.nb ⟨true,.flat [.int .i64] e (.fn 0 e) (.var st.nv) el⟩,mkNot (mkCmp .lss (.var st.nv) (.fn 0 e))::st.pc⟩)
def mapLOf (g1:FuncId) (args:List SV) (st:St):Option E :=
 match args with
 | [.func (.func g) [] [.ptr b o]]=>match Nat.beq g g1,litOff o with
  | true,some 0=>match st.heap.get b with
   | some ⟨_,.cells (v::_) _ _⟩=>match v with
    | .map m=>match st.heap.get m with
     | some ⟨_,.mapl k _ e⟩=>match ikB k .i64 with
      | true=>some e
      | false=>none
     | _=>none
    | _=>none
   | _=>none
  | _,_=>none
 | _=>none
def sortedLGo (el:TypeId) (st:St) (e:E) (ok:Bool):NatR :=
 match ok with
 | true=>.outs [flatRow st (.fn 36 e) el]
 | false=>.lack (.fn 39 e)
def sortedLEff (g1:FuncId) (el:TypeId) (fs:List E) (args:List SV) (st:St):NatR :=
 match mapLOf g1 args st with
 | some e=>match st.scp with
  | true=>sortedLGo el st e (isT (knownE fs st.pc (.fn 39 e)))
  | false=>.no
 | none=>.no
def sortedLNat (fS g1:FuncId) (el:TypeId):Nat1:=⟨fS,fun fs args st=>sortedLEff g1 el fs args st⟩
def cloneEff (args:List SV) (st:St):NatR :=
 match args with
 | [.nilm]=>.outs [(.nilm,st)]
 | [.map m]=>match st.heap.get m with
  | some ⟨_,o⟩=>match o with
   | .map es clk=>match st.scp with
    | true=>.outs [(.map st.nb,⟨st.nv,Nat.succ st.nb,st.heap.ins st.nb ⟨true,.map es clk⟩,st.pc⟩)]
    | false=>.no
   | .mapl k c e=>match st.scp with
    | true=>.outs [(.map st.nb,⟨st.nv,Nat.succ st.nb,st.heap.ins st.nb ⟨true,.mapl k c e⟩,st.pc⟩)]
    | false=>.no
   | _=>.no
  | none=>.no
 | _=>.no
def cloneNat (fC:FuncId):Nat1:=⟨fC,fun _ args st=>cloneEff args st⟩
def valInts:List SV→Option (List Int)
 | []=>some []
 | v::l=>match v with
  | .int .i64 (.int n)=>match valInts l with
   | some r=>some (n::r)
   | none=>none
  | _=>none
def sortCells (st:St) (b:Nat) (cs:List SV) (tot:E) (el:TypeId) (n:Nat):NatR :=
 match takeI cs n with
 | some hd=>match valInts hd with
  | some l=>match Nat.ble n 1000000 with
   | true=>match overAt cs 0 (intCells (sortI l)) with
    | some cs'=>.outs [(.tup [],{ st with heap:=st.heap.set b ⟨true,.cells cs' tot el⟩ })]
    | none=>.no
   | false=>.no
  | none=>.no
 | none=>.no
def sortFlat (st:St) (b:Nat) (l n tot:E) (el:TypeId) (ok:Bool):NatR :=
 match ok with
 | true=>.outs [(.tup [],{ st with heap:=st.heap.set b ⟨true,.flat [.int .i64] (.fn 40 l) n tot el⟩ })]
 | false=>.lack (mkNot (mkCmp .lss appLim n))
def isI64s:List CK→Bool
 | [c]=>match c with
  | .int .i64=>true
  | _=>false
 | _=>false
def sortEff (fs:List E) (args:List SV) (st:St):NatR :=
 match args with
 | [v]=>match v with
  | .nils=>.outs [(.tup [],st)]
  | .nslice b len _=>match st.heap.get b with
   | some ⟨own,o⟩=>match own with
    | true=>match o with
     | .cells cs tot el=>match litNat len with
      | some n=>sortCells st b cs tot el n
      | none=>.no
     | .flat ks l n tot el=>match len.beq n && isI64s ks with
      | true=>sortFlat st b l n tot el (leB fs st.pc n appLim)
      | false=>.no
     | _=>.no
    | false=>.no
   | none=>.no
  | .slice b off len _=>match st.heap.get b with
   | some ⟨own,o⟩=>match own with
    | true=>match o with
     | .cells cs tot el=>match litNat len,litOff off with
      | some n,some 0=>sortCells st b cs tot el n
      | _,_=>.no
     | _=>.no
    | false=>.no
   | none=>.no
  | _=>.no
 | _=>.no
def sortNat (f:FuncId):Nat1:=⟨f,sortEff⟩
def valsOf (g1:FuncId) (args:List SV) (st:St):Option SV :=
 match args with
 | [.nils,.func (.func g) [] [.ptr b o]]=>match Nat.beq g g1,litOff o with
  | true,some 0=>match st.heap.get b with
   | some ⟨_,.cells (v::_) _ _⟩=>some v
   | _=>none
  | _,_=>none
 | _=>none
def valsGo (el:TypeId) (st:St) (e:E) (ok:Bool):NatR :=
 match ok with
 | true=>.outs [flatRow st e el]
 | false=>.lack (mkNot (mkCmp .lss appLim (.fn 0 e)))
def appendSeqEff (g1:FuncId) (el:TypeId) (fs:List E) (args:List SV) (st:St):NatR :=
 match valsOf g1 args st with
 | some v=>match v with
  | .nils=>.outs [(.nils,st)]
  | .nslice b len _=>match st.heap.get b with
   | some ⟨_,o⟩=>match o with
    | .cells cs _ _=>match litNat len with
     | some n=>match takeI cs n with
      | some hd=>match valInts hd with
       | some l=>match Nat.ble n 1000000 with
        | true=>natR (rowRes st el l)
        | false=>.no
       | none=>.no
      | none=>.no
     | none=>.no
    | .flat ks l n _ _=>match len.beq n && isI64s ks && st.scp with
     | true=>valsGo el st l (leB fs st.pc len appLim)
     | false=>.no
    | _=>.no
   | none=>.no
  | .slice b off len _=>match st.heap.get b with
   | some ⟨_,o⟩=>match o with
    | .cells cs _ _=>match litNat len,litOff off with
     | some n,some m=>match takeI (dropI cs m) n with
      | some hd=>match valInts hd with
       | some l=>match Nat.ble n 1000000 with
        | true=>natR (rowRes st el l)
        | false=>.no
       | none=>.no
      | none=>.no
     | _,_=>.no
    | _=>.no
   | none=>.no
  | .bsl ks e=>match isI64s ks && st.scp && e.scp st.nv with
   | true=>valsGo el st e (leB fs st.pc (.fn 0 e) appLim)
   | false=>.no
  | _=>.no
 | none=>.no
def appendSeqNat (f g1:FuncId) (el:TypeId):Nat1:=⟨f,appendSeqEff g1 el⟩
def closedEff (args:List SV) (st:St):Option (List (SV × St)) :=
 match args with
 | []=>some [(.bool (.bool true),st)]
 | _=>none
def closedNat (g:FuncId):Nat1:=⟨g,fun _ args st=>natR (closedEff args st)⟩
structure Pact where
 fn:FuncId
 args:List SV
 st:St
 posts:List (SV × St)
 deriving Inhabited
def Pact.tmpl (s:Pact):Tmpl:=⟨oneTm (.tup s.args),s.st,.int 0⟩
def varsFrom (n0:Nat):Nat→List E
 | 0=>[]
 | n + 1=>.var n0::varsFrom (Nat.succ n0) n
def natsFrom (n0:Nat):Nat→List Nat
 | 0=>[]
 | n + 1=>n0::natsFrom (Nat.succ n0) n
def postSub (z:Sub) (st pre post:St):Sub:=⟨0,z.es++varsFrom st.nv (Nat.sub post.nv pre.nv),0,z.bs++natsFrom st.nb (Nat.sub post.nb pre.nb)⟩
def setBlks (z:Sub) (pre post:T Blk):Nat→Nat→T Blk→T Blk
 | 0,_,heap=>heap
 | n + 1,i,heap=>match pre.get i with
  | none=>setBlks z pre post n (Nat.succ i) heap
  | some p=>match p.obj with
   | .gone=>setBlks z pre post n (Nat.succ i) heap
   | _=>match post.get i with
    | none=>T.setK heap (subBlk 0 z.bs i) ⟨true,.gone⟩ fun heap=>setBlks z pre post n (Nat.succ i) heap
    | some q=>T.setK heap (subBlk 0 z.bs i) ⟨true,q.obj.sub z⟩ fun heap=>setBlks z pre post n (Nat.succ i) heap
def insBlks (z:Sub) (post:T Blk):Nat→Nat→Nat→T Blk→T Blk
 | 0,_,_,heap=>heap
 | n + 1,i,b,heap=>match post.get i with
  | none=>T.insK heap b ⟨true,.gone⟩ fun heap=>insBlks z post n (Nat.succ i) (Nat.succ b) heap
  | some q=>T.insK heap b ⟨true,q.obj.sub z⟩ fun heap=>insBlks z post n (Nat.succ i) (Nat.succ b) heap
def pcSub (z:Sub) (pc:List E):List E→List E
 | []=>pc
 | e::es=>e.sub z.n0 z.es::pcSub z pc es
def specPost (z:Sub) (st pre:St) (p:SV × St):SV × St :=
 let z':=postSub z st pre p.2
 (p.1.sub z',⟨Nat.add st.nv (Nat.sub p.2.nv pre.nv),Nat.add st.nb (Nat.sub p.2.nb pre.nb),
  insBlks z' p.2.heap (Nat.sub p.2.nb pre.nb) pre.nb st.nb (setBlks z' pre.heap p.2.heap pre.nb 0 st.heap),pcSub z' st.pc p.2.pc⟩)
def specPosts (z:Sub) (st pre:St):List (SV × St)→List (SV × St)
 | []=>[]
 | p::ps=>specPost z st pre p::specPosts z st pre ps
def specEff0 (s:Pact) (fs:List E) (args:List SV) (st:St):NatR :=
 match st.scp with
 | true=>match fits fs 0 0 (oneTm (.tup args)) st s.tmpl with
  | .ok z=>.outs (specPosts z st s.st s.posts)
  | .lack e=>.lack e
  | .bad _=>.no
 | false=>.no
def liveO (fs:List E) (p:SV × St):Bool :=
 match p.2.pc with
 | []=>true
 | c::rest=>match knownE fs rest (mkNot c) with
  | some b=>!b
  | none=>true
def lives (fs:List E):List (SV × St)→List (SV × St)
 | []=>[]
 | p::ps=>match liveO fs p with
  | true=>p::lives fs ps
  | false=>lives fs ps
def specEff (s:Pact) (fs:List E) (args:List SV) (st:St):NatR :=
 match specEff0 s fs (SV.norms st.heap args) st.norm with
 | .outs l=>.outs (lives fs l)
 | .lack e=>.lack e
 | .no=>.no
def specNat (s:Pact):Nat1:=⟨s.fn,specEff s⟩
def ownAll (t:T Blk):Bool:=T.all (fun b=>b.own) t
def goneIn (pre post:T Blk):Nat→Bool
 | 0=>true
 | n + 1=>match goneIn pre post n with
  | true=>match post.get n with
   | none=>true
   | some q=>match q.obj with
    | .gone=>true
    | _=>match pre.get n with
     | some p=>match p.obj with
      | .gone=>false
      | _=>true
     | none=>false
  | false=>false
def postGood (s:Pact) (p:SV × St):Bool :=
 Nat.ble s.st.nv p.2.nv && (Nat.ble s.st.nb p.2.nb && (p.2.scp && (p.1.scp p.2.nv p.2.nb && (ownAll p.2.heap && goneIn s.st.heap p.2.heap s.st.nb))))
def postsGood (s:Pact):List (SV × St)→Bool
 | []=>true
 | p::ps=>match postGood s p with
  | true=>postsGood s ps
  | false=>false
def Pact.good (s:Pact):Bool:=s.st.scp && (SV.scps s.st.nv s.st.nb s.args && (ownAll s.st.heap && postsGood s s.posts))
def outsFit (tb:Tab) (s:Pact):List Out→Bool
 | []=>true
 | o::os=>match o.tmps with
  | .node v _ _=>match likeOne tb.facts s.st.nv s.st.nb (oneTm v) o.st (asTms s.posts) with
   | true=>outsFit tb s os
   | false=>false
  | .nil=>false
def specCheck (P:Program) (tb:Tab) (n:Nat) (s:Pact):Bool :=
 match s.good with
 | true=>match run P tb n (.call s.fn s.args) .nil s.st (fun o=>some [o]) with
  | some os=>outsFit tb s os
  | none=>false
 | false=>false
def tmSlots (n:Nat) (l:List (Nat × SV)):Tm:=l.foldr (fun p t=>t.set p.1 p.2) (T.fill .junk 20 n)
def heapL (l:List Blk):T Blk:=(l.foldl (fun (p:T Blk × Nat) b=>(p.1.ins p.2 b,p.2 + 1)) (T.nil,0)).1
def eLt (a b:E):E:=.cmp .lss a b
def eLe (a b:E):E:=.not (.cmp .lss b a)
def eV (i:Nat):E:=.var i
def u64R:List Nat→List E
 | []=>[]
 | i::l=>.not (.cmp .lss (.var i) (.int 0))::.not (.cmp .lss (.int 18446744073709551615) (.var i))::u64R l
def i64R:List Nat→List E
 | []=>[]
 | i::l=>.not (.cmp .lss (.var i) (.int (-9223372036854775808)))::.not (.cmp .lss (.int 9223372036854775807) (.var i))::i64R l
def frzAll (kss:List (List CK)) (fs:List E):List (SV × St)→List (SV × St)
 | []=>[]
 | p::ps=>frzP kss fs p::frzAll kss fs ps
def frzEff (kss:List (List CK)) (x:Nat1) (fs:List E) (args:List SV) (st:St):NatR :=
 match x.eff fs args st with
 | .outs l=>.outs (frzAll kss fs l)
 | .lack e=>.lack e
 | .no=>.no
def frzNat (kss:List (List CK)) (x:Nat1):Nat1:=⟨x.fn,frzEff kss x⟩
end
end Go.SX
