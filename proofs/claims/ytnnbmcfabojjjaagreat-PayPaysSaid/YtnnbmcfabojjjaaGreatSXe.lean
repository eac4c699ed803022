/-
  Functions of the library that are known by their contracts.
-/
import Derived.Test.YtnnbmcfabojjjaaGreatSXd
import Derived.Shelf.SlIterI.Nil
import Derived.Shelf.SlMaps.Clone
set_option linter.unusedVariables false
set_option linter.unusedSimpArgs false
set_option linter.unusedSectionVars false

namespace Go.SX
open Go.RowKit Go.Maps Go.Sort Go.Shelf Go.Proofs Go.MapKept
end Go.SX

namespace Go.SX
open Go.RowKit
theorem Rw(x:Int):∀l,(ql x l).Perm (x::l)
 |[]=>.refl _
 |y::l=>by
  simp only[ql];split
  ·rfl
  ·exact((Rw x l).cons y).trans (.swap x y l)
theorem DJ:∀l,(hE l).Perm l
 |[]=>.refl _
 |x::l=>(Rw x _).trans ((DJ l).cons x)
theorem akx(x:Int):∀l:List Int,l.Pairwise (fun a b=>Go.leI a b=true)->(ql x l).Pairwise (fun a b=>Go.leI a b=true)
 |[],_=>by simp[ql]
 |y::l,h=>by
  obtain⟨h1,h2⟩:=List.pairwise_cons.1 h
  simp only[ql];split
  ·rename_i hxy;refine List.pairwise_cons.2 ⟨fun z hz=>?_,h⟩;rcases List.mem_cons.1 hz with rfl|hz
   ·exact hxy
   ·have:=h1 z hz
    simp only[leI,cB,decide_eq_true_eq]at *;omega
  ·refine List.pairwise_cons.2 ⟨fun z hz=>?_,akx x l h2⟩;rcases List.mem_cons.1 ((Rw x l).mem_iff.1 hz)with rfl|hz
   ·simp only[leI,cB,decide_eq_true_eq,decide_eq_false_iff_not]at *;omega
   simp_all
theorem aor:∀l,(hE l).Pairwise (fun a b=>Go.leI a b=true)
 |[]=>.nil
 |x::l=>akx x _ (aor l)
theorem aoq(l:List Int):hE l=l.mergeSort Go.leI:=by
 have tr:∀a b c,Go.leI a b=true->Go.leI b c=true->Go.leI a c=true:=fun a b c h1 h2=>by grind
 have to:∀a b,(Go.leI a b||Go.leI b a)=true:=fun a b=>by grind
 refine List.Perm.eq_of_pairwise (le:=fun a b=>Go.leI a b=true) (fun a b _ _ h1 h2=>?_) (aor l) (List.pairwise_mergeSort tr to l) ((DJ l).trans (List.mergeSort_perm l _).symm);grind
theorem Ry(F:Env):∀l,SV.dens F (u5 l)=l.map encZ
 |[]=>rfl
 |n::l=>by simp[u5,SV.dens,SV.den,Ry F l]
theorem akA(F:Env):∀l,SV.oks F (u5 l)
 |[]=>trivial
 |n::l=>⟨by simp[SV.ok],akA F l⟩
end Go.SX

namespace Go.SX
open Go.RowKit
theorem aky(x:Int):∀l,qm x l=ql x l
 |[]=>rfl
 |y::l=>by
  simp only[qm,ql,leI,cB];by_cases h:x<=y<;>simp[h,aky x l]
theorem aot:∀l,dk l=hE l
 |[]=>rfl
 |x::l=>by simp only[dk,hE,aot l,aky]
end Go.SX

namespace Go.SX
open Go.RowKit Go.Sort
def FF(P:Program)(f:FuncId):Prop:=
 (∀(blk off cap:Nat)(zs:List Int)(w:World),Sort.Holds (Value.int .i64) w blk off zs.toArray->blk<w.heap.size->zs.length<4611686018427387904->
  Calls P f #[.slice (some ⟨blk,off,none⟩) zs.length cap] w fun e w'=>
   e=.returned (.tuple #[])/\∃n os,w'=Sort.grow (putRow (Value.int .i64) (Sort.ahead w n) blk off (zs.mergeSort fun x y=>decide (x<=y)).toArray) os)/\
 (∀(p:Option Addr)(cap:Nat)(w:World),Calls P f #[.slice p 0 cap] w fun e w'=>e=.returned (.tuple #[])/\w'=w)
theorem aqu{F:Env}:∀(l:List SV)(r:List Int),DU l=some r->SV.dens F l=r.map encZ
 |[],r,h=>by simp only[DU,Option.some.injEq]at h;subst h;rfl
 |v::l,r,h=>by
  simp only[DU]at h;split at h
  ·split at h
   ·rename_i r' hr;simp only[Option.some.injEq]at h;subst h;simp[SV.dens,SV.den,aqu l r' hr]
   ·cases h
  ·cases h
theorem aWr(w:World)(os:Array Obj):Below w.heap.size w (Sort.grow w os):=
 ⟨rfl,rfl,rfl,by simp,fun k hk=>by simp_all[Sort.grow,Array.getElem?_append_left]⟩
theorem a0R{G:Type}[Inhabited G](enc:G->Value)(d:Array G)(c:Array Value)(j:Nat)(hd:d.size<=c.size):
  (Sort.putCells enc 0 d c)[j]?=if j<d.size then some (enc d[j]!)else c[j]?:=by
 grind[Sort.putCells]
theorem RepW.sorted{B:Base}{F:Env}{st:St}{w:World}(hr:RepW B F st w){b:Nat}{obj obj':SObj}(hb:st.heap.get b=some ⟨true,obj⟩)(hl:obj.real F)
  {arr:Array Value}{elem:TypeId}(h1:w.heap[F.blk b]?=some (.cells arr elem (0,0)))(d:Array Int)(hd:d.size<=arr.size)
  (hc:∀(w':World)(arr':Array Value),w'.heap[F.blk b]?=some (.cells arr' elem (0,0))->arr'.size=arr.size->(∀j,arr'[j]?=if j<d.size then some (encZ d[j]!)else arr[j]?)->blkRep F w' (F.blk b) (F.off b) (F.nil b) obj')(n:Nat)(os:Array Obj)(hin:∀r,obj'.inner F r->obj.inner F r:=by intro r h;exact False.elim h):
  RepW B F {st with heap:=st.heap.set b ⟨true,obj'⟩} (Sort.grow (putRow (Value.int .i64) (Sort.ahead w n) (F.blk b) 0 d) os):=by
 have hheap:∀r,(putRow (Value.int .i64) (Sort.ahead w n) (F.blk b) 0 d).heap[r]?=if r=F.blk b then some (.cells (Sort.putCells (Value.int .i64) 0 d arr) elem (0,0))else w.heap[r]?:=by
  grind[putRow,mapBlock,Sort.ahead,onCells]
 have hsz:(Sort.putCells (Value.int .i64) 0 d arr).size=arr.size:=by simp[Sort.putCells]
 have h2:=hr.putObj (w':=putRow (Value.int .i64) (Sort.ahead w n) (F.blk b) 0 d) hb hl (fun r hr=>by simp_all) rfl rfl rfl
  (hc _ _ (by simp_all) hsz (fun j=>a0R _ d _ j hd)) hin
 exact h2.kept (aWr _ _)
theorem akk{w:World}{blk:Nat}{arr:Array Value}{elem:TypeId}(h1:w.heap[blk]?=some (.cells arr elem (0,0))){zs:List Int}(h:∀(j:Nat)(z:Int),zs[j]?=some z->arr[j]?=some (encZ z)):
  Sort.Holds (Value.int .i64) w blk 0 zs.toArray:=by
 intro j hj;simp_all[World.frozen?,World.cell?]
theorem ale(l:List Int):(l.mergeSort fun x y=>decide (x<=y))=l.mergeSort Go.leI:=rfl
theorem aop{P:Program}{f:FuncId}(hS:FF P f){st:St}{b:Nat}{cs:List SV}{ah:E}{el:TypeId}{n:Nat}{l:List (SV×St)}(h:Ks st b cs ah el n=.outs l)
  (hb:st.heap.get b=some ⟨true,.cells cs ah el⟩){B:Base}{F:Env}{w:World}{R:Ending->World->Prop}(hr:RepW B F st w)(cap:Nat)
  (hK:∀y∈l,∀(F':Env)(w':World),F.Ext F'->RepW B F' y.2 w'->y.1.ok F'->R (.returned (y.1.den F')) w'):
  Calls P f #[.slice (some ⟨F.blk b,0,none⟩) n cap] w R:=by
 unfold Ks at h;split at h;case h_2=>cases h
 rename_i hd hhd;split at h;case h_2=>cases h
 rename_i zs hzs;split at h;case h_2=>cases h
 rename_i hn;split at h;case h_2=>cases h
 rename_i cs' hcs';simp only[NatR.outs.injEq]at h;subst h;have hn':=Nat.le_of_ble_eq_true hn
 obtain⟨e1,e2⟩:=zq _ _ _ hhd
 have hden:=aqu (F:=F) hd zs hzs;have hlen:zs.length=n:=by
  have:=congrArg List.length hden
  grind[SV.dens_eq,List.length_map,List.length_take,Nat.min_eq_left]
 obtain⟨e3,e4⟩:=JC _ _ _ _ hcs'
 obtain⟨_,⟨z1,z2,hok,arr,harr,hsz,hcells⟩,_⟩:=hr.blk _ _ hb
 have hget:∀(j:Nat)(z:Int),zs[j]?=some z->arr[j]?=some (encZ z):=by
  intro j z hj;have h1:(SV.dens F hd)[j]?=some (encZ z):=by simp_all
  grind[SV.dens_eq,Option.some.injEq]
 have hp:(hE zs).length=zs.length:=(DJ zs).length_eq;have hsize:arr.size>=n:=by
  by_cases h0:n=0
  ·omega
  ·have h1:n-1<zs.length:=by omega
   have:=hget (n-1) zs[n-1] (List.getElem?_eq_getElem h1)
   grind
 have hlt:F.blk b<w.heap.size:=(Array.getElem?_eq_some_iff.1 harr).1
 rw[<- hlen]
 refine(hS.1 (F.blk b) 0 cap zs w (akk harr hget) hlt (by omega)).mono ?_
 rintro e w' ⟨rfl,k,os,rfl⟩
 refine hK _ (List.mem_singleton.2 rfl) F _ (Env.Ext.refl F) ?_ (by simp[SV.ok,SV.oks])
 rw[ale,<- aoq]
 refine hr.sorted hb trivial harr (hE zs).toArray (by simp_all) ?_ k os;intro w' arr' g1 g2 g3
 refine⟨z1,z2,?_,arr',g1,by omega,?_⟩
 ·exact Sy hok (akA F _) hcs'
 ·intro j v hj
  rw[g3]
  rw[e3]at hj
  simp only[List.take_zero,List.nil_append,Nat.zero_add]at hj;have hic:(u5 (hE zs)).length=(hE zs).length:=by
   have:=congrArg List.length (Ry F (hE zs))
   simp_all[SV.dens_eq]
  by_cases hlt2:j<(hE zs).length
  ·rw[if_pos (by omega)]
   rw[List.getElem?_append_left (by omega)]at hj
   have h1:(SV.dens F (u5 (hE zs)))[j]?=some (v.den F):=by simp_all[SV.dens_eq,List.getElem?_map]
   simp_all[Ry,List.getElem?_map,List.getElem?_eq_getElem,Option.map_some,Option.some.injEq]
  grind
theorem aYO{ks:List CK}(h:RG ks=true):ks=[.int .i64]:=by
 unfold RG at h;grind
theorem ajX(F:Env)(l:E):(E.fn 40 l).L F=(hE ((l.L F).map U.toI)).map U.int:=by
 show((dk ((l.L F).map _)).map _)=_
 rw[aot]
theorem a1s{P:Program}{f:FuncId}(hS:FF P f){fs:List E}(hfs:∀e∈fs,∀F,e.B F=true){st:St}{b:Nat}{le n ah c:E}{el:TypeId}{l:List (SV×St)}(h:Tt st b le n ah el (dz fs st.pc n ry)=.outs l)
  (hb:st.heap.get b=some ⟨true,.flat [.int .i64] le n ah el⟩){B:Base}{F:Env}{w:World}{R:Ending->World->Prop}(hr:RepW B F st w)
  (hK:∀y∈l,∀(F':Env)(w':World),F.Ext F'->RepW B F' y.2 w'->y.1.ok F'->R (.returned (y.1.den F')) w'):
  Calls P f (SV.dens F [.nslice b n c]).toArray w R:=by
 have key:dz fs st.pc n ry=true/\l=[(.tup [],{st with heap:=st.heap.set b ⟨true,.flat [.int .i64] (.fn 40 le) n ah el⟩})]:=by
  unfold Tt at h;grind
 obtain⟨hle,rfl⟩:=key
 have hle':n.I F<=2147483648:=by
  have:=mY hfs hr.pc hle
  simp_all[ry]
 obtain⟨_,⟨_,g1,g2,g3,g4⟩,_⟩:=hr.blk _ _ hb
 simp only[List.length_singleton]at g1 g4;have hlen40:((E.fn 40 le).L F).length=(le.L F).length:=by
  rw[ajX];simp[(DJ _).length_eq]
 have ret:=hK _ (List.mem_singleton.2 rfl) F;have fin:∀w',RepW B F {st with heap:=st.heap.set b ⟨true,.flat [.int .i64] (.fn 40 le) n ah el⟩} w'->R (.returned (.tuple #[])) w':=fun w' h=>ret w' (Env.Ext.refl F) h (by simp[SV.ok,SV.oks])
 by_cases hn0:n.I F=0
 ·-- nothing to sort
  have hnil:le.L F=[]:=List.length_eq_zero_iff.1 (by omega);have hnil':(E.fn 40 le).L F=[]:=by simp_all
  have:SV.dens F [.nslice b n c]=[.slice (F.base b) 0 (c.I F).toNat]:=by simp[SV.dens,SV.den,hn0]
  rw[this]
  refine(hS.2 _ _ w).mono ?_
  rintro e w' ⟨rfl,rfl⟩
  refine fin _ ?_;by_cases ht:0<ah.I F
  ·obtain⟨q1,q2,arr,q3,q4,q5⟩:=g4 ht
   refine hr.putObj hb ht (fun _ _=>rfl) rfl rfl rfl ?_
   exact⟨by simp,by simp_all,g2,g3,fun _=>⟨q1,q2,arr,q3,fun i u hu=>by simp_all,by omega⟩⟩
  ·refine RepW.swap hr hb ?_ ht
   exact⟨by simp,by simp_all,g2,g3,fun h=>absurd h ht⟩
 ·have ht:0<ah.I F:=by omega
  obtain⟨q1,q2,arr,q3,q4,q5⟩:=g4 ht
  obtain⟨zs,hzs⟩:∃zs:List Int,zs=(le.L F).map U.toI:=⟨_,rfl⟩
  have hzl:(zs.length:Int)=n.I F:=by simp_all
  have hget:∀(j:Nat)(z:Int),zs[j]?=some z->arr[j]?=some (encZ z):=by
   intro j z hj
   rw[hzs,List.getElem?_map]at hj
   cases hu:(le.L F)[j]? with
   |none=>simp_all
   |some u=>
    rw[hu]at hj
    simp only[Option.map_some,Option.some.injEq]at hj
    obtain⟨c,c1,c2,_⟩:=q4 j u hu
    simp[Nat.mod_one]at c1;subst c1
    rw[c2,<- hj];rfl
  have hlt:F.blk b<w.heap.size:=(Array.getElem?_eq_some_iff.1 q3).1
  have:SV.dens F [.nslice b n c]=[.slice (some ⟨F.blk b,0,none⟩) zs.length (c.I F).toNat]:=by
   grind[SV.dens,SV.den,fT]
  rw[this]
  refine(hS.1 (F.blk b) 0 _ zs w (akk q3 hget) hlt (by omega)).mono ?_
  rintro e w' ⟨rfl,k,os,rfl⟩
  refine fin _ ?_
  rw[ale,<- aoq]
  have hp:(hE zs).length=zs.length:=(DJ zs).length_eq;have hsz:zs.length<=arr.size:=by
   omega
  refine hr.sorted hb ht q3 (hE zs).toArray (by simp_all) ?_ k os;intro w' arr' k1 k2 k3
  refine⟨by simp,by simp_all,g2,g3,fun _=>⟨q1,q2,arr',k1,fun i u hu=>?_,by simp_all⟩⟩
  rw[ajX,<- hzs,List.getElem?_map]at hu
  cases hi:(hE zs)[i]? with
  |none=>simp_all
  |some z=>
   rw[hi]at hu
   simp only[Option.map_some,Option.some.injEq]at hu;subst hu;have hil:=(List.getElem?_eq_some_iff.1 hi).1
   refine⟨.int .i64,by grind,?_,trivial⟩
   simp_all[if_pos,List.getElem?_eq_some_iff,CK.val,U.toI]
theorem a1t{P:Program}{f:FuncId}(hS:FF P f):aI P (aos f):=by
 intro fs hfs args st l h B F w R hr hao hK;have h:Ts fs _ st=.outs l:=h;unfold Ts at h;split at h;case h_2=>cases h
 rename_i v;split at h
 ·simp only[NatR.outs.injEq]at h;subst h
  refine(hS.2 _ 0 w).mono ?_
  rintro e w' ⟨rfl,rfl⟩
  exact hK _ (List.mem_singleton.2 rfl) F _ (Env.Ext.refl F) hr (by simp[SV.ok,SV.oks])
 ·rename_i b len c;split at h;case h_2=>cases h
  rename_i own o hb;split at h;case h_2=>cases h
  split at h
  ·split at h;case h_2=>cases h
   rename_i n hn
   obtain⟨_,⟨z1,z2,_⟩,_⟩:=hr.blk _ _ hb
   have:SV.dens F [.nslice b len c]=[.slice (some ⟨F.blk b,0,none⟩) n (c.I F).toNat]:=by
    simp only[SV.dens,SV.den,fT z1]
    rw[jY hn];simp
   rw[this]
   exact aop hS h hb hr _ hK
  ·split at h;case h_2=>cases h
   rename_i hc;simp only[Bool.and_eq_true]at hc;have e1:=E.beq_eq hc.1;subst e1;have e2:=aYO hc.2;subst e2;exact a1s hS hfs h hb hr hK
  ·cases h
 ·rename_i b off len c;split at h;case h_2=>cases h
  rename_i own o hb;split at h;case h_2=>cases h
  split at h
  ·split at h
   ·rename_i n hn ho
    obtain⟨_,⟨z1,z2,_⟩,_⟩:=hr.blk _ _ hb
    have:SV.dens F [.slice b off len c]=[.slice (some ⟨F.blk b,0,none⟩) n (c.I F).toNat]:=by
     simp only[SV.dens,SV.den,oA ho]
     rw[jY hn];simp
    rw[this]
    exact aop hS h hb hr _ hK
   ·cases h
  ·cases h
 ·cases h
end Go.SX

namespace Go.SX
open Go.RowKit
end Go.SX
