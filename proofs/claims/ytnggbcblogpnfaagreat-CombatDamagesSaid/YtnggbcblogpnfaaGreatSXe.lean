/-
  Functions of the library that are known by their contracts.
-/
import Derived.Test.YtnggbcblogpnfaaGreatSXd
import Derived.Shelf.SlIterI.Nil
import Derived.Shelf.SlMaps.Clone
set_option linter.unusedVariables false
set_option linter.unusedSimpArgs false
set_option linter.unusedSectionVars false

namespace Go.SX
open Go.RowKit Go.Maps Go.Sort Go.Shelf Go.Proofs Go.MapKept
end Go.SX

namespace Go.SX
open Go.RowKit
theorem RepW.newCells{B:Base}{ρ:Env}{st:St}{w w':World}(hr:RepW B ρ st w)(hs:st.scp=true)(hb:Below w.heap.size w w'){el n:Nat}{cs:List SV}{v:Value}{xs:List Value}
  (hrow:w'.ownsRow w.heap.size el 1 v n xs)(hv:v≠.slice none 0 0)(hcs:SV.scps st.nv st.nb cs=true)(hok:SV.oks ρ cs)(hden:SV.dens ρ cs=xs):
  ∃ρ',ρ.Ext ρ'/\RepW B ρ' (vV st cs n el).2 w'/\(vV st cs n el).1.den ρ'=v/\(vV st cs n el).1.ok ρ':=by
 rcases hrow.2 with⟨h,_⟩|⟨g,cap,cur,rfl,hbase,hg,hle,_,hsz,htake⟩
 ·simp_all
 ·let k:Bk:=⟨g,0,none⟩
  have hext:=ρ.grow_ext [.int cap] k;have hvar:=Env.grow_var (ρ:=ρ) (u:=.int cap) (k:=k) hr.nv;have hcI:(E.var st.nv).I (ρ.grow [.int cap] k)=cap:=by unfold E.I;rw[hvar];rfl
  have hden':SV.dens (ρ.grow [.int cap] k) cs=xs:=by rw[SV.scopeds_den hext cs (by rw[hr.nv,hr.nb];omega)];omega
  refine⟨ρ.grow _ k,hext,?_,?_,by simp[vV,SV.ok]⟩
  ·refine hr.grow hs _ [bm _] k _ ?_ (fun r h _=>hb.block r h) hb.os hb.tape hb.output (.inl hb.block) ?_ ?_
   ·simp_all[iA,eM,cK]
   ·refine⟨rfl,rfl,SV.oks_ext hext cs (by rw[hr.nv,hr.nb];omega) hok,cur,hg,by omega,?_⟩
    intro j u hj;have h1:(SV.dens (ρ.grow [.int cap] k) cs)[j]?=some (u.den (ρ.grow [.int cap] k)):=by grind[SV.dens_eq]
    grind
   ·intro _
    refine⟨?_,fun i b hb' hl _ e=>?_,fun r hr' e=>?_⟩
    ·exact hr.free_ge (by omega)
    ·have:=(hr.blk i b hb').2.1.lt hl
     grind
    ·have:=hr.held_lt hr'
     grind
  ·simp only[vV,SV.den,hcI,Env.grow_base hr.nb];rfl
theorem Ls(x:Int):∀l,(oB x l).Perm (x::l)
 |[]=>.refl _
 |y::l=>by
  simp only[oB];split
  ·rfl
  ·exact((Ls x l).cons y).trans (.swap x y l)
theorem z8:∀l,(gP l).Perm l
 |[]=>.refl _
 |x::l=>(Ls x _).trans ((z8 l).cons x)
theorem abb(x:Int):∀l:List Int,l.Pairwise (fun a b=>Go.leI a b=true)->(oB x l).Pairwise (fun a b=>Go.leI a b=true)
 |[],_=>by simp[oB]
 |y::l,h=>by
  obtain⟨h1,h2⟩:=List.pairwise_cons.1 h
  simp only[oB];split
  ·rename_i hxy;refine List.pairwise_cons.2 ⟨fun z hz=>?_,h⟩;rcases List.mem_cons.1 hz with rfl|hz
   ·exact hxy
   ·have:=h1 z hz
    simp only[leI,cK,decide_eq_true_eq]at *;omega
  ·refine List.pairwise_cons.2 ⟨fun z hz=>?_,abb x l h2⟩;rcases List.mem_cons.1 ((Ls x l).mem_iff.1 hz)with rfl|hz
   ·simp only[leI,cK,decide_eq_true_eq,decide_eq_false_iff_not]at *;omega
   simp_all
theorem aeO:∀l,(gP l).Pairwise (fun a b=>Go.leI a b=true)
 |[]=>.nil
 |x::l=>abb x _ (aeO l)
theorem aeN(l:List Int):gP l=l.mergeSort Go.leI:=by
 have tr:∀a b c,Go.leI a b=true->Go.leI b c=true->Go.leI a c=true:=fun a b c h1 h2=>by grind
 have to:∀a b,(Go.leI a b||Go.leI b a)=true:=fun a b=>by grind
 refine List.Perm.eq_of_pairwise (le:=fun a b=>Go.leI a b=true) (fun a b _ _ h1 h2=>?_) (aeO l) (List.pairwise_mergeSort tr to l) ((z8 l).trans (List.mergeSort_perm l _).symm);grind
theorem DV(ρ:Env):∀l,SV.dens ρ (lQ l)=l.map encZ
 |[]=>rfl
 |n::l=>by simp[lQ,SV.dens,SV.den,DV ρ l]
theorem abe(nv nb:Nat):∀l,SV.scps nv nb (lQ l)=true
 |[]=>rfl
 |n::l=>by
  rw[lQ,SV.scopeds_cons,abe nv nb l]
  rfl
theorem Lu(ρ:Env):∀l,SV.oks ρ (lQ l)
 |[]=>trivial
 |n::l=>⟨by simp[SV.ok],Lu ρ l⟩
theorem aFU{B:Base}{ρ:Env}{st:St}{w w':World}(hr:RepW B ρ st w){el:TypeId}{ks:List Int}{l:List (SV×St)}(h:oY st el ks=some l)(hb:Below w.heap.size w w'){v:Value}
  (hrow:w'.ownsRow w.heap.size el 1 v ks.length (ks.map encZ))(hnil:v=.slice none 0 0↔ks=[]):∃y∈l,∃ρ',ρ.Ext ρ'/\RepW B ρ' y.2 w'/\y.1.den ρ'=v/\y.1.ok ρ':=by
 unfold oY at h;split at h
 ·simp only[Option.some.injEq]at h;subst h
  exact⟨(.nils,st),by simp,ρ,Env.Ext.refl ρ,hr.kept hb,by simp[SV.den,hnil.2 _],by simp[SV.ok]⟩
 ·rename_i hne;split at h
  ·rename_i hs
   obtain⟨ρ',h1,h2,h3,h4⟩:=hr.newCells (cs:=lQ ks) hs hb hrow (fun e=>hne (hnil.1 e)) (abe _ _ _) (Lu _ _) (DV ρ ks)
   grind[b7]
  ·cases h
end Go.SX

namespace Go.SX
open Go.RowKit
theorem abc(x:Int):∀l,oC x l=oB x l
 |[]=>rfl
 |y::l=>by
  simp only[oC,oB,leI,cK];by_cases h:x<=y<;>simp[h,abc x l]
theorem aeQ:∀l,f9 l=gP l
 |[]=>rfl
 |x::l=>by simp only[f9,gP,aeQ l,abc]
end Go.SX

namespace Go.SX
open Go.RowKit Go.Sort
def BB(P:Program)(f:FuncId):Prop:=
 (∀(blk off cap:Nat)(zs:List Int)(w:World),Sort.Holds (Value.int .i64) w blk off zs.toArray->blk<w.heap.size->zs.length<4611686018427387904->
  Calls P f #[.slice (some ⟨blk,off,none⟩) zs.length cap] w fun e w'=>
   e=.returned (.tuple #[])/\∃n os,w'=Sort.grow (putRow (Value.int .i64) (Sort.ahead w n) blk off (zs.mergeSort fun x y=>decide (x<=y)).toArray) os)/\
 (∀(p:Option Addr)(cap:Nat)(w:World),Calls P f #[.slice p 0 cap] w fun e w'=>e=.returned (.tuple #[])/\w'=w)
theorem Oa{ρ:Env}:∀(l:List SV)(r:List Int),qF l=some r->SV.dens ρ l=r.map encZ
 |[],r,h=>by simp only[qF,Option.some.injEq]at h;subst h;rfl
 |v::l,r,h=>by
  simp only[qF]at h;split at h
  ·split at h
   ·rename_i r' hr;simp only[Option.some.injEq]at h;subst h;simp[SV.dens,SV.den,Oa l r' hr]
   ·cases h
  ·cases h
theorem aBJ(w:World)(os:Array Obj):Below w.heap.size w (Sort.grow w os):=
 ⟨rfl,rfl,rfl,by simp,fun k hk=>by simp_all[Sort.grow,Array.getElem?_append_left]⟩
theorem aFy{G:Type}[Inhabited G](enc:G->Value)(d:Array G)(c:Array Value)(j:Nat)(hd:d.size<=c.size):
  (Sort.putCells enc 0 d c)[j]?=if j<d.size then some (enc d[j]!)else c[j]?:=by
 grind[Sort.putCells]
theorem RepW.sorted{B:Base}{ρ:Env}{st:St}{w:World}(hr:RepW B ρ st w){b:Nat}{obj obj':SObj}(hb:st.heap.get b=some ⟨true,obj⟩)(hl:obj.real ρ)
  {arr:Array Value}{elem:TypeId}(h1:w.heap[ρ.blk b]?=some (.cells arr elem (0,0)))(d:Array Int)(hd:d.size<=arr.size)
  (hc:∀(w':World)(arr':Array Value),w'.heap[ρ.blk b]?=some (.cells arr' elem (0,0))->arr'.size=arr.size->(∀j,arr'[j]?=if j<d.size then some (encZ d[j]!)else arr[j]?)->blkRep ρ w' (ρ.blk b) (ρ.off b) (ρ.nil b) obj')(n:Nat)(os:Array Obj)(hin:∀r,obj'.inner ρ r->obj.inner ρ r:=by intro r h;exact False.elim h):
  RepW B ρ {st with heap:=st.heap.set b ⟨true,obj'⟩} (Sort.grow (putRow (Value.int .i64) (Sort.ahead w n) (ρ.blk b) 0 d) os):=by
 have hheap:∀r,(putRow (Value.int .i64) (Sort.ahead w n) (ρ.blk b) 0 d).heap[r]?=if r=ρ.blk b then some (.cells (Sort.putCells (Value.int .i64) 0 d arr) elem (0,0))else w.heap[r]?:=by
  grind[putRow,mapBlock,Sort.ahead,onCells]
 have hsz:(Sort.putCells (Value.int .i64) 0 d arr).size=arr.size:=by simp[Sort.putCells]
 have h2:=hr.putObj (w':=putRow (Value.int .i64) (Sort.ahead w n) (ρ.blk b) 0 d) hb hl (fun r hr=>by simp_all) rfl rfl rfl
  (hc _ _ (by simp_all) hsz (fun j=>aFy _ d _ j hd)) hin
 exact h2.kept (aBJ _ _)
theorem aaQ{w:World}{blk:Nat}{arr:Array Value}{elem:TypeId}(h1:w.heap[blk]?=some (.cells arr elem (0,0))){zs:List Int}(h:∀(j:Nat)(z:Int),zs[j]?=some z->arr[j]?=some (encZ z)):
  Sort.Holds (Value.int .i64) w blk 0 zs.toArray:=by
 intro j hj;simp_all[World.frozen?,World.cell?]
theorem abR(l:List Int):(l.mergeSort fun x y=>decide (x<=y))=l.mergeSort Go.leI:=rfl
theorem aeM{P:Program}{f:FuncId}(hS:BB P f){st:St}{b:Nat}{cs:List SV}{af:E}{el:TypeId}{n:Nat}{l:List (SV×St)}(h:FW st b cs af el n=.outs l)
  (hb:st.heap.get b=some ⟨true,.cells cs af el⟩){B:Base}{ρ:Env}{w:World}{R:Ending->World->Prop}(hr:RepW B ρ st w)(cap:Nat)
  (hK:∀y∈l,∀(ρ':Env)(w':World),ρ.Ext ρ'->RepW B ρ' y.2 w'->y.1.ok ρ'->R (.returned (y.1.den ρ')) w'):
  Calls P f #[.slice (some ⟨ρ.blk b,0,none⟩) n cap] w R:=by
 unfold FW at h;split at h;case h_2=>cases h
 rename_i hd hhd;split at h;case h_2=>cases h
 rename_i zs hzs;split at h;case h_2=>cases h
 rename_i hn;split at h;case h_2=>cases h
 rename_i cs' hcs';simp only[NatR.outs.injEq]at h;subst h;have hn':=Nat.le_of_ble_eq_true hn
 obtain⟨e1,e2⟩:=qB _ _ _ hhd
 have hden:=Oa (ρ:=ρ) hd zs hzs;have hlen:zs.length=n:=by
  have:=congrArg List.length hden
  grind[SV.dens_eq,List.length_map,List.length_take,Nat.min_eq_left]
 obtain⟨e3,e4⟩:=zH _ _ _ _ hcs'
 obtain⟨_,⟨z1,z2,hok,arr,harr,hsz,hcells⟩,_⟩:=hr.blk _ _ hb
 have hget:∀(j:Nat)(z:Int),zs[j]?=some z->arr[j]?=some (encZ z):=by
  intro j z hj;have h1:(SV.dens ρ hd)[j]?=some (encZ z):=by simp_all
  grind[SV.dens_eq,Option.some.injEq]
 have hp:(gP zs).length=zs.length:=(z8 zs).length_eq;have hsize:arr.size>=n:=by
  by_cases h0:n=0
  ·omega
  ·have h1:n-1<zs.length:=by omega
   have:=hget (n-1) zs[n-1] (List.getElem?_eq_getElem h1)
   grind
 have hlt:ρ.blk b<w.heap.size:=(Array.getElem?_eq_some_iff.1 harr).1
 rw[<- hlen]
 refine(hS.1 (ρ.blk b) 0 cap zs w (aaQ harr hget) hlt (by omega)).mono ?_
 rintro e w' ⟨rfl,k,os,rfl⟩
 refine hK _ (List.mem_singleton.2 rfl) ρ _ (Env.Ext.refl ρ) ?_ (by simp[SV.ok,SV.oks])
 rw[abR,<- aeN]
 refine hr.sorted hb trivial harr (gP zs).toArray (by simp_all) ?_ k os;intro w' arr' g1 g2 g3
 refine⟨z1,z2,?_,arr',g1,by omega,?_⟩
 ·exact E4 hok (Lu ρ _) hcs'
 ·intro j v hj
  rw[g3]
  rw[e3]at hj
  simp only[List.take_zero,List.nil_append,Nat.zero_add]at hj;have hic:(lQ (gP zs)).length=(gP zs).length:=by
   have:=congrArg List.length (DV ρ (gP zs))
   simp_all[SV.dens_eq]
  by_cases hlt2:j<(gP zs).length
  ·rw[if_pos (by omega)]
   rw[List.getElem?_append_left (by omega)]at hj
   have h1:(SV.dens ρ (lQ (gP zs)))[j]?=some (v.den ρ):=by simp_all[SV.dens_eq,List.getElem?_map]
   simp_all[DV,List.getElem?_map,List.getElem?_eq_getElem,Option.map_some,Option.some.injEq]
  grind
theorem LA{ks:List CK}(h:yZ ks=true):ks=[.int .i64]:=by
 unfold yZ at h;grind
theorem aao(ρ:Env)(l:E):(E.fn 40 l).L ρ=(gP ((l.L ρ).map U.toI)).map U.int:=by
 show((f9 ((l.L ρ).map _)).map _)=_
 rw[aeQ]
theorem aGa{P:Program}{f:FuncId}(hS:BB P f){fs:List E}(hfs:∀e∈fs,∀ρ,e.B ρ=true){st:St}{b:Nat}{le n af c:E}{el:TypeId}{l:List (SV×St)}(h:Nm st b le n af el (dD fs st.pc n jD)=.outs l)
  (hb:st.heap.get b=some ⟨true,.flat [.int .i64] le n af el⟩){B:Base}{ρ:Env}{w:World}{R:Ending->World->Prop}(hr:RepW B ρ st w)
  (hK:∀y∈l,∀(ρ':Env)(w':World),ρ.Ext ρ'->RepW B ρ' y.2 w'->y.1.ok ρ'->R (.returned (y.1.den ρ')) w'):
  Calls P f (SV.dens ρ [.nslice b n c]).toArray w R:=by
 have key:dD fs st.pc n jD=true/\l=[(.tup [],{st with heap:=st.heap.set b ⟨true,.flat [.int .i64] (.fn 40 le) n af el⟩})]:=by
  unfold Nm at h;grind
 obtain⟨hle,rfl⟩:=key
 have hle':n.I ρ<=2147483648:=by
  have:=jk hfs hr.pc hle
  simp_all[jD]
 obtain⟨_,⟨_,g1,g2,g3,g4⟩,_⟩:=hr.blk _ _ hb
 simp only[List.length_singleton]at g1 g4;have hlen40:((E.fn 40 le).L ρ).length=(le.L ρ).length:=by
  rw[aao];simp[(z8 _).length_eq]
 have ret:=hK _ (List.mem_singleton.2 rfl) ρ;have fin:∀w',RepW B ρ {st with heap:=st.heap.set b ⟨true,.flat [.int .i64] (.fn 40 le) n af el⟩} w'->R (.returned (.tuple #[])) w':=fun w' h=>ret w' (Env.Ext.refl ρ) h (by simp[SV.ok,SV.oks])
 by_cases hn0:n.I ρ=0
 ·-- nothing to sort
  have hnil:le.L ρ=[]:=List.length_eq_zero_iff.1 (by omega);have hnil':(E.fn 40 le).L ρ=[]:=by simp_all
  have:SV.dens ρ [.nslice b n c]=[.slice (ρ.base b) 0 (c.I ρ).toNat]:=by simp[SV.dens,SV.den,hn0]
  rw[this]
  refine(hS.2 _ _ w).mono ?_
  rintro e w' ⟨rfl,rfl⟩
  refine fin _ ?_;by_cases ht:0<af.I ρ
  ·obtain⟨q1,q2,arr,q3,q4,q5⟩:=g4 ht
   refine hr.putObj hb ht (fun _ _=>rfl) rfl rfl rfl ?_
   exact⟨by simp,by simp_all,g2,g3,fun _=>⟨q1,q2,arr,q3,fun i u hu=>by simp_all,by omega⟩⟩
  ·refine RepW.swap hr hb ?_ ht
   exact⟨by simp,by simp_all,g2,g3,fun h=>absurd h ht⟩
 ·have ht:0<af.I ρ:=by omega
  obtain⟨q1,q2,arr,q3,q4,q5⟩:=g4 ht
  obtain⟨zs,hzs⟩:∃zs:List Int,zs=(le.L ρ).map U.toI:=⟨_,rfl⟩
  have hzl:(zs.length:Int)=n.I ρ:=by simp_all
  have hget:∀(j:Nat)(z:Int),zs[j]?=some z->arr[j]?=some (encZ z):=by
   intro j z hj
   rw[hzs,List.getElem?_map]at hj
   cases hu:(le.L ρ)[j]? with
   |none=>simp_all
   |some u=>
    rw[hu]at hj
    simp only[Option.map_some,Option.some.injEq]at hj
    obtain⟨c,c1,c2,_⟩:=q4 j u hu
    simp[Nat.mod_one]at c1;subst c1
    rw[c2,<- hj];rfl
  have hlt:ρ.blk b<w.heap.size:=(Array.getElem?_eq_some_iff.1 q3).1
  have:SV.dens ρ [.nslice b n c]=[.slice (some ⟨ρ.blk b,0,none⟩) zs.length (c.I ρ).toNat]:=by
   grind[SV.dens,SV.den,fj]
  rw[this]
  refine(hS.1 (ρ.blk b) 0 _ zs w (aaQ q3 hget) hlt (by omega)).mono ?_
  rintro e w' ⟨rfl,k,os,rfl⟩
  refine fin _ ?_
  rw[abR,<- aeN]
  have hp:(gP zs).length=zs.length:=(z8 zs).length_eq;have hsz:zs.length<=arr.size:=by
   omega
  refine hr.sorted hb ht q3 (gP zs).toArray (by simp_all) ?_ k os;intro w' arr' k1 k2 k3
  refine⟨by simp,by simp_all,g2,g3,fun _=>⟨q1,q2,arr',k1,fun i u hu=>?_,by simp_all⟩⟩
  rw[aao,<- hzs,List.getElem?_map]at hu
  cases hi:(gP zs)[i]? with
  |none=>simp_all
  |some z=>
   rw[hi]at hu
   simp only[Option.map_some,Option.some.injEq]at hu;subst hu;have hil:=(List.getElem?_eq_some_iff.1 hi).1
   refine⟨.int .i64,by grind,?_,trivial⟩
   simp_all[if_pos,List.getElem?_eq_some_iff,CK.val,U.toI]
theorem aGb{P:Program}{f:FuncId}(hS:BB P f):aV P (aeP f):=by
 intro fs hfs args st l h B ρ w R hr hao hK;have h:Nk fs _ st=.outs l:=h;unfold Nk at h;split at h;case h_2=>cases h
 rename_i v;split at h
 ·simp only[NatR.outs.injEq]at h;subst h
  refine(hS.2 _ 0 w).mono ?_
  rintro e w' ⟨rfl,rfl⟩
  exact hK _ (List.mem_singleton.2 rfl) ρ _ (Env.Ext.refl ρ) hr (by simp[SV.ok,SV.oks])
 ·rename_i b len c;split at h;case h_2=>cases h
  rename_i own o hb;split at h;case h_2=>cases h
  split at h
  ·split at h;case h_2=>cases h
   rename_i n hn
   obtain⟨_,⟨z1,z2,_⟩,_⟩:=hr.blk _ _ hb
   have:SV.dens ρ [.nslice b len c]=[.slice (some ⟨ρ.blk b,0,none⟩) n (c.I ρ).toNat]:=by
    simp only[SV.dens,SV.den,fj z1]
    rw[iz hn];simp
   rw[this]
   exact aeM hS h hb hr _ hK
  ·split at h;case h_2=>cases h
   rename_i hc;simp only[Bool.and_eq_true]at hc;have e1:=E.beq_eq hc.1;subst e1;have e2:=LA hc.2;subst e2;exact aGa hS hfs h hb hr hK
  ·cases h
 ·rename_i b off len c;split at h;case h_2=>cases h
  rename_i own o hb;split at h;case h_2=>cases h
  split at h
  ·split at h
   ·rename_i n hn ho
    obtain⟨_,⟨z1,z2,_⟩,_⟩:=hr.blk _ _ hb
    have:SV.dens ρ [.slice b off len c]=[.slice (some ⟨ρ.blk b,0,none⟩) n (c.I ρ).toNat]:=by
     simp only[SV.dens,SV.den,jL ho]
     rw[iz hn];simp
    rw[this]
    exact aeM hS h hb hr _ hK
   ·cases h
  ·cases h
 ·cases h
end Go.SX

namespace Go.SX
open Go.RowKit
def HA(n₀:Nat)(W:World)(sv:Value)(zs:List Int):Prop:=
 (∃p c,sv=.slice p 0 c/\zs=[])\/∃b off cap,sv=.slice (some ⟨b,off,none⟩) zs.length cap/\b<n₀/\∀j,j<zs.length->W.cell? ⟨b,off+j,none⟩=some (.int .i64 (zs[j]?.getD 0))
def VG(P:Program)(f g1:FuncId)(el:TypeId):Prop:=
 ∀(w:World)(Bs:Nat)(sv:Value)(zs:List Int),zs.length<=2147483648->Bs<w.heap.size->w.cell? ⟨Bs,0,none⟩=some sv->HA w.heap.size w sv zs->
  Calls P f #[.slice none 0 0,.func (.func g1) #[] #[.pointer (some ⟨Bs,0,none⟩)]] w fun e w'=>∃v,e=.returned v/\
   w'.ownsRow w.heap.size el 1 v zs.length (zs.map encZ)/\(v=.slice none 0 0↔zs=[])/\Below w.heap.size w w'
theorem RepW.newFlat'{B:Base}{ρ:Env}{st:St}{w w':World}(hr:RepW B ρ st w)(hs:st.scp=true)(hb:Below w.heap.size w w'){el:TypeId}{e:E}{ks:List Int}{v:Value}
  (he:e.scp st.nv=true)(hL:(e.L ρ).map U.toI=ks)(hrow:w'.ownsRow w.heap.size el 1 v ks.length (ks.map encZ))(hnil:v=.slice none 0 0↔ks=[]):
  ∃ρ',ρ.Ext ρ'/\RepW B ρ' (mJ st e el).2 w'/\(mJ st e el).1.den ρ'=v/\(mJ st e el).1.ok ρ':=by
 have hlen:(e.L ρ).length=ks.length:=by grind
 have key:∀(k:Bk)(cap:Nat)(arr:Array _),ks.length<=cap->v=.slice k.base ks.length cap->
   (0<cap->k.nil=false/\k.off=0/\w'.heap[k.blk]?=some (.cells arr el (0,0))/\arr.size=cap/\arr.toList.take ks.length=ks.map encZ/\w.heap.size<=k.blk)->
   ∃ρ',ρ.Ext ρ'/\RepW B ρ' (mJ st e el).2 w'/\(mJ st e el).1.den ρ'=v/\(mJ st e el).1.ok ρ':=by
  intro k cap arr hle hv hreal;have hext:=ρ.grow_ext [.int cap] k;have hvar:=Env.grow_var (ρ:=ρ) (u:=.int cap) (k:=k) hr.nv;have hcI:(E.var st.nv).I (ρ.grow [.int cap] k)=cap:=by unfold E.I;rw[hvar];rfl
  have heL:=E.scoped_L hext (by rw[hr.nv];omega);have hnI:(E.fn 0 e).I (ρ.grow [.int cap] k)=ks.length:=by
   show((e.L _).length:Int)=_
   simp_all
  refine⟨ρ.grow _ k,hext,?_,?_,by simp[mJ,SV.ok]⟩
  ·refine hr.grow hs _ [bm _] k _ ?_ (fun r h _=>hb.block r h) hb.os hb.tape hb.output (.inl hb.block) ?_ ?_
   ·simp_all[iA,eM,cK]
   ·refine⟨by simp,?_,?_,?_,fun hp=>?_⟩
    ·simp_all
    ·omega
    ·omega
    ·obtain⟨q1,q2,q3,q4,q5,q6⟩:=hreal (by omega)
     refine⟨q1,q2,arr,q3,fun i u hu=>?_,by simp_all⟩
     have hk:ks[i]?=some u.toI:=by grind
     have h1:(ks.map encZ)[i]?=some (encZ u.toI):=by simp[hk]
     rw[<- q5,List.getElem?_take]at h1
     split at h1
     ·exact⟨.int .i64,by grind,by rw[<- Array.getElem?_toList,h1];rfl,trivial⟩
     simp_all
   ·intro hp;have hp':0<(E.var _).I _:=hp
    obtain⟨q1,q2,q3,q4,q5,q6⟩:=hreal (by omega)
    refine⟨hr.free_ge q6,fun i b hb' hl _ e'=>?_,fun r hr' e'=>by have:=hr.held_lt hr';omega⟩
    have:=(hr.blk i b hb').2.1.lt hl
    omega
  ·simp only[mJ,SV.den,hnI,hcI,Env.grow_base hr.nb,Int.toNat_natCast]
   rw[hv]
 rcases hrow.2 with⟨h,_⟩|⟨g,cap,cur,rfl,hbase,hg,hle,_,hsz,htake⟩
 ·have hk:=hnil.1 h;refine key ⟨0,0,some _⟩ 0 #[] (by omega) (by rw[h,hk];rfl) (fun h=>by omega)
 ·refine key ⟨g,0,none⟩ _ _ hle rfl (fun _=>⟨rfl,rfl,hg,by omega,?_,hbase⟩);simp_all
theorem aJZ{g1:FuncId}{args:List SV}{st:St}{v:SV}(h:GF g1 args st=some v):∃b o own cs af el',args=[.nils,.func (.func g1) [] [.ptr b o]]/\gL o=some 0/\st.heap.get b=some ⟨own,.cells (v::cs) af el'⟩:=by
 unfold GF at h;grind[Nat.eq_of_beq_eq_true]
theorem af1{el:TypeId}{st:St}{e:E}{b:Bool}{l:List (SV×St)}(h:GD el st e b=.outs l):b=true/\[mJ st e el]=l:=by
 unfold GD at h;grind
theorem aBz{P:Program}{f g1:FuncId}{el:TypeId}(hV:VG P f g1 el):aV P (Yy f g1 el):=by
 intro fs hfs args st l h0 B ρ w R hr hao hK;have h:JV g1 el fs args st=.outs l:=h0;clear h0;show Calls P f _ w R;unfold JV at h;cases hs:GF g1 args st with
 |none=>simp_all
 |some v=>
  rw[hs]at h
  simp only at h
  obtain⟨b,o,own,cs,af,el',rfl,ho,hb⟩:=aJZ hs
  obtain⟨hlt,⟨z1,z2,hok,arr,harr,hsz,hcs⟩,hfr⟩:=hr.blk _ _ hb
  have hden:SV.dens ρ [.nils,SV.func (.func g1) [] [.ptr b o]]=[.slice none 0 0,.func (.func g1) #[] #[.pointer (some ⟨ρ.blk b,0,none⟩)]]:=by
   simp_all[SV.dens,SV.den,jL]
  have hBm:ρ.blk b<w.heap.size:=(Array.getElem?_eq_some_iff.1 harr).1;have hcell:w.cell? ⟨ρ.blk b,0,none⟩=some (v.den ρ):=by
   simp[World.cell?,harr,hcs 0 v rfl]
  have hvok:v.ok ρ:=hok.1
  rw[hden]
  have lits:∀(b2 off n cap:Nat)(hd:List SV)(zs:List Int)(arr2:Array Value)(e2:TypeId)(fr:Nat×Nat),v.den ρ=.slice (some ⟨ρ.blk b2,off,none⟩) n cap->w.heap[ρ.blk b2]?=some (.cells arr2 e2 fr)->
    (∀(j:Nat)(x:SV),hd[j]?=some x->arr2[off+j]?=some (x.den ρ))->hd.length=n->qF hd=some zs->n<=1000000->oY st el zs=some l->Calls P f #[.slice none 0 0,.func (.func g1) #[] #[.pointer (some ⟨ρ.blk b,0,none⟩)]] w R:=by
   intro b2 off n cap hd zs arr2 e2 fr hvd ha2 hcells hl hzs hn hrow;have hdz:=Oa (ρ:=ρ) hd zs hzs;have hlen:zs.length=n:=by
    have:=congrArg List.length hdz
    grind[SV.dens_eq,List.length_map]
   refine(hV w (ρ.blk b) _ zs (by omega) hBm hcell (.inr ⟨ρ.blk b2,off,cap,by simp_all,(Array.getElem?_eq_some_iff.1 ha2).1,fun j hj=>?_⟩)).mono ?_
   ·have h1:(SV.dens ρ hd)[j]?=some (encZ (zs[j]?.getD 0)):=by simp_all
    grind[SV.dens_eq,Option.some.injEq,World.cell?]
   ·rintro e w' ⟨u,rfl,hrw,hnil,hbe⟩
    obtain⟨y,hy,ρ',k1,k2,k3,k4⟩:=aFU hr hrow hbe hrw hnil
    grind
  split at h
  ·-- nil
   simp only[NatR.outs.injEq]at h;subst h
   refine(hV w (ρ.blk b) _ [] (by simp) hBm hcell (.inl ⟨none,0,rfl,rfl⟩)).mono ?_
   rintro e w' ⟨u,rfl,_,hnil,hbe⟩
   obtain rfl:=hnil.2 rfl;exact hK (.nils,st) (by simp) ρ w' (Env.Ext.refl ρ) (hr.kept hbe) (by omega)
  ·-- an own slice,perhaps nil
   rename_i b2 len c;split at h;case h_2=>cases h
   rename_i own2 o2 hb2;split at h
   ·rename_i cs2 tot2 e2;split at h;case h_2=>cases h
    rename_i n hn;split at h;case h_2=>cases h
    rename_i hd hhd;split at h;case h_2=>cases h
    rename_i zs hzs;split at h;case h_2=>cases h
    rename_i hle
    obtain⟨_,⟨y1,y2,_,arr2,ha2,_,hc2⟩,_⟩:=hr.blk _ _ hb2
    obtain⟨t1,t2⟩:=qB _ _ _ hhd
    have hrow:oY st el zs=some l:=by
     cases hq:oY st el zs with
     |none=>simp_all[oJ]
     |some l'=>simp_all[oJ,NatR.outs.injEq]
    refine lits b2 0 n (c.I ρ).toNat hd zs arr2 e2 (0,0) (by simp only[SV.den,fj y1,y2];rw[iz hn];simp) ha2 (fun j x hx=>?_) (by simp_all) hzs (Nat.le_of_ble_eq_true hle) hrow;grind
   ·rename_i ks le n tot2 e2;split at h;case h_2=>cases h
    rename_i hc;simp only[Bool.and_eq_true]at hc
    obtain⟨⟨q1,q2⟩,q3⟩:=hc
    have e1:=E.beq_eq q1;subst e1;have e3:=LA q2;subst e3
    obtain⟨g1',rfl⟩:=af1 h
    have hle':len.I ρ<=2147483648:=by
     have:=jk hfs hr.pc g1'
     simp_all[jD]
    obtain⟨_,⟨_,p1,p2,p3,p4⟩,_⟩:=hr.blk _ _ hb2
    simp only[List.length_singleton]at p1 p4
    obtain⟨zs,hzs⟩:∃zs:List Int,zs=(le.L ρ).map U.toI:=⟨_,rfl⟩
    have hzl:(zs.length:Int)=len.I ρ:=by simp_all
    have hesc:le.scp st.nv=true:=by
     have hb':=hr.blk_scp q3 hb2
     rw[hr.nv,hr.nb]at hb'
     simp_all[SObj.scp,Bool.and_eq_true]
    have hI:HA w.heap.size w ((SV.nslice b2 len c).den ρ) zs:=by
     by_cases h0:zs=[]
     ·refine .inl ⟨ρ.base b2,(c.I ρ).toNat,?_,h0⟩;simp_all[SV.den]
     ·have:0<zs.length:=List.length_pos_iff.2 h0
      obtain⟨r1,r2,arr2,r3,r4,_⟩:=p4 (by omega)
      refine .inr ⟨ρ.blk b2,0,(c.I ρ).toNat,?_,(Array.getElem?_eq_some_iff.1 r3).1,fun j hj=>?_⟩
      ·grind[SV.den,fj]
      ·cases hu:(le.L ρ)[j]? with
       |none=>
        simp_all
       |some u=>
        have hz:zs[j]?.getD 0=u.toI:=by simp_all
        obtain⟨c',c1,c2,_⟩:=r4 j u hu
        simp[Nat.mod_one]at c1;subst c1;simp_all[Nat.zero_add,World.cell?,CK.val]
    refine(hV w (ρ.blk b) _ zs (by omega) hBm hcell hI).mono ?_
    rintro e w' ⟨u,rfl,hrw,hnil,hbe⟩
    obtain⟨ρ',k1,k2,k3,k4⟩:=hr.newFlat' q3 hbe hesc hzs.symm hrw hnil
    grind
   ·cases h
  ·-- a slice with an offset
   rename_i b2 off len c;split at h;case h_2=>cases h
   rename_i own2 o2 hb2;split at h
   ·rename_i cs2 tot2 e2;split at h;case h_2=>cases h
    rename_i n m hn ho2;split at h;case h_2=>cases h
    rename_i hd hhd;split at h;case h_2=>cases h
    rename_i zs hzs;split at h;case h_2=>cases h
    rename_i hle
    obtain⟨_,⟨y1,y2,_,arr2,ha2,_,hc2⟩,_⟩:=hr.blk _ _ hb2
    obtain⟨t1,t2⟩:=qB _ _ _ hhd
    rw[sb]at t1 t2
    have hrow:oY st el zs=some l:=by
     cases hq:oY st el zs with
     |none=>simp_all[oJ]
     |some l'=>simp_all[oJ,NatR.outs.injEq]
    refine lits b2 m n (c.I ρ).toNat hd zs arr2 e2 (0,0) (by simp only[SV.den,y2,jL ho2];rw[iz hn];simp) ha2 (fun j x hx=>?_) (by simp_all) hzs (Nat.le_of_ble_eq_true hle) hrow;grind
   ·cases h
  ·-- memory that never changes
   rename_i ks e;split at h;case h_2=>cases h
   rename_i hc;simp only[Bool.and_eq_true]at hc
   obtain⟨⟨q2,q3⟩,q4⟩:=hc
   have e3:=LA q2;subst e3
   obtain⟨g1',rfl⟩:=af1 h
   have hle':(E.fn 0 e).I ρ<=2147483648:=by
    have:=jk hfs hr.pc g1'
    simp_all[jD]
   have hlen:(((e.L ρ).length:Nat):Int)=(E.fn 0 e).I ρ:=rfl;have hsl:SlOk ρ.fz [.int .i64] (e.den ρ):=hvok
   obtain⟨zs,hzs⟩:∃zs:List Int,zs=(e.L ρ).map U.toI:=⟨_,rfl⟩
   have hzl:zs.length=(e.L ρ).length:=by simp_all
   have hI:HA w.heap.size w ((SV.bsl [.int .i64] e).den ρ) zs:=by
    simp only[SV.den];unfold E.L at hzs;generalize e.den ρ=u at hsl hzs;cases hsl with
    |nil=>exact .inl ⟨none,0,rfl,by rw[hzs];rfl⟩
    |empty a=>exact .inl ⟨some a,0,rfl,by rw[hzs];rfl⟩
    |mk hl hcp hz hv hsub=>
     rename_i r off len cap L arr2 elem fr;have hzs':zs=L.map U.toI:=hzs;have hll:L.length=len:=by simp_all
     by_cases h0:L=[]
     ·refine .inl ⟨some ⟨r,off,none⟩,cap,?_,by simp_all⟩
      have:len=0:=by simp_all
      subst this;rfl
     ·have hfz:=hr.fz r _ (hz h0);refine .inr ⟨r,off,cap,?_,(Array.getElem?_eq_some_iff.1 hfz).1,fun j hj=>?_⟩
      ·have:len=zs.length:=by grind
       subst this;rfl
      ·cases hu:L[j]? with
       |none=>
        grind
       |some u=>
        have hz:zs[j]?.getD 0=u.toI:=by rw[hzs',List.getElem?_map,hu];rfl
        obtain⟨c',c1,c2⟩:=hv j u hu
        simp_all[Nat.mod_one,World.cell?,CK.val]
   refine(hV w (ρ.blk b) _ zs (by omega) hBm hcell hI).mono ?_
   rintro e0 w' ⟨u,rfl,hrw,hnil,hbe⟩
   obtain⟨ρ',k1,k2,k3,k4⟩:=hr.newFlat' q3 hbe q4 hzs.symm hrw hnil
   grind
  ·cases h
end Go.SX
