/-
  Functions of the library that are known by their contracts.
-/
import Derived.Test.YtmngplmblanhdaaSXd
import Derived.Shelf.SlIterI.Nil
import Derived.Shelf.SlMaps.Clone
set_option linter.unusedVariables false
set_option linter.unusedSimpArgs false
set_option linter.unusedSectionVars false

namespace Go.SX
open Go.RowKit Go.Maps Go.Sort Go.Shelf Go.Proofs Go.MapKept
def SortedKeysAt (P:Program) (fS g1:FuncId) (el:TypeId):Prop :=
 ∀ (w:World) (Bm b clock:Nat) (es:Array MapEntry) (ks:List Int),Bm < w.heap.size→w.cell? ⟨Bm,0,none⟩=some (.map (some b))→w.heap[b]?=some (.map es clock)→Stamped es clock →
  es.toList.map (·.key)=ks.map encZ→(∀ k∈ks,(Lit.int .i64 k).wf=true)→ks.length≤1000000 →
  Calls P fS #[.func (.func g1) #[] #[.pointer (some ⟨Bm,0,none⟩)]] w fun e w'=>∃ v,e=.returned v ∧
   w'.ownsRow w.heap.size el 1 v ks.length ((ks.mergeSort Go.leI).map encZ)∧(v=.slice none 0 0↔ks=[])∧Below w.heap.size w w'
def SortedNilAt (P:Program) (fS g1:FuncId):Prop :=
 ∀ (w:World) (Bm:Nat),Bm < w.heap.size→w.cell? ⟨Bm,0,none⟩=some (.map none) →
  Calls P fS #[.func (.func g1) #[] #[.pointer (some ⟨Bm,0,none⟩)]] w fun e w'=>e=.returned (.slice none 0 0)∧Below w.heap.size w w'
def noRel (H:Type):Value→Option (DataW H × List MemPlace):=fun _=>some (.nil,[])
theorem maxLen_big:(1000000:Nat)≤maxLen:=by decide
theorem keyOf_enc {P:Program} {k:TypeId} (hk:P.underlying k=some (.int .i64)) {x:Int} (hx:(Lit.int .i64 x).wf=true):Go.keyOf P k (encZ x)=some (Lit.int .i64 x):=by
 simp [Go.keyOf,hk,mapKey,hx]
theorem map_at {α β:Type} {f:α→β} {g:α→Int} {l:List α} {ks:List Int} (enc:Int→β) (h:l.map f=ks.map enc) (hg:∀ x∈l,∀ k,f x=enc k→k∈ks→g x=k):l.map g=ks:=by
 induction l generalizing ks with
 | nil=>cases ks with
  | nil=>rfl
  | cons _ _=>simp at h
 | cons x l ih=>cases ks with
  | nil=>simp at h
  | cons k ks =>
   simp only [List.map_cons,List.cons.injEq] at h ⊢
   refine ⟨hg x (by simp) k h.1 (by simp),ih h.2 fun y hy k' h1 h2=>hg y (by simp [hy]) k' h1 (by simp [h2])⟩
theorem sortedKeysAt_of {P:Program} {ρk ρs:Ren} (Lk:SlLaysZI.n10 P ρk) (Ls:SlLaysZI.n6 P ρs) (hs:∀ m,AnyZI.SortsIn P ρs Fence.wide m)
  (e9:∀ args w,(callFunc (ρs.f 9) args).run P w=.ok (.enter (ρs.f 9) args) w) (eg:∀ args w,(callFunc (ρk.f 10) args).run P w=.ok (.enter (ρk.f 10) args) w)
  (hk:P.underlying (ρk.t 26)=some (.int .i64)):SortedKeysAt P (ρs.f 6) (ρk.f 10) (ρs.t 26):=by
 intro w Bm b clock es ks hBm hm hb hst hkeys hwf hlen
 refine (callsIn_wide (n:=5)).1 ?_
 have hreads:∀ x∈es.toList,∃ k,x.key=encZ k∧k∈ks:=by
  intro x hx
  have:x.key∈ks.map encZ:=by rw [← hkeys]; exact List.mem_map_of_mem hx
  obtain ⟨k,h1,h2⟩:=List.mem_map.1 this
  exact ⟨k,h2.symm,h1⟩
 have hrd:∀ x∈es.toList,∀ k,x.key=encZ k→k∈ks→Go.WideElems.rd P (ρk.t 26) (noRel Nat) x=some (.int .i64 k,.nil):=by
  intro x hx k h1 h2
  simp [Go.WideElems.rd,h1,keyOf_enc hk (hwf k h2),noRel]
 have hsize:es.size=ks.length:=by
  have:=congrArg List.length hkeys
  simpa using this
 have hown:w.ownsMap P (ρk.t 26) (noRel Nat) b ks.length (.map ((es.toList.map (Go.WideElems.rg P (ρk.t 26) (noRel Nat))).foldr DataW.insert [])):=by
  refine ⟨es,clock,hb,⟨?_,hst,?_⟩,by omega,rfl⟩
  ·have:(1000000:Nat)≤maxLen:=by decide
   omega
  ·intro x hx
   obtain ⟨k,h1,h2⟩:=hreads x hx
   exact ⟨_,hrd x hx k h1 h2⟩
 have hperm:(intKeys (.map ((es.toList.map (Go.WideElems.rg P (ρk.t 26) (noRel Nat))).foldr DataW.insert []):DataW Nat)).Perm ks:=by
  have h1:=(Go.WideShapes.sorted_perm (es.toList.map (Go.WideElems.rg P (ρk.t 26) (noRel Nat)))).map (fun p=>intOf p.1)
  refine h1.trans (List.Perm.of_eq ?_)
  rw [List.map_map]
  refine map_at encZ hkeys ?_
  intro x hx k h1 h2
  have:=hrd x hx k h1 h2
  simp [Go.WideElems.rg,this,intOf]
 have hsz:Maps.size (.map ((es.toList.map (Go.WideElems.rg P (ρk.t 26) (noRel Nat))).foldr DataW.insert []):DataW Nat)=ks.length:=by
  have:=(Go.WideShapes.sorted_perm (es.toList.map (Go.WideElems.rg P (ρk.t 26) (noRel Nat)))).length_eq
  simp only [Maps.size,this,List.length_map,Array.length_toList,hsize]
 have hseq:=AnyZI.keys_gives (ρ:=ρk) Lk Fence.wide 2 trivial rfl (by omega) Bm b ks.length _ w hBm hm hown
 have:=AnyZI.sorted_in Ls Fence.wide 5 trivial trivial trivial trivial rfl (by omega) (hs _) e9 (ρk.f 10) _ trivial eg _ _ (by rw [hsz]; exact Nat.le_trans hlen maxLen_big) (by rw [hsz]; omega) w hseq
 refine this.mono ?_
 rintro e w' ⟨v,ss,rfl,hS,hrow,hnil,hbelow⟩
 have hp:ss.Perm ks:=hS.trans hperm
 refine ⟨v,rfl,?_,?_,hbelow⟩
 ·rw [← hp.length_eq,← mergeSort_of_perm_i hp]; exact hrow
 ·rw [hnil]
  constructor
  ·rintro rfl; exact List.Perm.nil_eq hp |>.symm
  ·rintro rfl; exact List.Perm.eq_nil hp
theorem sortedNilAt_of {P:Program} {ρk ρs:Ren} (Lk:SlLaysZI.n10 P ρk) (Ls:SlLaysZI.n6 P ρs) (hs:∀ m,AnyZI.SortsIn P ρs Fence.wide m)
  (e9:∀ args w,(callFunc (ρs.f 9) args).run P w=.ok (.enter (ρs.f 9) args) w) (eg:∀ args w,(callFunc (ρk.f 10) args).run P w=.ok (.enter (ρk.f 10) args) w) :
  SortedNilAt P (ρs.f 6) (ρk.f 10):=by
 intro w Bm hBm hm
 refine (callsIn_wide (n:=5)).1 ?_
 have hseq:=AnyZI.keys_gives_nil (ρ:=ρk) Lk Fence.wide 2 trivial rfl Bm w hBm hm
 have:=AnyZI.sorted_in Ls Fence.wide 5 trivial trivial trivial trivial rfl (by omega) (hs _) e9 (ρk.f 10) _ trivial eg _ 0 (Nat.zero_le _) (by omega) w hseq
 refine this.mono ?_
 rintro e w' ⟨v,ss,rfl,rfl,hrow,hnil,hbelow⟩
 obtain rfl:v=.slice none 0 0:=hnil.2 rfl
 exact ⟨rfl,hbelow⟩
end Go.SX

namespace Go.SX
open Go.RowKit
theorem RepW.newCells {B:Base} {ρ:Env} {st:St} {w w':World} (hr:RepW B ρ st w) (hs:st.scp=true) (hb:Below w.heap.size w w') {el n:Nat} {cs:List SV} {v:Value} {xs:List Value}
  (hrow:w'.ownsRow w.heap.size el 1 v n xs) (hv:v≠.slice none 0 0) (hcs:SV.scps st.nv st.nb cs=true) (hok:SV.oks ρ cs) (hden:SV.dens ρ cs=xs) :
  ∃ ρ',ρ.Ext ρ'∧RepW B ρ' (rowSt st cs n el).2 w'∧(rowSt st cs n el).1.den ρ'=v∧(rowSt st cs n el).1.ok ρ':=by
 rcases hrow.2 with ⟨h,_⟩ | ⟨g,cap,cur,rfl,hbase,hg,hle,_,hsz,htake⟩
 ·exact absurd h hv
 ·have hlen:=hrow.1
  let k:Bk:=⟨g,0,false⟩
  have hext:=ρ.grow_ext [.int cap] k
  obtain ⟨e1,e2,e3⟩:=Env.grow_blk (ρ:=ρ) (us:=[.int cap]) (k:=k) hr.nb
  have hvar:=Env.grow_var (ρ:=ρ) (u:=.int cap) (k:=k) hr.nv
  have hcI:(E.var st.nv).I (ρ.grow [.int cap] k)=cap:=by unfold E.I; rw [hvar]; rfl
  have hden':SV.dens (ρ.grow [.int cap] k) cs=xs:=by rw [SV.scopeds_den hext cs (by rw [hr.nv,hr.nb]; exact hcs)]; exact hden
  refine ⟨ρ.grow [.int cap] k,hext,?_,?_,by simp [rowSt,SV.ok]⟩
  ·refine hr.grow hs [.int cap] [mkNot (mkCmp .lss (.var st.nv) (.int (.ofNat n)))] k _ ?_ (fun r h _=>hb.block r h) hb.os hb.tape hb.output (.inl hb.block) ?_ ?_
   ·intro e he
    simp only [List.mem_cons,List.not_mem_nil,or_false] at he
    subst he
    rw [mkNot_B,mkCmp_B,hcI]
    simp [cmpI]; omega
   ·refine ⟨rfl,rfl,SV.oks_ext hext cs (by rw [hr.nv,hr.nb]; exact hcs) hok,cur,hg,by rw [hcI]; simpa using hsz,?_⟩
    intro j u hj
    have h1:(SV.dens (ρ.grow [.int cap] k) cs)[j]?=some (u.den (ρ.grow [.int cap] k)):=by rw [SV.dens_eq,List.getElem?_map,hj]; rfl
    rw [hden',← htake,List.getElem?_take] at h1
    split at h1
    ·simpa using h1
    ·cases h1
   ·intro _
    refine ⟨?_,fun i b hb' hl _ e=>?_,fun r hr' e=>?_⟩
    ·exact hr.free_ge (by omega)
    ·have:=(hr.blk i b hb').2.1.lt hl
     have e':ρ.blk i=g:=e
     omega
    ·have:=hr.held_lt hr'
     have e':r=g:=e
     omega
  ·simp only [rowSt,SV.den,E.I_int,hcI,Env.base,e1,e2,e3]
   rfl
theorem intB_iff {a b:Int}:intB a b=true↔a=b:=⟨intB_eq,by rintro rfl; cases a <;> simp [intB]⟩
theorem hasI_iff (n:Int) (l:List Int):hasI n l=true↔n∈l:=by
 induction l with
 | nil=>simp [hasI]
 | cons m l ih =>
  simp only [hasI]
  split
  ·rename_i h; simp [intB_iff.1 h]
  ·rename_i h
   have:n≠m:=fun e=>by rw [intB_iff.2 e] at h; cases h
   simp [ih,this]
theorem nodupI_ok:∀ (l:List Int),nodupI l=true→l.Nodup
 | [],_=>List.nodup_nil
 | n::l,h=>by
  simp only [nodupI] at h
  split at h
  ·cases h
  ·rename_i hh
   refine List.nodup_cons.2 ⟨fun hm=>?_,nodupI_ok l h⟩
   rw [(hasI_iff n l).2 hm] at hh; cases hh
theorem wfIs_ok:∀ (l:List Int),wfIs l=true→∀ k∈l,(Lit.int .i64 k).wf=true
 | [],_,k,hk=>by cases hk
 | n::l,h,k,hk=>by
  simp only [wfIs] at h
  split at h
  ·rename_i hh
   rcases List.mem_cons.1 hk with rfl | hk
   ·simp only [Bool.and_eq_true,leI,cmpI,decide_eq_true_eq] at hh
    simp [Lit.wf,IntKind.min,IntKind.max,IntKind.signed,IntKind.bits]
    omega
   ·exact wfIs_ok l h k hk
  ·cases h
theorem leI_go (x y:Int):leI x y=Go.leI x y:=rfl
theorem insI_perm (x:Int):∀ l,(insI x l).Perm (x::l)
 | []=>.refl _
 | y::l=>by
  simp only [insI]
  split
  ·exact .refl _
  ·exact ((insI_perm x l).cons y).trans (.swap x y l)
theorem sortI_perm:∀ l,(sortI l).Perm l
 | []=>.refl _
 | x::l=>(insI_perm x _).trans ((sortI_perm l).cons x)
theorem insI_sorted (x:Int):∀ l:List Int,l.Pairwise (fun a b=>Go.leI a b=true)→(insI x l).Pairwise (fun a b=>Go.leI a b=true)
 | [],_=>by simp [insI]
 | y::l,h=>by
  obtain ⟨h1,h2⟩:=List.pairwise_cons.1 h
  simp only [insI]
  split
  ·rename_i hxy
   refine List.pairwise_cons.2 ⟨fun z hz=>?_,h⟩
   rcases List.mem_cons.1 hz with rfl | hz
   ·exact hxy
   ·have:=h1 z hz
    simp only [leI,cmpI,Go.leI,decide_eq_true_eq] at *
    omega
  ·rename_i hxy
   refine List.pairwise_cons.2 ⟨fun z hz=>?_,insI_sorted x l h2⟩
   rcases List.mem_cons.1 ((insI_perm x l).mem_iff.1 hz) with rfl | hz
   ·simp only [leI,cmpI,Go.leI,decide_eq_true_eq,decide_eq_false_iff_not] at *
    omega
   ·exact h1 z hz
theorem sortI_sorted:∀ l,(sortI l).Pairwise (fun a b=>Go.leI a b=true)
 | []=>.nil
 | x::l=>insI_sorted x _ (sortI_sorted l)
theorem sortI_eq (l:List Int):sortI l=l.mergeSort Go.leI:=by
 have tr:∀ a b c:Int,Go.leI a b=true→Go.leI b c=true→Go.leI a c=true:=fun a b c h1 h2=>by simp only [Go.leI,decide_eq_true_eq] at *; omega
 have to:∀ a b:Int,(Go.leI a b || Go.leI b a)=true:=fun a b=>by simp only [Go.leI,Bool.or_eq_true,decide_eq_true_eq]; omega
 refine List.Perm.eq_of_pairwise (le:=fun a b=>Go.leI a b=true) (fun a b _ _ h1 h2=>?_) (sortI_sorted l) (List.pairwise_mergeSort tr to l) ((sortI_perm l).trans (List.mergeSort_perm l Go.leI).symm)
 simp only [Go.leI,decide_eq_true_eq] at h1 h2
 omega
theorem intCells_den (ρ:Env):∀ l,SV.dens ρ (intCells l)=l.map encZ
 | []=>rfl
 | n::l=>by simp [intCells,SV.dens,SV.den,intCells_den ρ l]
theorem intCells_scp (nv nb:Nat):∀ l,SV.scps nv nb (intCells l)=true
 | []=>rfl
 | n::l=>by
  rw [intCells,SV.scopeds_cons,intCells_scp nv nb l]
  rfl
theorem intCells_ok (ρ:Env):∀ l,SV.oks ρ (intCells l)
 | []=>trivial
 | n::l=>⟨by simp [SV.ok],intCells_ok ρ l⟩
theorem keyInts_ok {ρ:Env}:∀ (es:List Ent) (ks:List Int),keyInts es=some ks→es.map (fun x=>x.k.den ρ)=ks.map encZ
 | [],ks,h=>by simp [keyInts] at h; subst h; rfl
 | x::es,ks,h=>by
  simp only [keyInts] at h
  split at h
  ·rename_i n hx
   split at h
   ·rename_i l hl
    simp only [Option.some.injEq] at h; subst h
    simp [hx,SV.den,keyInts_ok es l hl]
   ·cases h
  ·cases h
theorem rowRes_ok {B:Base} {ρ:Env} {st:St} {w w':World} (hr:RepW B ρ st w) {el:TypeId} {ks:List Int} {l:List (SV × St)} (h:rowRes st el ks=some l) (hb:Below w.heap.size w w') {v:Value}
  (hrow:w'.ownsRow w.heap.size el 1 v ks.length (ks.map encZ)) (hnil:v=.slice none 0 0↔ks=[]):∃ y∈l,∃ ρ',ρ.Ext ρ'∧RepW B ρ' y.2 w'∧y.1.den ρ'=v∧y.1.ok ρ':=by
 unfold rowRes at h
 split at h
 ·simp only [Option.some.injEq] at h; subst h
  exact ⟨(.nils,st),by simp,ρ,Env.Ext.refl ρ,hr.kept hb,by simp [SV.den,hnil.2 rfl],by simp [SV.ok]⟩
 ·rename_i hne
  split at h
  ·rename_i hs
   simp only [Option.some.injEq] at h; subst h
   obtain ⟨ρ',h1,h2,h3,h4⟩:=hr.newCells (cs:=intCells ks) hs hb hrow (fun e=>hne (hnil.1 e)) (intCells_scp _ _ _) (intCells_ok _ _) (intCells_den ρ ks)
   rw [lenI_eq]
   exact ⟨_,by simp,ρ',h1,h2,h3,h4⟩
  ·cases h
theorem sortedKeys_core {P:Program} {fS g1:FuncId} {el:TypeId} (hS:SortedKeysAt P fS g1 el) {B:Base} {ρ:Env} {st:St} {w:World} (hr:RepW B ρ st w) {b m:Nat} {o:Off} {own own2:Bool} {cs:List SV} {tot:E} {el':TypeId} {es:List Ent} {clk:E}
  (ho:litOff o=some 0) (hb:st.heap.get b=some ⟨own,.cells (.map m::cs) tot el'⟩) (hm:st.heap.get m=some ⟨own2,.map es clk⟩) (ks:List Int) (hk:es.map (fun x=>x.k.den ρ)=ks.map encZ) (hnd:ks.Nodup)
  (hwf:∀ k∈ks,(Lit.int .i64 k).wf=true) (hlen:ks.length≤1000000) {R:Ending→World→Prop}
  (hK:∀ (v:Value) (w':World),w'.ownsRow w.heap.size el 1 v ks.length ((ks.mergeSort Go.leI).map encZ)→(v=.slice none 0 0↔ks=[])→Below w.heap.size w w'→R (.returned v) w') :
  Calls P fS (SV.dens ρ [SV.func (.func g1) [] [.ptr b o]]).toArray w R:=by
 obtain ⟨hlt,⟨z1,z2,_,arr,harr,hsz,hcs⟩,_⟩:=hr.blk _ _ hb
 have hden:SV.dens ρ [SV.func (.func g1) [] [.ptr b o]]=[.func (.func g1) #[] #[.pointer (some ⟨ρ.blk b,0,none⟩)]]:=by
  simp [SV.dens,SV.den,z2,litOff_ok ho]
 have hBm:ρ.blk b < w.heap.size:=(Array.getElem?_eq_some_iff.1 harr).1
 have hcell:w.cell? ⟨ρ.blk b,0,none⟩=some (.map (some (ρ.blk m))):=by
  simp [World.cell?,harr,hcs 0 (.map m) rfl,SV.den]
 rw [hden]
 obtain ⟨_,⟨entries,clock,he,hck,hent,hb1,hb2⟩,_⟩:=hr.blk _ _ hm
 have hkeys:entries.toList.map (·.key)=ks.map encZ:=by
  rw [← hk]
  refine List.ext_getElem? fun i=>?_
  simp only [List.getElem?_map,Array.getElem?_toList]
  cases h1:entries[i]? with
  | none =>
   have:es[i]?=none:=by
    have:=hent.1
    simp at h1 ⊢; omega
   simp [this]
  | some e =>
   have hi:i < es.length:=by
    have:=(Array.getElem?_eq_some_iff.1 h1).1
    have:=hent.1
    omega
   have h2:es[i]?=some es[i]:=List.getElem?_eq_getElem hi
   have:=(hent.2 i e _ h1 h2).1
   simp [h2,this]
 have hst:MapKept.Stamped entries clock:=by
  refine ⟨fun x hx=>?_,?_,?_⟩
  ·obtain ⟨i,hi,rfl⟩:=List.getElem_of_mem hx
   exact hb1 i _ (by simp at hi; simp [hi])
  ·rw [List.nodup_iff_pairwise_ne,List.pairwise_map]
   refine List.pairwise_iff_getElem.2 fun i j hi hj hij e=>?_
   have:=hb2 i j _ _ (by simp at hi; simp [hi]; rfl) (by simp at hj; simp [hj]; rfl) (by simpa using e)
   omega
  ·rw [hkeys]
   refine List.Pairwise.map _ (fun a b hab e=>hab (encZ_inj e)) hnd
 refine (hS w (ρ.blk b) _ clock entries ks hBm hcell he hst hkeys hwf hlen).mono ?_
 rintro e w' ⟨v,rfl,hrow,hnil,hbe⟩
 exact hK v w' hrow hnil hbe
theorem isT_ok {x:Option Bool} (h:isT x=true):x=some true:=by
 cases x with
 | none=>cases h
 | some b=>cases b with
  | true=>rfl
  | false=>cases h
theorem oneKeyOf_ok {g1:FuncId} {args:List SV} {st:St} {e:E} (h:oneKeyOf g1 args st=some e):∃ b o own cs tot el' m own2 v born clk,
  args=[.func (.func g1) [] [.ptr b o]]∧litOff o=some 0∧st.heap.get b=some ⟨own,.cells (.map m::cs) tot el'⟩∧st.heap.get m=some ⟨own2,.map [⟨.int .i64 e,v,born⟩] clk⟩:=by
 unfold oneKeyOf at h
 split at h
 ·rename_i g b o
  split at h
  ·rename_i hg ho
   have:=Nat.eq_of_beq_eq_true hg; subst this
   split at h
   ·rename_i own v cs tot el' hb
    split at h
    ·rename_i m
     split at h
     ·rename_i own2 es clk hm
      split at h
      ·rename_i x
       obtain ⟨xk,xv,xb⟩:=x
       simp only at h
       split at h
       ·simp only [Option.some.injEq] at h; subst h
        exact ⟨b,o,own,cs,tot,el',m,own2,xv,xb,clk,rfl,ho,hb,hm⟩
       ·cases h
      ·cases h
     ·cases h
    ·cases h
   ·cases h
  ·cases h
 ·cases h
theorem oneKeyGo_ok {el:TypeId} {st:St} {e:E} {lo hi:Bool} {l:List (SV × St)} (h:oneKeyGo el st e lo hi=.outs l):lo=true∧hi=true∧[rowSt st [.int .i64 e] 1 el]=l:=by
 unfold oneKeyGo at h
 cases lo with
 | false=>cases h
 | true =>
  cases hi with
  | false=>cases h
  | true=>simp only [NatR.outs.injEq] at h; exact ⟨rfl,rfl,h⟩
theorem oneKeyEff_ok {P:Program} {fS g1:FuncId} {el:TypeId} (hS:SortedKeysAt P fS g1 el) {fs:List E} (hfs:∀ e∈fs,∀ ρ,e.B ρ=true) {args:List SV} {st:St} {l:List (SV × St)} (h:oneKeyEff g1 el fs args st=.outs l)
  {B:Base} {ρ:Env} {w:World} {R:Ending→World→Prop} (hr:RepW B ρ st w)
  (hK:∀ y∈l,∀ (ρ':Env) (w':World),ρ.Ext ρ'→RepW B ρ' y.2 w'→y.1.ok ρ'→R (.returned (y.1.den ρ')) w'):Calls P fS (SV.dens ρ args).toArray w R:=by
 unfold oneKeyEff at h
 cases he:oneKeyOf g1 args st with
 | none=>rw [he] at h; cases h
 | some e =>
  rw [he] at h
  cases hs:st.scp with
  | false=>rw [hs] at h; cases h
  | true =>
   rw [hs] at h
   obtain ⟨g1',g2',rfl⟩:=oneKeyGo_ok h
   have h1:=knownE_ok hfs hr.pc (isT_ok g1')
   have h2:=knownE_ok hfs hr.pc (isT_ok g2')
   have h1':-9223372036854775808≤e.I ρ:=by
    simp only [keyLo,sm_B_not,sm_B_lss,sm_I_int] at h1
    omega
   have h2':e.I ρ≤9223372036854775807:=by
    simp only [keyHi,sm_B_not,sm_B_lss,sm_I_int] at h2
    omega
   obtain ⟨b,o,own,cs,tot,el',m,own2,v,born,clk,rfl,ho,hb,hm⟩:=oneKeyOf_ok he
   refine sortedKeys_core hS hr ho hb hm [e.I ρ] (by simp [SV.den,encZ]) (by simp) ?_ (by simp) ?_
   ·intro k hk
    simp only [List.mem_singleton] at hk; subst hk
    simp [Lit.wf,IntKind.min,IntKind.max,IntKind.signed,IntKind.bits]
    omega
   ·intro v w' hrow hnil hbe
    have hrow':w'.ownsRow w.heap.size el 1 v 1 [Value.int .i64 (e.I ρ)]:=by simpa [encZ] using hrow
    have hesc:e.scp st.nv=true:=by
     have hb':=hr.blk_scp hs hm
     rw [hr.nv,hr.nb] at hb'
     simp only [SObj.scp,pairsScp,Bool.and_eq_true] at hb'
     exact hb'.1.1
    obtain ⟨ρ',k1,k2,k3,k4⟩:=hr.newCells (cs:=[.int .i64 e]) hs hbe hrow' (fun e'=>by simpa using hnil.1 e')
     (by rw [SV.scopeds_cons]; simp only [Bool.and_eq_true]; exact ⟨hesc,rfl⟩) (by simp [SV.oks,SV.ok]) (by simp [SV.dens,SV.den])
    rw [← k3]
    exact hK _ (by simp) ρ' w' k1 k2 k4
theorem sortedKeysNat_ok {P:Program} {fS g1:FuncId} {el:TypeId} (hS:SortedKeysAt P fS g1 el) (hN:SortedNilAt P fS g1):NatOk P (sortedKeysNat fS g1 el):=by
 intro fs hfs args st l h0 B ρ w R hr hao hK
 unfold sortedKeysNat at h0
 simp only at h0
 split at h0
 case h_2=>exact oneKeyEff_ok hS hfs h0 hr hK
 rename_i l' h
 simp only [NatR.outs.injEq] at h0; subst h0
 simp only [sortedKeysEff] at h
 split at h
 ·rename_i g b o
  split at h
  ·rename_i hg ho
   have:=Nat.eq_of_beq_eq_true hg; subst this
   split at h
   ·rename_i own v cs tot el' hb
    obtain ⟨hlt,⟨z1,z2,_,arr,harr,hsz,hcs⟩,_⟩:=hr.blk _ _ hb
    have hden:SV.dens ρ [SV.func (.func g) [] [.ptr b o]]=[.func (.func g) #[] #[.pointer (some ⟨ρ.blk b,0,none⟩)]]:=by
     simp [SV.dens,SV.den,z2,litOff_ok ho]
    have hBm:ρ.blk b < w.heap.size:=(Array.getElem?_eq_some_iff.1 harr).1
    have hcell:w.cell? ⟨ρ.blk b,0,none⟩=some (v.den ρ):=by
     simp [World.cell?,harr,hcs 0 v rfl]
    rw [hden]
    split at h
    ·simp only [Option.some.injEq] at h; subst h
     refine (hN w (ρ.blk b) hBm (by rw [hcell]; rfl)).mono ?_
     rintro e w' ⟨rfl,hbe⟩
     exact hK (.nils,st) (by simp) ρ w' (Env.Ext.refl ρ) (hr.kept hbe) (by simp [SV.ok])
    ·split at h
     ·rename_i own2 es clk hm
      split at h
      ·rename_i ks hks
       split at h
       ·rename_i hchk
        simp only [Bool.and_eq_true] at hchk
        obtain ⟨hnd,hwf,hlen⟩:=hchk
        obtain ⟨_,⟨entries,clock,he,hck,hent,hb1,hb2⟩,_⟩:=hr.blk _ _ hm
        have hkeys:entries.toList.map (·.key)=ks.map encZ:=by
         rw [← keyInts_ok (ρ:=ρ) es ks hks]
         refine List.ext_getElem? fun i=>?_
         simp only [List.getElem?_map,Array.getElem?_toList]
         cases h1:entries[i]? with
         | none =>
          have:es[i]?=none:=by
           have:=hent.1
           simp at h1 ⊢; omega
          simp [this]
         | some e =>
          have hi:i < es.length:=by
           have:=(Array.getElem?_eq_some_iff.1 h1).1
           have:=hent.1
           omega
          have h2:es[i]?=some es[i]:=List.getElem?_eq_getElem hi
          have:=(hent.2 i e _ h1 h2).1
          simp [h2,this]
        have hst:MapKept.Stamped entries clock:=by
         refine ⟨fun x hx=>?_,?_,?_⟩
         ·obtain ⟨i,hi,rfl⟩:=List.getElem_of_mem hx
          exact hb1 i _ (by simp at hi; simp [hi])
         ·rw [List.nodup_iff_pairwise_ne,List.pairwise_map]
          refine List.pairwise_iff_getElem.2 fun i j hi hj hij e=>?_
          have:=hb2 i j _ _ (by simp at hi; simp [hi]; rfl) (by simp at hj; simp [hj]; rfl) (by simpa using e)
          omega
         ·rw [hkeys]
          refine List.Pairwise.map _ (fun a b hab e=>hab (encZ_inj e)) (nodupI_ok ks hnd)
        refine (hS w (ρ.blk b) _ clock entries ks hBm hcell he hst hkeys (wfIs_ok ks hwf) (by rw [← lenI_eq]; simpa using hlen)).mono ?_
        rintro e w' ⟨v,rfl,hrow,hnil,hbe⟩
        have hp:=(sortI_perm ks)
        rw [← sortI_eq] at hrow
        rw [← hp.length_eq] at hrow
        have hnil':v=.slice none 0 0↔sortI ks=[]:=by
         rw [hnil]
         constructor
         ·rintro rfl; rfl
         ·intro e; rw [e] at hp; exact List.Perm.nil_eq hp |>.symm
        obtain ⟨y,hy,ρ',k1,k2,k3,k4⟩:=rowRes_ok hr h hbe hrow hnil'
        rw [← k3]
        exact hK y hy ρ' w' k1 k2 k4
       ·cases h
      ·cases h
     ·cases h
    ·cases h
   ·cases h
  ·cases h
 ·cases h
end Go.SX

namespace Go.SX
open Go.RowKit
theorem insU_eq (x:Int):∀ l,insU x l=insI x l
 | []=>rfl
 | y::l=>by
  simp only [insU,insI,leI,cmpI]
  by_cases h:x≤y <;> simp [h,insU_eq x l]
theorem sortU_eq:∀ l,sortU l=sortI l
 | []=>rfl
 | x::l=>by simp only [sortU,sortI,sortU_eq l,insU_eq]
theorem RepW.newFlat {B:Base} {ρ:Env} {st:St} {w w':World} (hr:RepW B ρ st w) (hs:st.scp=true) (hb:Below w.heap.size w w') {el:TypeId} {e:E} {ks:List Int} {v:Value}
  (he:e.scp st.nv=true) (hL:e.L ρ=ks.map U.int) (hrow:w'.ownsRow w.heap.size el 1 v ks.length (ks.map encZ)) (hnil:v=.slice none 0 0↔ks=[]) :
  ∃ ρ',ρ.Ext ρ'∧RepW B ρ' (flatRow st e el).2 w'∧(flatRow st e el).1.den ρ'=v∧(flatRow st e el).1.ok ρ':=by
 have key:∀ (k:Bk) (cap:Nat) (arr:Array Value),ks.length≤cap→v=.slice (if k.nil then none else some ⟨k.blk,k.off,none⟩) ks.length cap →
   (0 < cap→k.nil=false∧k.off=0∧w'.heap[k.blk]?=some (.cells arr el (0,0))∧arr.size=cap∧arr.toList.take ks.length=ks.map encZ∧w.heap.size≤k.blk) →
   ∃ ρ',ρ.Ext ρ'∧RepW B ρ' (flatRow st e el).2 w'∧(flatRow st e el).1.den ρ'=v∧(flatRow st e el).1.ok ρ':=by
  intro k cap arr hle hv hreal
  have hext:=ρ.grow_ext [.int cap] k
  obtain ⟨e1,e2,e3⟩:=Env.grow_blk (ρ:=ρ) (us:=[.int cap]) (k:=k) hr.nb
  have hvar:=Env.grow_var (ρ:=ρ) (u:=.int cap) (k:=k) hr.nv
  have hcI:(E.var st.nv).I (ρ.grow [.int cap] k)=cap:=by unfold E.I; rw [hvar]; rfl
  have heL:e.L (ρ.grow [.int cap] k)=ks.map U.int:=by rw [E.scoped_L hext (by rw [hr.nv]; exact he),hL]
  have hnI:(E.fn 0 e).I (ρ.grow [.int cap] k)=ks.length:=by
   show ((e.L (ρ.grow [.int cap] k)).length:Int)=_
   rw [heL]; simp
  refine ⟨ρ.grow [.int cap] k,hext,?_,?_,by simp [flatRow,SV.ok]⟩
  ·refine hr.grow hs [.int cap] [mkNot (mkCmp .lss (.var st.nv) (.fn 0 e))] k _ ?_ (fun r h _=>hb.block r h) hb.os hb.tape hb.output (.inl hb.block) ?_ ?_
   ·intro q hq
    simp only [List.mem_cons,List.not_mem_nil,or_false] at hq
    subst hq
    rw [mkNot_B,mkCmp_B,hcI,hnI]
    simp [cmpI]; omega
   ·refine ⟨by simp,?_,?_,?_,fun hp=>?_⟩
    ·rw [heL,hnI]; simp
    ·rw [hnI,hcI]; omega
    ·rw [hnI]; omega
    ·rw [hcI] at hp
     obtain ⟨q1,q2,q3,q4,q5,q6⟩:=hreal (by omega)
     refine ⟨q1,q2,arr,q3,fun i u hu=>?_,by rw [hcI,q4]; simp⟩
     rw [heL,List.getElem?_map] at hu
     cases hk:ks[i]? with
     | none=>rw [hk] at hu; cases hu
     | some n =>
      rw [hk] at hu
      simp only [Option.map_some,Option.some.injEq] at hu; subst hu
      have h1:(ks.map encZ)[i]?=some (encZ n):=by simp [hk]
      rw [← q5,List.getElem?_take] at h1
      split at h1
      ·exact ⟨.int .i64,by simp [Nat.mod_one],by rw [← Array.getElem?_toList,h1]; rfl,trivial⟩
      ·cases h1
   ·intro hp
    have hp':(0:Int) < (E.var st.nv).I (ρ.grow [.int cap] k):=hp
    rw [hcI] at hp'
    obtain ⟨q1,q2,q3,q4,q5,q6⟩:=hreal (by omega)
    refine ⟨hr.free_ge q6,fun i b hb' hl _ e'=>?_,fun r hr' e'=>by have:=hr.held_lt hr'; have e2:r=k.blk:=e'; omega⟩
    have:=(hr.blk i b hb').2.1.lt hl
    have e'':ρ.blk i=k.blk:=e'
    omega
  ·simp only [flatRow,SV.den,hnI,hcI,Env.base,e1,e2,e3,Int.toNat_natCast]
   rw [hv]
   cases k.nil <;> rfl
 rcases hrow.2 with ⟨h,_⟩ | ⟨g,cap,cur,rfl,hbase,hg,hle,_,hsz,htake⟩
 ·have hk:=hnil.1 h
  refine key ⟨0,0,true⟩ 0 #[] (by rw [hk]; simp) (by rw [h,hk]; rfl) (fun h=>by omega)
 ·refine key ⟨g,0,false⟩ cap cur hle rfl (fun _=>⟨rfl,rfl,hg,by simpa using hsz,?_,hbase⟩)
  have hlen:=hrow.1
  simpa using htake
theorem mapLOf_ok {g1:FuncId} {args:List SV} {st:St} {e:E} (h:mapLOf g1 args st=some e):∃ b o own cs tot el' m own2 c,
  args=[.func (.func g1) [] [.ptr b o]]∧litOff o=some 0∧st.heap.get b=some ⟨own,.cells (.map m::cs) tot el'⟩∧st.heap.get m=some ⟨own2,.mapl .i64 c e⟩:=by
 unfold mapLOf at h
 split at h
 ·rename_i g b o
  split at h
  ·rename_i hg ho
   have:=Nat.eq_of_beq_eq_true hg; subst this
   split at h
   ·rename_i own v cs tot el' hb
    split at h
    ·rename_i m
     split at h
     ·rename_i own2 k c e' hm
      split at h
      ·rename_i hk
       have:=ikB_eq hk; subst this
       simp only [Option.some.injEq] at h; subst h
       exact ⟨b,o,own,cs,tot,el',m,own2,c,rfl,ho,hb,hm⟩
      ·cases h
     ·cases h
    ·cases h
   ·cases h
  ·cases h
 ·cases h
theorem sortedLGo_ok {el:TypeId} {st:St} {e:E} {b:Bool} {l:List (SV × St)} (h:sortedLGo el st e b=.outs l):b=true∧[flatRow st (.fn 36 e) el]=l:=by
 unfold sortedLGo at h
 cases b with
 | false=>cases h
 | true=>simp only [NatR.outs.injEq] at h; exact ⟨rfl,h⟩
theorem sortedLNat_ok {P:Program} {fS g1:FuncId} {el:TypeId} (hS:SortedKeysAt P fS g1 el):NatOk P (sortedLNat fS g1 el):=by
 intro fs hfs args st l h B ρ w R hr hao hK
 unfold sortedLNat at h
 simp only [sortedLEff] at h
 cases he:mapLOf g1 args st with
 | none=>rw [he] at h; cases h
 | some e =>
  rw [he] at h
  cases hs:st.scp with
  | false=>rw [hs] at h; cases h
  | true =>
   rw [hs] at h
   obtain ⟨g1',rfl⟩:=sortedLGo_ok h
   have h1:=knownE_ok hfs hr.pc (isT_ok g1')
   obtain ⟨b,o,own,cs,tot,el',m,own2,c,rfl,ho,hb,hm⟩:=mapLOf_ok he
   obtain ⟨ks,hks⟩:∃ ks:List Int,ks=(e.L ρ).map fun u=>u.fst.toI:=⟨_,rfl⟩
   have h1':keysOkU (e.L ρ)=true:=h1
   unfold keysOkU at h1'
   simp only [Bool.and_eq_true,decide_eq_true_eq,List.all_eq_true] at h1'
   obtain ⟨⟨hnd,hrg⟩,hlen⟩:=h1'
   rw [← hks] at hnd
   have hlen':ks.length≤1000000:=by rw [hks]; simpa using hlen
   obtain ⟨hlt,⟨z1,z2,_,arr,harr,hsz,hcs⟩,_⟩:=hr.blk _ _ hb
   have hden:SV.dens ρ [SV.func (.func g1) [] [.ptr b o]]=[.func (.func g1) #[] #[.pointer (some ⟨ρ.blk b,0,none⟩)]]:=by
    simp [SV.dens,SV.den,z2,litOff_ok ho]
   have hBm:ρ.blk b < w.heap.size:=(Array.getElem?_eq_some_iff.1 harr).1
   have hcell:w.cell? ⟨ρ.blk b,0,none⟩=some (.map (some (ρ.blk m))):=by
    simp [World.cell?,harr,hcs 0 (.map m) rfl,SV.den]
   rw [hden]
   obtain ⟨_,⟨entries,clock,he',hent,hb1,hb2⟩,_⟩:=hr.blk _ _ hm
   have hkeys:entries.toList.map (·.key)=ks.map encZ:=by
    rw [hks]
    refine List.ext_getElem? fun i=>?_
    simp only [List.getElem?_map,Array.getElem?_toList]
    cases h1:entries[i]? with
    | none =>
     have:(e.L ρ)[i]?=none:=by
      have:=hent.1
      simp at h1 ⊢; omega
     simp [this]
    | some e1 =>
     have hi:i < (e.L ρ).length:=by
      have:=(Array.getElem?_eq_some_iff.1 h1).1
      have:=hent.1
      omega
     have h2:(e.L ρ)[i]?=some (e.L ρ)[i]:=List.getElem?_eq_getElem hi
     have:=(hent.2 i e1 _ h1 h2).1
     simp [h2,this,encZ]
   have hst:MapKept.Stamped entries clock:=by
    refine ⟨fun x hx=>?_,?_,?_⟩
    ·obtain ⟨i,hi,rfl⟩:=List.getElem_of_mem hx
     exact hb1 i _ (by simp at hi; simp [hi])
    ·rw [List.nodup_iff_pairwise_ne,List.pairwise_map]
     refine List.pairwise_iff_getElem.2 fun i j hi hj hij e=>?_
     have:=hb2 i j _ _ (by simp at hi; simp [hi]; rfl) (by simp at hj; simp [hj]; rfl) (by simpa using e)
     omega
    ·rw [hkeys]
     refine List.Pairwise.map _ (fun a b hab e=>hab (encZ_inj e)) hnd
   have hwf:∀ k∈ks,(Lit.int .i64 k).wf=true:=by
    intro k hk
    rw [hks] at hk
    obtain ⟨u,hu,rfl⟩:=List.mem_map.1 hk
    have:=hrg u hu
    simp [Lit.wf,IntKind.min,IntKind.max,IntKind.signed,IntKind.bits]
    omega
   refine (hS w (ρ.blk b) _ clock entries ks hBm hcell he' hst hkeys hwf hlen').mono ?_
   rintro e0 w' ⟨v,rfl,hrow,hnil,hbe⟩
   have hp:(ks.mergeSort Go.leI).length=ks.length:=(List.mergeSort_perm ks Go.leI).length_eq
   have hesc:e.scp st.nv=true:=by
    have hb':=hr.blk_scp hs hm
    rw [hr.nv,hr.nb] at hb'
    exact hb'
   obtain ⟨ρ',k1,k2,k3,k4⟩:=hr.newFlat (el:=el) (e:=.fn 36 e) (ks:=ks.mergeSort Go.leI) (v:=v) hs hbe hesc (by
     show ((sortU ((e.L ρ).map fun u=>u.fst.toI)).map U.int)=_
     rw [← hks,sortU_eq,sortI_eq]) (by rw [hp]; exact hrow) (by
     rw [hnil]
     constructor
     ·intro e1
      rw [e1] at hp ⊢
      exact List.length_eq_zero_iff.1 hp
     ·intro e1
      rw [e1] at hp
      exact List.length_eq_zero_iff.1 hp.symm)
   rw [← k3]
   exact hK _ (by simp) ρ' w' k1 k2 k4
def CloneAt (P:Program) (fC:FuncId):Prop :=
 (∀ (w:World) (b:Nat) (es:Array MapEntry) (clock:Nat),w.heap[b]?=some (.map es clock)→Calls P fC #[.map (some b)] w fun e w'=>e=.returned (.map (some w.heap.size))∧w'=w.alloc (.map es clock)) ∧
 (∀ w:World,Calls P fC #[.map none] w fun e w'=>e=.returned (.map none)∧w'=w)
theorem RepW.newMap {B:Base} {ρ:Env} {st:St} {w:World} (hr:RepW B ρ st w) (hs:st.scp=true) {es:Array MapEntry} {clock:Nat} {o:SObj}
  (ho:∀ k:Bk,k.blk=w.heap.size→blkRep (ρ.grow [] k) (w.alloc (.map es clock)) k.blk k.off k.nil o) (hin:∀ (ρ:Env) (r:Nat),¬ o.inner ρ r:=by intro ρ r h; exact False.elim h) :
  ∃ ρ',ρ.Ext ρ'∧RepW B ρ' ⟨st.nv,Nat.succ st.nb,st.heap.ins st.nb ⟨true,o⟩,st.pc⟩ (w.alloc (.map es clock))∧(SV.map st.nb).den ρ'=.map (some w.heap.size):=by
 have hext:=ρ.grow_ext [] ⟨w.heap.size,0,false⟩
 obtain ⟨e1,e2,e3⟩:=Env.grow_blk (ρ:=ρ) (us:=[]) (k:=⟨w.heap.size,0,false⟩) hr.nb
 have hB:Below w.heap.size w (w.alloc (.map es clock)):=(Below.refl _ w).alloc (Nat.le_refl _) _
 refine ⟨_,hext,?_,by simp only [SV.den,e1]⟩
 exact hr.grow (w':=w.alloc (.map es clock)) hs [] [] ⟨w.heap.size,0,false⟩ o (fun e he=>by cases he) (fun r h1 _=>hB.block r h1) hB.os hB.tape hB.output (.inl hB.block)
  (ho _ rfl) (fun _=>⟨hr.free_ge (Nat.le_refl _),fun i b hb hl ho=>by
   have:=(hr.blk i b hb).2.1.lt hl
   show ρ.blk i≠w.heap.size
   omega,fun r h=>Nat.ne_of_lt (hr.held_lt h)⟩) (hin _)
theorem cloneNat_ok {P:Program} {fC:FuncId} (hC:CloneAt P fC):NatOk P (cloneNat fC):=by
 intro fs hfs args st l h B ρ w R hr hao hK
 unfold cloneNat at h
 simp only [cloneEff] at h
 split at h
 ·simp only [NatR.outs.injEq] at h; subst h
  refine (hC.2 w).mono ?_
  rintro e w' ⟨rfl,rfl⟩
  exact hK (.nilm,st) (by simp) ρ _ (Env.Ext.refl ρ) hr (by simp [SV.ok])
 ·rename_i m
  split at h
  ·rename_i own o hm
   split at h
   ·rename_i es clk
    split at h
    ·rename_i hs
     simp only [NatR.outs.injEq] at h; subst h
     obtain ⟨_,⟨entries,clock,h1,h2,h3,h4,h5⟩,_⟩:=hr.blk _ _ hm
     refine (hC.1 w (ρ.blk m) entries clock h1).mono ?_
     rintro e w' ⟨rfl,rfl⟩
     obtain ⟨ρ',k1,k2,k3⟩:=hr.newMap hs (o:=.map es clk) (es:=entries) (clock:=clock) (fun k hk=>by
      have:=(blkRep.ext (ρ':=ρ.grow [] k) (o:=.map es clk) (off:=k.off) (nil:=k.nil) ⟨entries,clock,h1,h2,h3,h4,h5⟩ (ρ.grow_ext [] k) (hr.blk_scp hs hm))
      obtain ⟨en,cl,g1,g2⟩:=this
      rw [h1] at g1
      simp only [Option.some.injEq,Obj.map.injEq] at g1
      obtain ⟨rfl,rfl⟩:=g1
      exact ⟨entries,clock,by rw [hk]; exact (MapKept.heap_alloc w _).1,g2⟩)
     rw [← k3]
     exact hK _ (List.mem_singleton.2 rfl) ρ' _ k1 k2 (by simp [SV.ok])
    ·cases h
   ·rename_i k c e
    split at h
    ·rename_i hs
     simp only [NatR.outs.injEq] at h; subst h
     obtain ⟨_,⟨entries,clock,h1,h2,h3⟩,_⟩:=hr.blk _ _ hm
     refine (hC.1 w (ρ.blk m) entries clock h1).mono ?_
     rintro e w' ⟨rfl,rfl⟩
     obtain ⟨ρ',k1,k2,k3⟩:=hr.newMap hs (o:=.mapl k c _) (es:=entries) (clock:=clock) (fun k' hk=>by
      have:=(blkRep.ext (ρ':=ρ.grow [] k') (o:=.mapl k c _) (off:=k'.off) (nil:=k'.nil) ⟨entries,clock,h1,h2,h3⟩ (ρ.grow_ext [] k') (hr.blk_scp hs hm))
      obtain ⟨en,cl,g1,g2⟩:=this
      rw [h1] at g1
      simp only [Option.some.injEq,Obj.map.injEq] at g1
      obtain ⟨rfl,rfl⟩:=g1
      exact ⟨entries,clock,by rw [hk]; exact (MapKept.heap_alloc w _).1,g2⟩)
     rw [← k3]
     exact hK _ (List.mem_singleton.2 rfl) ρ' _ k1 k2 (by simp [SV.ok])
    ·cases h
   ·cases h
  ·cases h
 ·cases h
end Go.SX

namespace Go.SX
open Go.RowKit Go.Sort
def SortAt (P:Program) (f:FuncId):Prop :=
 (∀ (blk off cap:Nat) (zs:List Int) (w:World),Sort.Holds (Value.int .i64) w blk off zs.toArray→blk < w.heap.size→zs.length < 4611686018427387904 →
  Calls P f #[.slice (some ⟨blk,off,none⟩) zs.length cap] w fun e w' =>
   e=.returned (.tuple #[])∧∃ n os,w'=Sort.grow (putRow (Value.int .i64) (Sort.ahead w n) blk off (zs.mergeSort fun x y=>decide (x≤y)).toArray) os) ∧
 (∀ (p:Option Addr) (cap:Nat) (w:World),Calls P f #[.slice p 0 cap] w fun e w'=>e=.returned (.tuple #[])∧w'=w)
theorem valInts_ok {ρ:Env}:∀ (l:List SV) (r:List Int),valInts l=some r→SV.dens ρ l=r.map encZ
 | [],r,h=>by simp only [valInts,Option.some.injEq] at h; subst h; rfl
 | v::l,r,h=>by
  simp only [valInts] at h
  split at h
  ·rename_i n
   split at h
   ·rename_i r' hr
    simp only [Option.some.injEq] at h; subst h
    simp [SV.dens,SV.den,valInts_ok l r' hr]
   ·cases h
  ·cases h
theorem below_grow (w:World) (os:Array Obj):Below w.heap.size w (Sort.grow w os) :=
 ⟨rfl,rfl,rfl,by simp,fun k hk=>by simp only [Sort.grow]; rw [Array.getElem?_append_left hk]⟩
theorem putCells_get {α:Type} [Inhabited α] (enc:α→Value) (d:Array α) (c:Array Value) (j:Nat) (hd:d.size≤c.size) :
  (Sort.putCells enc 0 d c)[j]?=if j < d.size then some (enc d[j]!) else c[j]?:=by
 unfold Sort.putCells
 rw [Array.getElem?_mapIdx]
 by_cases h:j < d.size
 ·rw [if_pos h]
  have:j < c.size:=by omega
  simp [this,h]
 ·rw [if_neg h]
  cases hc:c[j]? with
  | none=>rfl
  | some x=>simp [h]
theorem RepW.sorted {B:Base} {ρ:Env} {st:St} {w:World} (hr:RepW B ρ st w) {b:Nat} {obj obj':SObj} (hb:st.heap.get b=some ⟨true,obj⟩) (hl:obj.real ρ)
  {arr:Array Value} {elem:TypeId} (h1:w.heap[ρ.blk b]?=some (.cells arr elem (0,0))) (d:Array Int) (hd:d.size≤arr.size)
  (hc:∀ (w':World) (arr':Array Value),w'.heap[ρ.blk b]?=some (.cells arr' elem (0,0))→arr'.size=arr.size→(∀ j,arr'[j]?=if j < d.size then some (encZ d[j]!) else arr[j]?)→blkRep ρ w' (ρ.blk b) (ρ.off b) (ρ.nil b) obj') (n:Nat) (os:Array Obj) (hin:∀ r,obj'.inner ρ r→obj.inner ρ r:=by intro r h; exact False.elim h) :
  RepW B ρ { st with heap:=st.heap.set b ⟨true,obj'⟩ } (Sort.grow (putRow (Value.int .i64) (Sort.ahead w n) (ρ.blk b) 0 d) os):=by
 have hheap:∀ r,(putRow (Value.int .i64) (Sort.ahead w n) (ρ.blk b) 0 d).heap[r]?=if r=ρ.blk b then some (.cells (Sort.putCells (Value.int .i64) 0 d arr) elem (0,0)) else w.heap[r]?:=by
  intro r
  simp only [putRow,mapBlock,Sort.ahead,Array.getElem?_modify]
  by_cases e:r=ρ.blk b
  ·subst e; simp [h1,onCells]
  ·rw [if_neg (fun e'=>e e'.symm),if_neg e]
 have hsz:(Sort.putCells (Value.int .i64) 0 d arr).size=arr.size:=by simp [Sort.putCells]
 have h2:=hr.putObj (w':=putRow (Value.int .i64) (Sort.ahead w n) (ρ.blk b) 0 d) hb hl (fun r hr=>by rw [hheap,if_neg hr]) rfl rfl rfl
  (hc _ _ (by rw [hheap,if_pos rfl]) hsz (fun j=>putCells_get _ d arr j hd)) hin
 exact h2.kept (below_grow _ _)
theorem holds_of_arr {w:World} {blk:Nat} {arr:Array Value} {elem:TypeId} (h1:w.heap[blk]?=some (.cells arr elem (0,0))) {zs:List Int} (h:∀ (j:Nat) (z:Int),zs[j]?=some z→arr[j]?=some (encZ z)) :
  Sort.Holds (Value.int .i64) w blk 0 zs.toArray:=by
 intro j hj
 have hj':j < zs.length:=by simpa using hj
 refine ⟨?_,by simp [World.frozen?,h1]⟩
 have:=h j zs[j] (List.getElem?_eq_getElem hj')
 rw [Nat.zero_add]
 simp only [World.cell?,h1,this]
 simp [hj',encZ]
theorem mergeSort_dec (l:List Int):(l.mergeSort fun x y=>decide (x≤y))=l.mergeSort Go.leI:=rfl
theorem sortCells_ok {P:Program} {f:FuncId} (hS:SortAt P f) {st:St} {b:Nat} {cs:List SV} {tot:E} {el:TypeId} {n:Nat} {l:List (SV × St)} (h:sortCells st b cs tot el n=.outs l)
  (hb:st.heap.get b=some ⟨true,.cells cs tot el⟩) {B:Base} {ρ:Env} {w:World} {R:Ending→World→Prop} (hr:RepW B ρ st w) (cap:Nat)
  (hK:∀ y∈l,∀ (ρ':Env) (w':World),ρ.Ext ρ'→RepW B ρ' y.2 w'→y.1.ok ρ'→R (.returned (y.1.den ρ')) w') :
  Calls P f #[.slice (some ⟨ρ.blk b,0,none⟩) n cap] w R:=by
 unfold sortCells at h
 split at h
 case h_2=>cases h
 rename_i hd hhd
 split at h
 case h_2=>cases h
 rename_i zs hzs
 split at h
 case h_2=>cases h
 rename_i hn
 split at h
 case h_2=>cases h
 rename_i cs' hcs'
 simp only [NatR.outs.injEq] at h; subst h
 have hn':=Nat.le_of_ble_eq_true hn
 obtain ⟨e1,e2⟩:=takeI_eq _ _ _ hhd
 have hden:=valInts_ok (ρ:=ρ) hd zs hzs
 have hlen:zs.length=n:=by
  have:=congrArg List.length hden
  rw [SV.dens_eq] at this
  simp only [List.length_map] at this
  rw [← this,e1,List.length_take]; exact Nat.min_eq_left e2
 obtain ⟨e3,e4⟩:=overAt_eq _ _ _ _ hcs'
 obtain ⟨_,⟨z1,z2,hok,arr,harr,hsz,hcells⟩,_⟩:=hr.blk _ _ hb
 have hget:∀ (j:Nat) (z:Int),zs[j]?=some z→arr[j]?=some (encZ z):=by
  intro j z hj
  have h1:(SV.dens ρ hd)[j]?=some (encZ z):=by rw [hden,List.getElem?_map,hj]; rfl
  rw [SV.dens_eq,List.getElem?_map] at h1
  cases hv:hd[j]? with
  | none=>rw [hv] at h1; cases h1
  | some v =>
   rw [hv] at h1
   simp only [Option.map_some,Option.some.injEq] at h1
   rw [← h1]
   refine hcells j v ?_
   rw [e1,List.getElem?_take] at hv
   split at hv
   ·exact hv
   ·cases hv
 have hp:(sortI zs).length=zs.length:=(sortI_perm zs).length_eq
 have hsize:arr.size ≥ n:=by
  by_cases h0:n=0
  ·omega
  ·have h1:n - 1 < zs.length:=by omega
   have:=hget (n - 1) zs[n - 1] (List.getElem?_eq_getElem h1)
   have:=(Array.getElem?_eq_some_iff.1 this).1
   omega
 have hlt:ρ.blk b < w.heap.size:=(Array.getElem?_eq_some_iff.1 harr).1
 rw [← hlen]
 refine (hS.1 (ρ.blk b) 0 cap zs w (holds_of_arr harr hget) hlt (by omega)).mono ?_
 rintro e w' ⟨rfl,k,os,rfl⟩
 refine hK _ (List.mem_singleton.2 rfl) ρ _ (Env.Ext.refl ρ) ?_ (by simp [SV.ok,SV.oks])
 rw [mergeSort_dec,← sortI_eq]
 refine hr.sorted hb trivial harr (sortI zs).toArray (by simp; omega) ?_ k os
 intro w' arr' g1 g2 g3
 refine ⟨z1,z2,?_,arr',g1,by rw [g2,hsz],?_⟩
 ·exact overAt_wf hok (intCells_ok ρ _) hcs'
 ·intro j v hj
  rw [g3]
  rw [e3] at hj
  simp only [List.take_zero,List.nil_append,Nat.zero_add] at hj
  have hic:(intCells (sortI zs)).length=(sortI zs).length:=by
   have:=congrArg List.length (intCells_den ρ (sortI zs))
   rw [SV.dens_eq] at this
   simpa using this
  by_cases hlt2:j < (sortI zs).length
  ·rw [if_pos (by simpa using hlt2)]
   rw [List.getElem?_append_left (by omega)] at hj
   have h1:(SV.dens ρ (intCells (sortI zs)))[j]?=some (v.den ρ):=by rw [SV.dens_eq,List.getElem?_map,hj]; rfl
   rw [intCells_den,List.getElem?_map,List.getElem?_eq_getElem hlt2] at h1
   simp only [Option.map_some,Option.some.injEq] at h1
   rw [← h1]
   simp [hlt2]
  ·rw [if_neg (by simpa using hlt2)]
   rw [List.getElem?_append_right (by omega),hic,List.getElem?_drop] at hj
   refine hcells j v ?_
   rw [← hj]; congr 1; omega
theorem isI64s_ok {ks:List CK} (h:isI64s ks=true):ks=[.int .i64]:=by
 unfold isI64s at h
 split at h
 ·split at h
  ·rfl
  ·cases h
 ·cases h
theorem fn40_L (ρ:Env) (l:E):(E.fn 40 l).L ρ=(sortI ((l.L ρ).map U.toI)).map U.int:=by
 show ((sortU ((l.L ρ).map U.toI)).map U.int)=_
 rw [sortU_eq]
theorem sortFlat_ok {P:Program} {f:FuncId} (hS:SortAt P f) {fs:List E} (hfs:∀ e∈fs,∀ ρ,e.B ρ=true) {st:St} {b:Nat} {le n tot c:E} {el:TypeId} {l:List (SV × St)} (h:sortFlat st b le n tot el (leB fs st.pc n appLim)=.outs l)
  (hb:st.heap.get b=some ⟨true,.flat [.int .i64] le n tot el⟩) {B:Base} {ρ:Env} {w:World} {R:Ending→World→Prop} (hr:RepW B ρ st w)
  (hK:∀ y∈l,∀ (ρ':Env) (w':World),ρ.Ext ρ'→RepW B ρ' y.2 w'→y.1.ok ρ'→R (.returned (y.1.den ρ')) w') :
  Calls P f (SV.dens ρ [.nslice b n c]).toArray w R:=by
 have key:leB fs st.pc n appLim=true∧l=[(.tup [],{ st with heap:=st.heap.set b ⟨true,.flat [.int .i64] (.fn 40 le) n tot el⟩ })]:=by
  unfold sortFlat at h
  cases hx:leB fs st.pc n appLim with
  | false=>rw [hx] at h; cases h
  | true=>rw [hx] at h; simp only [NatR.outs.injEq] at h; exact ⟨rfl,h.symm⟩
 obtain ⟨hle,rfl⟩:=key
 have hle':n.I ρ≤2147483648:=by
  have:=leB_ok hfs hr.pc hle
  simpa [appLim] using this
 obtain ⟨_,⟨_,g1,g2,g3,g4⟩,_⟩:=hr.blk _ _ hb
 simp only [List.length_singleton] at g1 g4
 have hlen40:((E.fn 40 le).L ρ).length=(le.L ρ).length:=by
  rw [fn40_L]; simp [(sortI_perm _).length_eq]
 have ret:=hK _ (List.mem_singleton.2 rfl) ρ
 have fin:∀ w',RepW B ρ { st with heap:=st.heap.set b ⟨true,.flat [.int .i64] (.fn 40 le) n tot el⟩ } w'→R (.returned (.tuple #[])) w':=fun w' h=>ret w' (Env.Ext.refl ρ) h (by simp [SV.ok,SV.oks])
 by_cases hn0:n.I ρ=0
 ·-- nothing to sort
  have hnil:le.L ρ=[]:=List.length_eq_zero_iff.1 (by omega)
  have hnil':(E.fn 40 le).L ρ=[]:=by rw [fn40_L,hnil]; rfl
  have:SV.dens ρ [.nslice b n c]=[.slice (ρ.base b) 0 (c.I ρ).toNat]:=by simp [SV.dens,SV.den,hn0]
  rw [this]
  refine (hS.2 _ _ w).mono ?_
  rintro e w' ⟨rfl,rfl⟩
  refine fin _ ?_
  by_cases ht:0 < tot.I ρ
  ·obtain ⟨q1,q2,arr,q3,q4,q5⟩:=g4 ht
   refine hr.putObj hb ht (fun _ _=>rfl) rfl rfl rfl ?_
   exact ⟨by simp,by rw [hnil',hn0]; simp,g2,g3,fun _=>⟨q1,q2,arr,q3,fun i u hu=>by rw [hnil'] at hu; simp at hu,by simpa using q5⟩⟩
  ·refine RepW.swap hr hb ?_ ht
   exact ⟨by simp,by rw [hnil',hn0]; simp,g2,g3,fun h=>absurd h ht⟩
 ·have ht:0 < tot.I ρ:=by omega
  obtain ⟨q1,q2,arr,q3,q4,q5⟩:=g4 ht
  obtain ⟨zs,hzs⟩:∃ zs:List Int,zs=(le.L ρ).map U.toI:=⟨_,rfl⟩
  have hzl:(zs.length:Int)=n.I ρ:=by rw [hzs]; simpa using g1
  have hget:∀ (j:Nat) (z:Int),zs[j]?=some z→arr[j]?=some (encZ z):=by
   intro j z hj
   rw [hzs,List.getElem?_map] at hj
   cases hu:(le.L ρ)[j]? with
   | none=>rw [hu] at hj; cases hj
   | some u =>
    rw [hu] at hj
    simp only [Option.map_some,Option.some.injEq] at hj
    obtain ⟨c,c1,c2,_⟩:=q4 j u hu
    simp [Nat.mod_one] at c1
    subst c1
    rw [c2,← hj]; rfl
  have hlt:ρ.blk b < w.heap.size:=(Array.getElem?_eq_some_iff.1 q3).1
  have:SV.dens ρ [.nslice b n c]=[.slice (some ⟨ρ.blk b,0,none⟩) zs.length (c.I ρ).toNat]:=by
   simp only [SV.dens,SV.den,Env.base,q1,q2]
   have:(n.I ρ).toNat=zs.length:=by omega
   rw [this]
  rw [this]
  refine (hS.1 (ρ.blk b) 0 _ zs w (holds_of_arr q3 hget) hlt (by omega)).mono ?_
  rintro e w' ⟨rfl,k,os,rfl⟩
  refine fin _ ?_
  rw [mergeSort_dec,← sortI_eq]
  have hp:(sortI zs).length=zs.length:=(sortI_perm zs).length_eq
  have hsz:zs.length≤arr.size:=by
   have:(zs.length:Int)≤arr.size:=by rw [q5]; simp; omega
   omega
  refine hr.sorted hb ht q3 (sortI zs).toArray (by simp; omega) ?_ k os
  intro w' arr' k1 k2 k3
  refine ⟨by simp,by rw [hlen40]; simpa using g1,g2,g3,fun _=>⟨q1,q2,arr',k1,fun i u hu=>?_,by rw [k2]; simpa using q5⟩⟩
  rw [fn40_L,← hzs,List.getElem?_map] at hu
  cases hi:(sortI zs)[i]? with
  | none=>rw [hi] at hu; cases hu
  | some z =>
   rw [hi] at hu
   simp only [Option.map_some,Option.some.injEq] at hu; subst hu
   have hil:=(List.getElem?_eq_some_iff.1 hi).1
   refine ⟨.int .i64,by simp [Nat.mod_one],?_,trivial⟩
   rw [k3,if_pos (by simpa using hil)]
   have:=(List.getElem?_eq_some_iff.1 hi).2
   simp [hil,this,CK.val,U.toI]
theorem sortNat_ok {P:Program} {f:FuncId} (hS:SortAt P f):NatOk P (sortNat f):=by
 intro fs hfs args st l h B ρ w R hr hao hK
 have h:sortEff fs args st=.outs l:=h
 show Calls P f _ w R
 unfold sortEff at h
 split at h
 case h_2=>cases h
 rename_i v
 split at h
 ·simp only [NatR.outs.injEq] at h; subst h
  refine (hS.2 none 0 w).mono ?_
  rintro e w' ⟨rfl,rfl⟩
  exact hK _ (List.mem_singleton.2 rfl) ρ _ (Env.Ext.refl ρ) hr (by simp [SV.ok,SV.oks])
 ·rename_i b len c
  split at h
  case h_2=>cases h
  rename_i own o hb
  split at h
  case h_2=>cases h
  split at h
  ·rename_i cs tot el
   split at h
   case h_2=>cases h
   rename_i n hn
   obtain ⟨_,⟨z1,z2,_⟩,_⟩:=hr.blk _ _ hb
   have:SV.dens ρ [.nslice b len c]=[.slice (some ⟨ρ.blk b,0,none⟩) n (c.I ρ).toNat]:=by
    simp only [SV.dens,SV.den,Env.base,z1,z2]
    rw [litNat_ok hn]; simp
   rw [this]
   exact sortCells_ok hS h hb hr _ hK
  ·rename_i ks le n tot el
   split at h
   case h_2=>cases h
   rename_i hc
   simp only [Bool.and_eq_true] at hc
   have e1:=E.beq_eq hc.1; subst e1
   have e2:=isI64s_ok hc.2; subst e2
   exact sortFlat_ok hS hfs h hb hr hK
  ·cases h
 ·rename_i b off len c
  split at h
  case h_2=>cases h
  rename_i own o hb
  split at h
  case h_2=>cases h
  split at h
  ·rename_i cs tot el
   split at h
   ·rename_i n hn ho
    obtain ⟨_,⟨z1,z2,_⟩,_⟩:=hr.blk _ _ hb
    have:SV.dens ρ [.slice b off len c]=[.slice (some ⟨ρ.blk b,0,none⟩) n (c.I ρ).toNat]:=by
     simp only [SV.dens,SV.den,z2,litOff_ok ho]
     rw [litNat_ok hn]; simp
    rw [this]
    exact sortCells_ok hS h hb hr _ hK
   ·cases h
  ·cases h
 ·cases h
end Go.SX

namespace Go.SX
open Go.RowKit
def IntsIn (n₀:Nat) (W:World) (sv:Value) (zs:List Int):Prop :=
 (∃ p c,sv=.slice p 0 c∧zs=[])∨∃ b off cap,sv=.slice (some ⟨b,off,none⟩) zs.length cap∧b < n₀∧∀ j,j < zs.length→W.cell? ⟨b,off + j,none⟩=some (.int .i64 (zs[j]?.getD 0))
def ValuesAt (P:Program) (f g1:FuncId) (el:TypeId):Prop :=
 ∀ (w:World) (Bs:Nat) (sv:Value) (zs:List Int),zs.length≤2147483648→Bs < w.heap.size→w.cell? ⟨Bs,0,none⟩=some sv→IntsIn w.heap.size w sv zs →
  Calls P f #[.slice none 0 0,.func (.func g1) #[] #[.pointer (some ⟨Bs,0,none⟩)]] w fun e w'=>∃ v,e=.returned v ∧
   w'.ownsRow w.heap.size el 1 v zs.length (zs.map encZ)∧(v=.slice none 0 0↔zs=[])∧Below w.heap.size w w'
theorem RepW.newFlat' {B:Base} {ρ:Env} {st:St} {w w':World} (hr:RepW B ρ st w) (hs:st.scp=true) (hb:Below w.heap.size w w') {el:TypeId} {e:E} {ks:List Int} {v:Value}
  (he:e.scp st.nv=true) (hL:(e.L ρ).map U.toI=ks) (hrow:w'.ownsRow w.heap.size el 1 v ks.length (ks.map encZ)) (hnil:v=.slice none 0 0↔ks=[]) :
  ∃ ρ',ρ.Ext ρ'∧RepW B ρ' (flatRow st e el).2 w'∧(flatRow st e el).1.den ρ'=v∧(flatRow st e el).1.ok ρ':=by
 have hlen:(e.L ρ).length=ks.length:=by rw [← hL]; simp
 have key:∀ (k:Bk) (cap:Nat) (arr:Array Value),ks.length≤cap→v=.slice (if k.nil then none else some ⟨k.blk,k.off,none⟩) ks.length cap →
   (0 < cap→k.nil=false∧k.off=0∧w'.heap[k.blk]?=some (.cells arr el (0,0))∧arr.size=cap∧arr.toList.take ks.length=ks.map encZ∧w.heap.size≤k.blk) →
   ∃ ρ',ρ.Ext ρ'∧RepW B ρ' (flatRow st e el).2 w'∧(flatRow st e el).1.den ρ'=v∧(flatRow st e el).1.ok ρ':=by
  intro k cap arr hle hv hreal
  have hext:=ρ.grow_ext [.int cap] k
  obtain ⟨e1,e2,e3⟩:=Env.grow_blk (ρ:=ρ) (us:=[.int cap]) (k:=k) hr.nb
  have hvar:=Env.grow_var (ρ:=ρ) (u:=.int cap) (k:=k) hr.nv
  have hcI:(E.var st.nv).I (ρ.grow [.int cap] k)=cap:=by unfold E.I; rw [hvar]; rfl
  have heL:e.L (ρ.grow [.int cap] k)=e.L ρ:=E.scoped_L hext (by rw [hr.nv]; exact he)
  have hnI:(E.fn 0 e).I (ρ.grow [.int cap] k)=ks.length:=by
   show ((e.L (ρ.grow [.int cap] k)).length:Int)=_
   rw [heL,hlen]
  refine ⟨ρ.grow [.int cap] k,hext,?_,?_,by simp [flatRow,SV.ok]⟩
  ·refine hr.grow hs [.int cap] [mkNot (mkCmp .lss (.var st.nv) (.fn 0 e))] k _ ?_ (fun r h _=>hb.block r h) hb.os hb.tape hb.output (.inl hb.block) ?_ ?_
   ·intro q hq
    simp only [List.mem_cons,List.not_mem_nil,or_false] at hq
    subst hq
    rw [mkNot_B,mkCmp_B,hcI,hnI]
    simp [cmpI]; omega
   ·refine ⟨by simp,?_,?_,?_,fun hp=>?_⟩
    ·rw [heL,hnI,hlen]; simp
    ·rw [hnI,hcI]; omega
    ·rw [hnI]; omega
    ·rw [hcI] at hp
     obtain ⟨q1,q2,q3,q4,q5,q6⟩:=hreal (by omega)
     refine ⟨q1,q2,arr,q3,fun i u hu=>?_,by rw [hcI,q4]; simp⟩
     rw [heL] at hu
     have hk:ks[i]?=some u.toI:=by rw [← hL,List.getElem?_map,hu]; rfl
     have h1:(ks.map encZ)[i]?=some (encZ u.toI):=by simp [hk]
     rw [← q5,List.getElem?_take] at h1
     split at h1
     ·exact ⟨.int .i64,by simp [Nat.mod_one],by rw [← Array.getElem?_toList,h1]; rfl,trivial⟩
     ·cases h1
   ·intro hp
    have hp':(0:Int) < (E.var st.nv).I (ρ.grow [.int cap] k):=hp
    rw [hcI] at hp'
    obtain ⟨q1,q2,q3,q4,q5,q6⟩:=hreal (by omega)
    refine ⟨hr.free_ge q6,fun i b hb' hl _ e'=>?_,fun r hr' e'=>by have:=hr.held_lt hr'; have e2:r=k.blk:=e'; omega⟩
    have:=(hr.blk i b hb').2.1.lt hl
    have e'':ρ.blk i=k.blk:=e'
    omega
  ·simp only [flatRow,SV.den,hnI,hcI,Env.base,e1,e2,e3,Int.toNat_natCast]
   rw [hv]
   cases k.nil <;> rfl
 rcases hrow.2 with ⟨h,_⟩ | ⟨g,cap,cur,rfl,hbase,hg,hle,_,hsz,htake⟩
 ·have hk:=hnil.1 h
  refine key ⟨0,0,true⟩ 0 #[] (by rw [hk]; simp) (by rw [h,hk]; rfl) (fun h=>by omega)
 ·refine key ⟨g,0,false⟩ cap cur hle rfl (fun _=>⟨rfl,rfl,hg,by simpa using hsz,?_,hbase⟩)
  have hlen:=hrow.1
  simpa using htake
theorem valsOf_ok {g1:FuncId} {args:List SV} {st:St} {v:SV} (h:valsOf g1 args st=some v):∃ b o own cs tot el',args=[.nils,.func (.func g1) [] [.ptr b o]]∧litOff o=some 0∧st.heap.get b=some ⟨own,.cells (v::cs) tot el'⟩:=by
 unfold valsOf at h
 split at h
 ·rename_i g b o
  split at h
  ·rename_i hg ho
   have:=Nat.eq_of_beq_eq_true hg; subst this
   split at h
   ·rename_i own v' cs tot el' hb
    simp only [Option.some.injEq] at h; subst h
    exact ⟨b,o,own,cs,tot,el',rfl,ho,hb⟩
   ·cases h
  ·cases h
 ·cases h
theorem valsGo_ok {el:TypeId} {st:St} {e:E} {b:Bool} {l:List (SV × St)} (h:valsGo el st e b=.outs l):b=true∧[flatRow st e el]=l:=by
 unfold valsGo at h
 cases b with
 | false=>cases h
 | true=>simp only [NatR.outs.injEq] at h; exact ⟨rfl,h⟩
theorem getD_of {zs:List Int} {j:Nat} (h:j < zs.length):zs[j]?=some (zs[j]?.getD 0):=by
 rw [List.getElem?_eq_getElem h]; rfl
theorem appendSeqNat_ok {P:Program} {f g1:FuncId} {el:TypeId} (hV:ValuesAt P f g1 el):NatOk P (appendSeqNat f g1 el):=by
 intro fs hfs args st l h0 B ρ w R hr hao hK
 have h:appendSeqEff g1 el fs args st=.outs l:=h0
 clear h0
 show Calls P f _ w R
 unfold appendSeqEff at h
 cases hs:valsOf g1 args st with
 | none=>rw [hs] at h; cases h
 | some v =>
  rw [hs] at h
  simp only at h
  obtain ⟨b,o,own,cs,tot,el',rfl,ho,hb⟩:=valsOf_ok hs
  obtain ⟨hlt,⟨z1,z2,hok,arr,harr,hsz,hcs⟩,hfr⟩:=hr.blk _ _ hb
  have hden:SV.dens ρ [.nils,SV.func (.func g1) [] [.ptr b o]]=[.slice none 0 0,.func (.func g1) #[] #[.pointer (some ⟨ρ.blk b,0,none⟩)]]:=by
   simp [SV.dens,SV.den,z2,litOff_ok ho]
  have hBm:ρ.blk b < w.heap.size:=(Array.getElem?_eq_some_iff.1 harr).1
  have hcell:w.cell? ⟨ρ.blk b,0,none⟩=some (v.den ρ):=by
   simp [World.cell?,harr,hcs 0 v rfl]
  have hvok:v.ok ρ:=hok.1
  rw [hden]
  have lits:∀ (b2 off n cap:Nat) (hd:List SV) (zs:List Int) (arr2:Array Value) (e2:TypeId) (fr:Nat × Nat),v.den ρ=.slice (some ⟨ρ.blk b2,off,none⟩) n cap→w.heap[ρ.blk b2]?=some (.cells arr2 e2 fr) →
    (∀ (j:Nat) (x:SV),hd[j]?=some x→arr2[off + j]?=some (x.den ρ))→hd.length=n→valInts hd=some zs→n≤1000000→rowRes st el zs=some l→Calls P f #[.slice none 0 0,.func (.func g1) #[] #[.pointer (some ⟨ρ.blk b,0,none⟩)]] w R:=by
   intro b2 off n cap hd zs arr2 e2 fr hvd ha2 hcells hl hzs hn hrow
   have hdz:=valInts_ok (ρ:=ρ) hd zs hzs
   have hlen:zs.length=n:=by
    have:=congrArg List.length hdz
    rw [SV.dens_eq] at this
    simp only [List.length_map] at this
    omega
   refine (hV w (ρ.blk b) _ zs (by omega) hBm hcell (.inr ⟨ρ.blk b2,off,cap,by rw [hvd,hlen],(Array.getElem?_eq_some_iff.1 ha2).1,fun j hj=>?_⟩)).mono ?_
   ·have h1:(SV.dens ρ hd)[j]?=some (encZ (zs[j]?.getD 0)):=by rw [hdz,List.getElem?_map,getD_of hj]; rfl
    rw [SV.dens_eq,List.getElem?_map] at h1
    cases hx:hd[j]? with
    | none=>rw [hx] at h1; cases h1
    | some x =>
     rw [hx] at h1
     simp only [Option.map_some,Option.some.injEq] at h1
     simp only [World.cell?,ha2]
     rw [hcells j x hx,h1]; rfl
   ·rintro e w' ⟨u,rfl,hrw,hnil,hbe⟩
    obtain ⟨y,hy,ρ',k1,k2,k3,k4⟩:=rowRes_ok hr hrow hbe hrw hnil
    rw [← k3]
    exact hK y hy ρ' w' k1 k2 k4
  split at h
  ·-- nil
   simp only [NatR.outs.injEq] at h; subst h
   refine (hV w (ρ.blk b) _ [] (by simp) hBm hcell (.inl ⟨none,0,rfl,rfl⟩)).mono ?_
   rintro e w' ⟨u,rfl,_,hnil,hbe⟩
   obtain rfl:=hnil.2 rfl
   exact hK (.nils,st) (by simp) ρ w' (Env.Ext.refl ρ) (hr.kept hbe) (by simp [SV.ok])
  ·-- an own slice,perhaps nil
   rename_i b2 len c
   split at h
   case h_2=>cases h
   rename_i own2 o2 hb2
   split at h
   ·rename_i cs2 tot2 e2
    split at h
    case h_2=>cases h
    rename_i n hn
    split at h
    case h_2=>cases h
    rename_i hd hhd
    split at h
    case h_2=>cases h
    rename_i zs hzs
    split at h
    case h_2=>cases h
    rename_i hle
    obtain ⟨_,⟨y1,y2,_,arr2,ha2,_,hc2⟩,_⟩:=hr.blk _ _ hb2
    obtain ⟨t1,t2⟩:=takeI_eq _ _ _ hhd
    have hrow:rowRes st el zs=some l:=by
     cases hq:rowRes st el zs with
     | none=>rw [hq] at h; simp [natR] at h
     | some l'=>rw [hq] at h; simp only [natR,NatR.outs.injEq] at h; rw [h]
    refine lits b2 0 n (c.I ρ).toNat hd zs arr2 e2 (0,0) (by simp only [SV.den,Env.base,y1,y2]; rw [litNat_ok hn]; simp) ha2 (fun j x hx=>?_) (by rw [t1,List.length_take]; exact Nat.min_eq_left t2) hzs (Nat.le_of_ble_eq_true hle) hrow
    rw [Nat.zero_add]
    refine hc2 j x ?_
    rw [t1,List.getElem?_take] at hx
    split at hx
    ·exact hx
    ·cases hx
   ·rename_i ks le n tot2 e2
    split at h
    case h_2=>cases h
    rename_i hc
    simp only [Bool.and_eq_true] at hc
    obtain ⟨⟨q1,q2⟩,q3⟩:=hc
    have e1:=E.beq_eq q1; subst e1
    have e3:=isI64s_ok q2; subst e3
    obtain ⟨g1',rfl⟩:=valsGo_ok h
    have hle':len.I ρ≤2147483648:=by
     have:=leB_ok hfs hr.pc g1'
     simpa [appLim] using this
    obtain ⟨_,⟨_,p1,p2,p3,p4⟩,_⟩:=hr.blk _ _ hb2
    simp only [List.length_singleton] at p1 p4
    obtain ⟨zs,hzs⟩:∃ zs:List Int,zs=(le.L ρ).map U.toI:=⟨_,rfl⟩
    have hzl:(zs.length:Int)=len.I ρ:=by rw [hzs]; simpa using p1
    have hesc:le.scp st.nv=true:=by
     have hb':=hr.blk_scp q3 hb2
     rw [hr.nv,hr.nb] at hb'
     simp only [SObj.scp,Bool.and_eq_true] at hb'
     exact hb'.1
    have hI:IntsIn w.heap.size w ((SV.nslice b2 len c).den ρ) zs:=by
     by_cases h0:zs=[]
     ·refine .inl ⟨ρ.base b2,(c.I ρ).toNat,?_,h0⟩
      simp only [SV.den]
      have:(len.I ρ).toNat=0:=by rw [← hzl,h0]; rfl
      rw [this]
     ·have:0 < zs.length:=List.length_pos_iff.2 h0
      obtain ⟨r1,r2,arr2,r3,r4,_⟩:=p4 (by omega)
      refine .inr ⟨ρ.blk b2,0,(c.I ρ).toNat,?_,(Array.getElem?_eq_some_iff.1 r3).1,fun j hj=>?_⟩
      ·simp only [SV.den,Env.base,r1,r2]
       have:(len.I ρ).toNat=zs.length:=by omega
       rw [this]
      ·cases hu:(le.L ρ)[j]? with
       | none =>
        have:=List.getElem?_eq_none_iff.1 hu
        rw [hzs] at hj; simp at hj; omega
       | some u =>
        have hz:zs[j]?.getD 0=u.toI:=by rw [hzs,List.getElem?_map,hu]; rfl
        obtain ⟨c',c1,c2,_⟩:=r4 j u hu
        simp [Nat.mod_one] at c1
        subst c1
        rw [Nat.zero_add,hz]
        simp [World.cell?,r3,c2,CK.val]
    refine (hV w (ρ.blk b) _ zs (by omega) hBm hcell hI).mono ?_
    rintro e w' ⟨u,rfl,hrw,hnil,hbe⟩
    obtain ⟨ρ',k1,k2,k3,k4⟩:=hr.newFlat' q3 hbe hesc hzs.symm hrw hnil
    rw [← k3]
    exact hK _ (by simp) ρ' w' k1 k2 k4
   ·cases h
  ·-- a slice with an offset
   rename_i b2 off len c
   split at h
   case h_2=>cases h
   rename_i own2 o2 hb2
   split at h
   ·rename_i cs2 tot2 e2
    split at h
    case h_2=>cases h
    rename_i n m hn ho2
    split at h
    case h_2=>cases h
    rename_i hd hhd
    split at h
    case h_2=>cases h
    rename_i zs hzs
    split at h
    case h_2=>cases h
    rename_i hle
    obtain ⟨_,⟨y1,y2,_,arr2,ha2,_,hc2⟩,_⟩:=hr.blk _ _ hb2
    obtain ⟨t1,t2⟩:=takeI_eq _ _ _ hhd
    rw [dropI_eq] at t1 t2
    have hrow:rowRes st el zs=some l:=by
     cases hq:rowRes st el zs with
     | none=>rw [hq] at h; simp [natR] at h
     | some l'=>rw [hq] at h; simp only [natR,NatR.outs.injEq] at h; rw [h]
    refine lits b2 m n (c.I ρ).toNat hd zs arr2 e2 (0,0) (by simp only [SV.den,y2,litOff_ok ho2]; rw [litNat_ok hn]; simp) ha2 (fun j x hx=>?_) (by rw [t1,List.length_take]; exact Nat.min_eq_left t2) hzs (Nat.le_of_ble_eq_true hle) hrow
    refine hc2 (m + j) x ?_
    rw [t1,List.getElem?_take] at hx
    split at hx
    ·simpa using hx
    ·cases hx
   ·cases h
  ·-- memory that never changes
   rename_i ks e
   split at h
   case h_2=>cases h
   rename_i hc
   simp only [Bool.and_eq_true] at hc
   obtain ⟨⟨q2,q3⟩,q4⟩:=hc
   have e3:=isI64s_ok q2; subst e3
   obtain ⟨g1',rfl⟩:=valsGo_ok h
   have hle':(E.fn 0 e).I ρ≤2147483648:=by
    have:=leB_ok hfs hr.pc g1'
    simpa [appLim] using this
   have hlen:(((e.L ρ).length:Nat):Int)=(E.fn 0 e).I ρ:=rfl
   have hsl:SlOk ρ.fz [.int .i64] (e.den ρ):=hvok
   obtain ⟨zs,hzs⟩:∃ zs:List Int,zs=(e.L ρ).map U.toI:=⟨_,rfl⟩
   have hzl:zs.length=(e.L ρ).length:=by rw [hzs]; simp
   have hI:IntsIn w.heap.size w ((SV.bsl [.int .i64] e).den ρ) zs:=by
    simp only [SV.den]
    unfold E.L at hzs
    generalize e.den ρ=u at hsl hzs
    cases hsl with
    | nil=>exact .inl ⟨none,0,rfl,by rw [hzs]; rfl⟩
    | empty a=>exact .inl ⟨some a,0,rfl,by rw [hzs]; rfl⟩
    | mk hl hcp hz hv hsub =>
     rename_i r off len cap L arr2 elem fr
     have hzs':zs=L.map U.toI:=hzs
     have hll:L.length=len:=by simpa using hl
     by_cases h0:L=[]
     ·refine .inl ⟨some ⟨r,off,none⟩,cap,?_,by rw [hzs',h0]; rfl⟩
      have:len=0:=by rw [← hll,h0]; rfl
      subst this; rfl
     ·have hfz:=hr.fz r _ (hz h0)
      refine .inr ⟨r,off,cap,?_,(Array.getElem?_eq_some_iff.1 hfz).1,fun j hj=>?_⟩
      ·have:len=zs.length:=by rw [hzs']; simp [hll]
       subst this; rfl
      ·cases hu:L[j]? with
       | none =>
        have:=List.getElem?_eq_none_iff.1 hu
        rw [hzs'] at hj; simp at hj; omega
       | some u =>
        have hz:zs[j]?.getD 0=u.toI:=by rw [hzs',List.getElem?_map,hu]; rfl
        obtain ⟨c',c1,c2⟩:=hv j u hu
        simp [Nat.mod_one] at c1
        subst c1
        rw [hz]
        simp [World.cell?,hfz,c2,CK.val]
   refine (hV w (ρ.blk b) _ zs (by omega) hBm hcell hI).mono ?_
   rintro e0 w' ⟨u,rfl,hrw,hnil,hbe⟩
   obtain ⟨ρ',k1,k2,k3,k4⟩:=hr.newFlat' q3 hbe q4 hzs.symm hrw hnil
   rw [← k3]
   exact hK _ (by simp) ρ' w' k1 k2 k4
  ·cases h
end Go.SX
