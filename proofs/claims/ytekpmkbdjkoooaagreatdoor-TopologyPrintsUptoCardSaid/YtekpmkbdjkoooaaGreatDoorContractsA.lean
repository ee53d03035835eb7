/- Functions of the library by their contracts: what a call of the program does is what the function of the abstract machine says. -/
import Derived.Test.YtekpmkbdjkoooaaGreatDoorMachineC
import Derived.Below
import Derived.WalkSmall
import Derived.Test.YtekpmkbdjkoooaaGreatDoorLibraryA
import Derived.Shelf.Strconv.Itoa3
import Derived.Shelf.Strings.Cut
import Derived.Shelf.Strings.Search3
import Derived.Shelf.Strings.SplitShaped
import Derived.Shelf.Strings.OnBuilder
import Derived.Lib.AppendIntMem
import Derived.Shelf.Strconv.AtoiAll
import Derived.Shelf.Vars
import Derived.Stop.LaidErr
import Derived.Lib.LaidTab
set_option linter.unusedVariables false
set_option linter.unusedSimpArgs false
namespace Go.AM
open Go Go.RowKit
theorem js {P:Program}{N:Nums}{f:Nat}{args:List AV}{r:AV}
  (h: ∀(C:Ctx)(vs:Array Value),Entry C N vs args []→(∀b,C.S0 b→b<C.W0.heap.size)→Calls P (N.num f) vs C.W0 fun e w'=> ∃v,e= .returned v∧Below C.W0.heap.size C.W0 w'∧(∀E:Env,(∀b o u,C.W0.heap.size≤b→w'.cell? ⟨b,o,none⟩=some u→u.oneCell'=true→E.ro b o u)→E.tnum=N.tnum→V E v r)) (hnp:dx r=none:=by first|rfl|(split<;>rfl)):
  fq P N f args [] ⟨r,[]⟩:=by
 intro C vs he;rw[xY (t:=⟨r,[]⟩) hnp];refine (h C vs he he.hi.s0).mono ?_
 rintro e w' ⟨v,rfl,hb,hv⟩
 refine ⟨v,(sk hnp v).symm,C.S0,C.π,?_⟩;have hk:Kept C.X C.W0 w':=⟨hb.os,hb.tape,hb.output,hb.size,fun b hlt _=>hb.block b hlt⟩
 refine ⟨hk,fun b hs=>⟨B6 (he.hi.s0 b hs) hb.size,.inr hs⟩,fun b hs _=>hs,?_,fun k x hx=>by simp at hx,fun k k' hk=>by simp at hk,fun k x hk=>by simp at hk,Nat.zero_le _⟩
 refine hv _ (fun b o u hle hc h1=>⟨fun hs=>?_,hc,h1⟩) he.tnum
 have:=he.hi.s0 b hs;omega
theorem Entry.arg {C:Ctx}{N:Nums}{vs:Array Value}{args:List AV}{bs:List Blk}(he:Entry C N vs args bs){i:Nat}{a:AV}(h:args[i]? =some a):V (aE C C.S0 C.π (gu bs.length) (hpB bs) C.W0) (vs.getD i undef) a:=by
 obtain ⟨hi,rfl⟩:=Az.1 h;have:=he.at_ i hi;rwa [Aj,AJ hi] at this
theorem xW {vs:Array Value}{x:Value}(h:vs.size=1)(h0:vs.getD 0 undef=x):vs= #[x]:=by
 apply Array.ext (by simpa using h)
 intro i h1 h2;have:i=0:=by simp at h2;omega
 subst this;simp[Array.getD,h] at h0;simpa using h0
theorem xV {vs:Array Value}{x y:Value}(h:vs.size=2)(h0:vs.getD 0 undef=x)(h1:vs.getD 1 undef=y):vs= #[x,y]:=by
 apply Array.ext (by simpa using h)
 intro i h3 h4;have:i=0∨i=1:=by simp at h4;omega
 rcases this with rfl|rfl
 ·simp[Array.getD,h] at h0;simpa using h0
 ·simp[Array.getD,h] at h1;simpa using h1
end Go.AM
namespace Go.AM
open Go Go.RowKit Go.Proofs Go.Shelf
variable {P:Program} {ρ:Ren} {N:Nums}
def TabAt (P:Program)(N:Nums)(name:String)(k:IntKind)(zs:List Int):Prop:= ∃g t z,P.globalNamed name=some g∧N.go g=some (.cells ((zs.map fun x=>Value.int k x).toArray) t z)
theorem TabAt.tab {name:String}{k:IntKind}{zs:List Int}(h:TabAt P N name k zs){C:Ctx}(hn:dU N C):Lib.TabIs P C.W0 name k zs:=by
 obtain ⟨g,t,z,h1,h2⟩:=h;have h3:=(hn.2.2 g _ h2).2.2.2;unfold Lib.TabIs World.var?;rw[h1];simp[h3]
def IntAt (N:Nums)(g:Nat):Prop:= ∃(cs:Array Value)(m:Int)(t:TypeId)(z:Nat×Nat),N.go g=some (.cells cs t z)∧cs[0]? =some (.int .i64 m)
theorem IntAt.cell {g:Nat}(h:IntAt N g){C:Ctx}(hn:dU N C): ∃m,C.W0.cell? ⟨g,0,none⟩=some (.int .i64 m):=by
 obtain ⟨cs,m,t,z,h2,h5⟩:=h;have h3:=(hn.2.2 g _ h2).2.2.2;exact ⟨m,by simp[World.cell?,h3,h5]⟩
theorem Pm (w:World)(n:Nat):Below w.heap.size w (w.drewN n):=below_drewN (Below.refl _ _) n
theorem Yo (L:LaysM.n171 P ρ){f:Nat}(hf:N.num f=ρ.f 171) (ht:TabAt P N "internal/strconv.uint64pow10" .u64 Lib.pow10Tab): ∀args bs t,yV args bs=some t→fq P N f args bs t:=by
 intro args bs t h;unfold yV at h;split at h
 ·rename_i n
  split at h
  ·rename_i hb
   obtain rfl:=Ai h;rw[abS hb.1 hb.2];refine js fun C vs he _=>?_
   have hv:=xW (by simpa using he.size) (V.int_inv (he.arg (i:=0) rfl))
   rw[hf,hv];refine (Any.strconv_Itoa L n hb.1 hb.2 C.W0 (ht.tab he.num)).mono ?_
   rintro e w' ⟨rfl,k,os,rfl⟩
   exact ⟨_,rfl,Lib.below_grow _ _ (Bd _) k os,fun E _ _=>.str _⟩
  ·cases h
 ·cases h
theorem adJ (L:Lays.n145 P ρ){f:Nat}(hf:N.num f=ρ.f 145)(hm:IntAt N (ρ.g 1)): ∀args bs t,Uo args bs=some t→fq P N f args bs t:=by
 intro args bs t h;unfold Uo at h;split at h
 ·rename_i s sep
  split at h
  ·rename_i hb
   obtain rfl:=Ai h;refine js fun C vs he _=>?_
   have hv:=xV (by simpa using he.size) (V.str_inv (he.arg (i:=0) rfl)) (V.str_inv (he.arg (i:=1) rfl))
   obtain ⟨m,hc⟩:=hm.cell he.num;rw[hf,hv];refine (Any.strings_Cut L ⟨s.toArray⟩ ⟨sep.toArray⟩ m C.W0 (by simpa[ByteArray.size] using hb) hc).mono ?_
   rintro e w' ⟨rfl,n,rfl⟩
   refine ⟨_,rfl,Pm _ n,fun E _ _=>?_⟩
   refine .tup _ _ rfl fun i hi=>?_
   match i,hi with
   |0,_=>exact .str _
   |1,_=>exact .str _
   |2,_=>exact .bool _
  ·cases h
 ·cases h
theorem JD (L:Lays.n144 P ρ){f:Nat}(hf:N.num f=ρ.f 144)(hm:IntAt N (ρ.g 1)): ∀args bs t,pU args bs=some t→fq P N f args bs t:=by
 intro args bs t h;unfold pU at h;split at h
 ·rename_i s sep
  split at h
  ·rename_i hb
   obtain rfl:=Ai h;refine js fun C vs he _=>?_
   have hv:=xV (by simpa using he.size) (V.str_inv (he.arg (i:=0) rfl)) (V.str_inv (he.arg (i:=1) rfl))
   obtain ⟨m,hc⟩:=hm.cell he.num;rw[hf,hv];refine (Any.strings_Contains L ⟨s.toArray⟩ ⟨sep.toArray⟩ m C.W0 (by simpa[ByteArray.size] using hb) hc).mono ?_
   rintro e w' ⟨rfl,rfl⟩
   exact ⟨_,rfl,Below.refl _ _,fun E _ _=>.bool _⟩
  ·cases h
 ·cases h
def mO (s sep:List UInt8):List (List UInt8):=(Lib.splitB ⟨sep.toArray⟩ 0 (Lib.countB ⟨s.toArray⟩ ⟨sep.toArray⟩) ⟨s.toArray⟩).map fun x=>x.data.toList
theorem XT (s sep:List UInt8):mO s sep=Lib.split s sep:=by
 unfold mO Lib.split;have:=Lib.splitB_data ⟨sep.toArray⟩ 0 (Lib.countB ⟨s.toArray⟩ ⟨sep.toArray⟩) ⟨s.toArray⟩;simpa using this
theorem T8 (L:Lays.n146 P ρ)(hi9:(P.info? (ρ.t 9)).map (fun i=>(i.zero,i.size,i.bytes))=some (some (.string ByteArray.empty),1,16)){f:Nat}(hf:N.num f=ρ.f 146)(hm:IntAt N (ρ.g 1)): ∀args bs t,yT args bs=some t→fq P N f args bs t:=by
 intro args bs t h;unfold yT at h;split at h
 ·rename_i s sep
  split at h
  ·rename_i hb
   obtain rfl:=Ai h;rw[←XT];refine js fun C vs he _=>?_
   have hv:=xV (by simpa using he.size) (V.str_inv (he.arg (i:=0) rfl)) (V.str_inv (he.arg (i:=1) rfl))
   obtain ⟨m,hc⟩:=hm.cell he.num;rw[hf,hv];have h1:1≤(ByteArray.mk sep.toArray).size:=by simpa[ByteArray.size] using hb.2
   refine (Any.strings_Split L hi9 ⟨s.toArray⟩ ⟨sep.toArray⟩ m C.W0 (by simpa[ByteArray.size] using hb.1) hc h1).mono ?_
   rintro e w' ⟨rfl,rfl⟩
   have hlen:=Lib.splitB_all ⟨sep.toArray⟩ h1 0 _ ⟨s.toArray⟩ rfl;refine ⟨_,rfl,(Below.refl _ _).alloc (Bd _) _,fun E hro _=>?_⟩
   generalize hz:Lib.splitB ⟨sep.toArray⟩ 0 (Lib.countB ⟨s.toArray⟩ ⟨sep.toArray⟩) ⟨s.toArray⟩=zs at*;refine .sl 1 _ _ _ _ ?_ ?_ (Bd _) (fun i _=>Value.string (zs.getD i ByteArray.empty)) (fun _=>⟨C.W0.heap.size,0,rfl,?_⟩) ?_
   ·simp[mO,hz];omega
   ·intro i hi
    simp[mO,hz] at hi;simp[mO,hz,hi]
   ·intro i hi j hj
    simp[mO,hz] at hi;obtain rfl:j=0:=by omega
    refine hro _ _ _ (Bd _) ?_ rfl;rw[show (0+i*1+0)=i by omega,World.cell?_alloc_new]
    simp[hi]
   ·intro i hi j hj
    simp[mO,hz] at hi;obtain rfl:j=0:=by omega
    simp[mO,hz,hi];exact .str _
  ·cases h
 ·cases h
end Go.AM
namespace Go.AM
open Go Go.RowKit Go.Proofs Go.Shelf
variable {P:Program} {ρ:Ren} {N:Nums}
def ErrAt (N:Nums)(g:Nat):Prop:= ∃ev t z,N.go g=some (.cells #[ev] t z)∧(ev= .nilIface∨ ∃te pe,ev= .iface te pe)
theorem ErrAt.cell {g:Nat}(h:ErrAt N g){C:Ctx}(hn:dU N C): ∃ev,C.W0.cell? ⟨g,0,none⟩=some ev∧(ev= .nilIface∨ ∃te pe,ev= .iface te pe):=by
 obtain ⟨ev,t,z,h2,h4⟩:=h;have h3:=(hn.2.2 g _ h2).2.2.2;exact ⟨ev,by simp[World.cell?,h3],h4⟩
theorem aaF (L:LaysC.n172 P ρ){f tid:Nat}(hf:N.num f=ρ.f 172)(ht:N.tnum tid=ρ.t 168)(h15:ErrAt N (ρ.g 15))(h16:ErrAt N (ρ.g 16)): ∀args bs t,JN tid args bs=some t→fq P N f args bs t:=by
 intro args bs t h;unfold JN at h;split at h
 ·rename_i s
  split at h
  ·rename_i hb
   obtain rfl:=Ai h;unfold aev;have hsz:(ByteArray.mk s.toArray).size≤281474976710656:=by simpa[ByteArray.size] using hb
   cases hr:Lib.atoiAll s
   ·rename_i v
    refine js fun C vs he _=>?_
    have hv:=xW (by simpa using he.size) (V.str_inv (he.arg (i:=0) rfl))
    rw[hf,hv];refine (Any.strconv_Atoi_ok L ⟨s.toArray⟩ (by omega) v (by simpa using hr) C.W0).mono ?_
    rintro e w' ⟨rfl,hw⟩
    refine ⟨_,rfl,?_,fun E _ _=>?_⟩
    ·rcases hw with rfl|⟨t,rfl⟩
     ·exact Below.refl _ _
     ·exact Lib.bytesWorld_below _ _ _
    ·refine .tup _ _ rfl fun i hi=>?_
     match i,hi with
     |0,_=>exact .int _ _
     |1,_=>exact .con _
   ·skip
    refine js fun C vs he _=>?_
    have hv:=xW (by simpa using he.size) (V.str_inv (he.arg (i:=0) rfl))
    obtain ⟨ev,hc,hev⟩:=h15.cell he.num;rw[hf,hv];refine (Any.strconv_Atoi_syntax L ⟨s.toArray⟩ hsz (by simpa using hr) ev C.W0 hc hev).mono ?_
    rintro e w' ⟨M,rfl,_,_,hw⟩
    refine ⟨_,rfl,hw,fun E _ htn=>?_⟩
    refine .tup _ _ rfl fun i hi=>?_
    match i,hi with
    |0,_=>exact .int _ _
    |1,_=>
     have:=V.ifc (E:=E) tid (.pointer (some ⟨M,0,none⟩)) .any (.any _);rwa [htn,ht] at this
   ·skip
    refine js fun C vs he _=>?_
    have hv:=xW (by simpa using he.size) (V.str_inv (he.arg (i:=0) rfl))
    obtain ⟨ev,hc,hev⟩:=h16.cell he.num;rw[hf,hv];refine (Any.strconv_Atoi_range L ⟨s.toArray⟩ hsz (by simpa using hr) ev C.W0 hc hev).mono ?_
    rintro e w' ⟨M,rfl,_,_,hw⟩
    refine ⟨_,rfl,hw,fun E _ htn=>?_⟩
    refine .tup _ _ rfl fun i hi=>?_
    match i,hi with
    |0,_=>exact .int _ _
    |1,_=>
     have:=V.ifc (E:=E) tid (.pointer (some ⟨M,0,none⟩)) .any (.any _);rwa [htn,ht] at this
  ·cases h
 ·cases h
theorem Yn (L:Lays.n156 P ρ)(X:Builder.Extra P ρ){f:Nat}(hf:N.num f=ρ.f 156): ∀args bs t,yU args bs=some t→fq P N f args bs t:=by
 intro args bs t h;unfold yU at h;split at h
 ·rename_i e0 es sep
  obtain ⟨xs,hx,h⟩:=Option.bind_eq_some_iff.1 h;split at h
  ·rename_i hb
   obtain rfl:=Ai h;have he0:=EK hx;have hlen:(e0::es).length=xs.length:=by rw[he0];simp
   refine js fun C vs he hs0=>?_
   have h0:=he.arg (i:=0) rfl;have h1:=V.str_inv (he.arg (i:=1) rfl);generalize hq:vs.getD 0 undef=q at h0;cases h0 with
   |sl s' es' a n c hn hs hcc u hbb hh=>
    obtain ⟨b,off,rfl,hro⟩:=hbb (by simp)
    have hv:=xV (by simpa using he.size) hq h1
    have hcell: ∀(j:Nat) x,(xs.map fun l=>(⟨l.toArray⟩:ByteArray))[j]? =some x→C.W0.cell? ⟨b,off+j,none⟩=some (.string x):=by
     intro j x hj;obtain ⟨l,hl,rfl⟩:=by simpa using hj
     have hjl:j<(e0::es).length:=by rw[hlen];exact (Az.1 hl).1
     have k1:=hro j hjl 0 (by omega)
     have k2:=hh j hjl 0 (by omega)
     have:((e0::es).getD j []).getD 0 .any= .str l:=by rw[he0];simp[Aj,hl]
     rw[this] at k2;have k3:=V.str_inv k2;have k4:=k1.2.1;rw[k3] at k4;simpa using k4
    have hbk:b<C.W0.heap.size:=by
     have k1:=hro 0 (by simp) 0 (by omega)
     exact World.block_lt_of_cell? _ _ k1.2.1
    rw[hf,hv];have hl2:(xs.map fun l=>(⟨l.toArray⟩:ByteArray)).length=n:=by simp only[At];omega
    have hj:Lib.join ((xs.map fun l=>(⟨l.toArray⟩:ByteArray)).map (·.data.toList)) sep=Lib.join xs sep:=by simp[List.map_map,Function.comp_def]
    have ct:=Any.strings_Join L X b off c (xs.map fun l=>(⟨l.toArray⟩:ByteArray)) ⟨sep.toArray⟩ C.W0 hcell hbk (by simpa using hb.1) (by omega) (by rw[show (ByteArray.mk sep.toArray).data.toList=sep from by simp,hj];exact hb.2)
    rw[hl2] at ct;refine ct.mono ?_
    rintro e w' ⟨rfl,hw⟩
    refine ⟨_,rfl,hw,fun E _ _=>?_⟩
    rw[show (ByteArray.mk sep.toArray).data.toList=sep from by simp,hj]
    exact .str _
  ·cases h
 ·cases h
end Go.AM
namespace Go.AM
open Go Go.RowKit Go.Proofs
theorem yY {P:Program}{W:World}{n:String}{g:Nat}{cs:Array Value}(hg:P.globalNamed n=some g)(h:World.var? P W n=some cs): ∃t z,W.heap[g]? =some (.cells cs t z):=by
 unfold World.var? at h;rw[hg] at h;simp only[Option.bind_some] at h;split at h
 ·rename_i cs' t z hh
  obtain rfl:=Ai h;exact ⟨t,z,hh⟩
 ·cases h
theorem aa5 {P:Program}{N:Nums}{W:World}{name:String}{k:IntKind}{zs:List Int}{g:Nat}(hN:N.go=fun g=>W.heap[g]?)(hg:P.globalNamed name=some g)(h:Lib.TabIs P W name k zs):TabAt P N name k zs:=by
 obtain ⟨t,z,h1⟩:=yY hg h;exact ⟨g,t,z,hg,by rw[hN];exact h1⟩
theorem N5 {P:Program}{N:Nums}{W:World}{n nm:String}{d:DataW Unit}{r:List (String×DataW Unit)}{g:Nat}{ti:TypeId}{ms:Array (String×TypeId)}(hN:N.go=fun g=>W.heap[g]?)
  (h:laidMet P ((n,.iface nm d)::r) W) (hg:P.globalNamed n=some g) (ht:(P.globals[g]?).map (·.type)=some ti) (hi:P.underlying ti=some (.interface ms)):ErrAt N g:=by
 obtain ⟨ps,⟨g0,t0,cs0,f0,p0,q0,hg0,ht0,hv0,hd0,_,e0⟩,_⟩:=h;obtain rfl:=Ai (hg.symm.trans hg0);obtain rfl:=Ai (ht.symm.trans ht0);obtain ⟨l0⟩:=cs0;obtain ⟨f1,u,v,hl,_,_⟩:=iface_of_trod hi hd0;have hl':l0= [.iface u v]:=hl;subst hl';obtain ⟨t,z,h1⟩:=yY hg hv0;exact ⟨.iface u v,t,z,by rw[hN];exact h1,.inr ⟨u,v,rfl⟩⟩
theorem abU {N:Nums}{W:World}{g:Nat}(hN:N.go=fun g=>W.heap[g]?)(h: ∃m,W.cell? ⟨g,0,none⟩=some (.int .i64 m)):IntAt N g:=by
 obtain ⟨m,h⟩:=h;unfold World.cell? at h;split at h
 ·rename_i c t z hh
  exact ⟨c,m,t,z,by rw[hN];exact hh,by simpa using h⟩
 ·cases h
theorem lZ {P:Program}{N:Nums}{f k i:Nat}{b:Bool}{p:List AV→List Blk→Option Ret}(hi:N.num k=i) (hb: ∃fn,P.funcs[i]? =some fn∧fn.body.isSome=true∧fn.name≠ "runtime.NumGoroutine") (h: ∀args bs t,p args bs=some t→fq P N k args bs t):
  OkF P N f (bif Nat.beq f k then .prim b p else .none):=by
 subst hi;refine aq (fun e=>?_) fun _=>trivial
 obtain rfl:=Nat.eq_of_beq_eq_true e;exact ⟨hb,h⟩
end Go.AM
