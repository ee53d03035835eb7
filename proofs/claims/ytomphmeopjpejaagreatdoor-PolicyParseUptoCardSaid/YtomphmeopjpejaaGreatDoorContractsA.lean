/- Contracts of the library. -/
import Derived.Test.YtomphmeopjpejaaGreatDoorMachineC
import Derived.WalkSmall
import Derived.Test.YtomphmeopjpejaaGreatDoorLibraryA
import Derived.Shelf.Strconv.Itoa3
import Derived.Shelf.Strings.Cut
import Derived.Shelf.Strings.Search3
import Derived.Shelf.Strings.SplitShaped
import Derived.Shelf.Strings.OnBuilder
import Derived.Lib.AppendIntMem
import Derived.Shelf.Strconv.AtoiAll
import Derived.Shelf.Vars
import Derived.Stop.LaidErr
import Derived.Lib.LaidTab
set_option linter.unusedVariables false
set_option linter.unusedSimpArgs false
namespace Go.AM
open Go Go.RowKit
theorem jL {P:Program}{N:Nums}{f:Nat}{args:B7}{r:AV}(h: ∀(C:Ctx) (vs:Array Value),Entry C N vs args []->(∀b,C.S0 b->b<C.W0.heap.size)->Calls P (N.num f) vs C.W0 λe w'=> ∃v,e= .returned v/\Below C.W0.heap.size C.W0 w'/\(∀E:Env,(∀b o u,C.W0.heap.size<=b->w'.cell? ⟨b,o,none⟩=some u->u.oneCell'=true->E.ro b o u)->E.tnum=N.tnum->V E v r))(hnp:dv r=none:=by first|rfl|(split<;>rfl)):
  fq P N f args [] ⟨r,[]⟩:=by
 intro C vs he;rw[xX (t:=⟨r,[]⟩) hnp];refine (h C vs he he.hi.s0).mono ?_
 rintro e w' ⟨v,rfl,hb,hv⟩
 refine ⟨v,(sy hnp v).symm,C.S0,C.π,?_⟩;have hk:Kept C.X C.W0 w':=⟨hb.os,hb.tape,hb.output,hb.size,λb hlt _=>hb.block b hlt⟩
 refine ⟨hk,λb hs=>⟨BS (he.hi.s0 b hs) hb.size,.inr hs⟩,λb hs _=>hs,?_,λk x hx=>by simp at hx,λk k' hk=>by simp at hk,λk x hk=>by simp at hk,Nat.zero_le _⟩
 refine hv _ (λb o u hle hc h1=>⟨λhs=>?_,hc,h1⟩) he.tnum
 have:=he.hi.s0 b hs;omega
section
variable {C:Ctx}{N:Nums}{vs:Array Value}
theorem Entry.arg {args:B7}{bs:C5}(he:Entry C N vs args bs){i:Nat}{a:AV}(h:args[i]? =some a):V (aP C C.S0 C.π (ij bs.length) (hpB bs) C.W0) (vs.getD i undef) a:=by
 obtain ⟨hi,rfl⟩:=Av.1 h;have:=he.at_ i hi
 grind
theorem xW {x:Value}(h:vs.size=1)(h0:vs.getD 0 undef=x):vs= #[x]:=by
 apply Array.ext (by simpa using h)
 simp_all
theorem xV {x y:Value}(h:vs.size=2)(h0:vs.getD 0 undef=x)(h1:vs.getD 1 undef=y):vs= #[x,y]:=by
 apply Array.ext (by simpa using h)
 intro i h3 h4;have:i=0∨i=1:=by omega
 rcases this with rfl|rfl
 all_goals simp_all
end
end Go.AM
namespace Go.AM
open Go Go.RowKit Go.Proofs Go.Shelf
variable {P:Program} {ρ:Ren} {N:Nums}
def TabAt (P:Program)(N:Nums)(name:String)(k:IntKind)(zs:D4):Prop:= ∃g t z,P.globalNamed name=some g/\N.go g=some (.cells ((zs.map λx=>Value.int k x).toArray) t z)
theorem TabAt.tab {name:String}{k:IntKind}{zs:D4}(h:TabAt P N name k zs){C:Ctx}(hn:ew N C):Lib.TabIs P C.W0 name k zs:=by
 obtain ⟨g,t,z,h1,h2⟩:=h;have h3:=(hn.2.2 g _ h2).2.2.2
 grind [Lib.TabIs,World.var?]
def IntAt (N:Nums)(g:Nat):Prop:= ∃(cs:Array Value)(m:Int)(t:TypeId)(z:Nat×Nat),N.go g=some (.cells cs t z)/\cs[0]? =some (.int .i64 m)
theorem IntAt.cell {g:Nat}(h:IntAt N g){C:Ctx}(hn:ew N C): ∃m,C.W0.cell? ⟨g,0,none⟩=some (.int .i64 m):=by
 obtain ⟨cs,m,t,z,h2,h5⟩:=h;have h3:=(hn.2.2 g _ h2).2.2.2
 grind [World.cell?]
theorem Lj (w:World)(n:Nat):Below w.heap.size w (w.drewN n):=below_drewN (Below.refl _ _) n
theorem Uz (L:LaysM.n171 P ρ){f:Nat}(hf:N.num f=ρ.f 171)(ht:TabAt P N "internal/strconv.uint64pow10" .u64 Lib.pow10Tab): ∀args bs t,vu args bs=some t->fq P N f args bs t:=by
 intro args bs t h;unfold vu at h;split at h
 ·rename_i n
  split at h
  ·rename_i hb
   obtain rfl:=Ad h;rw[Yh hb.1 hb.2];refine jL λC vs he _=>?_
   have hv:=xW (by simpa using he.size) (V.int_inv (he.arg (i:=0) rfl))
   rw[hf,hv];refine (Any.strconv_Itoa L n hb.1 hb.2 C.W0 (ht.tab he.num)).mono ?_
   rintro e w' ⟨rfl,k,os,rfl⟩
   exact ⟨_,rfl,Lib.below_grow _ _ (A7 _) k os,λE _ _=>.str _⟩
  ·cases h
 ·cases h
theorem aaO (L:Lays.n145 P ρ){f:Nat}(hf:N.num f=ρ.f 145)(hm:IntAt N (ρ.g 1)): ∀args bs t,IU args bs=some t->fq P N f args bs t:=by
 intro args bs t h;unfold IU at h;split at h
 ·rename_i s sep
  split at h
  ·rename_i hb
   obtain rfl:=Ad h;refine jL λC vs he _=>?_
   have hv:=xV (by simpa using he.size) (V.str_inv (he.arg (i:=0) rfl)) (V.str_inv (he.arg (i:=1) rfl))
   obtain ⟨m,hc⟩:=hm.cell he.num;rw[hf,hv];refine (Any.strings_Cut L ⟨s.toArray⟩ ⟨sep.toArray⟩ m C.W0 (by grind [ByteArray.size]) hc).mono ?_
   rintro e w' ⟨rfl,n,rfl⟩
   refine ⟨_,rfl,Lj _ n,λE _ _=>?_⟩
   refine .tup _ _ rfl λi hi=>?_
   match i,hi with
   |0,_=>exact .str _
   |1,_=>exact .str _
   |2,_=>exact .bool _
  ·cases h
 ·cases h
theorem FC (L:Lays.n144 P ρ){f:Nat}(hf:N.num f=ρ.f 144)(hm:IntAt N (ρ.g 1)): ∀args bs t,nI args bs=some t->fq P N f args bs t:=by
 intro args bs t h;unfold nI at h;split at h
 ·rename_i s sep
  split at h
  ·rename_i hb
   obtain rfl:=Ad h;refine jL λC vs he _=>?_
   have hv:=xV (by simpa using he.size) (V.str_inv (he.arg (i:=0) rfl)) (V.str_inv (he.arg (i:=1) rfl))
   obtain ⟨m,hc⟩:=hm.cell he.num;rw[hf,hv];refine (Any.strings_Contains L ⟨s.toArray⟩ ⟨sep.toArray⟩ m C.W0 (by grind [ByteArray.size]) hc).mono ?_
   rintro e w' ⟨rfl,rfl⟩
   exact ⟨_,rfl,Below.refl _ _,λE _ _=>.bool _⟩
  ·cases h
 ·cases h
def re (s sep:B5):CF:=(Lib.splitB ⟨sep.toArray⟩ 0 (Lib.countB ⟨s.toArray⟩ ⟨sep.toArray⟩) ⟨s.toArray⟩).map λx=>x.data.toList
theorem Tq (s sep:B5):re s sep=Lib.split s sep:=by
 grind [re,Lib.split,Lib.splitB_data]
theorem OW (L:Lays.n146 P ρ)(hi9:(P.info? (ρ.t 9)).map (λi=>(i.zero,i.size,i.bytes))=some (some (.string ByteArray.empty),1,16)){f:Nat}(hf:N.num f=ρ.f 146)(hm:IntAt N (ρ.g 1)): ∀args bs t,rk args bs=some t->fq P N f args bs t:=by
 intro args bs t h;unfold rk at h;split at h
 ·rename_i s sep
  split at h
  ·rename_i hb
   obtain rfl:=Ad h;rw[<-Tq];refine jL λC vs he _=>?_
   have hv:=xV (by simpa using he.size) (V.str_inv (he.arg (i:=0) rfl)) (V.str_inv (he.arg (i:=1) rfl))
   obtain ⟨m,hc⟩:=hm.cell he.num;rw[hf,hv];have h1:1<=(ByteArray.mk sep.toArray).size:=by grind [ByteArray.size]
   refine (Any.strings_Split L hi9 ⟨s.toArray⟩ ⟨sep.toArray⟩ m C.W0 (by grind [ByteArray.size]) hc h1).mono ?_
   rintro e w' ⟨rfl,rfl⟩
   have hlen:=Lib.splitB_all ⟨sep.toArray⟩ h1 0 _ ⟨s.toArray⟩ rfl;refine ⟨_,rfl,(Below.refl _ _).alloc (A7 _) _,λE hro _=>?_⟩
   generalize hz:Lib.splitB ⟨sep.toArray⟩ 0 (Lib.countB ⟨s.toArray⟩ ⟨sep.toArray⟩) ⟨s.toArray⟩=zs at*;refine .sl 1 _ _ _ _ ?_ ?_ (A7 _) (λi _=>Value.string (zs.getD i ByteArray.empty)) (λ_=>⟨C.W0.heap.size,0,rfl,?_⟩) ?_
   ·grind [re]
   ·grind
   ·intro i hi j hj
    simp[re,hz] at hi;obtain rfl:j=0:=by omega
    refine hro _ _ _ (A7 _) ?_ rfl;simp_all
   ·intro i hi j hj
    simp[re,hz] at hi;obtain rfl:j=0:=by omega
    simp[re,hz,hi];exact .str _
  ·cases h
 ·cases h
end Go.AM
namespace Go.AM
open Go Go.RowKit Go.Proofs Go.Shelf
variable {P:Program} {ρ:Ren} {N:Nums}
def ErrAt (N:Nums)(g:Nat):Prop:= ∃ev t z,N.go g=some (.cells #[ev] t z)/\(ev= .nilIface∨ ∃te pe,ev= .iface te pe)
theorem ErrAt.cell {g:Nat}(h:ErrAt N g){C:Ctx}(hn:ew N C): ∃ev,C.W0.cell? ⟨g,0,none⟩=some ev/\(ev= .nilIface∨ ∃te pe,ev= .iface te pe):=by
 obtain ⟨ev,t,z,h2,h4⟩:=h;have h3:=(hn.2.2 g _ h2).2.2.2
 grind [World.cell?]
theorem VQ (L:LaysC.n172 P ρ){f tid:Nat}(hf:N.num f=ρ.f 172)(ht:N.tnum tid=ρ.t 168)(h15:ErrAt N (ρ.g 15))(h16:ErrAt N (ρ.g 16)): ∀args bs t,yB tid args bs=some t->fq P N f args bs t:=by
 intro args bs t h;unfold yB at h;split at h
 ·rename_i s
  split at h
  ·rename_i hb
   obtain rfl:=Ad h;unfold Gm;have hsz:(ByteArray.mk s.toArray).size<=281474976710656:=by grind [ByteArray.size]
   cases hr:Lib.atoiAll s
   ·rename_i v
    refine jL λC vs he _=>?_
    have hv:=xW (by simpa using he.size) (V.str_inv (he.arg (i:=0) rfl))
    rw[hf,hv];refine (Any.strconv_Atoi_ok L ⟨s.toArray⟩ (by omega) v (by grind) C.W0).mono ?_
    rintro e w' ⟨rfl,hw⟩
    refine ⟨_,rfl,?_,λE _ _=>?_⟩
    ·grind [Below.refl,Lib.bytesWorld_below]
    ·refine .tup _ _ rfl λi hi=>?_
     match i,hi with
     |0,_=>exact .int _ _
     |1,_=>exact .con _
   ·skip
    refine jL λC vs he _=>?_
    have hv:=xW (by simpa using he.size) (V.str_inv (he.arg (i:=0) rfl))
    obtain ⟨ev,hc,hev⟩:=h15.cell he.num;rw[hf,hv];refine (Any.strconv_Atoi_syntax L ⟨s.toArray⟩ hsz (by grind) ev C.W0 hc hev).mono ?_
    rintro e w' ⟨M,rfl,_,_,hw⟩
    refine ⟨_,rfl,hw,λE _ htn=>?_⟩
    refine .tup _ _ rfl λi hi=>?_
    match i,hi with
    |0,_=>exact .int _ _
    |1,_=>
     have:=V.ifc (E:=E) tid (.pointer (some ⟨M,0,none⟩)) .any (.any _);rwa [htn,ht] at this
   ·skip
    refine jL λC vs he _=>?_
    have hv:=xW (by simpa using he.size) (V.str_inv (he.arg (i:=0) rfl))
    obtain ⟨ev,hc,hev⟩:=h16.cell he.num;rw[hf,hv];refine (Any.strconv_Atoi_range L ⟨s.toArray⟩ hsz (by grind) ev C.W0 hc hev).mono ?_
    rintro e w' ⟨M,rfl,_,_,hw⟩
    refine ⟨_,rfl,hw,λE _ htn=>?_⟩
    refine .tup _ _ rfl λi hi=>?_
    match i,hi with
    |0,_=>exact .int _ _
    |1,_=>
     have:=V.ifc (E:=E) tid (.pointer (some ⟨M,0,none⟩)) .any (.any _);rwa [htn,ht] at this
  ·cases h
 ·cases h
theorem Uw (L:Lays.n156 P ρ)(X:Builder.Extra P ρ){f:Nat}(hf:N.num f=ρ.f 156): ∀args bs t,yA args bs=some t->fq P N f args bs t:=by
 intro args bs t h;unfold yA at h;split at h
 ·rename_i e0 es sep
  obtain ⟨xs,hx,h⟩:=Option.bind_eq_some_iff.1 h;split at h
  ·rename_i hb
   obtain rfl:=Ad h;have he0:=CJ hx;have hlen:(e0::es).length=xs.length:=by grind
   refine jL λC vs he hs0=>?_
   have h0:=he.arg (i:=0) rfl;have h1:=V.str_inv (he.arg (i:=1) rfl);generalize hq:vs.getD 0 undef=q at h0;cases h0 with
   |sl s' es' a n c hn hs hcc u hbb hh=>
    obtain ⟨b,off,rfl,hro⟩:=hbb (by simp)
    have hv:=xV (by simpa using he.size) hq h1
    have hcell: ∀(j:Nat) x,(xs.map λl=>(⟨l.toArray⟩:ByteArray))[j]? =some x->C.W0.cell? ⟨b,off+j,none⟩=some (.string x):=by
     intro j x hj;obtain ⟨l,hl,rfl⟩:=by simpa using hj
     have hjl:j<(e0::es).length:=by grind
     have k1:=hro j hjl 0 (by omega)
     have k2:=hh j hjl 0 (by omega)
     have:((e0::es).getD j []).getD 0 .any= .str l:=by rw[he0];simp[Ai,hl]
     rw[this] at k2;have k3:=V.str_inv k2;have k4:=k1.2.1
     grind
    have hbk:b<C.W0.heap.size:=by
     have k1:=hro 0 (by simp) 0 (by omega)
     exact World.block_lt_of_cell? _ _ k1.2.1
    rw[hf,hv];have hl2:(xs.map λl=>(⟨l.toArray⟩:ByteArray)).length=n:=by grind
    have hj:Lib.join ((xs.map λl=>(⟨l.toArray⟩:ByteArray)).map (·.data.toList)) sep=Lib.join xs sep:=by simp[List.map_map,Function.comp_def]
    have ct:=Any.strings_Join L X b off c (xs.map λl=>(⟨l.toArray⟩:ByteArray)) ⟨sep.toArray⟩ C.W0 hcell hbk (by grind) (by omega) (by grind)
    rw[hl2] at ct;refine ct.mono ?_
    rintro e w' ⟨rfl,hw⟩
    refine ⟨_,rfl,hw,λE _ _=>?_⟩
    rw[show (ByteArray.mk sep.toArray).data.toList=sep from by simp,hj]
    exact .str _
  ·cases h
 ·cases h
end Go.AM
namespace Go.AM
open Go Go.RowKit Go.Proofs
section
variable {P:Program}{N:Nums}{W:World}{name:String}{k:IntKind}{zs:D4}{g:Nat}
theorem yE {n:String}{g:Nat}{cs:Array Value}(hg:P.globalNamed n=some g)(h:World.var? P W n=some cs): ∃t z,W.heap[g]? =some (.cells cs t z):=by
 grind [World.var?]
theorem Wx (hN:N.go=λg=>W.heap[g]?)(hg:P.globalNamed name=some g)(h:Lib.TabIs P W name k zs):TabAt P N name k zs:=by
 obtain ⟨t,z,h1⟩:=yE hg h;exact ⟨g,t,z,hg,by grind⟩
theorem JW {n nm:String}{d:DataW Unit}{r:List (String×DataW Unit)}{g:Nat}{ti:TypeId}{ms:Array (String×TypeId)}(hN:N.go=λg=>W.heap[g]?)(h:laidMet P ((n,.iface nm d)::r) W)(hg:P.globalNamed n=some g)(ht:(P.globals[g]?).map (·.type)=some ti)(hi:P.underlying ti=some (.interface ms)):ErrAt N g:=by
 obtain ⟨ps,⟨g0,t0,cs0,f0,p0,q0,hg0,ht0,hv0,hd0,_,e0⟩,_⟩:=h;obtain rfl:=Ad (hg.symm.trans hg0);obtain rfl:=Ad (ht.symm.trans ht0);obtain ⟨l0⟩:=cs0;obtain ⟨f1,u,v,hl,_,_⟩:=iface_of_trod hi hd0;have hl':l0= [.iface u v]:=hl;subst hl';obtain ⟨t,z,h1⟩:=yE hg hv0;exact ⟨.iface u v,t,z,by grind,.inr ⟨u,v,rfl⟩⟩
theorem Yn (hN:N.go=λg=>W.heap[g]?)(h: ∃m,W.cell? ⟨g,0,none⟩=some (.int .i64 m)):IntAt N g:=by
 obtain ⟨m,h⟩:=h;unfold World.cell? at h;split at h
 ·rename_i c t z hh
  exact ⟨c,m,t,z,by grind,by simpa using h⟩
 ·cases h
theorem mJ {f k i:Nat}{b:Bool}{p:B7->C5->C3}(hi:N.num k=i)(hb: ∃fn,P.funcs[i]? =some fn/\fn.body.isSome=true/\fn.name≠ "runtime.NumGoroutine")(h: ∀args bs t,p args bs=some t->fq P N k args bs t):
  OkF P N f (bif Nat.beq f k then .prim b p else .none):=by
 subst hi;refine ay (λe=>?_) λ_=>trivial
 obtain rfl:=Nat.eq_of_beq_eq_true e;exact ⟨hb,h⟩
end
end Go.AM
