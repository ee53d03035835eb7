/- What functions of this program give. -/
import Derived.Test.YtomphmeopjpejaaGreatDoorDataP
set_option linter.unusedSectionVars false
set_option linter.unusedVariables false
set_option linter.unusedSimpArgs false
set_option maxHeartbeats 4000000
set_option maxRecDepth 20000
namespace Go.AM.IR
def dc (s:B5)(a:Nat):Nat:=s.foldl (λa b=>10*a+J.dval b) a
theorem Wq (s t:B5)(a:Nat):dc (s++t) a=dc t (dc s a):=by grind [dc]
theorem oD: ∀(s:B5)(a:Nat),a<=dc s a
 | [],a=>A7 a
 |b::r,a=>by
  have:=oD r (10*a+J.dval b)
  grind [dc]
theorem Dm: ∀(s t:B5)(a:Nat),J.foldN (s++t) a=(J.foldN s a).bind (J.foldN t)
 | [],t,a=>rfl
 |b::r,t,a=>by
  rw[BD,J.foldN,J.foldN];split
  ·rfl
  ·exact Dm r t _
theorem ux: ∀(s:B5)(a n:Nat),J.foldN s a=some n->n=dc s a
 | [],a,n,h=>by cases h;rfl
 |b::r,a,n,h=>by
  rw[J.foldN] at h;split at h
  ·cases h
  ·exact ux r _ n h
theorem Jo: ∀(s:B5)(a n:Nat),a<=9223372036854775807->J.foldN s a=some n->n<=9223372036854775807+9*256
 | [],a,n,ha,h=>by cases h;omega
 |b::r,a,n,ha,h=>by
  rw[J.foldN] at h;split at h
  ·cases h
  ·rename_i hc
   by_cases hd:J.dval b<=9223372036854775807
   ·exact Jo r _ n (by omega) h
   ·have:=b.toNat_lt;grind [J.dval]
theorem Kh {d:Nat}(h:d<10):J.dval (UInt8.ofNat (48+d))=d/\J.dig (UInt8.ofNat (48+d))=true/\(d≠0->UInt8.ofNat (48+d)≠48):=by
 have: ∀d,d<10->J.dval (UInt8.ofNat (48+d))=d/\J.dig (UInt8.ofNat (48+d))=true/\(d≠0->UInt8.ofNat (48+d)≠48):=by decide
 grind
theorem vJ {b:UInt8}(h:J.dig b=true):J.dval b<10/\UInt8.ofNat (48+J.dval b)=b/\(b≠48->1<=J.dval b):=by
 obtain ⟨d,hd,e,hv⟩:=J.dig_of h;rw[hv];refine ⟨hd,e.symm,λq=>?_⟩
 rcases Nat.eq_zero_or_pos d with h0|h0
 ·subst h0;grind
 grind
theorem wB {s:B5}(h:J.canon s=true):(∃d,s= [d]/\J.dig d=true)∨ ∃t d,s=t++[d]/\J.canon t=true/\J.dig d=true/\1<=dc t 0:=by
 match s,h with
 |b::r,h=>
  simp only[J.canon,At,Bool.not_eq_true',Bool.and_eq_false_iff,AL,B2] at h;obtain ⟨h1,h2,h3⟩:=h;rcases List.eq_nil_or_concat r with rfl|⟨r',d,rfl⟩
  ·grind
  ·have hb:b≠48:=by
    grind
   have hall:=List.all_eq_true.1 h3;refine .inr ⟨b::r',d,by simp,?_,hall d (by simp),?_⟩
   ·grind [J.canon]
   ·have:=oD r' (10*0+J.dval b)
    grind [vJ,dc]
theorem DQ: ∀(f:Nat)(s:B5),J.canon s=true->dc s 0<10^ (f+1)->bT f (dc s 0)=s
 |0,s,hc,hv=>by
  grind [wB,vJ,dc,bT]
 |f+1,s,hc,hv=>by
  rcases wB hc with ⟨d,rfl,hd⟩|⟨t,d,rfl,ht,hd,h1⟩
  ·grind [vJ,dc,bT]
  ·obtain ⟨h10,he,_⟩:=vJ hd
   have e:dc (t++[d]) 0=10*dc t 0+J.dval d:=by rw[Wq];rfl
   rw[e] at hv⊢;have hv:10*dc t 0+J.dval d<10^ (f+1)*10:=by grind
   rw[bT,Aa (by omega),show (10*dc t 0+J.dval d)/ 10=dc t 0 by omega,show (10*dc t 0+J.dval d) % 10=J.dval d by omega,he,DQ f t ht (by omega)]
theorem uG: ∀(f u:Nat),u<10^ (f+1)->(bT f u).all J.dig=true/\(∃b r,bT f u=b::r/\(u≠0->b≠48)/\(u=0->r= []))/\(u<=9223372036854775807->J.foldN (bT f u) 0=some u)
 |0,u,h=>by
  grind [Kh,bT,J.foldN]
 |f+1,u,h=>by
  by_cases hu:u<10
  ·grind [Kh,bT,J.foldN]
  ·have h':u<10^ (f+1)*10:=by grind
   obtain ⟨g1,⟨b,r,g2,g3,g4⟩,g5⟩:=uG f (u/ 10) (by omega)
   obtain ⟨h1,h2,h3⟩:=Kh (d:=u % 10) (by omega)
   grind [bT,Dm,J.foldN]
theorem Qp (n:Nat):am (n:Int)=bT 19 n:=by grind [am]
theorem uy {n:Nat}{most:Int}(hn:n<=9223372036854775807)(hm:(n:Int)<=most):J.fNum most (am n)=((n:Int),0):=by
 grind [uG,Qp,J.canon,J.fNum]
theorem Jt (most:Int)(s:B5)(h:(J.fNum most s).2=0): ∃n:Nat,(n:Int)<=most/\n<=9223372036854778111/\s=am (n:Int)/\J.fNum most s=((n:Int),0):=by
 unfold J.fNum at h⊢;split at h
 ·rename_i hc
  rw[Ac hc];rcases hf:J.foldN s 0 with _|n
  ·grind
  ·rw[hf] at h
   dsimp only at h⊢;split at h
   ·cases h
   ·rename_i hm
    have hv:=ux s 0 n hf;have hl:=Jo s 0 n (by omega) hf
    grind [Qp,DQ]
 ·cases h
theorem uH: ∀(s:B5),(aw s).2≠ []->s=(aw s).1++32::(aw s).2
 | [],h=>absurd rfl h
 |c::r,h=>by
  unfold aw at h⊢
  by_cases hc:c=32
  ·grind
  ·simp only[Aa hc] at h⊢
   have:=uH r h
   grind
theorem DW: ∀(s:B5){x y:B5},fM s=some (x,y)->s=x++58::y
 | [],_,_,h=>by cases h
 |c::r,x,y,h=>by
  unfold fM at h
  by_cases hc:c=58
  ·grind
  ·rw[Aa hc] at h
   rcases hr:fM r with _|⟨a,b⟩
   ·grind
   ·rw[hr] at h;cases h
    rw[DW r hr];rfl
section
variable {s:B5}{v:Int}
theorem XQ (h:n32 s=some v):s=am v/\0<=v/\v<=4294967295:=by
 grind [n32,Jt]
theorem Ky (h:cmP s=some v):s=gQ v.toNat/\0<=v/\v<=4294967295:=by
 unfold cmP at h;rcases hN:cmN s with _|w
 ·rw[hN] at h
  dsimp only at h;rcases hc:fM s with _|⟨a,b⟩
  ·grind
  ·rw[hc] at h
   grind [cmV,Jt]
 ·rw[hN] at h
  cases h;unfold cmN at hN;split at hN
  ·rename_i hs;cases hN;rw[hs];exact ⟨by decide,by decide,by decide⟩
  ·split at hN
   ·rename_i hs;cases hN;rw[hs];exact ⟨by decide,by decide,by decide⟩
   ·split at hN
    ·rename_i hs;cases hN;rw[hs];exact ⟨by decide,by decide,by decide⟩
    ·split at hN
     ·rename_i hs;cases hN;rw[hs];exact ⟨by decide,by decide,by decide⟩
     grind
theorem Xd (h:(J.plP s).2=0):s=rtext ⟨(J.plP s).1.permit,(J.plP s).1.pfx,(J.plP s).1.min,(J.plP s).1.max⟩/\RuleP.ok ⟨(J.plP s).1.permit,(J.plP s).1.pfx,(J.plP s).1.min,(J.plP s).1.max⟩/\ruE ⟨(J.plP s).1.permit,(J.plP s).1.pfx,(J.plP s).1.min,(J.plP s).1.max⟩=0:=by
 rcases J.plP_all s with q|⟨r,r1,r2,r3,q⟩
 ·grind
 ·rw[q]
  obtain ⟨z1,z2,z3,z4,z5⟩:=J.chk_zero r2;refine ⟨?_,⟨r1,by grind [okI],by grind [okI]⟩,r2⟩
  rw[r3];obtain ⟨b,p,mn,mx⟩:=r;cases b<;>rfl
end
theorem PH {s t:B5}{b:Bool}(h:dJ s=some (b,t))(ht:t≠ []):s=jE b++t:=by
 unfold dJ at h;split at h
 ·rename_i e
  cases h;have:=uH s ht;rw[e] at this;exact this
 ·split at h
  ·rename_i e
   cases h;have:=uH s ht;rw[e] at this;exact this
  ·cases h
theorem ad4:ff []=none:=by rfl
theorem LJ:bu ⟨0,0⟩=true:=by rfl
theorem CY: ∀(l:CL)(k:B5),(qI l k=none↔iX (l.map PList.name) k=false)
 | [],k=>by simp[qI,iX]
 |x::r,k=>by
  have ih:=CY r k
  grind [qI,iX]
theorem Dc: ∀(l:CO)(k:B5),(qJ l k=none↔iX (l.map PathL.name) k=false)
 | [],k=>by simp[qJ,iX]
 |x::r,k=>by
  have ih:=Dc r k
  grind [qJ,iX]
theorem DX: ∀(l:CS)(k:B5),(qR l k=none↔iX (l.map ComL.name) k=false)
 | [],k=>by simp[qR,iX]
 |x::r,k=>by
  have ih:=DX r k
  grind [qR,iX]
theorem acT (s:PSet)(m:Mat):mtE (nmsS s) m=ip s m:=by
 have p1:=CY s.prefixes m.name;have p2:=Dc s.paths m.name;have p3:=DX s.comms m.name;obtain ⟨kind,name,n,⟨pa,pl⟩,neg⟩:=m;dsimp only at p1 p2 p3;have hz:=LJ;unfold mtE ip nmsS;dsimp only
 by_cases k1:kind=1
 ·grind [mtN,XZ]
 by_cases k2:kind=2
 ·grind [mtN,XY]
 by_cases k3:kind=3
 ·grind [mtN,XX]
 by_cases k7:kind=7
 ·grind [mtH,Qh]
 by_cases k4:kind=4
 ·grind [mtR,Qk]
 by_cases k6:kind=6
 ·grind [mtR,Qi]
 by_cases k8:kind=8
 all_goals grind [mtR,Qg,Qj]
abbrev lE1 (d:CL)(l:CL):Int:=eaE PList.name (λx=>x.rules.length) (λx=>gC ruE x.rules) d l
abbrev lE2 (d:CO)(l:CO):Int:=eaE PathL.name (λx=>x.rules.length) (λx=>gC paE x.rules) d l
abbrev lE3 (d:CS)(l:CS):Int:=eaE ComL.name (λx=>x.rules.length) (λx=>gC jP x.rules) d l
structure LOk (pre:CL)(pa:CO)(co:CS):Prop where
 a:pre.length<=64/\lE1 [] pre=0
 b:pa.length<=64/\lE2 [] pa=0
 c:co.length<=64/\lE3 [] co=0
theorem aeF {c:UInt8}{a b:B5}(h:c∉a)(k:c∉b):c∉a++b:=by grind
theorem acR {c d:UInt8}{a:B5}(h:c≠d)(k:c∉a):c∉d::a:=by grind
theorem Qf {c:UInt8}{P:UInt8->Bool}(hc:P c=false){a:B5}(h:a.all P=true):c∉a:=λq=>by
 grind
theorem kW {v:Int}(h0:0<=v)(h1:v<=9223372036854775807):(am v).all J.dig=true:=by
 obtain ⟨n,rfl⟩: ∃n:Nat,v=n:=⟨v.toNat,by omega⟩
 grind [Qp,uG]
theorem acF {t:B5}(h:t≠ [])(h1:(10:UInt8)∉t)(h2:(32:UInt8)∉t):bx t=true:=by
 grind [bx]
theorem Cm {w:B5}(h:(32:UInt8)∉w)(t:B5):aw (w++32::t)=(w,t):=by
 grind [sB,aw]
theorem adz {w:B5}(h:(32:UInt8)∉w):aw w=(w,[]):=by
 have:=sB (d:=w) (λc hc=>λq=>h (q▸hc)) []
 grind [aw]
theorem adC {w:B5}(h:(58:UInt8)∉w)(t:B5):fM (w++58::t)=some (w,t):=by
 grind [pJ,fM]
theorem Ox {v:Int}(h0:0<=v)(h1:v<=4294967295):cmP (gQ v.toNat)=some v:=by
 obtain ⟨n,rfl⟩: ∃n:Nat,v=n:=⟨v.toNat,by omega⟩
 rw[Int.toNat_natCast];unfold gQ
 by_cases c0:(n:Int)=4294901760
 ·rw[Ac c0,c0];rfl
 by_cases c1:(n:Int)=4294967041
 ·rw[Aa c0,Ac c1,c1];rfl
 by_cases c2:(n:Int)=4294967042
 ·rw[Aa c0,Aa c1,Ac c2,c2];rfl
 by_cases c3:(n:Int)=4294967043
 ·rw[Aa c0,Aa c1,Aa c2,Ac c3,c3];rfl
 have e:gQ n=am ((n/ 65536:Nat):Int)++58::am ((n % 65536:Nat):Int):=by
  grind [gQ]
 rw[Aa c0,Aa c1,Aa c2,Aa c3];have d1:(am ((n/ 65536:Nat):Int)).all J.dig=true:=kW (by omega) (by omega)
 have d2:(am ((n % 65536:Nat):Int)).all J.dig=true:=kW (by omega) (by omega)
 have hN:cmN (am ((n/ 65536:Nat):Int)++58::am ((n % 65536:Nat):Int))=none:=by
  have hm:(58:UInt8)∈am ((n/ 65536:Nat):Int)++58::am ((n % 65536:Nat):Int):=by simp
  unfold cmN;rw[Aa,Aa,Aa,Aa]
  all_goals (intro q;rw[q] at hm;revert hm;decide)
 unfold cmP;rw[hN];dsimp only;rw[adC (Qf rfl d1)];dsimp only;unfold cmV;have f1:=uy (n:=n/ 65536) (most:=65535) (by omega) (by omega)
 have f2:=uy (n:=n % 65536) (most:=65535) (by omega) (by omega)
 grind
theorem wD (b:Bool)(t:B5):bn (aw (jE b++t)).1=0/\dJ (jE b++t)=some (b,t):=by
 cases b
 ·show bn (aw (oU++32::t)).1=0/\dJ (oU++32::t)=_
  unfold dJ;rw[Cm (by decide)]
  dsimp only;exact ⟨by decide,by rw[Aa (by decide),Ac rfl]⟩
 ·show bn (aw (jA++32::t)).1=0/\dJ (jA++32::t)=_
  unfold dJ;rw[Cm (by decide)]
  dsimp only;exact ⟨by decide,by grind⟩
def qb:B5:=[100,101,102,97,117,108,116]
def wds:B5->CF
 | []=>[[]]
 |c::r=>if c=32 then []::wds r else match wds r with
  |w::l=>(c::w)::l
  | []=>[[c]]
theorem SV: ∀{s:B5},(32:UInt8)∉s->wds s= [s]
 | [],_=>rfl
 |c::r,h=>by
  have hc:c≠32:=λq=>h (by simp[q])
  rw[wds,Aa hc,SV (s:=r) (λq=>h (by simp[q]))]
theorem SW: ∀{w:B5},(32:UInt8)∉w-> ∀t,wds (w++32::t)=w::wds t
 | [],_,t=>by grind [wds]
 |c::r,h,t=>by
  have hc:c≠32:=λq=>h (by simp[q])
  rw[BD,wds,Aa hc,SW (w:=r) (λq=>h (by simp[q])) t]
theorem oO (s:B5):wds s≠ []:=by
 induction s<;>grind [wds]
theorem km: ∀s:B5,((32:UInt8)∉s/\aw s=(s,[])/\wds s= [s])∨ ∃w t,(32:UInt8)∉w/\s=w++32::t/\aw s=(w,t)/\wds s=w::wds t:=by
 intro s
 by_cases h:(32:UInt8)∈s
 ·obtain ⟨w,t,h1,h2⟩: ∃w t,(32:UInt8)∉w/\s=w++32::t:=by
   induction s with
   |nil=>cases h
   |cons c r ih=>
    by_cases hc:c=32
    ·exact ⟨[],r,by simp,by grind⟩
    grind
  grind [Cm,SW]
 grind [adz,SV]
theorem zL {w t:B5}(h:(10:UInt8)∉t):(∃a b c,wds t=a::b::c/\bx t=false)∨(wds t= [t]/\(t= []/\bx t=false∨t≠ []/\bx t=true)):=by
 rcases km t with ⟨h1,_,h3⟩|⟨a,b,h1,h2,_,h3⟩
 ·right
  refine ⟨h3,?_⟩
  by_cases ht:t= []
  ·left;exact ⟨ht,by rw[ht];rfl⟩
  grind [acF]
 ·left
  rcases hw:wds b with _|⟨x,y⟩
  all_goals grind [oO,bx]
def vt (h t:B5)(ng:Bool):Option Mat:=
 if h=cH then some ⟨1,t,0,⟨0,0⟩,ng⟩ else if h=cG then some ⟨2,t,0,⟨0,0⟩,ng⟩ else if h=cz then some ⟨3,t,0,⟨0,0⟩,ng⟩ else
 if h=ib then gJ 4 ng (n32 t) else if h=kM then gJ 5 ng (n32 t) else if h=fE then gJ 6 ng (n32 t) else if h=ic then gJ 8 ng (n32 t) else
 if h=gy then (if (J.psR t).2=0 then some ⟨7,[],0,(J.psR t).1,ng⟩ else none) else none
def qg (l:CF)(ng:Bool):Option Mat:=match l with
 | [k,t]=>if t= [] then none else vt k t ng
 |_=>none
def r7 (l:CF):Option Mat:=match l with
 |w::r=>if w=bR then qg r true else qg l false
 | []=>none
theorem WZ (h t:B5)(ng:Bool):vt h t ng=Bn h t ng:=by
 grind [vt,Bn,J.ps_eq]
theorem XV {w t:B5}(ng:Bool)(h:(10:UInt8)∉t):uf (w,t) ng=qg (w::wds t) ng:=by
 unfold uf;dsimp only;rcases zL (w:=w) h with ⟨a,b,c,h1,h2⟩|⟨h1,⟨h2,h3⟩|⟨h2,h3⟩⟩
 all_goals grind [qg,WZ]
theorem XU (t:B5)(ng:Bool)(h:(10:UInt8)∉t):uf (aw t) ng=qg (wds t) ng:=by
 rcases km t with ⟨h1,h2,h3⟩|⟨w,b,h1,h2,h3,h4⟩
 ·rw[h2,h3];rfl
 grind [XV]
theorem XW (s:B5)(h:(10:UInt8)∉s):lX s=r7 (wds s):=by
 unfold lX;rcases km s with ⟨h1,h2,h3⟩|⟨w,t,h1,h2,h3,h4⟩
 ·rw[h2,h3,r7]
  dsimp only
  by_cases hq:s=bR
  ·rw[Ac hq,Ac hq];rfl
  ·rw[Aa hq,Aa hq];rfl
 grind [r7,XU]
def yp (h t:B5):D3:=
 if h=ot then mj 1 (n32 t) else if h=r6 then mj 2 (n32 t) else if h=jU then mj 3 (n32 t) else if h=r0 then mj 4 (n32 t) else
 if h=nr then (if (J.paP t).2=0 then some ⟨5,0,0,0,(J.paP t).1⟩ else none) else if h=sa then qC 6 (cmP t) else if h=r8 then qC 7 (cmP t) else none
def oZ (l:CF):D3:=match l with
 | [k,a]=>if k=jd then none else yp k a
 | [k,a,b]=>if k=jd then p8 (n32 a) (n32 b) else none
 |_=>none
section
variable {t:B5}(h:(32:UInt8)∈t)
include h
theorem Ur:n32 t=none:=by
 rcases hn:n32 t with _|v
 ·rfl
 ·exfalso
  obtain ⟨h1,h2,h3⟩:=XQ hn
  grind [J.dig,kW]
theorem agi:cmP t=none:=by
 rcases hn:cmP t with _|v
 ·rfl
 ·exfalso
  obtain ⟨h1,h2,h3⟩:=Ky hn;rw[h1] at h
  revert h
  unfold gQ
  (repeat' split)<;>first|decide|(exact aeF (Qf rfl (kW (by omega) (by omega))) (acR (by decide) (Qf rfl (kW (by omega) (by omega)))))
theorem aek:(J.paP t).2≠0:=by
 grind [J.paP_all,J.low_not,J.low_dots]
end
theorem adO {k t:B5}(h:(32:UInt8)∈t)(hk:k≠jd):qX k t=none:=by
 unfold qX;rw[Ur h,agi h,Aa (aek h),Aa hk]
 (repeat' split)<;>rfl
theorem aa7 (s:B5):oc s=oZ (wds s):=by
 unfold oc;rcases km s with ⟨h1,h2,h3⟩|⟨w,t,h1,h2,h3,h4⟩
 ·rw[h2,h3]
  show qX s []=none
  have e1:n32 []=none:=rfl;have e2:cmP []=none:=rfl;have e3: ¬(J.paP []).2=0:=by decide
  unfold qX;rw[e1,e2,Aa e3]
  (repeat' split)<;>first|rfl|(show p8 (n32 []) _=none;rfl)
 ·rw[h3,h4]
  dsimp only;rcases km t with ⟨t1,t2,t3⟩|⟨a,b,t1,t2,t3,t4⟩
  ·rw[t3,oZ]
   by_cases hp:w=jd
   ·rw[Ac hp,hp]
    have e:qX jd t=p8 (n32 (aw t).1) (n32 (aw t).2):=rfl;rw[e,t2];show p8 (n32 t) none=none
    unfold p8
    grind
   grind [qX,yp]
  ·have hm:(32:UInt8)∈t:=by grind
   by_cases hp:w=jd
   ·rw[hp,t4]
    have e:qX jd t=p8 (n32 a) (n32 b):=by
     have q:qX jd t=p8 (n32 (aw t).1) (n32 (aw t).2):=rfl;rw[q,t3]
    rw[e];rcases km b with ⟨b1,b2,b3⟩|⟨x,y,b1,b2,b3,b4⟩
    ·grind [oZ]
    ·rcases hw:wds y with _|⟨p,q⟩
     ·grind [oO]
     ·rw[b4,hw]
      rw[Ur (t:=b) (by grind)]
      show p8 (n32 a) none=none
      unfold p8
      grind
   ·rw[adO hm hp,t4]
    rcases hw:wds b with _|⟨p,q⟩
    ·grind [oO]
    ·rcases q with _|⟨q1,q2⟩
     all_goals grind [oZ]
def kc (s p:B5):Option B5:=if p.length<s.length/\s.take p.length=p then some (s.drop p.length) else none
def pmR (s:B5):Option (Bool×B5):=match kc s (jE true) with
 |some t=>some (true,t)
 |none=>match kc s (jE false) with
  |some t=>some (false,t)
  |none=>none
theorem nJ {s p t:B5}:kc s p=some t↔t≠ []/\s=p++t:=by
 unfold kc;constructor
 ·intro h
  split at h
  all_goals grind [List.take_append_drop]
 grind
theorem sb {s t:B5}{b:Bool}:pmR s=some (b,t)↔dJ s=some (b,t)/\t≠ []:=by
 constructor
 ·grind [pmR,nJ,wD]
 ·rintro ⟨h1,h2⟩
  have e:=PH h1 h2;unfold pmR;cases b
  ·have:kc s (jE true)=none:=by
    grind [kc,nJ,wD]
   rw[this];dsimp only;rw[nJ.2 ⟨h2,e⟩]
  ·rw[nJ.2 ⟨h2,e⟩]
theorem IC {s:B5}(h:pmR s=none){b:Bool}{t:B5}(hp:dJ s=some (b,t)):t= []:=by
 grind [sb]
def PS.grp:PS->Int
 | .top _ _ _ _ so=>so
 | .pre .. =>1
 | .pat .. =>2
 | .com .. =>3
 |_=>4
def hdQ (k:CF)(t:B5):Int:=if 64<=k.length then 4 else eW k t
def yo (p:PSet)(w t:B5):PO:=
 if w=cH then hdO (hdQ (p.prefixes.map PList.name) t) (.pre p.prefixes p.paths p.comms p.pols t [])
 else if w=cG then hdO (hdQ (p.paths.map PathL.name) t) (.pat p.prefixes p.paths p.comms p.pols t [])
 else if w=cz then hdO (hdQ (p.comms.map ComL.name) t) (.com p.prefixes p.paths p.comms p.pols t [])
 else hdO (hdQ (p.pols.map Pol.name) t) (.pol p.prefixes p.paths p.comms p.pols t [])
def cZ (w:B5):Int:=if w=cW then 1 else if w=cU then 2 else if w=ca then 3 else 0
def br:PS->B5->CF->PO
 | .top ..,_,_=>.err 2
 | .pre pre pa co po nm rl,s,_=>match pmR s with
  |none=>.err 2
  |some _=>if (J.refP s).2≠0 then .err 2 else if 64<=rl.length then .err 4 else .ok (.pre pre pa co po nm (rl++[⟨(J.refP s).1.permit,(J.refP s).1.pfx,(J.refP s).1.min,(J.refP s).1.max⟩]))
 | .pat pre pa co po nm rl,s,_=>match pmR s with
  |none=>.err 2
  |some (b,t)=>if (ff t).isSome=true then (if 64<=rl.length then .err 4 else .ok (.pat pre pa co po nm (rl++[⟨b,t⟩]))) else .err 2
 | .com pre pa co po nm rl,s,_=>match pmR s with
  |none=>.err 2
  |some (b,t)=>if (eY b t rl.length).1=0 then .ok (.com pre pa co po nm (rl++[(eY b t rl.length).2])) else .err (eY b t rl.length).1
 | .pol pre pa co po nm ts,_,l=>match l with
  | [w,t]=>if t= [] then .err 2 else if w=qb then (if cZ t=1 then .ok (.top pre pa co (po++[⟨nm,ts,1⟩]) 4) else if cZ t=2 then .ok (.top pre pa co (po++[⟨nm,ts,2⟩]) 4) else .err 2)
   else if w≠d8 then .err 2 else if 64<=ts.length then .err 4 else if nmB t=false then .err 1 else if ts.any (λu=>u.name==t) then .err 7 else .ok (.term pre pa co po nm ts t [] [])
  |_=>.err 2
 | .term pre pa co po nm ts tn ms acs,_,l=>match l with
  | w::r=>if w=cI/\acs= [] then (match r7 r with
    |none=>.err 2
    |some x=>if 64<=ms.length then .err 4 else if ip ⟨pre,pa,co,po++[⟨nm,ts++[⟨tn,ms++[x],acs,0⟩],0⟩]⟩ x≠0 then .err (ip ⟨pre,pa,co,po++[⟨nm,ts++[⟨tn,ms++[x],acs,0⟩],0⟩]⟩ x) else .ok (.term pre pa co po nm ts tn (ms++[x]) acs))
   else if w=fY then (match oZ r with
    |none=>.err 2
    |some x=>if 64<=acs.length then .err 4 else if gx x≠0 then .err (gx x) else .ok (.term pre pa co po nm ts tn ms (acs++[x])))
   else if r= []/\cZ w≠0 then .ok (.pol pre pa co po nm (ts++[⟨tn,ms,acs,cZ w⟩])) else .err 2
  | []=>.err 2
section
variable (st:PS)(s:B5)
def ns:PO:=match wds s with
 | [w,t]=>if t≠ []/\st.inPol=false/\bn w≠0/\st.grp<=bn w then yo st.set w t else br st s [w,t]
 |l=>br st s l
theorem jK {w:B5}(h:bn w≠0):(w=cH/\bn w=1)∨(w=cG/\bn w=2)∨(w=cz/\bn w=3)∨(w=gv/\bn w=4):=by
 by_cases h1:w=cH
 ·left;exact ⟨h1,by rw[h1];rfl⟩
 by_cases h2:w=cG
 ·right;left;exact ⟨h2,by rw[h2];rfl⟩
 by_cases h3:w=cz
 ·right;right;left;exact ⟨h3,by rw[h3];rfl⟩
 ·right;right;right
  have:=aby h h1 h2 h3;exact ⟨this,by rw[this];rfl⟩
section
variable {so k:Int}{ks:CF}{t:B5}
theorem ade (h: ¬so<=k∨bx t=false):hdE so k ks t=2:=by
 grind [hdE]
theorem Gc (h:so<=k)(h1:bx t=true):hdE so k ks t=hdQ ks t:=by
 grind [hdE,hdQ]
end
theorem CK {pre:CL}{pa:CO}{co:CS}{po:C0}{so:Int}{w t:B5}(h0:bn w≠0)(h: ¬so<=bn w∨bx t=false):kr pre pa co po so w t= .err 2:=by
 grind [hdO,kr,jK,ade]
theorem ab1 {p:PSet}{so:Int}{w t:B5}(h0:bn w≠0)(h:so<=bn w)(h1:bx t=true):kr p.prefixes p.paths p.comms p.pols so w t=yo p w t:=by
 unfold kr yo;rcases jK h0 with ⟨q,k⟩|⟨q,k⟩|⟨q,k⟩|⟨q,k⟩
 all_goals rw[k] at h
 ·grind [Gc]
 ·rw[Aa (by rw[q];decide),Ac q,Aa (by rw[q];decide),Ac q,Gc h h1]
 ·rw[Aa (by rw[q];decide),Aa (by rw[q];decide),Ac q,Aa (by rw[q];decide),Aa (by rw[q];decide),Ac q,Gc h h1]
 ·rw[Aa (by rw[q];decide),Aa (by rw[q];decide),Aa (by rw[q];decide),Aa (by rw[q];decide),Aa (by rw[q];decide),Aa (by rw[q];decide),Gc h h1]
theorem ab0 (hp:st.inPol=false)(h0:bn (aw s).1≠0):dk st s=kr st.set.prefixes st.set.paths st.set.comms st.set.pols st.grp (aw s).1 (aw s).2:=by
 cases st with
 |top=>exact Aa h0
 |pre=>exact Aa h0
 |pat=>exact Aa h0
 |com=>exact Aa h0
 |pol=>cases hp
 |term=>cases hp
theorem Xf {s:B5}(h0:bn (aw s).1≠0):dJ s=none:=by
 unfold dJ;rcases jK h0 with ⟨q,_⟩|⟨q,_⟩|⟨q,_⟩|⟨q,_⟩
 all_goals rw[q,Aa (by decide),Aa (by decide)]
theorem aee {s:B5}(h0:bn (aw s).1≠0):pmR s=none:=by
 grind [pmR,sb,Xf]
theorem NA (l:CF)(hp:st.inPol=false)(h0:bn (aw s).1=0):br st s l=dk st s:=by
 cases st with
 |top=>exact (Ac h0).symm
 |pre pre pa co po nm rl=>
  rw[dk,Ac h0,br,J.pl_eq];rcases hp:pmR s with _|⟨b,t⟩
  ·have:(J.refP s).2≠0:=by
    intro q;rw[<-J.pl_eq] at q;obtain ⟨k1,_,_⟩:=Xd q;have hv:=(wD (J.plP s).1.permit (ptext (J.plP s).1.pfx.addr.toNat (J.plP s).1.pfx.len.toNat++rtail ⟨(J.plP s).1.permit,(J.plP s).1.pfx,(J.plP s).1.min,(J.plP s).1.max⟩)).2;have e:jE (J.plP s).1.permit++(ptext (J.plP s).1.pfx.addr.toNat (J.plP s).1.pfx.len.toNat++rtail ⟨(J.plP s).1.permit,(J.plP s).1.pfx,(J.plP s).1.min,(J.plP s).1.max⟩)=s:=k1.symm;rw[e] at hv;have:=IC hp hv;simp[ptext] at this
   grind
  ·rfl
 |pat pre pa co po nm rl=>
  grind [dk,br,ad4,sb]
 |com pre pa co po nm rl=>
  rw[dk,Ac h0,br];rcases hp:pmR s with _|⟨b,t⟩
  ·dsimp only
   rcases hs:dJ s with _|⟨b,t⟩
   ·rfl
   ·have:=IC hp hs
    rw[this];rfl
  grind [sb]
 |pol=>cases hp
 |term=>cases hp
theorem abh (l:CF)(hp:st.inPol=false)(h0:bn (aw s).1≠0):br st s l= .err 2:=by
 have e:=aee h0;cases st with
 |top=>rfl
 |pre=>rw[br,e]
 |pat=>rw[br,e]
 |com=>rw[br,e]
 |pol=>cases hp
 |term=>cases hp
end
theorem Ww (k:Kn)(ts:C4)(t:B5):kG k ts ⟨t,[],[],1⟩=if nmB t=false then 1 else if ts.any (λu=>u.name==t) then 7 else 0:=rfl
section
variable {pre:CL}{pa:CO}{co:CS}{po:C0}{nm:B5}{ts:C4}{tn:B5}{ms:C9}{acs:C8}(s:B5)(hb:(10:UInt8)∉s)
include hb
theorem ad7:br (.pol pre pa co po nm ts) s (wds s)=dk (.pol pre pa co po nm ts) s:=by
 have cA:aw im=(qb,cW):=rfl;have cR:aw il=(qb,cU):=rfl;rcases km s with ⟨h1,h2,h3⟩|⟨w,t,h1,h2,h3,h4⟩
 ·have n1:s≠im:=λq=>h1 (by rw[q];decide)
  have n2:s≠il:=λq=>h1 (by rw[q];decide)
  rw[dk,Aa n1,Aa n2,h2,h3];dsimp only
  by_cases hw:s=d8
  ·rw[Aa (nn2 hw),Ac (by decide)];rfl
  ·rw[Ac hw];rfl
 ·have ht:(10:UInt8)∉t:=λq=>hb (by grind)
  rcases zL (w:=w) ht with ⟨a,b,c,e1,e2⟩|⟨e1,ho⟩
  ·have n1:s≠im:=λq=>by rw[q,cA] at h3;cases h3;cases e2
   have n2:s≠il:=λq=>by rw[q,cR] at h3;cases h3;cases e2
   rw[dk,Aa n1,Aa n2,h3,h4,e1];dsimp only
   by_cases hw:w=d8
   ·rw[Aa (nn2 hw),Ac (by grind)];rfl
   ·rw[Ac hw];rfl
  ·rw[h4,e1,br]
   by_cases hd:w=qb
   ·by_cases hA:t=cW
    ·have:s=im:=by rw[h2,hd,hA];rfl
     rw[dk,Ac this,Aa (by rw[hA];decide),Ac hd,Ac (by rw[hA];rfl)]
    by_cases hR:t=cU
    ·have:s=il:=by rw[h2,hd,hR];rfl
     have e:dk (.pol pre pa co po nm ts) s= .ok (.top pre pa co (po++[⟨nm,ts,2⟩]) 4):=by grind [dk]
     rw[e,Aa (by rw[hR];decide),Ac hd,Aa (by rw[hR];decide),Ac (by rw[hR];rfl)]
    have n1:s≠im:=λq=>by grind
    have n2:s≠il:=λq=>by grind
    rw[dk,Aa n1,Aa n2,h3];dsimp only;have v1: ¬cZ t=1:=by grind [cZ]
    have v2: ¬cZ t=2:=by grind [cZ]
    have hne:w≠d8:=by rw[hd];decide
    grind
   have n1:s≠im:=λq=>by grind
   have n2:s≠il:=λq=>by grind
   grind [dk,Ww]
theorem aca:br (.term pre pa co po nm ts tn ms acs) s (wds s)=dk (.term pre pa co po nm ts tn ms acs) s:=by
 have cA:aw cW=(cW,[]):=rfl;have cR:aw cU=(cU,[]):=rfl;have cN:aw ca=(ca,[]):=rfl
 obtain ⟨w,t,r,hc,hr,hm,ha,hv⟩: ∃w t r,aw s=(w,t)/\wds s=w::r/\r7 r=lX t/\oZ r=oc t/\(r= []/\s=w∨r≠ []/\(32:UInt8)∈s):=by
  rcases km s with ⟨h1,h2,h3⟩|⟨w,t,h1,h2,h3,h4⟩
  ·exact ⟨s,[],[],h2,h3,rfl,rfl,.inl ⟨rfl,rfl⟩⟩
  grind [XW,aa7,oO]
 have mE: ∀x,mtE ⟨pre.map PList.name,pa.map PathL.name,co.map ComL.name,(po++[(⟨nm,ts,0⟩:Pol)]).map Pol.name⟩ x=ip ⟨pre,pa,co,po++[⟨nm,ts++[⟨tn,ms++[x],acs,0⟩],0⟩]⟩ x:=λx=>by
  rw[<-acT];rfl
 have noV: ∀v:B5,aw v=(v,[])->w≠v->s≠v:=λv hv hn q=>by grind
 rw[hr,br]
 by_cases hM:w=cI
 ·rw[dk,Aa (noV cW cA (by rw[hM];decide)),Aa (noV cU cR (by rw[hM];decide)),Aa (noV ca cN (by rw[hM];decide)),hc]
  dsimp only;rw[Ac hM]
  by_cases hz:acs= []
  ·grind
  ·rw[Aa (λq=>hz q.2),Aa (by rw[hM];decide),Aa (by rw[hM];exact λq=>q.2 rfl),Ac (by grind)]
 rw[Aa (λq=>hM q.1)]
 by_cases hS:w=fY
 ·rw[dk,Aa (noV cW cA (by rw[hS];decide)),Aa (noV cU cR (by rw[hS];decide)),Aa (noV ca cN (by rw[hS];decide)),hc]
  grind
 rw[Aa hS];rcases hv with ⟨h1,h2⟩|⟨h1,h2⟩
 ·grind [dk,cZ]
 ·have n1:s≠cW:=λq=>by rw[q] at h2;revert h2;decide
  have n2:s≠cU:=λq=>by rw[q] at h2;revert h2;decide
  grind [ca,dk]
end
theorem W6 (st:PS)(s:B5)(hb:(10:UInt8)∉s):ns st s=dk st s:=by
 have hpol:st.inPol=true->ns st s=br st s (wds s):=λhp=>by
  grind [ns]
 by_cases hp:st.inPol=true
 ·rw[hpol hp]
  cases st with
  |pol=>grind [ad7]
  |term=>grind [aca]
  |top=>cases hp
  |pre=>cases hp
  |pat=>cases hp
  |com=>cases hp
 ·have hp:st.inPol=false:=by grind
  by_cases h0:bn (aw s).1=0
  ·unfold ns
   split
   ·rename_i w t h
    rcases km s with ⟨h1,h2,h3⟩|⟨w',t',h1,h2,h3,h4⟩
    all_goals grind [NA]
   grind [NA]
  ·rw[ab0 st s hp h0]
   rcases km s with ⟨h1,h2,h3⟩|⟨w,t,h1,h2,h3,h4⟩
   ·rw[h2,CK (by grind) (.inr rfl)]
    grind [ns,abh]
   ·have ht:(10:UInt8)∉t:=λq=>hb (by grind)
    have h0':bn w≠0:=by grind
    rcases zL (w:=w) ht with ⟨a,b,c,e1,e2⟩|⟨e1,ho⟩
    all_goals grind [CK,ns,abh,ab1]
end Go.AM.IR
