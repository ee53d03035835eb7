/- What the functions of this program give, on the abstract machine. -/
import Derived.Test.YtekpmkbdjkoooaaGreatDoorDataI
import Derived.Test.YtekpmkbdjkoooaaGreatDoorDataH
set_option linter.unusedVariables false
set_option linter.unusedSimpArgs false
set_option maxHeartbeats 4000000
set_option maxRecDepth 20000
namespace Go.AM.IR
theorem R3 (a:Actn):ah G 596 [.agg a.enc] [] ⟨.int .i64 (nx a),[]⟩:=by
 have w (n lo hi:Int):=jd n lo hi;obtain ⟨kind,n,asn,com,addr⟩:=a;rw[nx];dsimp only
 by_cases k1:kind=1
 ·subst k1
  rw[Ad rfl,xP];dsimp only;have h0:=w n 0 4294967295;generalize q0:(decide (0≤n)&&decide (n≤4294967295))=B0 at*;cases B0
  ·simp only[Bool.and_eq_false_iff,AP] at q0
   refine gvC (F:=iU) ?_
   repeat' (first|refine bc ?_|(refine ae ?_ ?_<;>intro h))
   all_goals try (exfalso;first|omega|(simp_all;done))
   all_goals
    refine ag ?_
    (repeat' split)<;>first|rfl|(exfalso;(try simp only[ne_eq,AD] at*);omega)
  ·simp only[Av,AO] at q0
   refine gvC (F:=iU) ?_
   repeat' (first|refine bc ?_|(refine ae ?_ ?_<;>intro h))
   all_goals try (exfalso;first|omega|(simp_all;done))
   all_goals
    refine ag ?_
    (repeat' split)<;>first|rfl|(exfalso;(try simp only[ne_eq,AD] at*);omega)
 rw[Ac k1]
 by_cases k2:kind=2
 ·subst k2
  rw[Ad rfl,xP];dsimp only;have h0:=w n 0 4294967295;generalize q0:(decide (0≤n)&&decide (n≤4294967295))=B0 at*;cases B0
  ·simp only[Bool.and_eq_false_iff,AP] at q0
   refine gvC (F:=iU) ?_
   repeat' (first|refine bc ?_|(refine ae ?_ ?_<;>intro h))
   all_goals try (exfalso;first|omega|(simp_all;done))
   all_goals
    refine ag ?_
    (repeat' split)<;>first|rfl|(exfalso;(try simp only[ne_eq,AD] at*);omega)
  ·simp only[Av,AO] at q0
   refine gvC (F:=iU) ?_
   repeat' (first|refine bc ?_|(refine ae ?_ ?_<;>intro h))
   all_goals try (exfalso;first|omega|(simp_all;done))
   all_goals
    refine ag ?_
    (repeat' split)<;>first|rfl|(exfalso;(try simp only[ne_eq,AD] at*);omega)
 rw[Ac k2]
 by_cases k4:kind=4
 ·subst k4
  rw[Ad rfl,xP];dsimp only;have h0:=w n 0 4294967295;generalize q0:(decide (0≤n)&&decide (n≤4294967295))=B0 at*;cases B0
  ·simp only[Bool.and_eq_false_iff,AP] at q0
   refine gvC (F:=iU) ?_
   repeat' (first|refine bc ?_|(refine ae ?_ ?_<;>intro h))
   all_goals try (exfalso;first|omega|(simp_all;done))
   all_goals
    refine ag ?_
    (repeat' split)<;>first|rfl|(exfalso;(try simp only[ne_eq,AD] at*);omega)
  ·simp only[Av,AO] at q0
   refine gvC (F:=iU) ?_
   repeat' (first|refine bc ?_|(refine ae ?_ ?_<;>intro h))
   all_goals try (exfalso;first|omega|(simp_all;done))
   all_goals
    refine ag ?_
    (repeat' split)<;>first|rfl|(exfalso;(try simp only[ne_eq,AD] at*);omega)
 rw[Ac k4]
 by_cases k3:kind=3
 ·subst k3
  rw[Ad rfl,ad5];dsimp only;have h0:=w n 0 16777216;generalize q0:(decide (0≤n)&&decide (n≤16777216))=B0 at*;cases B0
  ·simp only[Bool.and_eq_false_iff,AP] at q0
   refine gvC (F:=iU) ?_
   repeat' (first|refine bc ?_|(refine ae ?_ ?_<;>intro h))
   all_goals try (exfalso;first|omega|(simp_all;done))
   all_goals
    refine ag ?_
    (repeat' split)<;>first|rfl|(exfalso;(try simp only[ne_eq,AD] at*);omega)
  ·simp only[Av,AO] at q0
   refine gvC (F:=iU) ?_
   repeat' (first|refine bc ?_|(refine ae ?_ ?_<;>intro h))
   all_goals try (exfalso;first|omega|(simp_all;done))
   all_goals
    refine ag ?_
    (repeat' split)<;>first|rfl|(exfalso;(try simp only[ne_eq,AD] at*);omega)
 rw[Ac k3]
 by_cases k5:kind=5
 ·subst k5
  rw[Ad rfl,ad4];dsimp only;refine gvC (F:=iU) ?_
  repeat' (first|refine bc ?_|(refine ae ?_ ?_<;>intro h))
  all_goals try (exfalso;first|omega|(simp_all;done))
  all_goals
   refine ag ?_
   (repeat' split)<;>first|rfl|(exfalso;(try simp only[ne_eq,AD] at*);omega)
 rw[Ac k5]
 by_cases k6:kind=6
 ·subst k6
  rw[Ad rfl,PQ];dsimp only;refine gvC (F:=iU) ?_
  repeat' (first|refine bc ?_|(refine ae ?_ ?_<;>intro h))
  all_goals try (exfalso;first|omega|(simp_all;done))
  all_goals
   refine ag ?_
   (repeat' split)<;>first|rfl|(exfalso;(try simp only[ne_eq,AD] at*);omega)
 rw[Ac k6]
 by_cases k7:kind=7
 ·subst k7
  rw[Ad rfl,PQ];dsimp only;refine gvC (F:=iU) ?_
  repeat' (first|refine bc ?_|(refine ae ?_ ?_<;>intro h))
  all_goals try (exfalso;first|omega|(simp_all;done))
  all_goals
   refine ag ?_
   (repeat' split)<;>first|rfl|(exfalso;(try simp only[ne_eq,AD] at*);omega)
 rw[Ac k7]
 by_cases k8:kind=8
 ·subst k8
  rw[Ad rfl,ad3];dsimp only;have h0:=w asn 1 4294967295;generalize q0:(decide (1≤asn)&&decide (asn≤4294967295))=B0 at*;have h1:=w n 1 16;generalize q1:(decide (1≤n)&&decide (n≤16))=B1 at*;cases B0
  ·simp only[Bool.and_eq_false_iff,AP] at q0
   cases B1
   ·simp only[Bool.and_eq_false_iff,AP] at q1
    refine gvC (F:=iU) ?_
    repeat' (first|refine bc ?_|(refine ae ?_ ?_<;>intro h))
    all_goals try (exfalso;first|omega|(simp_all;done))
    all_goals
     refine ag ?_
     (repeat' split)<;>first|rfl|(exfalso;(try simp only[ne_eq,AD] at*);omega)
   ·simp only[Av,AO] at q1
    refine gvC (F:=iU) ?_
    repeat' (first|refine bc ?_|(refine ae ?_ ?_<;>intro h))
    all_goals try (exfalso;first|omega|(simp_all;done))
    all_goals
     refine ag ?_
     (repeat' split)<;>first|rfl|(exfalso;(try simp only[ne_eq,AD] at*);omega)
  ·simp only[Av,AO] at q0
   cases B1
   ·simp only[Bool.and_eq_false_iff,AP] at q1
    refine gvC (F:=iU) ?_
    repeat' (first|refine bc ?_|(refine ae ?_ ?_<;>intro h))
    all_goals try (exfalso;first|omega|(simp_all;done))
    all_goals
     refine ag ?_
     (repeat' split)<;>first|rfl|(exfalso;(try simp only[ne_eq,AD] at*);omega)
   ·simp only[Av,AO] at q1
    refine gvC (F:=iU) ?_
    repeat' (first|refine bc ?_|(refine ae ?_ ?_<;>intro h))
    all_goals try (exfalso;first|omega|(simp_all;done))
    all_goals
     refine ag ?_
     (repeat' split)<;>first|rfl|(exfalso;(try simp only[ne_eq,AD] at*);omega)
 rw[Ac k8];refine gvC (F:=iU) ?_
 repeat' (first|refine bc ?_|(refine ae ?_ ?_<;>intro h))
 all_goals (refine ag ?_;rfl)
end Go.AM.IR
namespace Go.AM.IR
@[simp] theorem KD: ∀(n:Nat)(l:List (List AV)),aG l=true→aG (l.take n)=true
 |0,l,_=>by simp[aG]
 |n+1,[],_=>by simp[aG]
 |n+1,x::r,h=>by
  simp only[aG,Av] at h;simp only[List.take_succ_cons,aG,h.1,KD n r h.2,Bool.and_self]
@[simp] theorem KU: ∀(n:Nat)(l:List (List AV)),aG l=true→aG (l.drop n)=true
 |0,l,h=>h
 |n+1,[],_=>by simp[aG]
 |n+1,x::r,h=>by
  simp only[aG,Av] at h;exact KU n r h.2
def Tz (k:Kn)(t:Trm):Int:=if 64<t.mats.length then 4 else if ba (mtE k) t.mats=0 then tE3 t else ba (mtE k) t.mats
def sY (k:Kn)(before:List Trm)(t:Trm):Int:=if nmB t.name=false then 1 else if before.any (fun u=>u.name==t.name) then 7 else Tz k t
theorem R6 (l:List Actn)(t:Trm)(g5:Nat)(hl:l.length<2^40)(ln:Int)(hln:ln=l.length): ∀(rest done:List Actn)(T:TV)(H:aw)(c:Nat)(n:Int)(e:l=done++rest)(hn:n=done.length),Ev G ⟨Yy,⟨(54,.sl 5 (l.map Actn.enc))::(55,.int .i64 ln)::(56,.int .i64 n)::(5,.ref 69 g5 0)::T,(69,some (g5,.cells t.enc))::H,c⟩,[.t 6],0⟩ (⟨.int .i64 (if ba nx rest=0 then vdE t.verdict else ba nx rest),[]⟩)
 | [],done,  T,H,c,n,e,hn=>by
  have hd:=md0 e;have hll:=ml l Actn.enc;have h1:=jd t.verdict 1 3;rw[ba,Ad rfl,vdE];generalize hq:(decide (1≤t.verdict)&&decide (t.verdict≤3))=B at*;cases B
  ·simp only[Bool.and_eq_false_iff,AP] at hq
   rw[Ad (by omega)]
   refine evA ?_;refine ag ?_;rfl
  ·simp only[Av,AO] at hq
   rw[Ac (by omega)]
   refine evA ?_;refine ag ?_;rfl
 |x::r,done,  T,H,c,n,e,hn=>by
  have hd:=md e;have hll:=ml l Actn.enc;have hx:=mx Actn.enc e hn;have h1:=R3 x;rw[ba];generalize nx x=E at*
  by_cases h0:E=0
  ·subst h0
   rw[Ad rfl];refine evA ?_;refine ab [54,55,56,5] [69] ?_;exact R6 l t g5 hl ln hln r (done++[x])  _ _ _ (n+1) (by simp[e]) (by simp[hn]<;>omega)
  ·rw[Ac h0,Ac h0]
   refine evA ?_;refine ag ?_;rfl
theorem R5 (l:List Mat)(k:Kn)(hf:k.fit)(t:Trm)(g3 g5:Nat)(hk: ∀m∈l,m.pfx.ok)(ha:t.acts.length<2^40)(hl:l.length<2^40)(ln:Int)(hln:ln=l.length): ∀(rest done:List Mat)(T:TV)(H:aw)(c:Nat)(n:Int)(e:l=done++rest)(hn:n=done.length),Ev G ⟨Yz,⟨(36,.sl 6 (l.map Mat.enc))::(37,.int .i64 ln)::(38,.int .i64 n)::(3,.ref 67 g3 0)::(5,.ref 69 g5 0)::T,(67,some (g3,.cells k.enc))::(69,some (g5,.cells t.enc))::H,c⟩,[.t 6],0⟩ (⟨.int .i64 (if ba (mtE k) rest=0 then tE3 t else ba (mtE k) rest),[]⟩)
 | [],done,  T,H,c,n,e,hn=>by
  have hd:=md0 e;have hll:=ml l Mat.enc;have m1:=ml t.acts Actn.enc;rw[ba,Ad rfl,tE3]
  by_cases c:64<t.acts.length
  ·rw[Ad c]
   have c':(t.acts.length:Int)>64:=by omega
   refine evA ?_;refine ag ?_;rfl
  ·rw[Ac c]
   refine evA ?_;refine ab [54,55,56,5] [69] ?_;rw[m1];exact R6 t.acts t _ ha _ rfl t.acts [] _ _ _ 0 rfl rfl
 |x::r,done,  T,H,c,n,e,hn=>by
  have hd:=md e;have hll:=ml l Mat.enc;have hx:=mx Mat.enc e hn;have h1:=QN k hf x (hk x (by simp[e]))
  rw[ba];generalize mtE k x=E at*
  by_cases h0:E=0
  ·subst h0
   rw[Ad rfl];refine evA ?_;refine ab [36,37,38,3,5] [67,69] ?_;exact R5 l k hf t g3 g5 hk ha hl ln hln r (done++[x])  _ _ _ (n+1) (by simp[e]) (by simp[hn]<;>omega)
  ·rw[Ac h0,Ac h0]
   refine evA ?_;refine ag ?_;rfl
theorem Xy (l:List Trm)(k:Kn)(hf:k.fit)(t:Trm)(g3 g5:Nat)(hk: ∀m∈t.mats,m.pfx.ok)(ha:t.acts.length<2^40)(hm:t.mats.length<2^40)(hl:l.length<2^40)(ln:Int)(hln:ln=l.length): ∀(rest done:List Trm)(T:TV)(H:aw)(c:Nat)(n:Int)(e:l=done++rest)(hn:n=done.length),Ev G ⟨acl,⟨(19,.sl 4 (l.map Trm.enc))::(20,.int .i64 ln)::(21,.int .i64 n)::(3,.ref 67 g3 0)::(5,.ref 69 g5 0)::T,(67,some (g3,.cells k.enc))::(69,some (g5,.cells t.enc))::H,c⟩,[.t 6],0⟩ (⟨.int .i64 (if rest.any (fun u=>u.name==t.name) then 7 else Tz k t),[]⟩)
 | [],done,  T,H,c,n,e,hn=>by
  have hd:=md0 e;have hll:=ml l Trm.enc;have m1:=ml t.mats Mat.enc;rw[List.any_nil,Ac (by simp),Tz]
  by_cases c:64<t.mats.length
  ·rw[Ad c]
   have c':(t.mats.length:Int)>64:=by omega
   refine evA ?_;refine ag ?_;rfl
  ·rw[Ac c]
   refine evA ?_;refine ab [36,37,38,3,5] [67,69] ?_;rw[m1];exact R5 t.mats k hf t _ _ hk ha hm _ rfl t.mats [] _ _ _ 0 rfl rfl
 |x::r,done,  T,H,c,n,e,hn=>by
  have hd:=md e;have hll:=ml l Trm.enc;have hx:=mx Trm.enc e hn;rw[AN]
  by_cases hn:x.name=t.name
  ·rw[show (x.name==t.name)=true from by simp[hn],Bool.true_or,Ad rfl]
   refine evl ?_
   repeat' ((conv=>whnf);first|refine Ud hn ?_|refine au ?_|(refine ae ?_ ?_<;>intro h))
   refine ag ?_;rfl
  ·rw[show (x.name==t.name)=false from by simp[hn],BS]
   refine evl ?_
   repeat' ((conv=>whnf);first|refine wl hn ?_|refine au ?_|(refine ae ?_ ?_<;>intro h))
   refine ab [19,20,21,3,5] [67,69] ?_;exact Xy l k hf t g3 g5 hk ha hm hl ln hln r (done++[x])  _ _ _ (n+1) (by simp[e]) (by simp[hn]<;>omega)
theorem Qi (k:Kn)(hf:k.fit)(d:List Trm)(hd:d.length<2^40)(t:Trm)(g:t.goodT):ah G 582 [.agg k.enc,.sl 4 (d.map Trm.enc),.agg t.enc] [] ⟨.int .i64 (sY k d t),[]⟩:=by
 have m1:=ml d Trm.enc;have h1:=vH t.name g.nm;rw[sY];cases hb:nmB t.name with
 |false=>
  rw[hb] at h1;rw[Ad rfl];exact gvA (F:=xf)
 |true=>
  rw[hb] at h1;rw[Ac (by simp)]
  refine gvB (F:=xf) ?_;refine ab [19,20,21,3,5] [67,69] ?_;rw[m1];exact Xy d k hf t _ _ g.ok g.acz g.ms hd _ rfl d [] _ _ _ 0 rfl rfl
def nB (k:Kn):List Trm→List Trm→Int
 |_,[]=>0
 |d,t::r=>if sY k d t=0 then nB k (d++[t]) r else sY k d t
def plE (k:Kn)(p:Pol):Int:=if nB k [] p.terms=0 then dfE p.dflt else nB k [] p.terms
theorem yO (l:List Trm)(k:Kn)(hf:k.fit)(p:Pol)(g2 g3:Nat)(hp:p.terms=l)(hk: ∀t∈l,t.goodT)(hl:l.length<2^40)(ln:Int)(hln:ln=l.length): ∀(rest done:List Trm)(T:TV)(H:aw)(c:Nat)(n:Int)(e:l=done++rest)(hn:n=done.length),Ev G ⟨acH,⟨(9,.sl 4 (l.map Trm.enc))::(10,.int .i64 ln)::(11,.int .i64 n)::(2,.ref 66 g2 0)::(3,.ref 67 g3 0)::T,(66,some (g2,.cells k.enc))::(67,some (g3,.cells p.enc))::H,c⟩,[.t 4],0⟩ (⟨.int .i64 (if nB k done rest=0 then dfE p.dflt else nB k done rest),[]⟩)
 | [],done,  T,H,c,n,e,hn=>by
  have hd:=md0 e;have hll:=ml l Trm.enc;rw[nB,Ad rfl,dfE]
  by_cases c1:p.dflt=1
  ·rw[Ac (fun q=>q.1 c1)]
   refine evA ?_;refine ag ?_;rfl
  by_cases c2:p.dflt=2
  ·rw[Ac (fun q=>q.2 c2)]
   refine evA ?_;refine ag ?_;rfl
  rw[Ad ⟨c1,c2⟩];refine evA ?_;refine ag ?_;rfl
 |x::r,done,  T,H,c,n,e,hn=>by
  have hd:=md e;have hll:=ml l Trm.enc;have hx:=mx Trm.enc e hn;have m1:=ml p.terms Trm.enc;have hlen:p.terms.length=l.length:=by rw[hp]
  have h1:ah G 582 [.agg k.enc,.sl 4 ((List.take (n.toNat-0) (List.drop 0 (p.terms.map Trm.enc)))),.agg x.enc] [] ⟨.int .i64 (sY k done x),[]⟩:=by
   have h:=Qi k hf done (by omega) x (hk x (by simp[e]))
   have q:List.take (n.toNat-0) (List.drop 0 (p.terms.map Trm.enc))=done.map Trm.enc:=by
    rw[hp,e,hn];simp
   rw[q];exact h
  rw[nB];generalize sY k done x=E at*
  by_cases h0:E=0
  ·subst h0
   rw[Ad rfl];refine evA ?_;refine ab [9,10,11,2,3] [66,67] ?_;exact yO l k hf p g2 g3 hp hk hl ln hln r (done++[x])  _ _ _ (n+1) (by simp[e]) (by simp[hn]<;>omega)
  ·rw[Ac h0,Ac h0]
   refine evA ?_;refine ag ?_;rfl
theorem QE (k:Kn)(hf:k.fit)(p:Pol)(hl:p.terms.length<2^40)(hk: ∀t∈p.terms,t.goodT):ah G 523 [.agg k.enc,.agg p.enc] [] ⟨.int .i64 (plE k p),[]⟩:=by
 have m1:=ml p.terms Trm.enc;unfold plE;refine gvB (F:=VV) ?_;refine ab [9,10,11,2,3] [66,67] ?_;rw[m1];exact yO p.terms k hf p _ _ rfl hk hl _ rfl p.terms [] _ _ _ 0 rfl rfl
end Go.AM.IR
namespace Go.AM.IR
def dz:AV:=.con (.slice none 0 0)
def dK (s:PSet):Kn:=⟨s.prefixes.map PList.name,s.paths.map PathL.name,s.comms.map ComL.name,s.pols.map Pol.name⟩
theorem Fq (s:PSet)(g2 g3 a0 a1 a2:Nat)(B0 B1 B2:List NmL)(hl:s.pols.length<2^40)(R:Ret)(O:List NmL)
  (go:R=⟨.agg [.vs 0 0 B0.length,.vs 1 0 B1.length,.vs 2 0 B2.length,.vs 3 0 O.length],[(false,.vec 1 (B0.map aX)),(false,.vec 1 (B1.map aX)),(false,.vec 1 (B2.map aX)),(false,.vec 1 (O.map aX))]⟩): ∀(rest done:List Pol)(o:List NmL)(a3:Nat)(T:TV)(H:aw)(c:Nat)(n:Int)(e:s.pols=done++rest)(hn:n=done.length)(hb:o.length+rest.length<2^30)(hO:o++rest.map Pol.name=O),
  Ev G ⟨FQ,⟨(60,.int .i64 n)::(3,.ref 67 g3 0)::(58,.sl 3 (s.pols.map Pol.enc))::(2,.ref 66 g2 0)::(59,.int .i64 s.pols.length)::T,(67,some (g3,.cells [.vs 88 a0 B0.length,.vs 103 a1 B1.length,.vs 118 a2 B2.length,.vs 133 a3 o.length]))::(66,some (g2,.cells [dz,dz,dz,dz]))::(88,some (a0,.vec 1 (B0.map aX)))::(103,some (a1,.vec 1 (B1.map aX)))::(118,some (a2,.vec 1 (B2.map aX)))::(133,some (a3,.vec 1 (o.map aX)))::H,c⟩,[.cell 2 (some 4)],0⟩ R
 | [],done,o,a3,T,H,c,n,e,hn,hb,hO=>by
  have hd:=md0 e;rw[A9,Bs] at hO;subst hO;rw[go];refine evA ?_;refine afj [(88,_,.vec 1 (B0.map aX)),(103,_,.vec 1 (B1.map aX)),(118,_,.vec 1 (B2.map aX)),(133,_,.vec 1 (o.map aX))] ⟨rfl,⟨rfl,puL,rfl,puL,rfl,puL,rfl,puL,trivial⟩,rfl,rfl,(by simp[dP]),?_⟩
  simp[AV.ren,cP,φR];exact ⟨rfl,rfl,rfl⟩
 |x::r,done,o,a3,T,H,c,n,e,hn,hb,hO=>by
  have hd:=md e;have hll:=ml s.pols Pol.enc;have hx:=mx Pol.enc e hn;have hb0:(x::r).length=r.length+1:=rfl;have ih:=fun a3 T H c=>Fq s g2 g3 a0 a1 a2 B0 B1 B2 hl R O go r (done++[x]) (o++[x.name]) a3 T H c (n+1) (by simp[e]) (by simp[hn]) (by simp;omega) (by rw[←hO];simp)
  rw[List.map_append,Ar] at ih;refine evA ?_;refine ab [60,3,58,2,59] [67,66,88,103,118,133] ?_;exact ih _ _ _ _
theorem Ft (s:PSet)(g2 g3 a0 a1 a3:Nat)(B0 B1 B3:List NmL)(hl:s.comms.length<2^40)(R:Ret)(O:List NmL)
  (go: ∀(a2:Nat)(T:TV)(H:aw)(c:Nat),Ev G ⟨FQ,⟨(60,.int .i64 0)::(3,.ref 67 g3 0)::(58,.sl 3 (s.pols.map Pol.enc))::(2,.ref 66 g2 0)::(59,.int .i64 s.pols.length)::T,(67,some (g3,.cells [.vs 88 a0 B0.length,.vs 103 a1 B1.length,.vs 118 a2 O.length,.vs 133 a3 B3.length]))::(66,some (g2,.cells [dz,dz,dz,dz]))::(88,some (a0,.vec 1 (B0.map aX)))::(103,some (a1,.vec 1 (B1.map aX)))::(118,some (a2,.vec 1 (O.map aX)))::(133,some (a3,.vec 1 (B3.map aX)))::H,c⟩,[.cell 2 (some 4)],0⟩ R): ∀(rest done:List ComL)(o:List NmL)(a2:Nat)(T:TV)(H:aw)(c:Nat)(n:Int)(e:s.comms=done++rest)(hn:n=done.length)(hb:o.length+rest.length<2^30)(hO:o++rest.map ComL.name=O),
  Ev G ⟨FT,⟨(45,.int .i64 n)::(3,.ref 67 g3 0)::(43,.sl 2 (s.comms.map ComL.enc))::(2,.ref 66 g2 0)::(1,.ref 65 1 0)::(44,.int .i64 s.comms.length)::T,(67,some (g3,.cells [.vs 88 a0 B0.length,.vs 103 a1 B1.length,.vs 118 a2 o.length,.vs 133 a3 B3.length]))::(65,some (1,.cells s.enc))::(66,some (g2,.cells [dz,dz,dz,dz]))::(88,some (a0,.vec 1 (B0.map aX)))::(103,some (a1,.vec 1 (B1.map aX)))::(118,some (a2,.vec 1 (o.map aX)))::(133,some (a3,.vec 1 (B3.map aX)))::H,c⟩,[.cell 2 (some 4)],0⟩ R
 | [],done,o,a2,T,H,c,n,e,hn,hb,hO=>by
  have hd:=md0 e;rw[A9,Bs] at hO;subst hO;have m1:=ml s.pols Pol.enc;refine evA ?_;refine ab [60,3,58,2,59] [67,66,88,103,118,133] ?_;rw[m1];exact go _ _ _ _
 |x::r,done,o,a2,T,H,c,n,e,hn,hb,hO=>by
  have hd:=md e;have hll:=ml s.comms ComL.enc;have hx:=mx ComL.enc e hn;have hb0:(x::r).length=r.length+1:=rfl;have ih:=fun a2 T H c=>Ft s g2 g3 a0 a1 a3 B0 B1 B3 hl R O go r (done++[x]) (o++[x.name]) a2 T H c (n+1) (by simp[e]) (by simp[hn]) (by simp;omega) (by rw[←hO];simp)
  rw[List.map_append,Ar] at ih;refine evA ?_;refine ab [45,3,43,2,1,44] [67,65,66,88,103,118,133] ?_;exact ih _ _ _ _
theorem Fu (s:PSet)(g2 g3 a0 a2 a3:Nat)(B0 B2 B3:List NmL)(hl:s.paths.length<2^40)(R:Ret)(O:List NmL)
  (go: ∀(a1:Nat)(T:TV)(H:aw)(c:Nat),Ev G ⟨FT,⟨(45,.int .i64 0)::(3,.ref 67 g3 0)::(43,.sl 2 (s.comms.map ComL.enc))::(2,.ref 66 g2 0)::(1,.ref 65 1 0)::(44,.int .i64 s.comms.length)::T,(67,some (g3,.cells [.vs 88 a0 B0.length,.vs 103 a1 O.length,.vs 118 a2 B2.length,.vs 133 a3 B3.length]))::(65,some (1,.cells s.enc))::(66,some (g2,.cells [dz,dz,dz,dz]))::(88,some (a0,.vec 1 (B0.map aX)))::(103,some (a1,.vec 1 (O.map aX)))::(118,some (a2,.vec 1 (B2.map aX)))::(133,some (a3,.vec 1 (B3.map aX)))::H,c⟩,[.cell 2 (some 4)],0⟩ R): ∀(rest done:List PathL)(o:List NmL)(a1:Nat)(T:TV)(H:aw)(c:Nat)(n:Int)(e:s.paths=done++rest)(hn:n=done.length)(hb:o.length+rest.length<2^30)(hO:o++rest.map PathL.name=O),
  Ev G ⟨FU,⟨(30,.int .i64 n)::(3,.ref 67 g3 0)::(28,.sl 2 (s.paths.map PathL.enc))::(2,.ref 66 g2 0)::(1,.ref 65 1 0)::(29,.int .i64 s.paths.length)::T,(67,some (g3,.cells [.vs 88 a0 B0.length,.vs 103 a1 o.length,.vs 118 a2 B2.length,.vs 133 a3 B3.length]))::(65,some (1,.cells s.enc))::(66,some (g2,.cells [dz,dz,dz,dz]))::(88,some (a0,.vec 1 (B0.map aX)))::(103,some (a1,.vec 1 (o.map aX)))::(118,some (a2,.vec 1 (B2.map aX)))::(133,some (a3,.vec 1 (B3.map aX)))::H,c⟩,[.cell 2 (some 4)],0⟩ R
 | [],done,o,a1,T,H,c,n,e,hn,hb,hO=>by
  have hd:=md0 e;rw[A9,Bs] at hO;subst hO;have m1:=ml s.comms ComL.enc;refine evA ?_;refine ab [45,3,43,2,1,44] [67,65,66,88,103,118,133] ?_;rw[m1];exact go _ _ _ _
 |x::r,done,o,a1,T,H,c,n,e,hn,hb,hO=>by
  have hd:=md e;have hll:=ml s.paths PathL.enc;have hx:=mx PathL.enc e hn;have hb0:(x::r).length=r.length+1:=rfl;have ih:=fun a1 T H c=>Fu s g2 g3 a0 a2 a3 B0 B2 B3 hl R O go r (done++[x]) (o++[x.name]) a1 T H c (n+1) (by simp[e]) (by simp[hn]) (by simp;omega) (by rw[←hO];simp)
  rw[List.map_append,Ar] at ih;refine evA ?_;refine ab [30,3,28,2,1,29] [67,65,66,88,103,118,133] ?_;exact ih _ _ _ _
theorem Me (s:PSet)(g2 g3 a1 a2 a3:Nat)(B1 B2 B3:List NmL)(hl:s.prefixes.length<2^40)(R:Ret)(O:List NmL)
  (go: ∀(a0:Nat)(T:TV)(H:aw)(c:Nat),Ev G ⟨FU,⟨(30,.int .i64 0)::(3,.ref 67 g3 0)::(28,.sl 2 (s.paths.map PathL.enc))::(2,.ref 66 g2 0)::(1,.ref 65 1 0)::(29,.int .i64 s.paths.length)::T,(67,some (g3,.cells [.vs 88 a0 O.length,.vs 103 a1 B1.length,.vs 118 a2 B2.length,.vs 133 a3 B3.length]))::(65,some (1,.cells s.enc))::(66,some (g2,.cells [dz,dz,dz,dz]))::(88,some (a0,.vec 1 (O.map aX)))::(103,some (a1,.vec 1 (B1.map aX)))::(118,some (a2,.vec 1 (B2.map aX)))::(133,some (a3,.vec 1 (B3.map aX)))::H,c⟩,[.cell 2 (some 4)],0⟩ R): ∀(rest done:List PList)(o:List NmL)(a0:Nat)(T:TV)(H:aw)(c:Nat)(n:Int)(e:s.prefixes=done++rest)(hn:n=done.length)(hb:o.length+rest.length<2^30)(hO:o++rest.map PList.name=O),
  Ev G ⟨acT,⟨(15,.int .i64 n)::(3,.ref 67 g3 0)::(13,.sl 2 (s.prefixes.map PList.enc))::(2,.ref 66 g2 0)::(1,.ref 65 1 0)::(14,.int .i64 s.prefixes.length)::T,(67,some (g3,.cells [.vs 88 a0 o.length,.vs 103 a1 B1.length,.vs 118 a2 B2.length,.vs 133 a3 B3.length]))::(65,some (1,.cells s.enc))::(66,some (g2,.cells [dz,dz,dz,dz]))::(88,some (a0,.vec 1 (o.map aX)))::(103,some (a1,.vec 1 (B1.map aX)))::(118,some (a2,.vec 1 (B2.map aX)))::(133,some (a3,.vec 1 (B3.map aX)))::H,c⟩,[.cell 2 (some 4)],0⟩ R
 | [],done,o,a0,T,H,c,n,e,hn,hb,hO=>by
  have hd:=md0 e;rw[A9,Bs] at hO;subst hO;have m1:=ml s.paths PathL.enc;refine evA ?_;refine ab [30,3,28,2,1,29] [67,65,66,88,103,118,133] ?_;rw[m1];exact go _ _ _ _
 |x::r,done,o,a0,T,H,c,n,e,hn,hb,hO=>by
  have hd:=md e;have hll:=ml s.prefixes PList.enc;have hx:=mx PList.enc e hn;have hb0:(x::r).length=r.length+1:=rfl;have ih:=fun a0 T H c=>Me s g2 g3 a1 a2 a3 B1 B2 B3 hl R O go r (done++[x]) (o++[x.name]) a0 T H c (n+1) (by simp[e]) (by simp[hn]) (by simp;omega) (by rw[←hO];simp)
  rw[List.map_append,Ar] at ih;refine evA ?_;refine ab [15,3,13,2,1,14] [67,65,66,88,103,118,133] ?_;exact ih _ _ _ _
theorem Ma (s:PSet)(g:s.good)(h0:s.prefixes.length<2^30)(h1:s.paths.length<2^30)(h2:s.comms.length<2^30)(h3:s.pols.length<2^30):ah G 507 [.agg s.enc] [] ⟨.agg [.vs 0 0 (dK s).a.length,.vs 1 0 (dK s).b.length,.vs 2 0 (dK s).c.length,.vs 3 0 (dK s).d.length],[(false,.vec 1 ((dK s).a.map aX)),(false,.vec 1 ((dK s).b.map aX)),(false,.vec 1 ((dK s).c.map aX)),(false,.vec 1 ((dK s).d.map aX))]⟩:=by
 have m1:=ml s.prefixes PList.enc;refine gvB (F:=xm) ?_;refine lf 88 1 [] [(67,some (_,.cells [.vs 88 _ 0,dz,dz,dz]))] trivial ⟨⟨rfl,⟨LeP.nilV _ _ _,.refl _,.refl _,.refl _,trivial⟩⟩,trivial⟩ ?_;refine lf 103 1 [] [(67,some (_,.cells [.vs 88 _ 0,.vs 103 _ 0,dz,dz]))] trivial ⟨⟨rfl,⟨.refl _,LeP.nilV _ _ _,.refl _,.refl _,trivial⟩⟩,trivial⟩ ?_;refine lf 118 1 [] [(67,some (_,.cells [.vs 88 _ 0,.vs 103 _ 0,.vs 118 _ 0,dz]))] trivial ⟨⟨rfl,⟨.refl _,.refl _,LeP.nilV _ _ _,.refl _,trivial⟩⟩,trivial⟩ ?_;refine lf 133 1 [] [(67,some (_,.cells [.vs 88 _ 0,.vs 103 _ 0,.vs 118 _ 0,.vs 133 _ 0]))] trivial ⟨⟨rfl,⟨.refl _,.refl _,.refl _,LeP.nilV _ _ _,trivial⟩⟩,trivial⟩ ?_;refine ab [15,3,13,2,1,14] [67,65,66,88,103,118,133] ?_;rw[m1];refine Me s _ _ _ _ _ [] [] [] g.a _ (dK s).a (fun a0 T H c=>?_) s.prefixes [] [] _ _ _ _ 0 rfl rfl (by simpa using h0) (by simp[dK])
 refine Fu s _ _ _ _ _ (dK s).a [] [] g.b _ (dK s).b (fun a1 T H c=>?_) s.paths [] [] _ _ _ _ 0 rfl rfl (by simpa using h1) (by simp[dK])
 refine Ft s _ _ _ _ _ (dK s).a (dK s).b [] g.c _ (dK s).c (fun a2 T H c=>?_) s.comms [] [] _ _ _ _ 0 rfl rfl (by simpa using h2) (by simp[dK])
 exact Fq s _ _ _ _ _ (dK s).a (dK s).b (dK s).c g.d _ (dK s).d rfl s.pols [] [] _ _ _ _ 0 rfl rfl (by simpa using h3) (by simp[dK])
end Go.AM.IR
namespace Go.AM.IR
@[simp] theorem afV {α:Type}(g:α→List UInt8)(l:List α):aG (l.map (aX∘g))=true:=by rw[←List.map_map];exact vu _
theorem vm (r:RuleP)(h:r.ok):ah G 325 [.agg r.enc] [] ⟨.int .i64 (ruE r),[]⟩:=by
 have hv:ah G 178 [.agg [.int .u32 r.pfx.addr,.int .i64 r.pfx.len]] [] ⟨.bool (aW r.pfx),[]⟩:=dZ r.pfx h.1;unfold ruE;cases hvp:aW r.pfx
 ·rw[hvp] at hv
  rw[Ac (by simp)]
  exact gvA (F:=NX)
 ·rw[hvp] at hv
  rw[Ad rfl]
  by_cases h1:r.min<r.pfx.len∨r.max<r.min∨r.max>32
  ·rw[Ad h1]
   refine gvC (F:=NX) ?_
   repeat' (first|refine bc ?_|(refine ae ?_ ?_<;>intro h))
   all_goals try (exfalso;omega)
   all_goals (refine ag ?_;rfl)
  ·rw[Ac h1]
   refine gvC (F:=NX) ?_
   repeat' (first|refine bc ?_|(refine ae ?_ ?_<;>intro h))
   all_goals try (exfalso;omega)
   all_goals (refine ag ?_;rfl)
theorem Qw (s:List UInt8)(h:s.length<2^32):ah G 516 [.str s] [] (uO (nH s)):=by
 rw[←aeD];show (if s.length<2^32 then some (uO (qP s)) else none)=_
 rw[Ad h]
theorem afO (s:List UInt8)(h:s.length<2^32): ∃(k lo hi:Int)(l:List Rx),ah G 516 [.str s] [] ⟨.tup [.agg [.int .i64 k,.int .i64 lo,.int .i64 hi,.sl 4 (l.map Rx.enc)],.int .i64 (if (nH s).isSome then 0 else 2)],[]⟩:=by
 have h1:=Qw s (by omega)
 cases hq:nH s with
 |none=>
  rw[hq] at h1;refine ⟨0,0,0,[],?_⟩;have e:=bi 0 0 0 [];have h2:ah G 516 [.str s] [] ⟨.tup [.agg rx0.enc,.int .i64 2],[]⟩:=h1;unfold rx0 at h2;rw[e] at h2;exact h2
 |some x=>
  rw[hq] at h1;obtain ⟨k,lo,hi,l⟩:=x;refine ⟨k,lo,hi,l,?_⟩;have h2:ah G 516 [.str s] [] ⟨.tup [.agg (Rx.mk k lo hi l).enc,.int .i64 0],[]⟩:=h1;rw[bi] at h2;exact h2
def eaE {α:Type}(nm:α→List UInt8)(sz:α→Nat)(chk:α→Int):List α→List α→Int
 |_,[]=>0
 |d,x::r=>if jn (d.map nm) (nm x)=0 then (if 64<sz x then 4 else if chk x=0 then eaE nm sz chk (d++[x]) r else chk x) else jn (d.map nm) (nm x)
theorem Rc (l:List RuleP)(h: ∀r∈l,r.ok)(hl:l.length<2^40)(i:Nat)(x:RuleP)(hx:l[i]? =some x):ah G 512 [.int .i64 (i:Int),.ref 0 0 0] [.cells [.sl 5 (l.map RuleP.enc)]] ⟨.int .i64 (ruE x),[(true,.cells [.sl 5 (l.map RuleP.enc)])]⟩:=by
 have m1:=ml l RuleP.enc;have hx1:(l.map RuleP.enc)[((i:Nat):Int).toNat]? =some x.enc:=by simp[hx]
 have hi:i<l.length:=(Az.1 hx).1;have h1:=vm x (h x (A3 hx));generalize ruE x=E at*;refine gvB (F:=acQ) ?_;refine fX1 ?_;rfl
theorem zU (l:List RuleP)(h: ∀r∈l,r.ok)(hl:l.length<2^40): ∀(rest done:List RuleP)(T:TV)(H:aw)(c:Nat)(n:Int)(e:l=done++rest)(hn:n=done.length),
  Ev G ⟨xl,⟨(8,.int .i64 n)::(1,.fn 512 [.ref 0 0 0])::(7,.int .i64 l.length)::T,(0,some (0,.cells [.sl 5 (l.map RuleP.enc)]))::H,c⟩,[.t 4],1⟩ ⟨.int .i64 (ba ruE rest),[(true,.cells [.sl 5 (l.map RuleP.enc)])]⟩
 | [],done,T,H,c,n,e,hn=>by
  have hd:=md0 e;refine evA ?_;refine fX1 ?_;rfl
 |x::r,done,T,H,c,n,e,hn=>by
  have hd:=md e;have h1:=Rc l h hl done.length x (by simp[e])
  rw[←hn] at h1;have ih:=fun T H c=>zU l h hl r (done++[x]) T H c (n+1) (by simp[e]) (by simp[hn])
  rw[ba];generalize ruE x=E at*
  by_cases h0:E=0
  ·subst h0
   rw[Ad rfl];refine evl ?_
   repeat' (first|refine bc ?_|refine kX [(0,_,_)] [] ⟨rfl,trivial⟩ trivial (h1) ?_|(refine ae ?_ ?_<;>intro h))
   refine ab [8,1,7] [0] ?_;exact ih _ _ _
  ·rw[Ac h0]
   refine evl ?_
   repeat' (first|refine bc ?_|refine kX [(0,_,_)] [] ⟨rfl,trivial⟩ trivial (h1) ?_|(refine ae ?_ ?_<;>intro h))
   refine fX1 ?_;rfl
theorem Rk (l:List RuleP)(h: ∀r∈l,r.ok)(hl:l.length<2^40):ah G 511 [.int .i64 l.length,.fn 512 [.ref 0 0 0]] [.cells [.sl 5 (l.map RuleP.enc)]] ⟨.int .i64 (ba ruE l),[(true,.cells [.sl 5 (l.map RuleP.enc)])]⟩:=by
 refine gvB (F:=CX) ?_;refine ab [8,1,7] [0] ?_;exact zU l h hl l [] _ _ _ 0 rfl rfl
theorem Qp (s:PSet)(g:s.good)(i:Nat)(x:PList)(hx:s.prefixes[i]? =some x):ah G 509 [.int .i64 (i:Int),.ref 0 0 0] [.cells s.enc] ⟨.int .i64 x.rules.length,[(true,.cells s.enc)]⟩:=by
 have m1:=ml s.prefixes PList.enc;have m2:=ml x.rules RuleP.enc;have hx1:(s.prefixes.map PList.enc)[((i:Nat):Int).toNat]? =some x.enc:=by simp[hx]
 have hi:i<s.prefixes.length:=(Az.1 hx).1;have gl:=g.a;refine gvB (F:=acS) ?_;refine fX1 ?_;rw[m2];rfl
theorem RJ (s:PSet)(g:s.good)(i:Nat)(x:PList)(hx:s.prefixes[i]? =some x):ah G 510 [.int .i64 (i:Int),.ref 0 0 0] [.cells s.enc] ⟨.int .i64 (ba ruE x.rules),[(true,.cells s.enc)]⟩:=by
 have m1:=ml s.prefixes PList.enc;have m2:=ml x.rules RuleP.enc;have hx1:(s.prefixes.map PList.enc)[((i:Nat):Int).toNat]? =some x.enc:=by simp[hx]
 have hi:i<s.prefixes.length:=(Az.1 hx).1;have gl:=g.a;obtain ⟨q1,q2,q3⟩:=g.pre x (A3 hx);have h1:=Rk x.rules q3 q2;rw[←m2] at h1;generalize ba ruE x.rules=E at*;refine gvC (F:=acR) ?_
 repeat' (first|refine bc ?_|refine kX [(68,_,_)] [] ⟨rfl,trivial⟩ trivial (h1) ?_|(refine ae ?_ ?_<;>intro h))
 refine fX1 ?_;rfl
theorem Rb (l:List PathR)(h: ∀r∈l,r.pattern.length<2^32)(hl:l.length<2^40)(i:Nat)(x:PathR)(hx:l[i]? =some x):ah G 515 [.int .i64 (i:Int),.ref 0 0 0] [.cells [.sl 2 (l.map PathR.enc)]] ⟨.int .i64 (paE x),[(true,.cells [.sl 2 (l.map PathR.enc)])]⟩:=by
 have m1:=ml l PathR.enc;have hx1:(l.map PathR.enc)[((i:Nat):Int).toNat]? =some x.enc:=by simp[hx]
 have hi:i<l.length:=(Az.1 hx).1;obtain ⟨k0,lo0,hi0,l0,h1⟩:=afO x.pattern (h x (A3 hx))
 change ah G 516 [.str x.pattern] [] ⟨.tup [_,.int .i64 (paE x)],[]⟩ at h1
 generalize paE x=E at*;refine gvB (F:=acN) ?_;refine fX1 ?_;rfl
theorem zT (l:List PathR)(h: ∀r∈l,r.pattern.length<2^32)(hl:l.length<2^40): ∀(rest done:List PathR)(T:TV)(H:aw)(c:Nat)(n:Int)(e:l=done++rest)(hn:n=done.length),
  Ev G ⟨xl,⟨(8,.int .i64 n)::(1,.fn 515 [.ref 0 0 0])::(7,.int .i64 l.length)::T,(0,some (0,.cells [.sl 2 (l.map PathR.enc)]))::H,c⟩,[.t 4],1⟩ ⟨.int .i64 (ba paE rest),[(true,.cells [.sl 2 (l.map PathR.enc)])]⟩
 | [],done,T,H,c,n,e,hn=>by
  have hd:=md0 e;refine evA ?_;refine fX1 ?_;rfl
 |x::r,done,T,H,c,n,e,hn=>by
  have hd:=md e;have h1:=Rb l h hl done.length x (by simp[e])
  rw[←hn] at h1;have ih:=fun T H c=>zT l h hl r (done++[x]) T H c (n+1) (by simp[e]) (by simp[hn])
  rw[ba];generalize paE x=E at*
  by_cases h0:E=0
  ·subst h0
   rw[Ad rfl];refine evl ?_
   repeat' (first|refine bc ?_|refine kX [(0,_,_)] [] ⟨rfl,trivial⟩ trivial (h1) ?_|(refine ae ?_ ?_<;>intro h))
   refine ab [8,1,7] [0] ?_;exact ih _ _ _
  ·rw[Ac h0]
   refine evl ?_
   repeat' (first|refine bc ?_|refine kX [(0,_,_)] [] ⟨rfl,trivial⟩ trivial (h1) ?_|(refine ae ?_ ?_<;>intro h))
   refine fX1 ?_;rfl
theorem Rj (l:List PathR)(h: ∀r∈l,r.pattern.length<2^32)(hl:l.length<2^40):ah G 511 [.int .i64 l.length,.fn 515 [.ref 0 0 0]] [.cells [.sl 2 (l.map PathR.enc)]] ⟨.int .i64 (ba paE l),[(true,.cells [.sl 2 (l.map PathR.enc)])]⟩:=by
 refine gvB (F:=CX) ?_;refine ab [8,1,7] [0] ?_;exact zT l h hl l [] _ _ _ 0 rfl rfl
theorem Qn (s:PSet)(g:s.good)(i:Nat)(x:PathL)(hx:s.paths[i]? =some x):ah G 513 [.int .i64 (i:Int),.ref 0 0 0] [.cells s.enc] ⟨.int .i64 x.rules.length,[(true,.cells s.enc)]⟩:=by
 have m1:=ml s.paths PathL.enc;have m2:=ml x.rules PathR.enc;have hx1:(s.paths.map PathL.enc)[((i:Nat):Int).toNat]? =some x.enc:=by simp[hx]
 have hi:i<s.paths.length:=(Az.1 hx).1;have gl:=g.b;refine gvB (F:=acP) ?_;refine fX1 ?_;rw[m2];rfl
theorem RI (s:PSet)(g:s.good)(i:Nat)(x:PathL)(hx:s.paths[i]? =some x):ah G 514 [.int .i64 (i:Int),.ref 0 0 0] [.cells s.enc] ⟨.int .i64 (ba paE x.rules),[(true,.cells s.enc)]⟩:=by
 have m1:=ml s.paths PathL.enc;have m2:=ml x.rules PathR.enc;have hx1:(s.paths.map PathL.enc)[((i:Nat):Int).toNat]? =some x.enc:=by simp[hx]
 have hi:i<s.paths.length:=(Az.1 hx).1;have gl:=g.b;obtain ⟨q1,q2,q3⟩:=g.pat x (A3 hx);have h1:=Rj x.rules q3 q2;rw[←m2] at h1;generalize ba paE x.rules=E at*;refine gvC (F:=acO) ?_
 repeat' (first|refine bc ?_|refine kX [(68,_,_)] [] ⟨rfl,trivial⟩ trivial (h1) ?_|(refine ae ?_ ?_<;>intro h))
 refine fX1 ?_;rfl
theorem Ra (l:List ComR)(h: ∀r∈l,True)(hl:l.length<2^40)(i:Nat)(x:ComR)(hx:l[i]? =some x):ah G 519 [.int .i64 (i:Int),.ref 0 0 0] [.cells [.sl 3 (l.map ComR.enc)]] ⟨.int .i64 (cy x),[(true,.cells [.sl 3 (l.map ComR.enc)])]⟩:=by
 have m1:=ml l ComR.enc;have hx1:(l.map ComR.enc)[((i:Nat):Int).toNat]? =some x.enc:=by simp[hx]
 have hi:i<l.length:=(Az.1 hx).1;have h1:=Ou x;generalize cy x=E at*;refine gvB (F:=acK) ?_;refine fX1 ?_;rfl
theorem zP (l:List ComR)(h: ∀r∈l,True)(hl:l.length<2^40): ∀(rest done:List ComR)(T:TV)(H:aw)(c:Nat)(n:Int)(e:l=done++rest)(hn:n=done.length),
  Ev G ⟨xl,⟨(8,.int .i64 n)::(1,.fn 519 [.ref 0 0 0])::(7,.int .i64 l.length)::T,(0,some (0,.cells [.sl 3 (l.map ComR.enc)]))::H,c⟩,[.t 4],1⟩ ⟨.int .i64 (ba cy rest),[(true,.cells [.sl 3 (l.map ComR.enc)])]⟩
 | [],done,T,H,c,n,e,hn=>by
  have hd:=md0 e;refine evA ?_;refine fX1 ?_;rfl
 |x::r,done,T,H,c,n,e,hn=>by
  have hd:=md e;have h1:=Ra l h hl done.length x (by simp[e])
  rw[←hn] at h1;have ih:=fun T H c=>zP l h hl r (done++[x]) T H c (n+1) (by simp[e]) (by simp[hn])
  rw[ba];generalize cy x=E at*
  by_cases h0:E=0
  ·subst h0
   rw[Ad rfl];refine evl ?_
   repeat' (first|refine bc ?_|refine kX [(0,_,_)] [] ⟨rfl,trivial⟩ trivial (h1) ?_|(refine ae ?_ ?_<;>intro h))
   refine ab [8,1,7] [0] ?_;exact ih _ _ _
  ·rw[Ac h0]
   refine evl ?_
   repeat' (first|refine bc ?_|refine kX [(0,_,_)] [] ⟨rfl,trivial⟩ trivial (h1) ?_|(refine ae ?_ ?_<;>intro h))
   refine fX1 ?_;rfl
theorem Ri (l:List ComR)(h: ∀r∈l,True)(hl:l.length<2^40):ah G 511 [.int .i64 l.length,.fn 519 [.ref 0 0 0]] [.cells [.sl 3 (l.map ComR.enc)]] ⟨.int .i64 (ba cy l),[(true,.cells [.sl 3 (l.map ComR.enc)])]⟩:=by
 refine gvB (F:=CX) ?_;refine ab [8,1,7] [0] ?_;exact zP l h hl l [] _ _ _ 0 rfl rfl
theorem Qm (s:PSet)(g:s.good)(i:Nat)(x:ComL)(hx:s.comms[i]? =some x):ah G 517 [.int .i64 (i:Int),.ref 0 0 0] [.cells s.enc] ⟨.int .i64 x.rules.length,[(true,.cells s.enc)]⟩:=by
 have m1:=ml s.comms ComL.enc;have m2:=ml x.rules ComR.enc;have hx1:(s.comms.map ComL.enc)[((i:Nat):Int).toNat]? =some x.enc:=by simp[hx]
 have hi:i<s.comms.length:=(Az.1 hx).1;have gl:=g.c;refine gvB (F:=acM) ?_;refine fX1 ?_;rw[m2];rfl
theorem RH (s:PSet)(g:s.good)(i:Nat)(x:ComL)(hx:s.comms[i]? =some x):ah G 518 [.int .i64 (i:Int),.ref 0 0 0] [.cells s.enc] ⟨.int .i64 (ba cy x.rules),[(true,.cells s.enc)]⟩:=by
 have m1:=ml s.comms ComL.enc;have m2:=ml x.rules ComR.enc;have hx1:(s.comms.map ComL.enc)[((i:Nat):Int).toNat]? =some x.enc:=by simp[hx]
 have hi:i<s.comms.length:=(Az.1 hx).1;have gl:=g.c;obtain ⟨q1,q2,q3⟩:=g.com x (A3 hx);have h1:=Ri x.rules (fun _ _=>trivial) q2
 rw[←m2] at h1;generalize ba cy x.rules=E at*;refine gvC (F:=acL) ?_
 repeat' (first|refine bc ?_|refine kX [(68,_,_)] [] ⟨rfl,trivial⟩ trivial (h1) ?_|(refine ae ?_ ?_<;>intro h))
 refine fX1 ?_;rfl
theorem Ax (s:PSet)(g:s.good): ∀(rest done:List PList)(T:TV)(H:aw)(c:Nat)(n:Int)(e:s.prefixes=done++rest)(hn:n=done.length),
  Ev G ⟨qh,⟨(16,.int .i64 n)::(2,.fn 510 [.ref 0 0 0])::(1,.fn 509 [.ref 0 0 0])::(0,.sl 1 ((s.prefixes.map PList.name).map aX))::(14,.sl 1 ((s.prefixes.map PList.name).map aX))::(15,.int .i64 s.prefixes.length)::T,(0,some (0,.cells s.enc))::H,c⟩,[.t 6],1⟩ ⟨.int .i64 (eaE PList.name (fun x:PList=>x.rules.length) (fun x=>ba ruE x.rules) done rest),[(true,.cells s.enc)]⟩
 | [],done,T,H,c,n,e,hn=>by
  have hd:=md0 e;refine evA ?_;refine fX1 ?_;rfl
 |x::r,done,T,H,c,n,e,hn=>by
  have hd:=md e;have gl:=g.a;have m1:((s.prefixes.map PList.name).map aX).length=s.prefixes.length:=by simp
  have hx:((s.prefixes.map PList.name).map aX)[n.toNat]? =some [.str x.name]:=by simp[e,hn,aX]
  obtain ⟨q1,q2,q3⟩:=g.pre x (by simp[e])
  have h2:ah G 577 [.sl 1 (List.take (n.toNat-0) (List.drop 0 ((s.prefixes.map PList.name).map aX))),.str x.name] [] ⟨.int .i64 (jn (done.map PList.name) x.name),[]⟩:=by
   have h:=kH (done.map PList.name) x.name q1 (by simp;omega)
   have q:List.take (n.toNat-0) (List.drop 0 ((s.prefixes.map PList.name).map aX))=(done.map PList.name).map aX:=by
    rw[e,hn];simp
   rw[q];exact h
  have h3:=Qp s g done.length x (by simp[e])
  have h4:=RJ s g done.length x (by simp[e])
  rw[←hn] at h3 h4;have ih:=fun T H c=>Ax s g r (done++[x]) T H c (n+1) (by simp[e]) (by simp[hn])
  rw[eaE];generalize jn (done.map PList.name) x.name=A at*
  by_cases a:A=0
  ·subst a
   rw[Ad rfl]
   by_cases b:64<x.rules.length
   ·rw[Ad b]
    refine evl ?_
    repeat' (first|refine bc ?_|refine kX [(0,_,_)] [] ⟨rfl,trivial⟩ trivial (h3) ?_|(refine ae ?_ ?_<;>intro h))
    refine fX1 ?_;rfl
   ·rw[Ac b]
    generalize ba ruE x.rules=E at*
    by_cases h0:E=0
    ·subst h0
     rw[Ad rfl];refine evl ?_
     repeat' (first|refine bc ?_|refine kX [(0,_,_)] [] ⟨rfl,trivial⟩ trivial (h3) ?_|refine kX [(0,_,_)] [] ⟨rfl,trivial⟩ trivial (h4) ?_|(refine ae ?_ ?_<;>intro h))
     refine ab [16,2,1,0,14,15] [0] ?_;exact ih _ _ _
    ·rw[Ac h0]
     refine evl ?_
     repeat' (first|refine bc ?_|refine kX [(0,_,_)] [] ⟨rfl,trivial⟩ trivial (h3) ?_|refine kX [(0,_,_)] [] ⟨rfl,trivial⟩ trivial (h4) ?_|(refine ae ?_ ?_<;>intro h))
     refine fX1 ?_;rfl
  ·rw[Ac a]
   refine evA ?_;refine fX1 ?_;rfl
theorem RB (s:PSet)(g:s.good):ah G 508 [.sl 1 ((s.prefixes.map PList.name).map aX),.fn 509 [.ref 0 0 0],.fn 510 [.ref 0 0 0]] [.cells s.enc] ⟨.int .i64 (if 64<s.prefixes.length then 4 else eaE PList.name (fun x:PList=>x.rules.length) (fun x=>ba ruE x.rules) [] s.prefixes),[(true,.cells s.enc)]⟩:=by
 have gl:=g.a;have m1:((s.prefixes.map PList.name).map aX).length=s.prefixes.length:=by simp
 by_cases c:64<s.prefixes.length
 ·rw[Ad c]
  refine gvB (F:=oX) ?_;refine fX1 ?_;rfl
 ·rw[Ac c]
  refine gvB (F:=oX) ?_;refine ab [16,2,1,0,14,15] [0] ?_;rw[m1];exact Ax s g s.prefixes [] _ _ _ 0 rfl rfl
theorem Aw (s:PSet)(g:s.good): ∀(rest done:List PathL)(T:TV)(H:aw)(c:Nat)(n:Int)(e:s.paths=done++rest)(hn:n=done.length),
  Ev G ⟨qh,⟨(16,.int .i64 n)::(2,.fn 514 [.ref 0 0 0])::(1,.fn 513 [.ref 0 0 0])::(0,.sl 1 ((s.paths.map PathL.name).map aX))::(14,.sl 1 ((s.paths.map PathL.name).map aX))::(15,.int .i64 s.paths.length)::T,(0,some (0,.cells s.enc))::H,c⟩,[.t 6],1⟩ ⟨.int .i64 (eaE PathL.name (fun x:PathL=>x.rules.length) (fun x=>ba paE x.rules) done rest),[(true,.cells s.enc)]⟩
 | [],done,T,H,c,n,e,hn=>by
  have hd:=md0 e;refine evA ?_;refine fX1 ?_;rfl
 |x::r,done,T,H,c,n,e,hn=>by
  have hd:=md e;have gl:=g.b;have m1:((s.paths.map PathL.name).map aX).length=s.paths.length:=by simp
  have hx:((s.paths.map PathL.name).map aX)[n.toNat]? =some [.str x.name]:=by simp[e,hn,aX]
  obtain ⟨q1,q2,q3⟩:=g.pat x (by simp[e])
  have h2:ah G 577 [.sl 1 (List.take (n.toNat-0) (List.drop 0 ((s.paths.map PathL.name).map aX))),.str x.name] [] ⟨.int .i64 (jn (done.map PathL.name) x.name),[]⟩:=by
   have h:=kH (done.map PathL.name) x.name q1 (by simp;omega)
   have q:List.take (n.toNat-0) (List.drop 0 ((s.paths.map PathL.name).map aX))=(done.map PathL.name).map aX:=by
    rw[e,hn];simp
   rw[q];exact h
  have h3:=Qn s g done.length x (by simp[e])
  have h4:=RI s g done.length x (by simp[e])
  rw[←hn] at h3 h4;have ih:=fun T H c=>Aw s g r (done++[x]) T H c (n+1) (by simp[e]) (by simp[hn])
  rw[eaE];generalize jn (done.map PathL.name) x.name=A at*
  by_cases a:A=0
  ·subst a
   rw[Ad rfl]
   by_cases b:64<x.rules.length
   ·rw[Ad b]
    refine evl ?_
    repeat' (first|refine bc ?_|refine kX [(0,_,_)] [] ⟨rfl,trivial⟩ trivial (h3) ?_|(refine ae ?_ ?_<;>intro h))
    refine fX1 ?_;rfl
   ·rw[Ac b]
    generalize ba paE x.rules=E at*
    by_cases h0:E=0
    ·subst h0
     rw[Ad rfl];refine evl ?_
     repeat' (first|refine bc ?_|refine kX [(0,_,_)] [] ⟨rfl,trivial⟩ trivial (h3) ?_|refine kX [(0,_,_)] [] ⟨rfl,trivial⟩ trivial (h4) ?_|(refine ae ?_ ?_<;>intro h))
     refine ab [16,2,1,0,14,15] [0] ?_;exact ih _ _ _
    ·rw[Ac h0]
     refine evl ?_
     repeat' (first|refine bc ?_|refine kX [(0,_,_)] [] ⟨rfl,trivial⟩ trivial (h3) ?_|refine kX [(0,_,_)] [] ⟨rfl,trivial⟩ trivial (h4) ?_|(refine ae ?_ ?_<;>intro h))
     refine fX1 ?_;rfl
  ·rw[Ac a]
   refine evA ?_;refine fX1 ?_;rfl
theorem RA (s:PSet)(g:s.good):ah G 508 [.sl 1 ((s.paths.map PathL.name).map aX),.fn 513 [.ref 0 0 0],.fn 514 [.ref 0 0 0]] [.cells s.enc] ⟨.int .i64 (if 64<s.paths.length then 4 else eaE PathL.name (fun x:PathL=>x.rules.length) (fun x=>ba paE x.rules) [] s.paths),[(true,.cells s.enc)]⟩:=by
 have gl:=g.b;have m1:((s.paths.map PathL.name).map aX).length=s.paths.length:=by simp
 by_cases c:64<s.paths.length
 ·rw[Ad c]
  refine gvB (F:=oX) ?_;refine fX1 ?_;rfl
 ·rw[Ac c]
  refine gvB (F:=oX) ?_;refine ab [16,2,1,0,14,15] [0] ?_;rw[m1];exact Aw s g s.paths [] _ _ _ 0 rfl rfl
theorem Au (s:PSet)(g:s.good): ∀(rest done:List ComL)(T:TV)(H:aw)(c:Nat)(n:Int)(e:s.comms=done++rest)(hn:n=done.length),
  Ev G ⟨qh,⟨(16,.int .i64 n)::(2,.fn 518 [.ref 0 0 0])::(1,.fn 517 [.ref 0 0 0])::(0,.sl 1 ((s.comms.map ComL.name).map aX))::(14,.sl 1 ((s.comms.map ComL.name).map aX))::(15,.int .i64 s.comms.length)::T,(0,some (0,.cells s.enc))::H,c⟩,[.t 6],1⟩ ⟨.int .i64 (eaE ComL.name (fun x:ComL=>x.rules.length) (fun x=>ba cy x.rules) done rest),[(true,.cells s.enc)]⟩
 | [],done,T,H,c,n,e,hn=>by
  have hd:=md0 e;refine evA ?_;refine fX1 ?_;rfl
 |x::r,done,T,H,c,n,e,hn=>by
  have hd:=md e;have gl:=g.c;have m1:((s.comms.map ComL.name).map aX).length=s.comms.length:=by simp
  have hx:((s.comms.map ComL.name).map aX)[n.toNat]? =some [.str x.name]:=by simp[e,hn,aX]
  obtain ⟨q1,q2,q3⟩:=g.com x (by simp[e])
  have h2:ah G 577 [.sl 1 (List.take (n.toNat-0) (List.drop 0 ((s.comms.map ComL.name).map aX))),.str x.name] [] ⟨.int .i64 (jn (done.map ComL.name) x.name),[]⟩:=by
   have h:=kH (done.map ComL.name) x.name q1 (by simp;omega)
   have q:List.take (n.toNat-0) (List.drop 0 ((s.comms.map ComL.name).map aX))=(done.map ComL.name).map aX:=by
    rw[e,hn];simp
   rw[q];exact h
  have h3:=Qm s g done.length x (by simp[e])
  have h4:=RH s g done.length x (by simp[e])
  rw[←hn] at h3 h4;have ih:=fun T H c=>Au s g r (done++[x]) T H c (n+1) (by simp[e]) (by simp[hn])
  rw[eaE];generalize jn (done.map ComL.name) x.name=A at*
  by_cases a:A=0
  ·subst a
   rw[Ad rfl]
   by_cases b:64<x.rules.length
   ·rw[Ad b]
    refine evl ?_
    repeat' (first|refine bc ?_|refine kX [(0,_,_)] [] ⟨rfl,trivial⟩ trivial (h3) ?_|(refine ae ?_ ?_<;>intro h))
    refine fX1 ?_;rfl
   ·rw[Ac b]
    generalize ba cy x.rules=E at*
    by_cases h0:E=0
    ·subst h0
     rw[Ad rfl];refine evl ?_
     repeat' (first|refine bc ?_|refine kX [(0,_,_)] [] ⟨rfl,trivial⟩ trivial (h3) ?_|refine kX [(0,_,_)] [] ⟨rfl,trivial⟩ trivial (h4) ?_|(refine ae ?_ ?_<;>intro h))
     refine ab [16,2,1,0,14,15] [0] ?_;exact ih _ _ _
    ·rw[Ac h0]
     refine evl ?_
     repeat' (first|refine bc ?_|refine kX [(0,_,_)] [] ⟨rfl,trivial⟩ trivial (h3) ?_|refine kX [(0,_,_)] [] ⟨rfl,trivial⟩ trivial (h4) ?_|(refine ae ?_ ?_<;>intro h))
     refine fX1 ?_;rfl
  ·rw[Ac a]
   refine evA ?_;refine fX1 ?_;rfl
theorem Ry (s:PSet)(g:s.good):ah G 508 [.sl 1 ((s.comms.map ComL.name).map aX),.fn 517 [.ref 0 0 0],.fn 518 [.ref 0 0 0]] [.cells s.enc] ⟨.int .i64 (if 64<s.comms.length then 4 else eaE ComL.name (fun x:ComL=>x.rules.length) (fun x=>ba cy x.rules) [] s.comms),[(true,.cells s.enc)]⟩:=by
 have gl:=g.c;have m1:((s.comms.map ComL.name).map aX).length=s.comms.length:=by simp
 by_cases c:64<s.comms.length
 ·rw[Ad c]
  refine gvB (F:=oX) ?_;refine fX1 ?_;rfl
 ·rw[Ac c]
  refine gvB (F:=oX) ?_;refine ab [16,2,1,0,14,15] [0] ?_;rw[m1];exact Au s g s.comms [] _ _ _ 0 rfl rfl
end Go.AM.IR
namespace Go.AM.IR
theorem Ql (s:PSet)(g:s.good)(i:Nat)(x:Pol)(hx:s.pols[i]? =some x):ah G 521 [.int .i64 (i:Int),.ref 0 0 0] [.cells s.enc] ⟨.int .i64 x.terms.length,[(true,.cells s.enc)]⟩:=by
 have m1:=ml s.pols Pol.enc;have m2:=ml x.terms Trm.enc;have hx1:(s.pols.map Pol.enc)[((i:Nat):Int).toNat]? =some x.enc:=by simp[hx]
 have hi:i<s.pols.length:=(Az.1 hx).1;have gl:=g.d;refine gvB (F:=acJ) ?_;refine fX1 ?_;rw[m2];rfl
theorem RF (k:Kn)(hf:k.fit)(s:PSet)(g:s.good)(i:Nat)(x:Pol)(hx:s.pols[i]? =some x):ah G 522 [.int .i64 (i:Int),.ref 0 0 0,.ref 1 0 0] [.cells k.enc,.cells s.enc] ⟨.int .i64 (plE k x),[(true,.cells k.enc),(true,.cells s.enc)]⟩:=by
 have m1:=ml s.pols Pol.enc;have hx1:(s.pols.map Pol.enc)[((i:Nat):Int).toNat]? =some x.enc:=by simp[hx]
 have hi:i<s.pols.length:=(Az.1 hx).1;have gl:=g.d;obtain ⟨q1,q2,q3⟩:=g.pol x (A3 hx);have h1:=QE k hf x q2 q3;generalize plE k x=E at*;refine gvB (F:=acI) ?_
 (conv=>whnf);first|refine nV [(0,_,_),(1,_,_)] [] [true,true] ?_|refine nW [(0,_,_),(1,_,_)] [] [true,true] ?_
 rfl
theorem Aq (k:Kn)(hf:k.fit)(s:PSet)(g:s.good): ∀(rest done:List Pol)(T:TV)(H:aw)(c:Nat)(n:Int)(e:s.pols=done++rest)(hn:n=done.length),
  Ev G ⟨qh,⟨(16,.int .i64 n)::(2,.fn 522 [.ref 0 0 0,.ref 1 0 0])::(1,.fn 521 [.ref 1 0 0])::(0,.sl 1 ((s.pols.map Pol.name).map aX))::(14,.sl 1 ((s.pols.map Pol.name).map aX))::(15,.int .i64 s.pols.length)::T,(0,some (0,.cells k.enc))::(1,some (0,.cells s.enc))::H,c⟩,[.t 6],2⟩ ⟨.int .i64 (eaE Pol.name (fun x:Pol=>x.terms.length) (plE k) done rest),[(true,.cells k.enc),(true,.cells s.enc)]⟩
 | [],done,T,H,c,n,e,hn=>by
  have hd:=md0 e;refine evA ?_
  (conv=>whnf);first|refine nV [(0,_,_),(1,_,_)] [] [true,true] ?_|refine nW [(0,_,_),(1,_,_)] [] [true,true] ?_
  rfl
 |x::r,done,T,H,c,n,e,hn=>by
  have hd:=md e;have gl:=g.d;have m1:((s.pols.map Pol.name).map aX).length=s.pols.length:=by simp
  have hx:((s.pols.map Pol.name).map aX)[n.toNat]? =some [.str x.name]:=by simp[e,hn,aX]
  obtain ⟨q1,q2,q3⟩:=g.pol x (by simp[e])
  have h2:ah G 577 [.sl 1 (List.take (n.toNat-0) (List.drop 0 ((s.pols.map Pol.name).map aX))),.str x.name] [] ⟨.int .i64 (jn (done.map Pol.name) x.name),[]⟩:=by
   have h:=kH (done.map Pol.name) x.name q1 (by simp;omega)
   have q:List.take (n.toNat-0) (List.drop 0 ((s.pols.map Pol.name).map aX))=(done.map Pol.name).map aX:=by
    rw[e,hn];simp
   rw[q];exact h
  have h3:=Ql s g done.length x (by simp[e])
  have h4:=RF k hf s g done.length x (by simp[e])
  rw[←hn] at h3 h4;have ih:=fun T H c=>Aq k hf s g r (done++[x]) T H c (n+1) (by simp[e]) (by simp[hn])
  rw[eaE];generalize jn (done.map Pol.name) x.name=A at*
  by_cases a:A=0
  ·subst a
   rw[Ad rfl]
   by_cases b:64<x.terms.length
   ·rw[Ad b]
    refine evl ?_
    repeat' (first|refine bc ?_|refine kX [(1,_,_)] [] ⟨rfl,trivial⟩ trivial (h3) ?_|(refine ae ?_ ?_<;>intro h))
    (conv=>whnf);first|refine nV [(0,_,_),(1,_,_)] [] [true,true] ?_|refine nW [(0,_,_),(1,_,_)] [] [true,true] ?_
    rfl
   ·rw[Ac b]
    generalize plE k x=E at*
    by_cases h0:E=0
    ·subst h0
     rw[Ad rfl];refine evl ?_
     repeat' (first|refine bc ?_|refine kX [(1,_,_)] [] ⟨rfl,trivial⟩ trivial (h3) ?_|refine kX [(0,_,_),(1,_,_)] [] ⟨rfl,rfl,trivial⟩ trivial (h4) ?_|(refine ae ?_ ?_<;>intro h))
     refine ab [16,2,1,0,14,15] [0,1] ?_;exact ih _ _ _
    ·rw[Ac h0]
     refine evl ?_
     repeat' (first|refine bc ?_|refine kX [(1,_,_)] [] ⟨rfl,trivial⟩ trivial (h3) ?_|refine kX [(0,_,_),(1,_,_)] [] ⟨rfl,rfl,trivial⟩ trivial (h4) ?_|(refine ae ?_ ?_<;>intro h))
     (conv=>whnf);first|refine nV [(0,_,_),(1,_,_)] [] [true,true] ?_|refine nW [(0,_,_),(1,_,_)] [] [true,true] ?_
     rfl
  ·rw[Ac a]
   refine evA ?_
   (conv=>whnf);first|refine nV [(0,_,_),(1,_,_)] [] [true,true] ?_|refine nW [(0,_,_),(1,_,_)] [] [true,true] ?_
   rfl
theorem Ru (k:Kn)(hf:k.fit)(s:PSet)(g:s.good):ah G 508 [.sl 1 ((s.pols.map Pol.name).map aX),.fn 521 [.ref 1 0 0],.fn 522 [.ref 0 0 0,.ref 1 0 0]] [.cells k.enc,.cells s.enc] ⟨.int .i64 (if 64<s.pols.length then 4 else eaE Pol.name (fun x:Pol=>x.terms.length) (plE k) [] s.pols),[(true,.cells k.enc),(true,.cells s.enc)]⟩:=by
 have gl:=g.d;have m1:((s.pols.map Pol.name).map aX).length=s.pols.length:=by simp
 by_cases c:64<s.pols.length
 ·rw[Ad c]
  refine gvB (F:=oX) ?_
  (conv=>whnf);first|refine nV [(0,_,_),(1,_,_)] [] [true,true] ?_|refine nW [(0,_,_),(1,_,_)] [] [true,true] ?_
  rfl
 ·rw[Ac c]
  refine gvB (F:=oX) ?_;refine ab [16,2,1,0,14,15] [0,1] ?_;rw[m1];exact Aq k hf s g s.pols [] _ _ _ 0 rfl rfl
end Go.AM.IR
namespace Go.AM.IR
theorem Qf:aW ⟨0,0⟩=true:=by rfl
theorem EY: ∀(l:List PList)(k:List UInt8),(ni l k=none↔fE (l.map PList.name) k=false)
 | [],k=>by simp[ni,fE]
 |x::r,k=>by
  have ih:=EY r k
  by_cases h:x.name=k
  ·simp[ni,fE,h]
  ·simp only[ni,Ac h,ih];simp[fE,h]
theorem Ff: ∀(l:List PathL)(k:List UInt8),(nj l k=none↔fE (l.map PathL.name) k=false)
 | [],k=>by simp[nj,fE]
 |x::r,k=>by
  have ih:=Ff r k
  by_cases h:x.name=k
  ·simp[nj,fE,h]
  ·simp only[nj,Ac h,ih];simp[fE,h]
theorem Ic: ∀(l:List ComL)(k:List UInt8),(nv l k=none↔fE (l.map ComL.name) k=false)
 | [],k=>by simp[nv,fE]
 |x::r,k=>by
  have ih:=Ic r k
  by_cases h:x.name=k
  ·simp[nv,fE,h]
  ·simp only[nv,Ac h,ih];simp[fE,h]
theorem ae6 (s:PSet)(m:Mat):mtE (dK s) m=rJ s m:=by
 have p1:=EY s.prefixes m.name;have p2:=Ff s.paths m.name;have p3:=Ic s.comms m.name;obtain ⟨kind,name,n,⟨pa,pl⟩,neg⟩:=m;dsimp only at p1 p2 p3;have hz:=Qf;unfold mtE rJ dK;dsimp only
 by_cases k1:kind=1
 ·subst k1
  simp (decide:=true) only[if_true,if_false,reduceIte];unfold mtN rN;dsimp only
  by_cases c:n=0∧pa=0∧pl=0
  ·obtain ⟨rfl,rfl,rfl⟩:=c
   simp only[p1];cases fE (s.prefixes.map PList.name) name<;>simp[hz]
  ·rw[Ac c]
   (repeat' split)<;>first|rfl|(exfalso;(try simp only[ne_eq,AD] at*);omega)
 by_cases k2:kind=2
 ·subst k2
  simp (decide:=true) only[if_true,if_false,reduceIte];unfold mtN rM;dsimp only
  by_cases c:n=0∧pa=0∧pl=0
  ·obtain ⟨rfl,rfl,rfl⟩:=c
   simp only[p2];cases fE (s.paths.map PathL.name) name<;>simp[hz]
  ·rw[Ac c]
   (repeat' split)<;>first|rfl|(exfalso;(try simp only[ne_eq,AD] at*);omega)
 by_cases k3:kind=3
 ·subst k3
  simp (decide:=true) only[if_true,if_false,reduceIte];unfold mtN rK;dsimp only
  by_cases c:n=0∧pa=0∧pl=0
  ·obtain ⟨rfl,rfl,rfl⟩:=c
   simp only[p3];cases fE (s.comms.map ComL.name) name<;>simp[hz]
  ·rw[Ac c]
   (repeat' split)<;>first|rfl|(exfalso;(try simp only[ne_eq,AD] at*);omega)
 by_cases k7:kind=7
 ·subst k7
  simp (decide:=true) only[if_true,if_false,reduceIte];unfold mtH wC;dsimp only
  by_cases c:name= []
  ·by_cases d:n=0
   ·simp only[c,d]
    cases aW ⟨pa,pl⟩<;>simp
   ·simp[c,d]
  ·simp[c]
 by_cases k4:kind=4
 ·subst k4
  simp (decide:=true) only[if_true,if_false,reduceIte];unfold mtR qy;dsimp only
  by_cases c:name= []∧pa=0∧pl=0
  ·obtain ⟨rfl,rfl,rfl⟩:=c
   simp only[hz]
   (repeat' split)<;>first|rfl|(exfalso;simp_all;done)|(exfalso;simp_all;omega)
  ·rw[Ac c]
   (repeat' split)<;>first|rfl|(exfalso;simp_all;done)|(exfalso;simp_all;omega)
 by_cases k6:kind=6
 ·subst k6
  simp (decide:=true) only[if_true,if_false,reduceIte];unfold mtR qw;dsimp only
  by_cases c:name= []∧pa=0∧pl=0
  ·obtain ⟨rfl,rfl,rfl⟩:=c
   simp only[hz]
   (repeat' split)<;>first|rfl|(exfalso;simp_all;done)|(exfalso;simp_all;omega)
  ·rw[Ac c]
   (repeat' split)<;>first|rfl|(exfalso;simp_all;done)|(exfalso;simp_all;omega)
 by_cases k8:kind=8
 ·subst k8
  simp (decide:=true) only[if_true,if_false,reduceIte];unfold mtR qv;dsimp only
  by_cases c:name= []∧pa=0∧pl=0
  ·obtain ⟨rfl,rfl,rfl⟩:=c
   simp only[hz]
   (repeat' split)<;>first|rfl|(exfalso;simp_all;done)|(exfalso;simp_all;omega)
  ·rw[Ac c]
   (repeat' split)<;>first|rfl|(exfalso;simp_all;done)|(exfalso;simp_all;omega)
 by_cases k5:kind=5
 ·subst k5
  simp (decide:=true) only[if_true,if_false,reduceIte];unfold mtR qx;dsimp only
  by_cases c:name= []∧pa=0∧pl=0
  ·obtain ⟨rfl,rfl,rfl⟩:=c
   simp only[hz]
   (repeat' split)<;>first|rfl|(exfalso;simp_all;done)|(exfalso;simp_all;omega)
  ·rw[Ac c]
   (repeat' split)<;>first|rfl|(exfalso;simp_all;done)|(exfalso;simp_all;omega)
 rw[Ac k1,Ac k2,Ac k3,Ac k7,Ac k4,Ac k6,Ac k8,Ac k5]
 (repeat' split)<;>first|rfl|(exfalso;omega)
end Go.AM.IR
namespace Go.AM.IR
theorem zO {α:Type}{f g:α→Int}(h: ∀x,f x=g x): ∀l:List α,ba f l=ba g l
 | []=>rfl
 |x::r=>by rw[ba,ba,h,zO h r]
theorem aeB (s:PSet)(d:List Trm)(t:Trm):sY (dK s) d t=tE1 s d t:=by
 unfold sY tE1 Tz tE2;rw[zO (ae6 s)]
theorem Eo (s:PSet): ∀(r d:List Trm),nB (dK s) d r=iV s d r
 | [],_=>rfl
 |t::r,d=>by rw[nB,iV,aeB,Eo s r]
theorem Mb (name:List UInt8)(d:List (List UInt8))(b:List UInt8)(fst:Bool)(n:Int)(hd:if fst=true then d= [] else d.getLast?=some b):fw name b fst n=if jn d name=0 then (if 64<n then 4 else 0) else jn d name:=by
 unfold fw jn
 by_cases h:nmB name=false
 ·rw[Ad h,Ad h];rfl
 ·rw[Ac h,Ac h]
  cases fst
  ·simp only[A4,if_false] at hd
   rw[hd];dsimp only
   by_cases q:(Op.bytesLess name b||name==b)=true
   ·rw[Ad ⟨rfl,q⟩];simp only[Ad q];rfl
   ·rw[Ac (fun w=>q w.2)];simp only[Ac q];rfl
  ·simp only[if_true] at hd
   subst hd;rw[Ac (by simp)];rfl
theorem qc {α β:Type}(rule:β→Int)(nm:α→List UInt8)(rules:α→List β): ∀(r d:List α)(b:List UInt8)(fst:Bool)(hd:if fst=true then d= [] else (d.map nm).getLast?=some b),
  eaE nm (fun x=>(rules x).length) (fun x=>ba rule (rules x)) d r=gU rule nm rules r b fst
 | [],_,_,_,_=>rfl
 |x::r,d,b,fst,hd=>by
  have hh:=Mb (nm x) (d.map nm) b fst ((rules x).length:Nat) (by cases fst<;>simp_all)
  have ih:=qc rule nm rules r (d++[x]) (nm x) false (by simp)
  rw[eaE,gU,hh,ih]
  by_cases a:jn (d.map nm) (nm x)=0
  ·rw[Ad a,Ad a]
   by_cases c:64<(rules x).length
   ·have c':(64:Int)<((rules x).length:Nat):=by omega
    simp[c,c']
   ·have c': ¬(64:Int)<((rules x).length:Nat):=by omega
    simp[c,c']
  ·rw[Ac a,Ac a,Ac a]
theorem EW (s:PSet): ∀(r d:List Pol)(b:List UInt8)(fst:Bool)(hd:if fst=true then d= [] else (d.map Pol.name).getLast?=some b),
  eaE Pol.name (fun x=>x.terms.length) (plE (dK s)) d r=rz s r b fst
 | [],_,_,_,_=>rfl
 |x::r,d,b,fst,hd=>by
  have hh:=Mb x.name (d.map Pol.name) b fst (x.terms.length:Nat) (by cases fst<;>simp_all)
  have ih:=EW s r (d++[x]) x.name false (by simp)
  rw[eaE,rz,hh,ih]
  by_cases a:jn (d.map Pol.name) x.name=0
  ·rw[Ad a,Ad a]
   by_cases c:64<x.terms.length
   ·have c':(64:Int)<(x.terms.length:Nat):=by omega
    simp[c,c']
   ·have c': ¬(64:Int)<(x.terms.length:Nat):=by omega
    rw[Ac c,plE,Eo]
    by_cases e:iV s [] x.terms=0
    ·simp[c',e]
    ·simp[c',e]
  ·rw[Ac a,Ac a,Ac a]
end Go.AM.IR
namespace Go.AM.IR
def aeh:ACode→ACode
 | .seq _ (.seq _ r)=>r
 |c=>c
theorem lj (s:PSet)(g:s.good)(h0:s.prefixes.length<2^30)(h1:s.paths.length<2^30)(h2:s.comms.length<2^30)(h3:s.pols.length<2^30):ah G 451 [.agg s.enc] [] ⟨.int .i64 (ca s),[]⟩:=by
 have hn:=Ma s g h0 h1 h2 h3;have hf:(dK s).fit:=⟨by simp[dK];omega,by simp[dK];omega,by simp[dK];omega,by simp[dK];omega⟩
 have e1:=RB s g;have e2:=RA s g;have e3:=Ry s g;have e4:=Ru (dK s) hf s g;rw[qc ruE PList.name PList.rules s.prefixes [] [] true (by simp)] at e1
 rw[qc paE PathL.name PathL.rules s.paths [] [] true (by simp)] at e2
 rw[qc cy ComL.name ComL.rules s.comms [] [] true (by simp)] at e3
 rw[EW s s.pols [] [] true (by simp)] at e4
 have q1:(if 64<s.prefixes.length then 4 else gU ruE PList.name PList.rules s.prefixes [] true)=kM s.prefixes:=rfl
 have q2:(if 64<s.paths.length then 4 else gU paE PathL.name PathL.rules s.paths [] true)=m8 s.paths:=rfl
 have q3:(if 64<s.comms.length then 4 else gU cy ComL.name ComL.rules s.comms [] true)=kL s.comms:=rfl
 rw[q1] at e1;rw[q2] at e2;rw[q3] at e3
 unfold ca;generalize kM s.prefixes=E1 at*;generalize m8 s.paths=E2 at*;generalize kL s.comms=E3 at*;generalize (if 64<s.pols.length then 4 else rz s s.pols [] true)=E4 at*
 refine kW (F:=ND) rfl rfl ?_;refine aao (a:=.region Y5 false) (b:=.seq (.region NB false) (aeh ND.body)) ?_;refine wd1 ?_
 repeat' (first|refine bc ?_|(refine ae ?_ ?_<;>intro h))
 refine aao (a:=.region NB false) (b:=aeh ND.body) ?_;refine wd1 ?_
 repeat' (first|refine bc ?_|(refine ae ?_ ?_<;>intro h))
 have hpz:(Blk.cells s.enc).pure=true:=by simp[Blk.pure]
 refine u5 [(70,_,_),(65606,_,_),(131142,_,_),(196678,_,_)] [1,3] [67] [65] ⟨rfl,frP,rfl,frP,rfl,frP,rfl,frP,trivial⟩ ?_;repeat ((conv=>whnf);first|refine frA ?_|intro T H)
 refine wk3 ?_
 by_cases c1:E1=0
 ·subst c1
  rw[Ad rfl]
  by_cases c2:E2=0
  ·subst c2
   rw[Ad rfl]
   by_cases c3:E3=0
   ·subst c3
    rw[Ad rfl]
    repeat' (first|refine bc ?_|refine kX [(65,_,_)] [] ⟨rfl,trivial⟩ trivial (e1) ?_|refine kX [(65,_,_)] [] ⟨rfl,trivial⟩ trivial (e2) ?_|refine kX [(65,_,_)] [] ⟨rfl,trivial⟩ trivial (e3) ?_|refine kX [(67,_,_),(65,_,_)] [] ⟨rfl,rfl,trivial⟩ trivial (e4) ?_|(refine ae ?_ ?_<;>intro h))
    refine ag ?_;rfl
   ·rw[Ac c3]
    repeat' (first|refine bc ?_|refine kX [(65,_,_)] [] ⟨rfl,trivial⟩ trivial (e1) ?_|refine kX [(65,_,_)] [] ⟨rfl,trivial⟩ trivial (e2) ?_|refine kX [(65,_,_)] [] ⟨rfl,trivial⟩ trivial (e3) ?_|(refine ae ?_ ?_<;>intro h))
    refine ag ?_;rfl
  ·rw[Ac c2]
   repeat' (first|refine bc ?_|refine kX [(65,_,_)] [] ⟨rfl,trivial⟩ trivial (e1) ?_|refine kX [(65,_,_)] [] ⟨rfl,trivial⟩ trivial (e2) ?_|(refine ae ?_ ?_<;>intro h))
   refine ag ?_;rfl
 ·rw[Ac c1]
  repeat' (first|refine bc ?_|refine kX [(65,_,_)] [] ⟨rfl,trivial⟩ trivial (e1) ?_|(refine ae ?_ ?_<;>intro h))
  refine ag ?_;rfl
end Go.AM.IR
