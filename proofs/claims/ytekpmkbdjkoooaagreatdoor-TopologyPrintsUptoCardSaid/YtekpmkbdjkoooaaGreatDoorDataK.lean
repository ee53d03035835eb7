/- What the functions of this program give, on the abstract machine. -/
import Derived.Test.YtekpmkbdjkoooaaGreatDoorDataF
import Derived.Test.YtekpmkbdjkoooaaGreatDoorDataH
set_option linter.unusedVariables false
set_option linter.unusedSimpArgs false
set_option maxHeartbeats 4000000
set_option maxRecDepth 20000
namespace Go.AM.IR
structure Sess where
 a:Int
 b:Int
 x:Int
 y:Int
 z:Bool
def Sess.enc (s:Sess):List AV:=[.int .i64 s.a,.int .i64 s.b,.int .i64 s.x,.int .i64 s.y,.bool s.z]
def Bv (l:List Sess)(r p:Int):Bool:=l.any fun s=>(decide (s.a=r)&&decide (s.x=p))||(decide (s.b=r)&&decide (s.y=p))
end Go.AM.IR
namespace Go.AM.IR
@[simp] theorem Ya: ∀l:List Sess,aG (l.map Sess.enc)=true
 | []=>rfl
 |x::r=>by simp only[Ao,aG,Ya r];simp[Sess.enc,aU,AV.pure]
end Go.AM.IR
namespace Go.AM.IR
end Go.AM.IR
namespace Go.AM.IR
end Go.AM.IR
namespace Go.AM.IR
end Go.AM.IR
namespace Go.AM.IR
def dG (r p:Int):AV:=.agg [.int .i64 r,.int .i64 p]
theorem ko (ks:List LK)(h: ∀a b c d:Int,eqL ks [.int .i64 a,.int .i64 b] [.int .i64 c,.int .i64 d]=some (decide (a=c∧b=d)))(a b c d:Int):eqK true ks (dG a b) (dG c d)=some (decide (a=c∧b=d)):=h a b c d
def iG (es:List (AV×AV)):Prop:= ∀e∈es,∃r p:Int,e.1=dG r p
section
variable {ks:List LK} (h: ∀a b c d:Int,eqL ks [.int .i64 a,.int .i64 b] [.int .i64 c,.int .i64 d]=some (decide (a=c∧b=d)))
include h
theorem wD (r p:Int): ∀es,iG es→jF true ks (dG r p) es=true
 | [],_=>by rw[jF,ko ks h];rfl
 |e::es,he=>by
  obtain ⟨u,v,q⟩:=he e (by simp)
  rw[jF,q,ko ks h,wD r p es (fun x hx=>he x (by simp[hx]))];rfl
theorem l8 (r p u v:Int): ∀es,iG es→cu true ks (.bool false) (dG r p) (dm true ks (dG u v) (.bool true) es)=if r=u∧p=v then .bool true else cu true ks (.bool false) (dG r p) es
 | [],_=>by
  show (bif eqK true ks (dG r p) (dG u v)==some true then AV.bool true else AV.bool false)=_
  rw[ko ks h]
  by_cases w:r=u∧p=v
  ·rw[Al w,Ad w];rfl
  ·rw[An w,Ac w];rfl
 |e::es,he=>by
  obtain ⟨a,b,q⟩:=he e (by simp)
  have ih:=l8 r p u v es (fun x hx=>he x (by simp[hx]))
  rw[dm,q,ko ks h]
  by_cases x:u=a∧v=b
  ·rw[Al x]
   show cu true ks (.bool false) (dG r p) ((dG u v,.bool true)::es)=_
   show (bif eqK true ks (dG r p) (dG u v)==some true then AV.bool true else cu true ks (.bool false) (dG r p) es)=_
   rw[cu,q,ko ks h,ko ks h]
   by_cases w:r=u∧p=v
   ·rw[Al w,Ad w];rfl
   ·rw[An w,Ac w,An (by rw[←x.1,←x.2];exact w)];rfl
  ·rw[An x]
   show cu true ks (.bool false) (dG r p) (e::dm true ks (dG u v) (.bool true) es)=_
   rw[cu,cu,q,ko ks h,ih]
   by_cases w:r=u∧p=v
   ·rw[Ad w,Ad w,An (by rw[w.1,w.2];exact x)];rfl
   ·rw[Ac w,Ac w]
theorem kj (u v:Int): ∀es,iG es→iG (dm true ks (dG u v) (.bool true) es)
 | [],_=>by intro e he;simp only[dm,B5] at he;exact ⟨u,v,by rw[he]⟩
 |e::es,he=>by
  obtain ⟨a,b,q⟩:=he e (by simp)
  have ih:=kj u v es (fun x hx=>he x (by simp[hx]))
  rw[dm,q,ko ks h]
  by_cases x:u=a∧v=b
  ·rw[Al x]
   intro y hy;rcases AK.1 hy with w|w
   ·exact ⟨u,v,by rw[w]⟩
   ·exact he y (by simp[w])
  ·rw[An x]
   intro y hy;rcases AK.1 hy with w|w
   ·exact he y (by simp[w])
   ·exact ih y w
end
end Go.AM.IR
namespace Go.AM.IR
theorem fp (a b c d:Int):eqL [.int,.int] [.int .i64 a,.int .i64 b] [.int .i64 c,.int .i64 d]=some (decide (a=c∧b=d)):=by
 show some ((a==c)&&((b==d)&&true))=_
 by_cases x:a=c<;>by_cases y:b=d<;>simp[x,y]
theorem aa4 (o:List Sess)(s:Sess)(u v:Int):Bv (o++[s]) u v=(Bv o u v||((decide (s.a=u)&&decide (s.x=v))||(decide (s.b=u)&&decide (s.y=v)))):=by simp[Bv,List.any_append]
structure EndsOf (es:List (AV×AV))(o:List Sess):Prop where
 e:iG es
 m: ∀u v:Int,cu true [.int,.int] (.bool false) (dG u v) es= .bool (Bv o u v)
theorem EndsOf.put {es:List (AV×AV)}{o:List Sess}(h:EndsOf es o)(i j k n:Int):EndsOf (dm true [.int,.int] (dG j n) (.bool true) (dm true [.int,.int] (dG i k) (.bool true) es)) (o++[⟨i,j,k,n,false⟩]):=by
 refine ⟨kj fp j n _ (kj fp i k _ h.e),fun u v=>?_⟩
 rw[l8 fp u v j n _ (kj fp i k _ h.e),l8 fp u v i k _ h.e,h.m u v,aa4]
 by_cases x:u=j∧v=n
 ·rw[Ad x,Al x.1.symm,Al x.2.symm];simp
 ·rw[Ac x]
  by_cases y:u=i∧v=k
  ·rw[Ad y,Al y.1.symm,Al y.2.symm];simp
  ·rw[Ac y]
   have x':(decide (j=u)&&decide (n=v))=false:=by
    simp only[Bool.and_eq_false_iff,AP];rcases Decidable.em (j=u) with h1|h1
    ·right;intro h2;exact x ⟨h1.symm,h2.symm⟩
    ·exact .inl h1
   have y':(decide (i=u)&&decide (k=v))=false:=by
    simp only[Bool.and_eq_false_iff,AP];rcases Decidable.em (i=u) with h1|h1
    ·right;intro h2;exact y ⟨h1.symm,h2.symm⟩
    ·exact .inl h1
   simp only[x',y',Bool.or_false]
end Go.AM.IR
namespace Go.AM.IR
theorem OC (p q:Pfx):ah G 180 [.agg p.enc,.agg q.enc] [] ⟨.int .i64 (cX p q),[]⟩:=by
 have hee:(p=q)↔ (p.addr=q.addr∧p.len=q.len):=by cases p;cases q;simp
 by_cases h1:p.addr<q.addr
 ·rw[show cX p q= -1 from by simp[cX,h1]]
  refine gvB (F:=xz) ?_
  all_goals (refine ag ?_;first|rfl|(exfalso;omega))
 ·by_cases h2:p.addr=q.addr
  ·by_cases h3:p.len<q.len
   ·rw[show cX p q= -1 from by simp[cX,h2,h3]]
    refine gvB (F:=xz) ?_
    all_goals (refine ag ?_;first|rfl|(exfalso;omega))
   ·by_cases h4:p.len=q.len
    ·rw[show cX p q=0 from by simp[cX,h2,h4,hee]]
     refine gvB (F:=xz) ?_
     all_goals (refine ag ?_;first|rfl|(exfalso;omega))
    ·rw[show cX p q=1 from by simp[cX,h2,h3,h4,hee]]
     refine gvB (F:=xz) ?_
     all_goals (refine ag ?_;first|rfl|(exfalso;omega))
  ·rw[show cX p q=1 from by simp[cX,h1,h2,hee]]
   refine gvB (F:=xz) ?_
   all_goals (refine ag ?_;first|rfl|(exfalso;omega))
theorem bP2 {hp:aw}{s:Nat}{z:List AV}{n:Nat}{ps:List Nat}{vs:List AV}{k:List (List AV)→List Nat→Prop}{a b:AV}(hk:k [[a],[b]] [])(h1:aU vs=true:=by first|rfl|(simp[aU,aG,AV.pure];done)|fail)(h2:ja s (eK n z) ps vs=some [[a],[b]]:=by rfl):BslC hp s z n ps vs k:=bslP h1 h2 (uZ.2 hk)
def dE (q:PVC)(p:PeerC):Int:=if p.damp=false then 0 else if¬p.kind=1 then 1 else if fd q.damp=0 then 0 else 1
def jk (s:PSet)(k:List UInt8):Bool:= !decide (k= [])&&(gz s.pols k).isNone
def nmE (q:PVC)(p:PeerC):List (List UInt8)→Int
 | []=>dE q p
 |k::r=>if jk q.pols k=true then 6 else nmE q p r
section
variable {kv:AV→Prop}
theorem bh {q:IntKind}{a b:Int}(h: ¬a=b)(k:kv (.bool true)): ∃v,bv .neq (.int q a) (.int q b)=some v∧kv v:=⟨.bool true,by simp[bv,h],k⟩
theorem bb {q:IntKind}{a b:Int}(h:a=b)(k:kv (.bool false)): ∃v,bv .neq (.int q a) (.int q b)=some v∧kv v:=⟨.bool false,by simp[bv,h],k⟩
end
theorem rG (q:PVC)(hq:q.pols.pols.length<2^40)(p:PeerC)(a b:List UInt8)(g:Nat)(g9:Nat)(T:TV)(H:aw)(c:Nat):
  Ev G ⟨t7,⟨(81,.int .i64 2)::(2,.ref 66 1 0)::(79,.vs 143 g 2)::(5,.ref 69 g9 0)::(80,.int .i64 2)::T,(66,some (1,.cells q.enc))::(69,some (g9,.cells p.enc))::(143,some (g,.vec 1 [[.str a],[.str b]]))::H,c⟩,[.t 4],0⟩ ⟨.int .i64 (dE q p),[]⟩:=by
 have h1:=uk q.damp;cases hd:p.damp with
 |false=>
  rw[dE,Ad hd];refine evA ?_
  all_goals first|(refine ag ?_;rfl)|(exfalso;simp_all;done)
 |true=>
 rw[dE,Ac (by simp[hd])]
 by_cases k:p.kind=1
 ·rw[Ac (by simp[k])]
  by_cases e:fd q.damp=0
  ·rw[Ad e]
   rw[e] at h1;refine evl ?_
   repeat' ((conv=>whnf);first|refine bb k ?_|refine au ?_|(refine ae ?_ ?_<;>intro h))
   all_goals first|(refine ag ?_;rfl)|(exfalso;simp_all;done)
  ·rw[Ac e]
   refine evl ?_
   repeat' ((conv=>whnf);first|refine bb k ?_|refine bh e ?_|refine au ?_|(refine ae ?_ ?_<;>intro h))
   all_goals first|(refine ag ?_;rfl)|(exfalso;simp_all;done)
 ·rw[Ad k]
  refine evl ?_
  repeat' ((conv=>whnf);first|refine bh k ?_|refine au ?_|(refine ae ?_ ?_<;>intro h))
  all_goals first|(refine ag ?_;rfl)|(exfalso;simp_all;done)
theorem rH (q:PVC)(hq:q.pols.pols.length<2^40)(p:PeerC)(a b:List UInt8)(g:Nat)(g9:Nat)(T:TV)(H:aw)(c:Nat):
  Ev G ⟨t7,⟨(81,.int .i64 1)::(2,.ref 66 1 0)::(79,.vs 143 g 2)::(5,.ref 69 g9 0)::(80,.int .i64 2)::T,(66,some (1,.cells q.enc))::(69,some (g9,.cells p.enc))::(143,some (g,.vec 1 [[.str a],[.str b]]))::H,c⟩,[.t 4],0⟩ ⟨.int .i64 (nmE q p [b]),[]⟩:=by
 have h1:=oy q.pols hq b;rw[nmE]
 by_cases hk:b= []
 ·rw[jk,Al hk,Ac (by simp)]
  subst hk;cases hf:gz q.pols.pols [] with
  |none=>
   rw[hf,iQ] at h1;refine evA ?_;refine ab [81,2,79,5,80] [66,69,143] ?_;exact rG q hq p _ _ g _ _ _ _
  |some v=>
   rw[hf,iQ] at h1;refine evA ?_;refine ab [81,2,79,5,80] [66,69,143] ?_;exact rG q hq p _ _ g _ _ _ _
 ·rw[jk,An hk,Bool.not_false,BK]
  cases hf:gz q.pols.pols b with
  |none=>
   rw[hf,iQ] at h1;simp only[Option.isNone_none,if_true];refine evl ?_
   repeat' ((conv=>whnf);first|refine gy hk ?_|refine au ?_|(refine ae ?_ ?_<;>intro h))
   refine ag ?_;rfl
  |some v=>
   rw[hf,iQ] at h1;simp only[Option.isNone_some,A4,if_false];refine evl ?_
   repeat' ((conv=>whnf);first|refine gy hk ?_|refine au ?_|(refine ae ?_ ?_<;>intro h))
   refine ab [81,2,79,5,80] [66,69,143] ?_;exact rG q hq p _ _ g _ _ _ _
theorem Ux (q:PVC)(hq:q.pols.pols.length<2^40)(p:PeerC)(a b:List UInt8)(g:Nat)(g9:Nat)(T:TV)(H:aw)(c:Nat):
  Ev G ⟨t7,⟨(81,.int .i64 0)::(2,.ref 66 1 0)::(79,.vs 143 g 2)::(5,.ref 69 g9 0)::(80,.int .i64 2)::T,(66,some (1,.cells q.enc))::(69,some (g9,.cells p.enc))::(143,some (g,.vec 1 [[.str a],[.str b]]))::H,c⟩,[.t 4],0⟩ ⟨.int .i64 (nmE q p [a,b]),[]⟩:=by
 have h1:=oy q.pols hq a;rw[nmE]
 by_cases hk:a= []
 ·rw[jk,Al hk,Ac (by simp)]
  subst hk;cases hf:gz q.pols.pols [] with
  |none=>
   rw[hf,iQ] at h1;refine evA ?_;refine ab [81,2,79,5,80] [66,69,143] ?_;exact rH q hq p _ _ g _ _ _ _
  |some v=>
   rw[hf,iQ] at h1;refine evA ?_;refine ab [81,2,79,5,80] [66,69,143] ?_;exact rH q hq p _ _ g _ _ _ _
 ·rw[jk,An hk,Bool.not_false,BK]
  cases hf:gz q.pols.pols a with
  |none=>
   rw[hf,iQ] at h1;simp only[Option.isNone_none,if_true];refine evl ?_
   repeat' ((conv=>whnf);first|refine gy hk ?_|refine au ?_|(refine ae ?_ ?_<;>intro h))
   refine ag ?_;rfl
  |some v=>
   rw[hf,iQ] at h1;simp only[Option.isNone_some,A4,if_false];refine evl ?_
   repeat' ((conv=>whnf);first|refine gy hk ?_|refine au ?_|(refine ae ?_ ?_<;>intro h))
   refine ab [81,2,79,5,80] [66,69,143] ?_;exact rH q hq p _ _ g _ _ _ _
def tlE (q:PVC)(p:PeerC):Int:=if p.client=true∧ ¬p.kind=3 then 1 else if¬p.hold=0∧(p.hold<3∨65535<p.hold) then 21 else if p.restart<0 then 5 else if 4095<p.restart then 5 else nmE q p [p.imp,p.exp]
theorem Fc (q:PVC)(hq:q.pols.pols.length<2^40)(p:PeerC)(l:List PeerC)(hl:l.length<2^40): ∀(rest done:List PeerC)(g9:Nat)(T:TV)(H:aw)(c:Nat)(n:Int)(e:l=done++rest)(hn:n=done.length),
  Ev G ⟨YL,⟨(37,.int .i64 n)::(5,.ref 69 g9 0)::(35,.sl 11 (l.map PeerC.enc))::(2,.ref 66 1 0)::(36,.int .i64 l.length)::T,(66,some (1,.cells q.enc))::(69,some (g9,.cells p.enc))::H,c⟩,[.t 4],0⟩ ⟨.int .i64 (if rest.any (fun y=>decide (y.addr=p.addr)) then 7 else tlE q p),[]⟩
 | [],done,g9,T,H,c,n,e,hn=>by
  obtain rfl:l=done:=by simpa using e
  simp only[List.any_nil,A4,if_false]
  by_cases c1:p.client=true∧ ¬p.kind=3
  ·rw[tlE,Ad c1]
   obtain ⟨c1,c2⟩:=c1;refine evl ?_
   repeat' (first|refine bc ?_|(refine ae ?_ ?_<;>intro h))
   all_goals first|(refine ag ?_;rfl)|contradiction|(exfalso;omega)
  by_cases c2: ¬p.hold=0∧(p.hold<3∨65535<p.hold)
  ·rw[tlE,Ac c1,Ad c2]
   obtain ⟨c2,c3⟩:=c2;refine evl ?_
   repeat' (first|refine bc ?_|(refine ae ?_ ?_<;>intro h))
   all_goals first|(refine ag ?_;rfl)|(exfalso;exact c1 ⟨by assumption,by assumption⟩)|(exfalso;omega)
  by_cases c3:p.restart<0
  ·rw[tlE,Ac c1,Ac c2,Ad c3]
   refine evl ?_
   repeat' (first|refine bc ?_|(refine ae ?_ ?_<;>intro h))
   all_goals first|(refine ag ?_;rfl)|(exfalso;exact c1 ⟨by assumption,by assumption⟩)|(exfalso;omega)
  by_cases c4:4095<p.restart
  ·rw[tlE,Ac c1,Ac c2,Ac c3,Ad c4]
   refine evl ?_
   repeat' (first|refine bc ?_|(refine ae ?_ ?_<;>intro h))
   all_goals first|(refine ag ?_;rfl)|(exfalso;exact c1 ⟨by assumption,by assumption⟩)|(exfalso;omega)
  rw[tlE,Ac c1,Ac c2,Ac c3,Ac c4];refine evl ?_
  repeat' ((conv=>whnf);first|refine bP2 (a:=.str p.imp) (b:=.str p.exp) ?_|refine au ?_|(refine ae ?_ ?_<;>intro h))
  all_goals try (exfalso;first|exact c1 ⟨by assumption,by assumption⟩|omega)
  all_goals (refine ab [81,2,79,5,80] [66,69,143] ?_;exact Ux q hq p _ _ _ _ _ _ _)
 |x::r,done,g9,T,H,c,n,e,hn=>by
  have hd:=md e;have m1:=ml l PeerC.enc;have hx:=mx PeerC.enc e hn
  by_cases h:x.addr=p.addr
  ·rw[Ad (by simp[h])]
   refine evl ?_
   repeat' ((conv=>whnf);first|refine bj h ?_|refine au ?_|(refine ae ?_ ?_<;>intro h))
   refine ag ?_;rfl
  ·rw[show ((x::r).any fun y=>decide (y.addr=p.addr))=r.any fun y=>decide (y.addr=p.addr) from by simp[h]]
   refine evl ?_
   repeat' ((conv=>whnf);first|refine aY h ?_|refine au ?_|(refine ae ?_ ?_<;>intro h))
   refine ab [37,5,35,2,36] [66,69] ?_;exact Fc q hq p l hl r (done++[x]) _ _ _ _ (n+1) (by simp[e]) (by simp[hn])
def peE (q:PVC)(d:List PeerC)(p:PeerC):Int:=if pkE q p=0 then (if p.addr=0 then 1 else if p.loc=0 then 1 else if d.any (fun y=>decide (y.addr=p.addr)) then 7 else tlE q p) else pkE q p
theorem Jb (q:PVC)(hq:q.pols.pols.length<2^40)(hl:q.peers.length<2^40)(i:Nat)(p:PeerC)(hp:q.peers[i]? =some p):ah G 503 [.agg q.enc,.int .i64 i] [] ⟨.int .i64 (peE q (q.peers.take i) p),[]⟩:=by
 have h1:=QF q p;have hi:i<q.peers.length:=(Az.1 hp).1;have m1:=ml q.peers PeerC.enc;have hx:(q.peers.map PeerC.enc)[((i:Nat):Int).toNat]? =some p.enc:=by simp[hp]
 rw[peE]
 by_cases e:pkE q p=0
 ·rw[Ad e]
  rw[e] at h1
  by_cases a1:p.addr=0
  ·rw[Ad a1]
   refine gvC (F:=t8) ?_
   repeat' ((conv=>whnf);first|refine bj a1 ?_|refine au ?_|(refine ae ?_ ?_<;>intro h))
   refine ag ?_;rfl
  by_cases a2:p.loc=0
  ·rw[Ac a1,Ad a2]
   refine gvC (F:=t8) ?_
   repeat' ((conv=>whnf);first|refine aY a1 ?_|refine bj a2 ?_|refine au ?_|(refine ae ?_ ?_<;>intro h))
   refine ag ?_;rfl
  rw[Ac a1,Ac a2];refine gvC (F:=t8) ?_
  repeat' ((conv=>whnf);first|refine aY a1 ?_|refine aY a2 ?_|refine au ?_|(refine ae ?_ ?_<;>intro h))
  refine ab [37,5,35,2,36] [66,69] ?_;rw[show List.take (((i:Nat):Int).toNat-0) (List.drop 0 (List.map PeerC.enc q.peers))=List.map PeerC.enc (q.peers.take i) from by simp,At]
  exact Fc q hq p (q.peers.take i) (by simp;omega) _ [] _ _ _ _ 0 rfl rfl
 ·rw[Ac e]
  refine gvC (F:=t8) ?_
  repeat' ((conv=>whnf);first|refine bh e ?_|refine au ?_|(refine ae ?_ ?_<;>intro h))
  refine ag ?_;rfl
end Go.AM.IR
namespace Go.AM.IR
theorem AE {b:Bool}{p q:Prop}(h:b=false)(k:p):condC (true^^b) p q:=by subst h;exact ⟨fun _=>k,fun w=>by cases w⟩
def ry (q:PVC):List PeerC→List PeerC→Int
 |_,[]=>0
 |d,x::r=>if peE q d x=0 then ry q (d++[x]) r else peE q d x
def t3E (q:PVC):Int:=if q.multi<0 then 5 else if 16<q.multi then 5 else ry q [] q.peers
def t2E (q:PVC):Int:=if q.damp.half=0∧q.damp.reuse=0∧q.damp.suppress=0∧q.damp.maxTime=0 then t3E q else if fd q.damp=0 then t3E q else fd q.damp
def oM (q:PVC):List Pfx→List Pfx→Int
 |_,[]=>t2E q
 |d,x::r=>if aW x=false then 1 else if (match d.getLast? with|some a=>decide (0≤cX a x)|none=>false)=true then 16 else oM q (d++[x]) r
theorem ru (q:PVC)(hq:q.pols.pols.length<2^40)(hl:q.peers.length<2^40): ∀(rest done:List PeerC)(T:TV)(H:aw)(c:Nat)(n:Int)(e:q.peers=done++rest)(hn:n=done.length),
  Ev G ⟨Y8,⟨(101,.int .i64 n)::(1,.ref 65 1 0)::(100,.int .i64 q.peers.length)::T,(65,some (1,.cells q.enc))::H,c⟩,[.t 2],0⟩ ⟨.int .i64 (ry q done rest),[]⟩
 | [],done,T,H,c,n,e,hn=>by
  have hd:=md0 e;refine evA ?_;refine ag ?_;rfl
 |x::r,done,T,H,c,n,e,hn=>by
  have hd:=md e;have h1:=Jb q hq hl done.length x (by simp[e])
  rw[show q.peers.take done.length=done from by simp[e],←hn] at h1
  rw[ry]
  by_cases h0:peE q done x=0
  ·rw[Ad h0]
   rw[h0] at h1;refine evA ?_;refine ab [101,1,100] [65] ?_;exact ru q hq hl r (done++[x]) _ _ _ (n+1) (by simp[e]) (by simp[hn])
  ·rw[Ac h0]
   generalize peE q done x=E at*;refine evl ?_
   repeat' ((conv=>whnf);first|refine bh h0 ?_|refine au ?_|(refine ae ?_ ?_<;>intro h))
   refine ag ?_;rfl
theorem ze (q:PVC)(hq:q.pols.pols.length<2^40)(hl:q.peers.length<2^40)(hnt:q.nets.length<2^40)(hok: ∀x∈q.nets,x.ok): ∀(rest done:List Pfx)(T:TV)(H:aw)(c:Nat)(n:Int)(e:q.nets=done++rest)(hn:n=done.length),
  Ev G ⟨Y9,⟨(58,.int .i64 n)::(1,.ref 65 1 0)::(56,.sl 2 (q.nets.map Pfx.enc))::(57,.int .i64 q.nets.length)::T,(65,some (1,.cells q.enc))::H,c⟩,[.t 2],0⟩ ⟨.int .i64 (oM q done rest),[]⟩
 | [],done,T,H,c,n,e,hn=>by
  have hd:=md0 e;have h1:=uk q.damp;have m1:=ml q.peers PeerC.enc;rw[oM]
  by_cases k:q.damp.half=0∧q.damp.reuse=0∧q.damp.suppress=0∧q.damp.maxTime=0
  ·rw[t2E,Ad k,t3E]
   obtain ⟨k1,k2,k3,k4⟩:=k
   by_cases u:q.multi<0
   ·rw[Ad u]
    refine evA ?_;refine ag ?_;rfl
   by_cases u':16<q.multi
   ·rw[Ac u,Ad u']
    refine evA ?_;refine ag ?_;rfl
   rw[Ac u,Ac u'];refine evA ?_;refine ab [101,1,100] [65] ?_;rw[m1];exact ru q hq hl q.peers [] _ _ _ 0 rfl rfl
  ·rw[t2E,Ac k]
   have kb:(q.damp.half==0&&(q.damp.reuse==0&&(q.damp.suppress==0&&(q.damp.maxTime==0&&true))))=false:=by
    simpa using k
   by_cases d:fd q.damp=0
   ·rw[Ad d,t3E]
    rw[d] at h1
    by_cases u:q.multi<0
    ·rw[Ad u]
     refine evl ?_
     repeat' ((conv=>whnf);first|refine AE kb ?_|refine bb d ?_|refine au ?_|(refine ae ?_ ?_<;>intro h))
     refine ag ?_;rfl
    by_cases u':16<q.multi
    ·rw[Ac u,Ad u']
     refine evl ?_
     repeat' ((conv=>whnf);first|refine AE kb ?_|refine bb d ?_|refine au ?_|(refine ae ?_ ?_<;>intro h))
     refine ag ?_;rfl
    rw[Ac u,Ac u'];refine evl ?_
    repeat' ((conv=>whnf);first|refine AE kb ?_|refine bb d ?_|refine au ?_|(refine ae ?_ ?_<;>intro h))
    refine ab [101,1,100] [65] ?_;rw[m1];exact ru q hq hl q.peers [] _ _ _ 0 rfl rfl
   ·rw[Ac d]
    generalize fd q.damp=E at*;refine evl ?_
    repeat' ((conv=>whnf);first|refine AE kb ?_|refine bh d ?_|refine au ?_|(refine ae ?_ ?_<;>intro h))
    refine ag ?_;rfl
 |x::r,done,T,H,c,n,e,hn=>by
  have hd:=md e;have m1:=ml q.nets Pfx.enc;have hx:=mx Pfx.enc e hn;have hxo:=hok x (by simp[e])
  have f1:=co x hxo;rw[oM];cases vx:aW x with
  |false=>
   rw[vx] at f1;rw[Ad rfl];refine evA ?_;refine ag ?_;rfl
  |true=>
  rw[vx] at f1;rw[Ac (by simp)]
  have ih:=fun T H c=>ze q hq hl hnt hok r (done++[x]) T H c (n+1) (by simp[e]) (by simp[hn])
  rcases List.eq_nil_or_concat done with h0|⟨d,a,h0⟩
  ·subst h0
   obtain rfl:n=0:=hn;rw[Ac (by simp)]
   refine evA ?_;refine ab [58,1,56,57] [65] ?_;exact ih _ _ _
  ·have g1:=OC a x
   have hl0:done.getLast?=some a:=by rw[h0];simp
   have hdl:done.length=d.length+1:=by rw[h0];simp
   have n1:(0:Int)<n:=by omega
   have ha:(q.nets.map Pfx.enc)[(n-1).toNat]? =some a.enc:=by
    rw[show (n-1).toNat=d.length from by omega,e,h0];simp
   rw[hl0];dsimp only
   by_cases ho:0≤cX a x
   ·rw[Ad (by simpa using ho)]
    generalize cX a x=Z at*;refine evA ?_;refine ag ?_;rfl
   ·rw[Ac (by simpa using ho)]
    generalize cX a x=Z at*;refine evA ?_;refine ab [58,1,56,57] [65] ?_;exact ih _ _ _
end Go.AM.IR
namespace Go.AM.IR
structure PVC.good (q:PVC):Prop where
 pols:q.pols.good
 peers:q.peers.length<2^40
 nets:q.nets.length<2^40
 ok: ∀x∈q.nets,x.ok
def t1E (q:PVC):Int:=if ca q.pols=0 then oM q [] q.nets else ca q.pols
def pvE (q:PVC):Int:=if q.asn<1 then 5 else if 4294967295<q.asn then 5 else if q.confed<0 then 5 else if 4294967295<q.confed then 5 else if q.confed=q.asn then 14 else if q.router=0 then 1 else if 16<q.peers.length then 4 else if 2000<q.nets.length then 4 else t1E q
theorem QB (q:PVC)(g:q.good):ah G 445 [.agg q.enc] [] ⟨.int .i64 (pvE q),[]⟩:=by
 have h1:=lr q.pols g.pols;have m1:=ml q.peers PeerC.enc;have m2:=ml q.nets Pfx.enc;have g1:=g.peers;have g2:=g.nets;rw[pvE]
 by_cases a1:q.asn<1
 ·rw[Ad a1]
  exact gvA (F:=lc)
 rw[Ac a1]
 by_cases a2:4294967295<q.asn
 ·rw[Ad a2]
  exact gvA (F:=lc)
 rw[Ac a2]
 by_cases a3:q.confed<0
 ·rw[Ad a3]
  exact gvA (F:=lc)
 rw[Ac a3]
 by_cases a4:4294967295<q.confed
 ·rw[Ad a4]
  exact gvA (F:=lc)
 rw[Ac a4]
 by_cases a5:q.confed=q.asn
 ·rw[Ad a5]
  refine gvC (F:=lc) ?_
  repeat' ((conv=>whnf);first|refine bj a5 ?_|refine au ?_|(refine ae ?_ ?_<;>intro h))
  refine ag ?_;rfl
 rw[Ac a5]
 by_cases a6:q.router=0
 ·rw[Ad a6]
  refine gvC (F:=lc) ?_
  repeat' ((conv=>whnf);first|refine aY a5 ?_|refine bj a6 ?_|refine au ?_|(refine ae ?_ ?_<;>intro h))
  refine ag ?_;rfl
 rw[Ac a6]
 by_cases a7:16<q.peers.length
 ·rw[Ad a7]
  have a7':(q.peers.length:Int)>16:=by omega
  refine gvC (F:=lc) ?_
  repeat' ((conv=>whnf);first|refine aY a5 ?_|refine aY a6 ?_|refine au ?_|(refine ae ?_ ?_<;>intro h))
  refine ag ?_;rfl
 rw[Ac a7];have a7': ¬(q.peers.length:Int)>16:=by omega
 by_cases a8:2000<q.nets.length
 ·rw[Ad a8]
  have a8':(q.nets.length:Int)>2000:=by omega
  refine gvC (F:=lc) ?_
  repeat' ((conv=>whnf);first|refine aY a5 ?_|refine aY a6 ?_|refine au ?_|(refine ae ?_ ?_<;>intro h))
  refine ag ?_;rfl
 rw[Ac a8];have a8': ¬(q.nets.length:Int)>2000:=by omega
 rw[t1E]
 by_cases k:ca q.pols=0
 ·rw[Ad k]
  rw[k] at h1;refine gvC (F:=lc) ?_
  repeat' ((conv=>whnf);first|refine aY a5 ?_|refine aY a6 ?_|refine bb rfl ?_|refine au ?_|(refine ae ?_ ?_<;>intro h))
  refine ab [58,1,56,57] [65] ?_;rw[m2];exact ze q g.pols.d g1 g2 g.ok q.nets [] _ _ _ 0 rfl rfl
 ·rw[Ac k]
  generalize ca q.pols=E at*;refine gvC (F:=lc) ?_
  repeat' ((conv=>whnf);first|refine aY a5 ?_|refine aY a6 ?_|refine bh k ?_|refine au ?_|(refine ae ?_ ?_<;>intro h))
  refine ag ?_;rfl
end Go.AM.IR
namespace Go.AM.IR
section
variable {kv:AV→Prop}
theorem ql {a:List UInt8}(h:a= [])(k:kv (.bool false)): ∃v,bv .neq (.str a) (.str [])=some v∧kv v:=by subst h;exact ⟨.bool false,rfl,k⟩
end
def wo (s:PSet)(r:Red):Int:=if r.metric<0 then 5 else if 16777216<r.metric then 5 else if jk s r.pol=true then 6 else 0
def tg (s:PSet)(r:Red):Int:=if r.src<1 then 15 else if 7<r.src then 15 else if r.dst=5 then (if 3≤r.src∧r.src≤5 then 1 else wo s r) else if r.dst=6 then (if r.src=6∨r.src=7 then 1 else wo s r) else 15
def lW (s:PSet)(l:List Red):Int:=if ca s=0 then (if 64<l.length then 4 else ba (tg s) l) else ca s
theorem yC (s:PSet)(hs:s.pols.length<2^40)(l:List Red)(hl:l.length<2^40): ∀(rest done:List Red)(T:TV)(H:aw)(c:Nat)(n:Int)(e:l=done++rest)(hn:n=done.length),
  Ev G ⟨Y7,⟨(20,.int .i64 n)::(2,.ref 66 1 0)::(18,.sl 5 (l.map Red.enc))::(19,.int .i64 l.length)::T,(66,some (1,.cells s.enc))::H,c⟩,[.t 4],0⟩ ⟨.int .i64 (ba (tg s) rest),[]⟩
 | [],done,T,H,c,n,e,hn=>by
  have hd:=md0 e;refine evA ?_;refine ag ?_;rfl
 |x::r,done,T,H,c,n,e,hn=>by
  have hd:=md e;have m1:=ml l Red.enc;have hx:=mx Red.enc e hn;have h1:=oy s hs x.pol;have h2:=Mu x.src;have h3:=JZ x.src;have ih:=fun T H c=>yC s hs l hl r (done++[x]) T H c (n+1) (by simp[e]) (by simp[hn])
  rw[ba,tg]
  by_cases a1:x.src<1
  ·rw[Ad a1,Ac (by decide)]
   refine evA ?_;refine ag ?_;rfl
  by_cases a2:7<x.src
  ·rw[Ac a1,Ad a2,Ac (by decide)]
   refine evA ?_;refine ag ?_;rfl
  rw[Ac a1,Ac a2]
  by_cases d5:x.dst=5
  ·rw[Ad d5]
   by_cases q:3≤x.src∧x.src≤5
   ·rw[Ad q,Ac (by decide)]
    rw[Al q] at h2;refine evl ?_
    repeat' ((conv=>whnf);first|refine bb d5 ?_|refine bj d5 ?_|refine au ?_|(refine ae ?_ ?_<;>intro h))
    refine ag ?_;rfl
   rw[Ac q];rw[An q] at h2;have d6: ¬x.dst=6:=by omega
   rw[wo]
   by_cases m1:x.metric<0
   ·rw[Ad m1,Ac (by decide)]
    refine evl ?_
    repeat' ((conv=>whnf);first|refine bb d5 ?_|refine bj d5 ?_|refine aY d6 ?_|refine au ?_|(refine ae ?_ ?_<;>intro h))
    refine ag ?_;rfl
   by_cases m2:16777216<x.metric
   ·rw[Ac m1,Ad m2,Ac (by decide)]
    refine evl ?_
    repeat' ((conv=>whnf);first|refine bb d5 ?_|refine bj d5 ?_|refine aY d6 ?_|refine au ?_|(refine ae ?_ ?_<;>intro h))
    refine ag ?_;rfl
   rw[Ac m1,Ac m2,jk]
   by_cases hk:x.pol= []
   ·rw[Al hk,Bool.not_true,BF]
    simp only[A4,if_false,if_true];cases hf:gz s.pols x.pol with
    |none=>
     rw[hf,iQ] at h1;refine evl ?_
     repeat' ((conv=>whnf);first|refine bb d5 ?_|refine bj d5 ?_|refine aY d6 ?_|refine ql hk ?_|refine au ?_|(refine ae ?_ ?_<;>intro h))
     refine ab [20,2,18,19] [66] ?_;exact ih _ _ _
    |some v=>
     rw[hf,iQ] at h1;refine evl ?_
     repeat' ((conv=>whnf);first|refine bb d5 ?_|refine bj d5 ?_|refine aY d6 ?_|refine ql hk ?_|refine au ?_|(refine ae ?_ ?_<;>intro h))
     refine ab [20,2,18,19] [66] ?_;exact ih _ _ _
   ·rw[An hk,Bool.not_false,BK]
    cases hf:gz s.pols x.pol with
    |none=>
     rw[hf,iQ] at h1;simp only[Option.isNone_none,if_true];rw[Ac (by decide)]
     refine evl ?_
     repeat' ((conv=>whnf);first|refine bb d5 ?_|refine bj d5 ?_|refine aY d6 ?_|refine gy hk ?_|refine au ?_|(refine ae ?_ ?_<;>intro h))
     refine ag ?_;rfl
    |some v=>
     rw[hf,iQ] at h1;simp only[Option.isNone_some,A4,if_false,if_true];refine evl ?_
     repeat' ((conv=>whnf);first|refine bb d5 ?_|refine bj d5 ?_|refine aY d6 ?_|refine gy hk ?_|refine au ?_|(refine ae ?_ ?_<;>intro h))
     refine ab [20,2,18,19] [66] ?_;exact ih _ _ _
  rw[Ac d5]
  by_cases d6:x.dst=6
  ·rw[Ad d6]
   by_cases q:x.src=6∨x.src=7
   ·rw[Ad q,Ac (by decide)]
    rw[Al q] at h3;refine evl ?_
    repeat' ((conv=>whnf);first|refine bh d5 ?_|refine bb d6 ?_|refine aY d5 ?_|refine bj d6 ?_|refine au ?_|(refine ae ?_ ?_<;>intro h))
    refine ag ?_;rfl
   rw[Ac q];rw[An q] at h3;rw[wo]
   by_cases m1:x.metric<0
   ·rw[Ad m1,Ac (by decide)]
    refine evl ?_
    repeat' ((conv=>whnf);first|refine bh d5 ?_|refine bb d6 ?_|refine aY d5 ?_|refine bj d6 ?_|refine au ?_|(refine ae ?_ ?_<;>intro h))
    refine ag ?_;rfl
   by_cases m2:16777216<x.metric
   ·rw[Ac m1,Ad m2,Ac (by decide)]
    refine evl ?_
    repeat' ((conv=>whnf);first|refine bh d5 ?_|refine bb d6 ?_|refine aY d5 ?_|refine bj d6 ?_|refine au ?_|(refine ae ?_ ?_<;>intro h))
    refine ag ?_;rfl
   rw[Ac m1,Ac m2,jk]
   by_cases hk:x.pol= []
   ·rw[Al hk,Bool.not_true,BF]
    simp only[A4,if_false,if_true];cases hf:gz s.pols x.pol with
    |none=>
     rw[hf,iQ] at h1;refine evl ?_
     repeat' ((conv=>whnf);first|refine bh d5 ?_|refine bb d6 ?_|refine aY d5 ?_|refine bj d6 ?_|refine ql hk ?_|refine au ?_|(refine ae ?_ ?_<;>intro h))
     refine ab [20,2,18,19] [66] ?_;exact ih _ _ _
    |some v=>
     rw[hf,iQ] at h1;refine evl ?_
     repeat' ((conv=>whnf);first|refine bh d5 ?_|refine bb d6 ?_|refine aY d5 ?_|refine bj d6 ?_|refine ql hk ?_|refine au ?_|(refine ae ?_ ?_<;>intro h))
     refine ab [20,2,18,19] [66] ?_;exact ih _ _ _
   ·rw[An hk,Bool.not_false,BK]
    cases hf:gz s.pols x.pol with
    |none=>
     rw[hf,iQ] at h1;simp only[Option.isNone_none,if_true];rw[Ac (by decide)]
     refine evl ?_
     repeat' ((conv=>whnf);first|refine bh d5 ?_|refine bb d6 ?_|refine aY d5 ?_|refine bj d6 ?_|refine gy hk ?_|refine au ?_|(refine ae ?_ ?_<;>intro h))
     refine ag ?_;rfl
    |some v=>
     rw[hf,iQ] at h1;simp only[Option.isNone_some,A4,if_false,if_true];refine evl ?_
     repeat' ((conv=>whnf);first|refine bh d5 ?_|refine bb d6 ?_|refine aY d5 ?_|refine bj d6 ?_|refine gy hk ?_|refine au ?_|(refine ae ?_ ?_<;>intro h))
     refine ab [20,2,18,19] [66] ?_;exact ih _ _ _
  ·rw[Ac d6,Ac (by decide)]
   refine evl ?_
   repeat' ((conv=>whnf);first|refine bh d5 ?_|refine bh d6 ?_|refine au ?_|(refine ae ?_ ?_<;>intro h))
   refine ag ?_;rfl
theorem Kz (s:PSet)(hs:s.good)(l:List Red)(hl:l.length<2^40):ah G 446 [.agg s.enc,.sl 5 (l.map Red.enc)] [] ⟨.int .i64 (lW s l),[]⟩:=by
 have h1:=lr s hs;have m1:=ml l Red.enc;rw[lW]
 by_cases k:ca s=0
 ·rw[Ad k]
  rw[k] at h1
  by_cases a:64<l.length
  ·rw[Ad a]
   have a':(l.length:Int)>64:=by omega
   refine gvC (F:=Dj) ?_
   repeat' ((conv=>whnf);first|refine bb rfl ?_|refine au ?_|(refine ae ?_ ?_<;>intro h))
   refine ag ?_;rfl
  ·rw[Ac a]
   have a': ¬(l.length:Int)>64:=by omega
   refine gvC (F:=Dj) ?_
   repeat' ((conv=>whnf);first|refine bb rfl ?_|refine au ?_|(refine ae ?_ ?_<;>intro h))
   refine ab [20,2,18,19] [66] ?_;rw[m1];exact yC s hs.d l hl l [] _ _ _ 0 rfl rfl
 ·rw[Ac k]
  generalize ca s=E at*;refine gvC (F:=Dj) ?_
  repeat' ((conv=>whnf);first|refine bh k ?_|refine au ?_|(refine ae ?_ ?_<;>intro h))
  refine ag ?_;rfl
end Go.AM.IR
namespace Go.AM.IR
def d7E (q:RConf):Int:=if q.dists.length=0 then 0 else if q.dists.length=7 then 0 else 1
def dsF (q:RConf):List Int→Int
 | []=>d7E q
 |x::r=>if x<0 then 1 else if 255<x then 1 else dsF q r
def stF (q:RConf):List Stat→Int
 | []=>dsF q q.dists
 |x::r=>if aW x.pfx=false then 1 else if x.dist<0 then 1 else if 255<x.dist then 1 else stF q r
theorem GQ (q:RConf)(hl:q.dists.length<2^40)(g9:Nat): ∀(rest done:List Int)(T:TV)(H:aw)(c:Nat)(n:Int)(e:q.dists=done++rest)(hn:n=done.length),
  Ev G ⟨Z6,⟨(117,.int .i64 n)::(5,.ref 69 g9 0)::(116,.int .i64 q.dists.length)::T,(69,some (g9,.cells q.enc))::H,c⟩,[.t 4],0⟩ ⟨.int .i64 (dsF q rest),[]⟩
 | [],done,T,H,c,n,e,hn=>by
  have hd:=md0 e;have m1:=ml q.dists bT;rw[dsF,d7E]
  by_cases a:(q.dists.length:Int)=0
  ·rw[Ad (by omega)]
   refine evl ?_
   repeat' ((conv=>whnf);first|refine bb a ?_|refine au ?_|(refine ae ?_ ?_<;>intro h))
   refine ag ?_;rfl
  by_cases b:(q.dists.length:Int)=7
  ·rw[Ac (by omega),Ad (by omega)]
   have b0:(q.dists.length:Int)=7:=b;refine evl ?_
   repeat' ((conv=>whnf);first|refine bh a ?_|refine bb b ?_|refine au ?_|(refine ae ?_ ?_<;>intro h))
   refine ag ?_;rfl
  ·rw[Ac (by omega),Ac (by omega)]
   refine evl ?_
   repeat' ((conv=>whnf);first|refine bh a ?_|refine bh b ?_|refine au ?_|(refine ae ?_ ?_<;>intro h))
   refine ag ?_;rfl
 |x::r,done,T,H,c,n,e,hn=>by
  have hd:=md e;have m1:=ml q.dists bT;have hx:=mx bT e hn;rw[dsF]
  by_cases a:x<0
  ·rw[Ad a]
   refine evA ?_;refine ag ?_;rfl
  by_cases b:255<x
  ·rw[Ac a,Ad b]
   refine evA ?_;refine ag ?_;rfl
  rw[Ac a,Ac b];refine evA ?_;refine ab [117,5,116] [69] ?_;exact GQ q hl g9 r (done++[x]) _ _ _ (n+1) (by simp[e]) (by simp[hn])
theorem s7 (q:RConf)(hl:q.dists.length<2^40)(hs:q.stat.length<2^40)(hok: ∀x∈q.stat,x.ok)(g9:Nat): ∀(rest done:List Stat)(T:TV)(H:aw)(c:Nat)(n:Int)(e:q.stat=done++rest)(hn:n=done.length),
  Ev G ⟨Z7,⟨(91,.int .i64 n)::(5,.ref 69 g9 0)::(90,.int .i64 q.stat.length)::T,(69,some (g9,.cells q.enc))::H,c⟩,[.t 4],0⟩ ⟨.int .i64 (stF q rest),[]⟩
 | [],done,T,H,c,n,e,hn=>by
  have hd:=md0 e;have m1:=ml q.dists bT;rw[stF];refine evA ?_;refine ab [117,5,116] [69] ?_;rw[m1];exact GQ q hl g9 q.dists [] _ _ _ 0 rfl rfl
 |x::r,done,T,H,c,n,e,hn=>by
  have hd:=md e;have m1:=ml q.stat Stat.enc;have hx:=mx Stat.enc e hn;have f1:ah G 179 [.agg [.int .u32 x.pfx.addr,.int .i64 x.pfx.len]] [] ⟨.bool (aW x.pfx),[]⟩:=co x.pfx (hok x (by simp[e])).1
  rw[stF];cases vx:aW x.pfx with
  |false=>
   rw[vx] at f1;rw[Ad rfl];refine evA ?_;refine ag ?_;rfl
  |true=>
  rw[vx] at f1;rw[Ac (by simp)]
  by_cases a:x.dist<0
  ·rw[Ad a]
   refine evA ?_;refine ag ?_;rfl
  by_cases b:255<x.dist
  ·rw[Ac a,Ad b]
   refine evA ?_;refine ag ?_;rfl
  rw[Ac a,Ac b];refine evA ?_;refine ab [91,5,90] [69] ?_;exact s7 q hl hs hok g9 r (done++[x]) _ _ _ (n+1) (by simp[e]) (by simp[hn])
end Go.AM.IR
namespace Go.AM.IR
def m1E (q:RConf):Int:=if lW q.pv.pols q.redist=0 then stF q q.stat else lW q.pv.pols q.redist
def tz (q:RConf):Int:=if q.hasPV=false then (if ca q.pv.pols=0 then m1E q else 1) else if pvE q.pv=0 then (if q.pv.router=q.ls.router then m1E q else 14) else pvE q.pv
structure RConf.good (q:RConf):Prop where
 pv:q.pv.good
 name:q.name.length<2^40
 ifs:q.ls.ifs.length<2^40
 rgs:q.ls.ranges.length<2^40
 ifo: ∀x∈q.ls.ifs,x.ok
 rgo: ∀x∈q.ls.ranges,x.pfx.ok
 red:q.redist.length<2^40
 stat:q.stat.length<2^40
 sto: ∀x∈q.stat,x.ok
 dists:q.dists.length<2^40
theorem En (t:Topo)(ht:t.routers.length<2^40)(i:Nat)(hi:i<t.routers.length)(q:RConf)(gd:q.good)(g9:Nat): ∀(f k:Nat)(T:TV)(H:aw)(c:Nat)(hk:k+f=i),
  Ev G ⟨Z8,⟨(39,.int .i64 (k:Int))::(5,.ref 69 g9 0)::(2,.ref 66 1 0)::(38,.int .i64 (i:Int))::T,(66,some (1,.cells t.enc))::(69,some (g9,.cells q.enc))::H,c⟩,[.t 4],0⟩ ⟨.int .i64 (if ((t.routers.take i).drop k).any (fun y=>decide (y.ls.router=q.ls.router)) then 7 else tz q),[]⟩
 |0,k,T,H,c,hk=>by
  obtain rfl:k=i:=by omega
  have h1:=lr q.pv.pols gd.pv.pols;have h2:=QB q.pv gd.pv;have h3:=Kz q.pv.pols gd.pv.pols q.redist gd.red;have m1:=ml q.stat Stat.enc;rw[show ((t.routers.take k).drop k)= [] from by simp,List.any_nil,Ac (by simp),tz]
  cases hb:q.hasPV with
  |false=>
   rw[Ad rfl]
   by_cases k0:ca q.pv.pols=0
   ·rw[Ad k0]
    rw[k0] at h1;rw[m1E]
    by_cases r0:lW q.pv.pols q.redist=0
    ·rw[Ad r0]
     rw[r0] at h3;refine evl ?_
     repeat' ((conv=>whnf);first|refine bb rfl ?_|refine au ?_|(refine ae ?_ ?_<;>intro h))
     all_goals try (exfalso;simp_all only[A4,Bool.true_eq_false,Bool.not_true,Bool.not_false,not_true_eq_false];done)
     refine ab [91,5,90] [69] ?_;rw[m1];exact s7 q gd.dists gd.stat gd.sto g9 q.stat [] _ _ _ 0 rfl rfl
    ·rw[Ac r0]
     generalize lW q.pv.pols q.redist=E at*;refine evl ?_
     repeat' ((conv=>whnf);first|refine bb rfl ?_|refine bh r0 ?_|refine au ?_|(refine ae ?_ ?_<;>intro h))
     all_goals try (exfalso;simp_all only[A4,Bool.true_eq_false,Bool.not_true,Bool.not_false,not_true_eq_false];done)
     all_goals (refine ag ?_;rfl)
   ·rw[Ac k0]
    generalize ca q.pv.pols=E at*;refine evl ?_
    repeat' ((conv=>whnf);first|refine bh k0 ?_|refine au ?_|(refine ae ?_ ?_<;>intro h))
    all_goals try (exfalso;simp_all only[A4,Bool.true_eq_false,Bool.not_true,Bool.not_false,not_true_eq_false];done)
    all_goals (refine ag ?_;rfl)
  |true=>
   rw[Ac (by simp)]
   by_cases k0:pvE q.pv=0
   ·rw[Ad k0]
    rw[k0] at h2
    by_cases e:q.pv.router=q.ls.router
    ·rw[Ad e]
     rw[m1E]
     by_cases r0:lW q.pv.pols q.redist=0
     ·rw[Ad r0]
      rw[r0] at h3;refine evl ?_
      repeat' ((conv=>whnf);first|refine bb e ?_|refine bb rfl ?_|refine au ?_|(refine ae ?_ ?_<;>intro h))
      all_goals try (exfalso;simp_all only[A4,Bool.true_eq_false,Bool.not_true,Bool.not_false,not_true_eq_false];done)
      refine ab [91,5,90] [69] ?_;rw[m1];exact s7 q gd.dists gd.stat gd.sto g9 q.stat [] _ _ _ 0 rfl rfl
     ·rw[Ac r0]
      generalize lW q.pv.pols q.redist=E at*;refine evl ?_
      repeat' ((conv=>whnf);first|refine bb e ?_|refine bb rfl ?_|refine bh r0 ?_|refine au ?_|(refine ae ?_ ?_<;>intro h))
      all_goals try (exfalso;simp_all only[A4,Bool.true_eq_false,Bool.not_true,Bool.not_false,not_true_eq_false];done)
      all_goals (refine ag ?_;rfl)
    ·rw[Ac e]
     refine evl ?_
     repeat' ((conv=>whnf);first|refine bh e ?_|refine bb rfl ?_|refine au ?_|(refine ae ?_ ?_<;>intro h))
     all_goals try (exfalso;simp_all only[A4,Bool.true_eq_false,Bool.not_true,Bool.not_false,not_true_eq_false];done)
     all_goals (refine ag ?_;rfl)
   ·rw[Ac k0]
    generalize pvE q.pv=E at*;refine evl ?_
    repeat' ((conv=>whnf);first|refine bh k0 ?_|refine au ?_|(refine ae ?_ ?_<;>intro h))
    all_goals try (exfalso;simp_all only[A4,Bool.true_eq_false,Bool.not_true,Bool.not_false,not_true_eq_false];done)
    all_goals (refine ag ?_;rfl)
 |f+1,k,T,H,c,hk=>by
  obtain ⟨y,hy⟩: ∃y,t.routers[k]? =some y:=⟨t.routers[k],AJ (by omega)⟩
  have hki:(k:Int)<(i:Int):=by omega
  have m1:=ml t.routers RConf.enc;have hy1:(t.routers.map RConf.enc)[((k:Nat):Int).toNat]? =some y.enc:=by simp[hy]
  have hd:(t.routers.take i).drop k=y::(t.routers.take i).drop (k+1):=by
   have h0:(t.routers.take i)[k]? =some y:=by rw[List.getElem?_take_of_lt (by omega)];exact hy
   obtain ⟨hlt,hge⟩:=Az.1 h0;rw[List.drop_eq_getElem_cons hlt,hge]
  rw[hd]
  by_cases e:y.ls.router=q.ls.router
  ·rw[Ad (by simp[e])]
   refine evl ?_
   repeat' ((conv=>whnf);first|refine bj e ?_|refine au ?_|(refine ae ?_ ?_<;>intro h))
   refine ag ?_;rfl
  ·rw[AN,An e,BS]
   refine evl ?_
   repeat' ((conv=>whnf);first|refine aY e ?_|refine au ?_|(refine ae ?_ ?_<;>intro h))
   refine ab [39,5,2,38] [66,69] ?_;exact En t ht i hi q gd g9 f (k+1) _ _ _ (by omega)
end Go.AM.IR
namespace Go.AM.IR
def rtE (t:Topo)(d:List RConf)(q:RConf):Int:=if tw q.name=false then 1 else if fx t.routers q.name 0<(d.length:Int) then 7 else if lsE q.ls=0 then (if d.any (fun y=>decide (y.ls.router=q.ls.router)) then 7 else tz q) else lsE q.ls
theorem yv (t:Topo)(ht:t.routers.length<2^40)(i:Nat)(q:RConf)(hq:t.routers[i]? =some q)(gd:q.good):ah G 398 [.agg t.enc,.int .i64 (i:Int)] [] ⟨.int .i64 (rtE t (t.routers.take i) q),[]⟩:=by
 have hi:i<t.routers.length:=(Az.1 hq).1;have m1:=ml t.routers RConf.enc;have hx:(t.routers.map RConf.enc)[((i:Nat):Int).toNat]? =some q.enc:=by simp[hq]
 have hl:(t.routers.take i).length=i:=by simp;omega
 have h1:=Mg q.name gd.name;have h2:=Jp t ht q.name;have h3:ah G 443 [.agg [.int .u32 q.ls.router,.sl 9 (q.ls.ifs.map Ifc.enc),.sl 4 (q.ls.ranges.map ARange.enc)]] [] ⟨.int .i64 (lsE q.ls),[]⟩:=QR q.ls gd.ifs gd.rgs gd.ifo gd.rgo;rw[rtE,hl];cases hn:tw q.name with
 |false=>
  rw[hn] at h1;rw[Ad rfl];exact gvA (F:=si)
 |true=>
 rw[hn] at h1;rw[Ac (by simp)]
 by_cases a:fx t.routers q.name 0<(i:Int)
 ·rw[Ad a]
  generalize fx t.routers q.name 0=F at*;exact gvA (F:=si)
 rw[Ac a]
 by_cases b:lsE q.ls=0
 ·rw[Ad b]
  rw[b] at h3;have h4:=fun g9 T H c=>En t ht i hi q gd g9 i 0 T H c (by omega)
  rw[List.drop_zero] at h4;generalize fx t.routers q.name 0=F at*;refine gvB (F:=si) ?_;refine ab [39,5,2,38] [66,69] ?_;exact h4 _ _ _ _
 ·rw[Ac b]
  generalize lsE q.ls=E at*;generalize fx t.routers q.name 0=F at*;exact gvA (F:=si)
def nk (t:Topo):Nat→List Lnk→Int
 |_,[]=>0
 |i,x::r=>if jB t i x=0 then nk t (i+1) r else jB t i x
def ou (t:Topo):List RConf→List RConf→Int
 |_,[]=>if jt [] (bI t.routers)=true then 7 else nk t 0 t.links
 |d,x::r=>if rtE t d x=0 then ou t (d++[x]) r else rtE t d x
def jL (t:Topo):Int:=if 32<t.routers.length then 4 else if 64<t.links.length then 4 else ou t [] t.routers
structure Topo.good (t:Topo):Prop where
 rs:t.routers.length<2^40
 ls:t.links.length<2^40
 es: ∀y∈t.links,y.ends.length<2^40
 acz:(bI t.routers).length<2^30
 good: ∀x∈t.routers,x.good
theorem zk (t:Topo)(g:t.good): ∀(rest done:List Lnk)(T:TV)(H:aw)(c:Nat)(n:Int)(e:t.links=done++rest)(hn:n=done.length),
  Ev G ⟨aai,⟨(36,.int .i64 n)::(1,.ref 65 1 0)::(35,.int .i64 t.links.length)::T,(65,some (1,.cells t.enc))::H,c⟩,[.t 2],0⟩ ⟨.int .i64 (nk t done.length rest),[]⟩
 | [],done,T,H,c,n,e,hn=>by
  have hd:=md0 e;have hg:=g.ls;rw[nk];refine evA ?_;refine ag ?_;rfl
 |x::r,done,T,H,c,n,e,hn=>by
  have hd:=md e;have hg:=g.ls;have h1:=Jg t g.rs (fun c hc=>(g.good c hc).ifs) g.ls g.es done.length x (by simp[e])
  rw[←hn] at h1;rw[nk]
  by_cases h0:jB t done.length x=0
  ·rw[Ad h0]
   rw[h0] at h1;have ih:=zk t g r (done++[x]);rw[Ar,List.length_singleton] at ih;refine evl ?_
   repeat' ((conv=>whnf);first|refine bb rfl ?_|refine au ?_|(refine ae ?_ ?_<;>intro h))
   refine ab [36,1,35] [65] ?_;exact ih _ _ _ (n+1) (by simp[e]) (by simp[hn])
  ·rw[Ac h0]
   generalize jB t done.length x=E at*;refine evl ?_
   repeat' ((conv=>whnf);first|refine bh h0 ?_|refine au ?_|(refine ae ?_ ?_<;>intro h))
   refine ag ?_;rfl
theorem yo (t:Topo)(g:t.good): ∀(rest done:List RConf)(T:TV)(H:aw)(c:Nat)(n:Int)(e:t.routers=done++rest)(hn:n=done.length),
  Ev G ⟨aaj,⟨(20,.int .i64 n)::(1,.ref 65 1 0)::(19,.int .i64 t.routers.length)::T,(65,some (1,.cells t.enc))::H,c⟩,[.t 2],0⟩ ⟨.int .i64 (ou t done rest),[]⟩
 | [],done,T,H,c,n,e,hn=>by
  have hd:=md0 e;have hg:=g.rs;have h1:=Ef t g.rs g.acz;have hg2:=g.acz;have h2:=Qh (bI t.routers) (by omega)
  have m1:=ml t.links Lnk.enc;rw[ou];cases hb:jt [] (bI t.routers) with
  |true=>
   rw[hb] at h2;rw[Ad rfl];refine evl ?_
   repeat' (first|refine bc ?_|refine kZ [(95,_,_)] ⟨rfl,pz trivial⟩ (h2) ?_|(refine ae ?_ ?_<;>intro h))
   refine ag ?_;rfl
  |false=>
   rw[hb] at h2;rw[Ac (by simp)]
   refine evl ?_
   repeat' (first|refine bc ?_|refine kZ [(95,_,_)] ⟨rfl,pz trivial⟩ (h2) ?_|(refine ae ?_ ?_<;>intro h))
   refine ab [36,1,35] [65] ?_;rw[m1];exact zk t g t.links [] _ _ _ 0 rfl rfl
 |x::r,done,T,H,c,n,e,hn=>by
  have hd:=md e;have hg:=g.rs;have h1:=yv t g.rs done.length x (by simp[e]) (g.good x (by simp[e]))
  rw[show t.routers.take done.length=done from by simp[e],←hn] at h1
  rw[ou]
  by_cases h0:rtE t done x=0
  ·rw[Ad h0]
   rw[h0] at h1;refine evl ?_
   repeat' ((conv=>whnf);first|refine bb rfl ?_|refine au ?_|(refine ae ?_ ?_<;>intro h))
   refine ab [20,1,19] [65] ?_;exact yo t g r (done++[x]) _ _ _ (n+1) (by simp[e]) (by simp[hn])
  ·rw[Ac h0]
   generalize rtE t done x=E at*;refine evl ?_
   repeat' ((conv=>whnf);first|refine bh h0 ?_|refine au ?_|(refine ae ?_ ?_<;>intro h))
   refine ag ?_;rfl
theorem OL (t:Topo)(g:t.good):ah G 380 [.agg t.enc] [] ⟨.int .i64 (jL t),[]⟩:=by
 have m1:=ml t.routers RConf.enc;have m2:=ml t.links Lnk.enc;have g1:=g.rs;have g2:=g.ls;rw[jL]
 by_cases a:32<t.routers.length
 ·rw[Ad a]
  have a':(t.routers.length:Int)>32:=by omega
  exact gvA (F:=xw)
 rw[Ac a];have a': ¬(t.routers.length:Int)>32:=by omega
 by_cases b:64<t.links.length
 ·rw[Ad b]
  have b':(t.links.length:Int)>64:=by omega
  exact gvA (F:=xw)
 rw[Ac b];have b': ¬(t.links.length:Int)>64:=by omega
 refine gvB (F:=xw) ?_;refine ab [20,1,19] [65] ?_;rw[m1];exact yo t g t.routers [] _ _ _ 0 rfl rfl
end Go.AM.IR
