/- What the functions of this program give, on the abstract machine. -/
import Derived.Test.YtekpmkbdjkoooaaGreatDoorDataG
import Derived.Test.YtekpmkbdjkoooaaGreatDoorDataF
import Derived.Test.YtekpmkbdjkoooaaGreatDoorDataD
set_option linter.unusedVariables false
set_option linter.unusedSimpArgs false
set_option maxHeartbeats 4000000
set_option maxRecDepth 20000
namespace Go.AM.IR
def pkE (c:PVC)(p:PeerC):Int:=if p.kind<1 then 15 else if 3<p.kind then 15 else if p.asn<1 then 5 else if 4294967295<p.asn then 5 else
 if p.kind=3∧ ¬p.asn=c.asn then 14 else if¬p.kind=3∧p.asn=c.asn then 14 else if p.asn=c.confed then 14 else if p.kind=2∧c.confed=0 then 14 else 0
theorem QF (c:PVC)(p:PeerC):ah G 576 [.agg c.enc,.agg p.enc] [] ⟨.int .i64 (pkE c p),[]⟩:=by
 by_cases a1:p.kind<1
 ·rw[pkE,Ad a1]
  exact gvA (F:=k9)
 by_cases a2:3<p.kind
 ·rw[pkE,Ac a1,Ad a2]
  exact gvA (F:=k9)
 by_cases a3:p.asn<1
 ·rw[pkE,Ac a1,Ac a2,Ad a3]
  exact gvA (F:=k9)
 by_cases a4:4294967295<p.asn
 ·rw[pkE,Ac a1,Ac a2,Ac a3,Ad a4]
  exact gvA (F:=k9)
 rw[pkE,Ac a1,Ac a2,Ac a3,Ac a4]
 by_cases k:p.kind=3
 ·by_cases e:p.asn=c.asn
  ·rw[Ac (by simp[e]),Ac (by simp[k])]
   by_cases f:p.asn=c.confed
   ·rw[Ad f]
    refine gvC (F:=k9) ?_
    repeat' ((conv=>whnf);first|refine bj k ?_|refine bj e ?_|refine au ?_|(refine ae ?_ ?_<;>intro h))
    refine ag ?_;rfl
   ·rw[Ac f,Ac (by omega)]
    refine gvC (F:=k9) ?_
    repeat' ((conv=>whnf);first|refine bj k ?_|refine bj e ?_|refine au ?_|(refine ae ?_ ?_<;>intro h))
    refine ag ?_;rfl
  ·rw[Ad ⟨k,e⟩]
   refine gvC (F:=k9) ?_
   repeat' ((conv=>whnf);first|refine bj k ?_|refine aY e ?_|refine au ?_|(refine ae ?_ ?_<;>intro h))
   refine ag ?_;rfl
 ·by_cases e:p.asn=c.asn
  ·rw[Ac (by simp[k]),Ad ⟨k,e⟩]
   refine gvC (F:=k9) ?_
   repeat' ((conv=>whnf);first|refine aY k ?_|refine bj e ?_|refine au ?_|(refine ae ?_ ?_<;>intro h))
   refine ag ?_;rfl
  ·rw[Ac (by simp[k]),Ac (by simp[e])]
   by_cases f:p.asn=c.confed
   ·rw[Ad f]
    refine gvC (F:=k9) ?_
    repeat' ((conv=>whnf);first|refine aY k ?_|refine aY e ?_|refine au ?_|(refine ae ?_ ?_<;>intro h))
    refine ag ?_;rfl
   ·rw[Ac f]
    by_cases g:p.kind=2
    ·by_cases h:c.confed=0
     ·rw[Ad ⟨g,h⟩]
      refine gvC (F:=k9) ?_
      repeat' ((conv=>whnf);first|refine aY k ?_|refine aY e ?_|refine au ?_|(refine ae ?_ ?_<;>intro h))
      refine ag ?_;rfl
     ·rw[Ac (by simp[h])]
      refine gvC (F:=k9) ?_
      repeat' ((conv=>whnf);first|refine aY k ?_|refine aY e ?_|refine au ?_|(refine ae ?_ ?_<;>intro h))
      refine ag ?_;rfl
    ·rw[Ac (by simp[g])]
     refine gvC (F:=k9) ?_
     repeat' ((conv=>whnf);first|refine aY k ?_|refine aY e ?_|refine au ?_|(refine ae ?_ ?_<;>intro h))
     refine ag ?_;rfl
end Go.AM.IR
namespace Go.AM.IR
theorem Jh (a b:Pfx):ah G 570 [.agg a.enc,.agg b.enc] [] ⟨.bool (decide (a.addr<b.addr∨(a.addr=b.addr∧a.len<b.len))),[]⟩:=by
 by_cases h:a.addr<b.addr
 ·rw[Al (.inl h)]
  refine gvB (F:=CW) ?_;refine ag ?_;simp[h]
 ·by_cases e:a.addr=b.addr
  ·by_cases l:a.len<b.len
   ·rw[Al (.inr ⟨e,l⟩)]
    refine gvB (F:=CW) ?_;refine ag ?_;simp[l]
   ·rw[An (by omega)]
    refine gvB (F:=CW) ?_;refine ag ?_;simp[l]
  ·rw[An (by omega)]
   refine gvB (F:=CW) ?_;refine ag ?_;simp[e]
end Go.AM.IR
namespace Go.AM.IR
def ba {α:Type}(f:α→Int):List α→Int
 | []=>0
 |x::r=>if f x=0 then ba f r else f x
def gU {α β:Type}(rule:β→Int)(name:α→List UInt8)(rules:α→List β):List α→List UInt8→Bool→Int
 | [],_,_=>0
 |x::r,b,fst=>if fw (name x) b fst (rules x).length=0 then (if ba rule (rules x)=0 then gU rule name rules r (name x) false else ba rule (rules x)) else fw (name x) b fst (rules x).length
def ruE (r:RuleP):Int:=if aW r.pfx=true then (if r.min<r.pfx.len∨r.max<r.min∨r.max>32 then 5 else 0) else 1
theorem vl (r:RuleP)(h:r.ok):ah G 326 [.agg r.enc] [] ⟨.int .i64 (ruE r),[]⟩:=by
 have hv:ah G 179 [.agg [.int .u32 r.pfx.addr,.int .i64 r.pfx.len]] [] ⟨.bool (aW r.pfx),[]⟩:=co r.pfx h.1;unfold ruE;cases hvp:aW r.pfx
 ·rw[hvp] at hv
  rw[Ac (by simp)]
  exact gvA (F:=xy)
 ·rw[hvp] at hv
  rw[Ad rfl]
  by_cases h1:r.min<r.pfx.len
  ·rw[Ad (.inl h1)]
   exact gvA (F:=xy)
  ·by_cases h2:r.max<r.min
   ·rw[Ad (.inr (.inl h2))]
    exact gvA (F:=xy)
   ·by_cases h3:r.max>32
    ·rw[Ad (.inr (.inr h3))]
     exact gvA (F:=xy)
    ·rw[Ac (by omega)]
     exact gvA (F:=xy)
def paE (r:PathR):Int:=if (nH r.pattern).isSome then 0 else 2
theorem abs (r:PathR)(h:r.pattern.length<2^32): ∃(k lo hi:Int)(l:List Rx),ah G 571 [.str r.pattern] [] ⟨.tup [.agg [.int .i64 k,.int .i64 lo,.int .i64 hi,.sl 4 (l.map Rx.enc)],.int .i64 (paE r)],[]⟩:=by
 have h1:=Ce r.pattern h;unfold paE;cases hq:nH r.pattern with
 |none=>
  rw[hq] at h1;refine ⟨0,0,0,[],?_⟩;have e:=bi 0 0 0 [];have h2:ah G 571 [.str r.pattern] [] ⟨.tup [.agg rx0.enc,.int .i64 2],[]⟩:=h1;unfold rx0 at h2;rw[e] at h2;exact h2
 |some x=>
  rw[hq] at h1;obtain ⟨k,lo,hi,l⟩:=x;refine ⟨k,lo,hi,l,?_⟩;have h2:ah G 571 [.str r.pattern] [] ⟨.tup [.agg (Rx.mk k lo hi l).enc,.int .i64 0],[]⟩:=h1;rw[bi] at h2;exact h2
theorem yn (l2:List RuleP)(hr: ∀r∈l2,r.ok)(ls:List (List AV))(len i:Int)(bf:List UInt8)(R:Ret)(go:ba ruE l2=0→ ∀(T:TV) (H:aw) (c:Nat),Ev G ⟨FY,⟨(13,.sl 2 ls)::(14,.int .i64 len)::(15,.int .i64 (i+1))::(3,.str bf)::T,H,c⟩,[.t 2],0⟩ R)(hi:0≤i∧i<2^40)(hR:ba ruE l2≠0→R=⟨.int .i64 (ba ruE l2),[]⟩)(hl:l2.length<2^40)(ln:Int)(hln:ln=l2.length): ∀(rest done:List RuleP)(T:TV)(H:aw)(c:Nat)(n:Int)(e:l2=done++rest)(hn:n=done.length)(hz:ba ruE rest=ba ruE l2),Ev G ⟨YT,⟨(35,.sl 5 (l2.map RuleP.enc))::(36,.int .i64 ln)::(37,.int .i64 n)::(3,.str bf)::(13,.sl 2 ls)::(14,.int .i64 len)::(15,.int .i64 i)::T,H,c⟩,[.t 2],0⟩ R
 | [],done,  T,H,c,n,e,hn,hz=>by
  have hd:=md0 e;have hll:=ml l2 RuleP.enc;refine evA ?_;refine ab [13,14,15,3] [] ?_;exact go (by rw[←hz];rfl) _ _ _
 |x::r,done,  T,H,c,n,e,hn,hz=>by
  have hd:=md e;have hll:=ml l2 RuleP.enc;have hx:=mx RuleP.enc e hn;rw[ba] at hz;have h1:=vl x (hr x (by simp[e]))
  generalize ruE x=E at*
  by_cases h0:E=0
  ·rw[Ad h0] at hz
   subst h0;refine evA ?_;refine ab [35,36,37,3,13,14,15] [] ?_;exact yn l2 hr ls len i bf R go hi hR hl ln hln r (done++[x])  _ _ _ (n+1) (by simp[e]) (by simp[hn]<;>omega) hz
  ·rw[Ac h0] at hz
   rw[hR (by rw[←hz];exact h0),←hz]
   refine evA ?_;refine ag ?_;rfl
theorem zp (l:List PList)(hs: ∀x∈l,x.name.length<2^40∧x.rules.length<2^40∧(∀r∈x.rules,r.ok))(hl:l.length<2^40)(ln:Int)(hln:ln=l.length): ∀(rest done:List PList)(bf:List UInt8)(fst:Bool)(T:TV)(H:aw)(c:Nat)(n:Int)(e:l=done++rest)(hn:n=done.length)(hf:(n==0)=fst),Ev G ⟨FY,⟨(13,.sl 2 (l.map PList.enc))::(14,.int .i64 ln)::(15,.int .i64 n)::(3,.str bf)::T,H,c⟩,[.t 2],0⟩ (⟨.int .i64 (gU ruE PList.name PList.rules rest bf fst),[]⟩)
 | [],done,bf,fst,T,H,c,n,e,hn,hf=>by
  have hd:=md0 e;have hll:=ml l PList.enc;refine evA ?_;refine ag ?_;rfl
 |x::r,done,bf,fst,T,H,c,n,e,hn,hf=>by
  have hd:=md e;have hll:=ml l PList.enc;have hx:=mx PList.enc e hn;obtain ⟨q1,q2,q3⟩:=hs x (by simp[e])
  have m1:=ml x.rules RuleP.enc;have h1:=j3 x.name bf q1 (n==0) x.rules.length;have hE:fw x.name bf (n==0) x.rules.length=fw x.name bf fst x.rules.length:=by rw[hf]
  rw[hE] at h1;rw[←m1] at h1;rw[gU,←m1];generalize fw x.name bf fst (x.rules.map RuleP.enc).length=E at*
  by_cases h0:E=0
  ·rw[Ad h0]
   subst h0;refine evA ?_;refine ab [35,36,37,3,13,14,15] [] ?_;rw[m1]
   have hn1:(n+1==0)=false:=by
    have: ¬n+1=0:=by omega
    simpa using this
   refine yn x.rules q3 _ ln n x.name _ (fun hz T H c=>?_) (by omega) (fun hq=>by rw[Ac hq]) q2 _ rfl x.rules [] _ _ _ 0 rfl rfl rfl
   rw[Ad hz];exact zp l hs hl ln hln r (done++[x]) x.name false T H c (n+1) (by simp[e]) (by simp[hn]<;>omega) hn1
  ·rw[Ac h0]
   refine evA ?_;refine ag ?_;rfl
theorem ym (l2:List PathR)(hr: ∀r∈l2,r.pattern.length<2^32)(ls:List (List AV))(len i:Int)(bf:List UInt8)(R:Ret)(go:ba paE l2=0→ ∀(T:TV) (H:aw) (c:Nat),Ev G ⟨FX,⟨(14,.sl 2 ls)::(15,.int .i64 len)::(16,.int .i64 (i+1))::(3,.str bf)::T,H,c⟩,[.t 2],0⟩ R)(hi:0≤i∧i<2^40)(hR:ba paE l2≠0→R=⟨.int .i64 (ba paE l2),[]⟩)(hl:l2.length<2^40)(ln:Int)(hln:ln=l2.length): ∀(rest done:List PathR)(T:TV)(H:aw)(c:Nat)(n:Int)(e:l2=done++rest)(hn:n=done.length)(hz:ba paE rest=ba paE l2),Ev G ⟨YQ,⟨(36,.sl 2 (l2.map PathR.enc))::(37,.int .i64 ln)::(38,.int .i64 n)::(3,.str bf)::(14,.sl 2 ls)::(15,.int .i64 len)::(16,.int .i64 i)::T,H,c⟩,[.t 2],0⟩ R
 | [],done,  T,H,c,n,e,hn,hz=>by
  have hd:=md0 e;have hll:=ml l2 PathR.enc;refine evA ?_;refine ab [14,15,16,3] [] ?_;exact go (by rw[←hz];rfl) _ _ _
 |x::r,done,  T,H,c,n,e,hn,hz=>by
  have hd:=md e;have hll:=ml l2 PathR.enc;have hx:=mx PathR.enc e hn;rw[ba] at hz;obtain ⟨k0,lo0,hi0,l0,h1⟩:=abs x (hr x (by simp[e]))
  generalize paE x=E at*
  by_cases h0:E=0
  ·rw[Ad h0] at hz
   subst h0;refine evA ?_;refine ab [36,37,38,3,14,15,16] [] ?_;exact ym l2 hr ls len i bf R go hi hR hl ln hln r (done++[x])  _ _ _ (n+1) (by simp[e]) (by simp[hn]<;>omega) hz
  ·rw[Ac h0] at hz
   rw[hR (by rw[←hz];exact h0),←hz]
   refine evA ?_;refine ag ?_;rfl
theorem zo (l:List PathL)(hs: ∀x∈l,x.name.length<2^40∧x.rules.length<2^40∧(∀r∈x.rules,r.pattern.length<2^32))(hl:l.length<2^40)(ln:Int)(hln:ln=l.length): ∀(rest done:List PathL)(bf:List UInt8)(fst:Bool)(T:TV)(H:aw)(c:Nat)(n:Int)(e:l=done++rest)(hn:n=done.length)(hf:(n==0)=fst),Ev G ⟨FX,⟨(14,.sl 2 (l.map PathL.enc))::(15,.int .i64 ln)::(16,.int .i64 n)::(3,.str bf)::T,H,c⟩,[.t 2],0⟩ (⟨.int .i64 (gU paE PathL.name PathL.rules rest bf fst),[]⟩)
 | [],done,bf,fst,T,H,c,n,e,hn,hf=>by
  have hd:=md0 e;have hll:=ml l PathL.enc;refine evA ?_;refine ag ?_;rfl
 |x::r,done,bf,fst,T,H,c,n,e,hn,hf=>by
  have hd:=md e;have hll:=ml l PathL.enc;have hx:=mx PathL.enc e hn;obtain ⟨q1,q2,q3⟩:=hs x (by simp[e])
  have m1:=ml x.rules PathR.enc;have h1:=j3 x.name bf q1 (n==0) x.rules.length;have hE:fw x.name bf (n==0) x.rules.length=fw x.name bf fst x.rules.length:=by rw[hf]
  rw[hE] at h1;rw[←m1] at h1;rw[gU,←m1];generalize fw x.name bf fst (x.rules.map PathR.enc).length=E at*
  by_cases h0:E=0
  ·rw[Ad h0]
   subst h0;refine evA ?_;refine ab [36,37,38,3,14,15,16] [] ?_;rw[m1]
   have hn1:(n+1==0)=false:=by
    have: ¬n+1=0:=by omega
    simpa using this
   refine ym x.rules q3 _ ln n x.name _ (fun hz T H c=>?_) (by omega) (fun hq=>by rw[Ac hq]) q2 _ rfl x.rules [] _ _ _ 0 rfl rfl rfl
   rw[Ad hz];exact zo l hs hl ln hln r (done++[x]) x.name false T H c (n+1) (by simp[e]) (by simp[hn]<;>omega) hn1
  ·rw[Ac h0]
   refine evA ?_;refine ag ?_;rfl
theorem yl (l2:List ComR)(hr:True)(ls:List (List AV))(len i:Int)(bf:List UInt8)(R:Ret)(go:ba cy l2=0→ ∀(T:TV) (H:aw) (c:Nat),Ev G ⟨FW,⟨(13,.sl 2 ls)::(14,.int .i64 len)::(15,.int .i64 (i+1))::(3,.str bf)::T,H,c⟩,[.t 2],0⟩ R)(hi:0≤i∧i<2^40)(hR:ba cy l2≠0→R=⟨.int .i64 (ba cy l2),[]⟩)(hl:l2.length<2^40)(ln:Int)(hln:ln=l2.length): ∀(rest done:List ComR)(T:TV)(H:aw)(c:Nat)(n:Int)(e:l2=done++rest)(hn:n=done.length)(hz:ba cy rest=ba cy l2),Ev G ⟨YP,⟨(35,.sl 3 (l2.map ComR.enc))::(36,.int .i64 ln)::(37,.int .i64 n)::(3,.str bf)::(13,.sl 2 ls)::(14,.int .i64 len)::(15,.int .i64 i)::T,H,c⟩,[.t 2],0⟩ R
 | [],done,  T,H,c,n,e,hn,hz=>by
  have hd:=md0 e;have hll:=ml l2 ComR.enc;refine evA ?_;refine ab [13,14,15,3] [] ?_;exact go (by rw[←hz];rfl) _ _ _
 |x::r,done,  T,H,c,n,e,hn,hz=>by
  have hd:=md e;have hll:=ml l2 ComR.enc;have hx:=mx ComR.enc e hn;rw[ba] at hz;have h1:=Ot x;generalize cy x=E at*
  by_cases h0:E=0
  ·rw[Ad h0] at hz
   subst h0;refine evA ?_;refine ab [35,36,37,3,13,14,15] [] ?_;exact yl l2 hr ls len i bf R go hi hR hl ln hln r (done++[x])  _ _ _ (n+1) (by simp[e]) (by simp[hn]<;>omega) hz
  ·rw[Ac h0] at hz
   rw[hR (by rw[←hz];exact h0),←hz]
   refine evA ?_;refine ag ?_;rfl
theorem zn (l:List ComL)(hs: ∀x∈l,x.name.length<2^40∧x.rules.length<2^40∧(True))(hl:l.length<2^40)(ln:Int)(hln:ln=l.length): ∀(rest done:List ComL)(bf:List UInt8)(fst:Bool)(T:TV)(H:aw)(c:Nat)(n:Int)(e:l=done++rest)(hn:n=done.length)(hf:(n==0)=fst),Ev G ⟨FW,⟨(13,.sl 2 (l.map ComL.enc))::(14,.int .i64 ln)::(15,.int .i64 n)::(3,.str bf)::T,H,c⟩,[.t 2],0⟩ (⟨.int .i64 (gU cy ComL.name ComL.rules rest bf fst),[]⟩)
 | [],done,bf,fst,T,H,c,n,e,hn,hf=>by
  have hd:=md0 e;have hll:=ml l ComL.enc;refine evA ?_;refine ag ?_;rfl
 |x::r,done,bf,fst,T,H,c,n,e,hn,hf=>by
  have hd:=md e;have hll:=ml l ComL.enc;have hx:=mx ComL.enc e hn;obtain ⟨q1,q2,q3⟩:=hs x (by simp[e])
  have m1:=ml x.rules ComR.enc;have h1:=j3 x.name bf q1 (n==0) x.rules.length;have hE:fw x.name bf (n==0) x.rules.length=fw x.name bf fst x.rules.length:=by rw[hf]
  rw[hE] at h1;rw[←m1] at h1;rw[gU,←m1];generalize fw x.name bf fst (x.rules.map ComR.enc).length=E at*
  by_cases h0:E=0
  ·rw[Ad h0]
   subst h0;refine evA ?_;refine ab [35,36,37,3,13,14,15] [] ?_;rw[m1]
   have hn1:(n+1==0)=false:=by
    have: ¬n+1=0:=by omega
    simpa using this
   refine yl x.rules q3 _ ln n x.name _ (fun hz T H c=>?_) (by omega) (fun hq=>by rw[Ac hq]) q2 _ rfl x.rules [] _ _ _ 0 rfl rfl rfl
   rw[Ad hz];exact zn l hs hl ln hln r (done++[x]) x.name false T H c (n+1) (by simp[e]) (by simp[hn]<;>omega) hn1
  ·rw[Ac h0]
   refine evA ?_;refine ag ?_;rfl
def kM (l:List PList):Int:=if 64<l.length then 4 else gU ruE PList.name PList.rules l [] true
theorem MA (l:List PList)(hl:l.length<2^40)(hs: ∀x∈l,x.name.length<2^40∧x.rules.length<2^40∧(∀r∈x.rules,r.ok)):ah G 497 [.sl 2 (l.map PList.enc)] [] ⟨.int .i64 (kM l),[]⟩:=by
 have hll:=ml l PList.enc;unfold kM
 by_cases c:64<l.length
 ·rw[Ad c]
  have c':(l.length:Int)>64:=by omega
  exact gvA (F:=Db)
 ·rw[Ac c]
  refine gvB (F:=Db) ?_;refine ab [13,14,15,3] [] ?_;rw[hll];exact zp l hs hl _ rfl l [] [] true _ _ _ 0 rfl rfl rfl
def m8 (l:List PathL):Int:=if 64<l.length then 4 else gU paE PathL.name PathL.rules l [] true
theorem Mz (l:List PathL)(hl:l.length<2^40)(hs: ∀x∈l,x.name.length<2^40∧x.rules.length<2^40∧(∀r∈x.rules,r.pattern.length<2^32)):ah G 498 [.sl 2 (l.map PathL.enc)] [] ⟨.int .i64 (m8 l),[]⟩:=by
 have hll:=ml l PathL.enc;unfold m8
 by_cases c:64<l.length
 ·rw[Ad c]
  have c':(l.length:Int)>64:=by omega
  exact gvA (F:=CZ)
 ·rw[Ac c]
  refine gvB (F:=CZ) ?_;refine ab [14,15,16,3] [] ?_;rw[hll];exact zo l hs hl _ rfl l [] [] true _ _ _ 0 rfl rfl rfl
def kL (l:List ComL):Int:=if 64<l.length then 4 else gU cy ComL.name ComL.rules l [] true
theorem Mw (l:List ComL)(hl:l.length<2^40)(hs: ∀x∈l,x.name.length<2^40∧x.rules.length<2^40∧(True)):ah G 499 [.sl 2 (l.map ComL.enc)] [] ⟨.int .i64 (kL l),[]⟩:=by
 have hll:=ml l ComL.enc;unfold kL
 by_cases c:64<l.length
 ·rw[Ad c]
  have c':(l.length:Int)>64:=by omega
  exact gvA (F:=CY)
 ·rw[Ac c]
  refine gvB (F:=CY) ?_;refine ab [13,14,15,3] [] ?_;rw[hll];exact zn l hs hl _ rfl l [] [] true _ _ _ 0 rfl rfl rfl
end Go.AM.IR
namespace Go.AM.IR
def vdE (v:Int):Int:=if v≠1∧v≠2∧v≠3 then 15 else 0
def tE3 (t:Trm):Int:=if 64<t.acts.length then 4 else if ba nx t.acts=0 then vdE t.verdict else ba nx t.acts
def tE2 (s:PSet)(t:Trm):Int:=if 64<t.mats.length then 4 else if ba (rJ s) t.mats=0 then tE3 t else ba (rJ s) t.mats
def tE1 (s:PSet)(before:List Trm)(t:Trm):Int:=if nmB t.name=false then 1 else if before.any (fun u=>u.name==t.name) then 7 else tE2 s t
theorem R9 (l:List Actn)(t:Trm)(g7:Nat)(hl:l.length<2^40)(ln:Int)(hln:ln=l.length): ∀(rest done:List Actn)(T:TV)(H:aw)(c:Nat)(n:Int)(e:l=done++rest)(hn:n=done.length),Ev G ⟨YM,⟨(63,.sl 5 (l.map Actn.enc))::(64,.int .i64 ln)::(65,.int .i64 n)::(7,.ref 71 g7 0)::T,(71,some (g7,.cells t.enc))::H,c⟩,[.t 6],0⟩ (⟨.int .i64 (if ba nx rest=0 then vdE t.verdict else ba nx rest),[]⟩)
 | [],done,  T,H,c,n,e,hn=>by
  have hd:=md0 e;have hll:=ml l Actn.enc;rw[ba,Ad rfl,vdE]
  by_cases v1:t.verdict=1
  ·rw[Ac (fun q=>q.1 v1)]
   refine evA ?_;refine ag ?_;rfl
  by_cases v2:t.verdict=2
  ·rw[Ac (fun q=>q.2.1 v2)]
   refine evA ?_;refine ag ?_;rfl
  by_cases v3:t.verdict=3
  ·rw[Ac (fun q=>q.2.2 v3)]
   refine evA ?_;refine ag ?_;rfl
  rw[Ad ⟨v1,v2,v3⟩];refine evA ?_;refine ag ?_;rfl
 |x::r,done,  T,H,c,n,e,hn=>by
  have hd:=md e;have hll:=ml l Actn.enc;have hx:=mx Actn.enc e hn;have h1:=PH x;rw[ba];generalize nx x=E at*
  by_cases h0:E=0
  ·subst h0
   rw[Ad rfl];refine evA ?_;refine ab [63,64,65,7] [71] ?_;exact R9 l t g7 hl ln hln r (done++[x])  _ _ _ (n+1) (by simp[e]) (by simp[hn]<;>omega)
  ·rw[Ac h0,Ac h0]
   refine evA ?_;refine ag ?_;rfl
theorem R8 (l:List Mat)(s:PSet)(hs:s.prefixes.length<2^40∧s.paths.length<2^40∧s.comms.length<2^40)(t:Trm)(g7:Nat)(hk: ∀m∈l,m.pfx.ok)(ha:t.acts.length<2^40)(hl:l.length<2^40)(ln:Int)(hln:ln=l.length): ∀(rest done:List Mat)(T:TV)(H:aw)(c:Nat)(n:Int)(e:l=done++rest)(hn:n=done.length),Ev G ⟨YN,⟨(45,.sl 6 (l.map Mat.enc))::(46,.int .i64 ln)::(47,.int .i64 n)::(3,.ref 67 1 0)::(7,.ref 71 g7 0)::T,(67,some (1,.cells s.enc))::(71,some (g7,.cells t.enc))::H,c⟩,[.t 6],0⟩ (⟨.int .i64 (if ba (rJ s) rest=0 then tE3 t else ba (rJ s) rest),[]⟩)
 | [],done,  T,H,c,n,e,hn=>by
  have hd:=md0 e;have hll:=ml l Mat.enc;have m1:=ml t.acts Actn.enc;rw[ba,Ad rfl,tE3]
  by_cases c:64<t.acts.length
  ·rw[Ad c]
   have c':(t.acts.length:Int)>64:=by omega
   refine evA ?_;refine ag ?_;rfl
  ·rw[Ac c]
   refine evA ?_;refine ab [63,64,65,7] [71] ?_;rw[m1];exact R9 t.acts t g7 ha _ rfl t.acts [] _ _ _ 0 rfl rfl
 |x::r,done,  T,H,c,n,e,hn=>by
  have hd:=md e;have hll:=ml l Mat.enc;have hx:=mx Mat.enc e hn;have h1:=Mo s hs x (hk x (by simp[e]))
  rw[ba];generalize rJ s x=E at*
  by_cases h0:E=0
  ·subst h0
   rw[Ad rfl];refine evA ?_;refine ab [45,46,47,3,7] [67,71] ?_;exact R8 l s hs t g7 hk ha hl ln hln r (done++[x])  _ _ _ (n+1) (by simp[e]) (by simp[hn]<;>omega)
  ·rw[Ac h0,Ac h0]
   refine evA ?_;refine ag ?_;rfl
theorem Xz (l:List Trm)(s:PSet)(hs:s.prefixes.length<2^40∧s.paths.length<2^40∧s.comms.length<2^40)(t:Trm)(g7:Nat)(hk: ∀m∈t.mats,m.pfx.ok)(ha:t.acts.length<2^40)(hm:t.mats.length<2^40)(hl:l.length<2^40)(ln:Int)(hln:ln=l.length): ∀(rest done:List Trm)(T:TV)(H:aw)(c:Nat)(n:Int)(e:l=done++rest)(hn:n=done.length),Ev G ⟨YO,⟨(28,.sl 4 (l.map Trm.enc))::(29,.int .i64 ln)::(30,.int .i64 n)::(7,.ref 71 g7 0)::(3,.ref 67 1 0)::T,(67,some (1,.cells s.enc))::(71,some (g7,.cells t.enc))::H,c⟩,[.t 6],0⟩ (⟨.int .i64 (if rest.any (fun u=>u.name==t.name) then 7 else tE2 s t),[]⟩)
 | [],done,  T,H,c,n,e,hn=>by
  have hd:=md0 e;have hll:=ml l Trm.enc;have m1:=ml t.mats Mat.enc;rw[List.any_nil,Ac (by simp),tE2]
  by_cases c:64<t.mats.length
  ·rw[Ad c]
   have c':(t.mats.length:Int)>64:=by omega
   refine evA ?_;refine ag ?_;rfl
  ·rw[Ac c]
   refine evA ?_;refine ab [45,46,47,3,7] [67,71] ?_;rw[m1];exact R8 t.mats s hs t g7 hk ha hm _ rfl t.mats [] _ _ _ 0 rfl rfl
 |x::r,done,  T,H,c,n,e,hn=>by
  have hd:=md e;have hll:=ml l Trm.enc;have hx:=mx Trm.enc e hn;rw[AN]
  by_cases hn:x.name=t.name
  ·rw[show (x.name==t.name)=true from by simp[hn],Bool.true_or,Ad rfl]
   refine evl ?_
   repeat' (first|refine cg ?_|(refine ae ?_ ?_<;>intro h))
   refine ag ?_;rfl
  ·rw[show (x.name==t.name)=false from by simp[hn],BS]
   refine evl ?_
   repeat' (first|refine cg ?_|(refine ae ?_ ?_<;>intro h))
   refine ab [28,29,30,7,3] [67,71] ?_;exact Xz l s hs t g7 hk ha hm hl ln hln r (done++[x])  _ _ _ (n+1) (by simp[e]) (by simp[hn]<;>omega)
theorem Qj (s:PSet)(hs:s.prefixes.length<2^40∧s.paths.length<2^40∧s.comms.length<2^40)(p:Pol)(i:Nat)(t:Trm)(ht:p.terms[i]? =some t)(hp:p.terms.length<2^40)(hk: ∀m∈t.mats,m.pfx.ok)(ha:t.acts.length<2^40)(hm:t.mats.length<2^40)(hn:t.name.length<2^40):ah G 501 [.agg s.enc,.agg p.enc,.int .i64 (i:Int)] [] ⟨.int .i64 (tE1 s (p.terms.take i) t),[]⟩:=by
 have hi:i<p.terms.length:=(Az.1 ht).1;have hx:(p.terms.map Trm.enc)[((i:Nat):Int).toNat]? =some t.enc:=by simp[ht]
 have hll:=ml p.terms Trm.enc;have h1:=vI t.name hn;rw[tE1];cases hb:nmB t.name with
 |false=>
  rw[hb] at h1;rw[Ad rfl];exact gvA (F:=xn)
 |true=>
  rw[hb] at h1;rw[Ac (by simp)]
  refine gvB (F:=xn) ?_;refine ab [28,29,30,7,3] [67,71] ?_;have ht2:((p.terms.take i).map Trm.enc).length=(p.terms.take i).length:=by simp
  have hE:List.take (((i:Nat):Int).toNat-0) (List.drop 0 (p.terms.map Trm.enc))=(p.terms.take i).map Trm.enc:=by simp[List.map_take]
  rw[hE,ht2];exact Xz (p.terms.take i) s hs t _ hk ha hm (by simp;omega) _ rfl (p.terms.take i) [] _ _ _ 0 rfl rfl
end Go.AM.IR
namespace Go.AM.IR
def iV (s:PSet):List Trm→List Trm→Int
 |_,[]=>0
 |d,t::r=>if tE1 s d t=0 then iV s (d++[t]) r else tE1 s d t
def dfE (d:Int):Int:=if d≠1∧d≠2 then 15 else 0
def rz (s:PSet):List Pol→List UInt8→Bool→Int
 | [],_,_=>0
 |p::r,b,f=>if fw p.name b f p.terms.length=0 then (if iV s [] p.terms=0 then (if dfE p.dflt=0 then rz s r p.name false else dfE p.dflt) else iV s [] p.terms) else fw p.name b f p.terms.length
def ca (s:PSet):Int:=if kM s.prefixes=0 then (if m8 s.paths=0 then (if kL s.comms=0 then (if 64<s.pols.length then 4 else rz s s.pols [] true) else kL s.comms) else m8 s.paths) else kM s.prefixes
structure Trm.goodT (t:Trm):Prop where
 nm:t.name.length<2^40
 ms:t.mats.length<2^40
 acz:t.acts.length<2^40
 ok: ∀m∈t.mats,m.pfx.ok
structure PSet.good (s:PSet):Prop where
 a:s.prefixes.length<2^40
 b:s.paths.length<2^40
 c:s.comms.length<2^40
 d:s.pols.length<2^40
 pre: ∀x∈s.prefixes,x.name.length<2^40∧x.rules.length<2^40∧ ∀r∈x.rules,r.ok
 pat: ∀x∈s.paths,x.name.length<2^40∧x.rules.length<2^40∧ ∀r∈x.rules,r.pattern.length<2^32
 com: ∀x∈s.comms,x.name.length<2^40∧x.rules.length<2^40∧True
 pol: ∀x∈s.pols,x.name.length<2^40∧x.terms.length<2^40∧ ∀t∈x.terms,t.goodT
theorem GZ (s:PSet)(hs:s.good)(p:Pol)(hp:p.name.length<2^40∧p.terms.length<2^40∧ ∀t∈p.terms,t.goodT)(ls:List (List AV))(len i:Int)(hi:0≤i∧i<2^40)(g8:Nat)(R:Ret)
  (go:iV s [] p.terms=0→dfE p.dflt=0→ ∀(T:TV)(H:aw)(c:Nat),Ev G ⟨Gg,⟨(35,.sl 3 ls)::(36,.int .i64 len)::(37,.int .i64 (i+1))::(1,.ref 65 1 0)::(6,.str p.name)::T,(65,some (1,.cells s.enc))::H,c⟩,[.t 2],0⟩ R)
  (hR:iV s [] p.terms≠0→R=⟨.int .i64 (iV s [] p.terms),[]⟩) (hD:iV s [] p.terms=0→dfE p.dflt≠0→R=⟨.int .i64 (dfE p.dflt),[]⟩):
  ∀(rest done:List Trm)(T:TV)(H:aw)(c:Nat)(n:Int)(e:p.terms=done++rest)(hn:n=done.length)(hz:iV s done rest=iV s [] p.terms),
  Ev G ⟨Zc,⟨(59,.int .i64 n)::(8,.ref 72 g8 0)::(1,.ref 65 1 0)::(6,.str p.name)::(35,.sl 3 ls)::(36,.int .i64 len)::(37,.int .i64 i)::(58,.int .i64 p.terms.length)::T,(65,some (1,.cells s.enc))::(72,some (g8,.cells p.enc))::H,c⟩,[.t 2],0⟩ R
 | [],done,T,H,c,n,e,hn,hz=>by
  have hd:=md0 e;have hz0:iV s [] p.terms=0:=by rw[←hz];rfl
  have go:=go hz0;have hD:=hD hz0;rw[dfE] at go hD
  by_cases v1:p.dflt=1
  ·have go:=go (Ac (fun q=>q.1 v1))
   refine evA ?_;refine ab [35,36,37,1,6] [65] ?_;exact go _ _ _
  by_cases v2:p.dflt=2
  ·have go:=go (Ac (fun q=>q.2 v2))
   refine evA ?_;refine ab [35,36,37,1,6] [65] ?_;exact go _ _ _
  rw[Ad ⟨v1,v2⟩] at hD;rw[hD (by omega)]
  refine evA ?_;refine ag ?_;rfl
 |t::r,done,T,H,c,n,e,hn,hz=>by
  obtain ⟨hp1,hp2,hp3⟩:=hp;have hd:=md e;have ht:=hp3 t (by simp[e])
  have h1:=Qj s ⟨hs.a,hs.b,hs.c⟩ p done.length t (by simp[e]) hp2 ht.ok ht.acz ht.ms ht.nm
  rw[show p.terms.take done.length=done from by simp[e],←hn] at h1
  rw[iV] at hz;generalize tE1 s done t=E at*
  by_cases h0:E=0
  ·subst h0
   rw[Ad rfl] at hz;refine evA ?_;refine ab [59,8,1,6,35,36,37,58] [65,72] ?_;exact GZ s hs p ⟨hp1,hp2,hp3⟩ ls len i hi g8 R go hR hD r (done++[t]) _ _ _ (n+1) (by simp[e]) (by simp[hn]) hz
  ·rw[Ac h0] at hz
   rw[hR (by rw[←hz];exact h0),←hz]
   refine evA ?_;refine ag ?_;rfl
theorem GY (l:List Pol)(s:PSet)(hs:s.good)(hl1:s.pols=l)(hl:l.length<2^40)(ln:Int)(hln:ln=l.length): ∀(rest done:List Pol)(bf:List UInt8)(fst:Bool)(T:TV)(H:aw)(c:Nat)(n:Int)(e:l=done++rest)(hn:n=done.length)(hf:(n==0)=fst),Ev G ⟨Gg,⟨(35,.sl 3 (l.map Pol.enc))::(36,.int .i64 ln)::(37,.int .i64 n)::(1,.ref 65 1 0)::(6,.str bf)::T,(65,some (1,.cells s.enc))::H,c⟩,[.t 2],0⟩ (⟨.int .i64 (rz s rest bf fst),[]⟩)
 | [],done,bf,fst,T,H,c,n,e,hn,hf=>by
  have hd:=md0 e;have hll:=ml l Pol.enc;refine evA ?_;refine ag ?_;rfl
 |x::r,done,bf,fst,T,H,c,n,e,hn,hf=>by
  have hd:=md e;have hll:=ml l Pol.enc;have hx:=mx Pol.enc e hn;have hp:=hs.pol x (by rw[hl1];simp[e])
  have hp1:=hp.1;have hp2:=hp.2.1;have m1:=ml x.terms Trm.enc;have h1:=j3 x.name bf hp1 (n==0) x.terms.length;have hE:fw x.name bf (n==0) x.terms.length=fw x.name bf fst x.terms.length:=by rw[hf]
  rw[hE] at h1;rw[←m1] at h1;rw[rz,←m1];generalize fw x.name bf fst (x.terms.map Trm.enc).length=E at*
  by_cases h0:E=0
  ·rw[Ad h0]
   subst h0;refine evA ?_;refine ab [59,8,1,6,35,36,37,58] [65,72] ?_;rw[m1]
   have hn1:(n+1==0)=false:=by
    have: ¬n+1=0:=by omega
    simpa using this
   refine GZ s hs x hp _ ln n (by omega) _ _ (fun q1 q2 T H c=>?_) (fun hq=>by rw[Ac hq]) (fun q1 q2=>by rw[Ad q1,Ac q2]) x.terms [] _ _ _ 0 rfl rfl rfl
   rw[Ad q1,Ad q2];exact GY l s hs hl1 hl ln hln r (done++[x]) x.name false T H c (n+1) (by simp[e]) (by simp[hn]<;>omega) hn1
  ·rw[Ac h0]
   refine evA ?_;refine ag ?_;rfl
theorem lr (s:PSet)(hs:s.good):ah G 444 [.agg s.enc] [] ⟨.int .i64 (ca s),[]⟩:=by
 have h1:=MA s.prefixes hs.a hs.pre;have h2:=Mz s.paths hs.b hs.pat;have h3:=Mw s.comms hs.c hs.com;have m1:=ml s.pols Pol.enc;have hd:=hs.d;rw[ca];generalize kM s.prefixes=A at*;generalize m8 s.paths=B at*;generalize kL s.comms=C at*
 by_cases a:A=0
 ·subst a
  rw[Ad rfl]
  by_cases b:B=0
  ·subst b
   rw[Ad rfl]
   by_cases c:C=0
   ·subst c
    rw[Ad rfl]
    by_cases d:64<s.pols.length
    ·rw[Ad d]
     have d':(s.pols.length:Int)>64:=by omega
     exact gvA (F:=sc)
    ·rw[Ac d]
     refine gvB (F:=sc) ?_;refine ab [35,36,37,1,6] [65] ?_;rw[m1];exact GY s.pols s hs rfl hd _ rfl s.pols [] [] true _ _ _ 0 rfl rfl rfl
   ·rw[Ac c]
    exact gvA (F:=sc)
  ·rw[Ac b]
   exact gvA (F:=sc)
 ·rw[Ac a]
  exact gvA (F:=sc)
end Go.AM.IR
namespace Go.AM.IR
section
variable {k:AV→Prop} {x j:Nat}
theorem aea {J:Int}(hJ:J=(j:Int))(hj:j≤31)(h:k (.int .u32 ((2^j:Nat):Int))): ∃v,bv .shl (.int .u32 1) (.int .u64 J)=some v∧k v:=by
 subst hJ;refine ⟨_,?_,h⟩;show (if (j:Int)<0 then none else some (AV.int .u32 (IntKind.wrap .u32 (1*2^ (min (j:Int).toNat 32)))))=_
 rw[Ac (by omega),show min (j:Int).toNat 32=j by omega,Int.one_mul]
 have h1:(2:Nat)^j≤2^31:=Nat.pow_le_pow_right (by omega) hj
 have h2:((2^j:Nat):Int)=(2:Int)^j:=by simp
 rw[←h2,uH _ (by omega)]
theorem ad9 {J:Int}(hJ:J=(j:Int))(hj:j≤31)(hx:x<4294967296)(h:k (.int .u32 ((x/ 2^j:Nat):Int))): ∃v,bv .shr (.int .u32 (x:Int)) (.int .u64 J)=some v∧k v:=by
 subst hJ;refine ⟨_,?_,h⟩;show (if (j:Int)<0 then none else some (AV.int .u32 ((x:Int).fdiv (2^ (min (j:Int).toNat 32)))))=_
 rw[Ac (by omega),show min (j:Int).toNat 32=j by omega]
 have h2:((2^j:Nat):Int)=(2:Int)^j:=by simp
 have h3:0≤((2^j:Nat):Int):=Int.natCast_nonneg _;rw[←h2,Int.fdiv_eq_ediv_of_nonneg _ h3];rfl
end
theorem MB (x m:Nat):x % 2^ (m+1)=x/ 2^m % 2*2^m+x % 2^m:=by
 rw[Nat.pow_succ,Nat.mod_mul,Nat.mul_comm (2^m)];omega
theorem ahf (q d m b r:Nat)(hb:b<2)(hr:r<2^m):(q*2^ (m+1+d)+(b*2^m+r))/ 2^m % 2=b:=by
 have e:q*2^ (m+1+d)+(b*2^m+r)=r+2^m* (q*2^d*2+b):=by
  rw[show m+1+d=m+(d+1) by omega,Nat.pow_add,Nat.pow_succ]
  rw[Nat.mul_add]
  have e1:q* (2^m* (2^d*2))=2^m* (q*2^d*2):=by
   rw[Nat.mul_left_comm,Nat.mul_assoc]
  have e2:b*2^m=2^m*b:=Nat.mul_comm _ _;rw[e1,e2];generalize 2^m* (q*2^d*2)=A;generalize 2^m*b=B;omega
 have hp:0<2^m:=Nat.pow_pos (by omega)
 rw[e,Nat.add_mul_div_left _ _ hp,Nat.div_eq_of_lt hr];generalize q*2^d=A;omega
theorem afy (a m:Nat):a&&&2^m=a/ 2^m % 2*2^m:=by
 apply Nat.eq_of_testBit_eq;intro j
 have e1: ∀q:Nat,(a/ 2^m % 2).testBit q=(decide (q<1)&&(a/ 2^m).testBit q):=fun q=>by
  have:=Nat.testBit_mod_two_pow (a/ 2^m) 1 q;simpa using this
 rw[Nat.testBit_and,Nat.testBit_two_pow,Nat.testBit_mul_two_pow,e1,Nat.testBit_div_two_pow]
 by_cases h:m=j
 ·subst h;simp
 ·by_cases h2:m≤j
  ·have: ¬j-m<1:=by omega
   simp[h,h2,this]
  ·simp[h,h2]
theorem oQ (x n:Nat)(hx:x<4294967296)(hn:n≤32): ∀(f i:Nat)(hf:i+f=32)(hi:n≤i)(a:Nat)(ha:a=bx x n+x % 2^f)(T:TV)(H:aw)(c:Nat),
  Ev G ⟨acp,⟨(0,.int .u32 (a:Int))::(5,.int .i64 (i:Int))::T,H,c⟩,[.t 4],0⟩ ⟨.int .u32 ((bx x n:Nat):Int),[]⟩
 |0,i,hf,hi,a,ha,T,H,c=>by
  obtain rfl:i=32:=by omega
  obtain rfl:a=bx x n:=by rw[ha];simp[Nat.mod_one]
  refine evA ?_;refine ag ?_;rfl
 |f+1,i,hf,hi,a,ha,T,H,c=>by
  have hi2:(i:Int)<32:=by omega
  have e31:(31:Int)- (i:Int)=(f:Int):=by omega
  have hfl:f≤31:=by omega
  have h1:=MB x f;have hr:x % 2^f<2^f:=Nat.mod_lt _ (Nat.pow_pos (by omega))
  have hk:bx x n=x/ 2^ (32-n)*2^ (f+1+(i-n)):=by unfold bx;congr 2;omega
  have hb2:=Nat.mod_lt (x/ 2^f) (show 2>0 by omega)
  have hbit:a/ 2^f % 2=x/ 2^f % 2:=by
   rw[ha,h1,hk];exact ahf _ _ _ _ _ hb2 hr
  have hale:a≤x:=by
   have hle:bx x n+x % 2^ (32-n)=x:=by unfold bx;rw[Nat.mul_comm];exact Nat.div_add_mod _ _
   have:x % 2^ (f+1)≤x % 2^ (32-n):=by
    have e:x % 2^ (f+1)=x % 2^ (32-n) % 2^ (f+1):=by rw[Nat.mod_mod_of_dvd _ (Nat.pow_dvd_pow 2 (by omega))]
    rw[e];exact Nat.mod_le _ _
   omega
  have hpow:(2:Nat)^f≤2^31:=Nat.pow_le_pow_right (by omega) hfl
  have hand:=afy a f;rw[hbit] at hand;have hi3:((i:Int)+1)=((i+1:Nat):Int):=by omega
  have hal:a<4294967296:=by omega
  have hpl:(2:Nat)^f<4294967296:=by omega
  by_cases hz:x/ 2^f % 2=0
  ·rw[hz,Nat.zero_mul] at hand h1
   have hand':((a&&&2^f:Nat):Int)=0:=by rw[hand];rfl
   have ih:=oQ x n hx hn f (i+1) (by omega) (by omega) a (by rw[ha,h1];omega)
   rw[←hi3] at ih;refine evl ?_
   repeat' ((conv=>whnf);first|refine aea e31 hfl ?_|refine xT ?_ hal hpl|refine au ?_|(refine ae ?_ ?_<;>intro h))
   refine ab [0,5] [] ?_;exact ih _ _ _
  ·have hz1:x/ 2^f % 2=1:=by omega
   rw[hz1,Nat.one_mul] at hand h1
   have hpa:2^f≤a:=by
    have:=Nat.div_add_mod a (2^f);have h3:a/ 2^f % 2=1:=by rw[hbit,hz1]
    have h4:1≤a/ 2^f:=by
     rcases Nat.eq_zero_or_pos (a/ 2^f) with q|q
     ·rw[q] at h3;simp at h3
     ·exact q
    have:=Nat.mul_le_mul_left (2^f) h4;omega
   have hpp:0<(2:Nat)^f:=Nat.pow_pos (by omega)
   have hand': ¬((a&&&2^f:Nat):Int)=0:=by rw[hand];omega
   have hsub:(a:Int)- ((2^f:Nat):Int)=((a-2^f:Nat):Int):=by omega
   have ih:=oQ x n hx hn f (i+1) (by omega) (by omega) (a-2^f) (by rw[ha,h1];omega)
   rw[←hi3,←hsub] at ih;have hs0:0≤(a:Int)- ((2^f:Nat):Int):=by omega
   have hs1:(a:Int)- ((2^f:Nat):Int)≤4294967295:=by omega
   have zsub: ∀{kv:AV→Prop},kv (.int .u32 ((a:Int)- ((2^f:Nat):Int)))→ ∃v,bv .sub (.int .u32 (a:Int)) (.int .u32 ((2^f:Nat):Int))=some v∧kv v:=fun h=>⟨_,by show some (AV.int .u32 (IntKind.wrap .u32 ((a:Int)- ((2^f:Nat):Int))))=_;rw[hsub,uH _ (by omega)],by rw[hsub] at h;exact h⟩
   refine evl ?_
   repeat' ((conv=>whnf);first|refine aea e31 hfl ?_|refine xT ?_ hal hpl|refine zsub ?_|refine au ?_|(refine ae ?_ ?_<;>intro h))
   refine ab [0,5] [] ?_;exact ih _ _ _
theorem iJ (x n:Nat)(hx:x<4294967296)(hn:n≤32):ah G 569 [.int .u32 (x:Int),.int .i64 (n:Int)] [] ⟨.int .u32 ((bx x n:Nat):Int),[]⟩:=by
 have hle:bx x n+x % 2^ (32-n)=x:=by unfold bx;rw[Nat.mul_comm];exact Nat.div_add_mod _ _
 refine gvB (F:=VO) ?_;refine ab [0,5] [] ?_;exact oQ x n hx hn (32-n) n (by omega) (Bd _) x hle.symm _ _ _
theorem tZ (x n:Nat)(hx:x<4294967296)(hn:n≤32): ∀(f i:Nat)(hf:i+f=32)(T:TV)(H:aw)(c:Nat),
  Ev G ⟨acW,⟨(0,.int .u32 (x:Int))::(5,.int .i64 (i:Int))::T,H,c⟩,[.t 4],0⟩ ⟨.bool (decide (x % 2^f=0)),[]⟩
 |0,i,hf,T,H,c=>by
  obtain rfl:i=32:=by omega
  rw[show decide (x % 2^0=0)=true from by simp[Nat.mod_one]]
  refine evA ?_;refine ag ?_;rfl
 |f+1,i,hf,T,H,c=>by
  have hi2:(i:Int)<32:=by omega
  have e31:(31:Int)- (i:Int)=(f:Int):=by omega
  have hfl:f≤31:=by omega
  have h1:=MB x f;have hpp:0<(2:Nat)^f:=Nat.pow_pos (by omega)
  have hi3:((i:Int)+1)=((i+1:Nat):Int):=by omega
  have hdl:x/ 2^f<4294967296:=Nat.lt_of_le_of_lt (Nat.div_le_self _ _) hx;have hand:x/ 2^f&&&1=x/ 2^f % 2:=Nat.and_one_is_mod _;have h1l:1<4294967296:=by omega
  have ih:=tZ x n hx hn f (i+1) (by omega)
  rw[←hi3] at ih;have zand: ∀{kv:AV→Prop},kv (.int .u32 ((x/ 2^f % 2:Nat):Int))→ ∃v,bv .and (.int .u32 ((x/ 2^f:Nat):Int)) (.int .u32 1)=some v∧kv v:=fun {kv} h=>xT (a:=x/ 2^f) (b:=1) (k:=kv) (by rw[hand];exact h) hdl h1l
  by_cases hz:x/ 2^f % 2=0
  ·have hz': ¬((x/ 2^f % 2:Nat):Int)=1:=by omega
   rw[show decide (x % 2^ (f+1)=0)=decide (x % 2^f=0) from by rw[h1,hz];simp]
   refine evl ?_
   repeat' ((conv=>whnf);first|refine ad9 e31 hfl hx ?_|refine zand ?_|refine au ?_|(refine ae ?_ ?_<;>intro h))
   refine ab [0,5] [] ?_;exact ih _ _ _
  ·have hz1:x/ 2^f % 2=1:=by omega
   have hz':((x/ 2^f % 2:Nat):Int)=1:=by omega
   rw[show decide (x % 2^ (f+1)=0)=false from by rw[h1,hz1,AP];omega]
   refine evl ?_
   repeat' ((conv=>whnf);first|refine ad9 e31 hfl hx ?_|refine zand ?_|refine au ?_|(refine ae ?_ ?_<;>intro h))
   refine ag ?_;rfl
theorem j4 (p:Pfx)(h:p.ok):ah G 495 [.int .u32 p.addr,.int .i64 p.len] [] ⟨.bool (aW p),[]⟩:=by
 obtain ⟨a,n⟩:=p;obtain ⟨x,rfl⟩: ∃x:Nat,a=x:=⟨a.toNat,by have:=h.addr;unfold okU at this;simp only at this;omega⟩
 have hx:x<4294967296:=by have:=h.addr;unfold okU at this;simp only at this;omega
 by_cases n0:n<0
 ·rw[show aW ⟨x,n⟩=false from by simp[aW];omega]
  exact gvA (F:=Dc)
 by_cases n1:n>32
 ·rw[show aW ⟨x,n⟩=false from by simp[aW];omega]
  exact gvA (F:=Dc)
 obtain ⟨m,rfl⟩: ∃m:Nat,n=m:=⟨n.toNat,by omega⟩
 have hle:bx x m+x % 2^ (32-m)=x:=by unfold bx;rw[Nat.mul_comm];exact Nat.div_add_mod _ _
 rw[show aW ⟨x,m⟩=decide (x % 2^ (32-m)=0) from by
  unfold aW;rw[Bool.eq_iff_iff];simp only[AO,Int.toNat_natCast];omega]
 refine gvB (F:=Dc) ?_;refine ab [0,5] [] ?_;exact tZ x m hx (by omega) (32-m) m (by omega) _ _ _
end Go.AM.IR
namespace Go.AM.IR
theorem abH {a:Int}(h:okU a): ∃x:Nat,a=x∧x<4294967296:=⟨a.toNat,by unfold okU at h;omega,by unfold okU at h;omega⟩
def inP (p:Pfx)(a:Int):Bool:=decide (((bx a.toNat p.len.toNat:Nat):Int)=p.addr)
theorem QZ (p:Pfx)(a:Int)(ha:okU a)(h0:0≤p.len)(h1:p.len≤32):ah G 568 [.agg p.enc,.int .u32 a] [] ⟨.bool (inP p a),[]⟩:=by
 obtain ⟨x,rfl,hx⟩:=abH ha;obtain ⟨q,n⟩:=p;obtain ⟨m,rfl⟩: ∃m:Nat,n=m:=⟨n.toNat,by dsimp only at h0;omega⟩
 have hk:=iJ x m hx (by dsimp only at h1;omega)
 unfold inP;simp only[Int.toNat_natCast]
 by_cases e:(bx x m:Int)=q
 ·rw[Al e]
  generalize bx x m=y at*;refine gvB (F:=VR) ?_;refine ag ?_;simp[e]
 ·rw[An e]
  generalize bx x m=y at*;refine gvB (F:=VR) ?_;refine ag ?_;simp[e]
def wi (n a b:Int):Bool:=decide (a≤n∧n≤b)
def ifE (x:Ifc):Int:=if wi x.kind 1 3=false then 15 else if aW x.pfx=false then 1 else if x.addr=0 then 1 else if inP x.pfx x.addr=false then 1 else
 if wi x.cost 1 65535=false then 5 else if wi x.prio 0 255=false then 5 else if wi x.hello 1 65535=false then 5 else if wi x.dead x.hello 65535=false then 5 else 0
theorem Re (x:Ifc)(hx:x.ok):ah G 493 [.agg x.enc] [] ⟨.int .i64 (ifE x),[]⟩:=by
 obtain ⟨hp,ha⟩:x.pfx.ok∧okU x.addr:=⟨hx.2.1,hx.2.2.1⟩;have h1:=jb x.kind 1 3;have h2:=j4 x.pfx hp;have h4:=jb x.cost 1 65535;have h5:=jb x.prio 0 255;have h6:=jb x.hello 1 65535;have h7:=jb x.dead x.hello 65535;unfold ifE;rw[show decide (1≤x.kind∧x.kind≤3)=wi x.kind 1 3 from rfl] at h1
 rw[show decide (1≤x.cost∧x.cost≤65535)=wi x.cost 1 65535 from rfl] at h4
 rw[show decide (0≤x.prio∧x.prio≤255)=wi x.prio 0 255 from rfl] at h5
 rw[show decide (1≤x.hello∧x.hello≤65535)=wi x.hello 1 65535 from rfl] at h6
 rw[show decide (x.hello≤x.dead∧x.dead≤65535)=wi x.dead x.hello 65535 from rfl] at h7
 generalize wi x.kind 1 3=b1 at*;generalize wi x.cost 1 65535=b4 at*;generalize wi x.prio 0 255=b5 at*;generalize wi x.hello 1 65535=b6 at*;generalize wi x.dead x.hello 65535=b7 at*;cases b1 with
 |false=>
  rw[Ad rfl];exact gvA (F:=oZ)
 |true=>
 rw[Ac (by simp)]
 cases hv:aW x.pfx with
 |false=>
  rw[hv] at h2;rw[Ad rfl];exact gvA (F:=oZ)
 |true=>
 rw[hv] at h2;rw[Ac (by simp)]
 have hl:0≤x.pfx.len∧x.pfx.len≤32:=by
  unfold aW at hv;have:=of_decide_eq_true hv;exact ⟨this.1,this.2.1⟩
 have h3:ah G 568 [.agg [.int .u32 x.pfx.addr,.int .i64 x.pfx.len],.int .u32 x.addr] [] ⟨.bool (inP x.pfx x.addr),[]⟩:=QZ x.pfx x.addr ha hl.1 hl.2
 by_cases az:x.addr=0
 ·rw[Ad az]
  exact gvA (F:=oZ)
 rw[Ac az];generalize inP x.pfx x.addr=b3 at*;cases b3 with
 |false=>
  rw[Ad rfl];exact gvA (F:=oZ)
 |true=>
 rw[Ac (by simp)]
 cases b4 with
 |false=>
  rw[Ad rfl];exact gvA (F:=oZ)
 |true=>
 rw[Ac (by simp)]
 cases b5 with
 |false=>
  rw[Ad rfl];exact gvA (F:=oZ)
 |true=>
 rw[Ac (by simp)]
 cases b6 with
 |false=>
  rw[Ad rfl];exact gvA (F:=oZ)
 |true=>
 rw[Ac (by simp)]
 cases b7 with
 |false=>
  rw[Ad rfl];exact gvA (F:=oZ)
 |true=>
 rw[Ac (by simp)]
 exact gvA (F:=oZ)
def ovE (p q:Pfx):Bool:=decide (bx p.addr.toNat (min p.len q.len).toNat=bx q.addr.toNat (min p.len q.len).toNat)
theorem QJ (p q:Pfx)(hp:p.ok)(hq:q.ok)(vp:aW p=true)(vq:aW q=true):ah G 494 [.agg p.enc,.agg q.enc] [] ⟨.bool (ovE p q),[]⟩:=by
 have lp:=of_decide_eq_true vp;have lq:=of_decide_eq_true vq;have l1:=lp.1;have l2:=lp.2.1;have l3:=lq.1;have l4:=lq.2.1;clear lp lq vp vq;obtain ⟨a,n⟩:=p;obtain ⟨b,m⟩:=q;obtain ⟨x,rfl,hx⟩:=abH hp.addr;obtain ⟨y,rfl,hy⟩:=abH hq.addr;dsimp only at l1 l2 l3 l4;obtain ⟨n,rfl⟩: ∃k:Nat,n=k:=⟨n.toNat,by omega⟩
 obtain ⟨m,rfl⟩: ∃k:Nat,m=k:=⟨m.toNat,by omega⟩
 unfold ovE;dsimp only
 by_cases h:(m:Int)<(n:Int)
 ·have e:(min (n:Int) (m:Int)).toNat=m:=by omega
  rw[e];simp only[Int.toNat_natCast];have k1:=iJ x m hx (by omega)
  have k2:=iJ y m hy (by omega)
  by_cases he:bx x m=bx y m
  ·have he':(bx x m:Int)=(bx y m:Int):=by omega
   rw[Al he];generalize bx x m=u at*;generalize bx y m=v at*;refine gvB (F:=Df) ?_;refine ag ?_;simp[he,he']
  ·have he': ¬(bx x m:Int)=(bx y m:Int):=by omega
   rw[An he];generalize bx x m=u at*;generalize bx y m=v at*;refine gvB (F:=Df) ?_;refine ag ?_;simp[he,he']
 ·have e:(min (n:Int) (m:Int)).toNat=n:=by omega
  rw[e];simp only[Int.toNat_natCast];have k1:=iJ x n hx (by omega)
  have k2:=iJ y n hy (by omega)
  by_cases he:bx x n=bx y n
  ·have he':(bx x n:Int)=(bx y n:Int):=by omega
   rw[Al he];generalize bx x n=u at*;generalize bx y n=v at*;refine gvB (F:=Df) ?_;refine ag ?_;simp[he,he']
  ·have he': ¬(bx x n:Int)=(bx y n:Int):=by omega
   rw[An he];generalize bx x n=u at*;generalize bx y n=v at*;refine gvB (F:=Df) ?_;refine ag ?_;simp[he,he']
end Go.AM.IR
namespace Go.AM.IR
def oD (a b:ARange):Bool:=decide (a.area<b.area∨(a.area=b.area∧(a.pfx.addr<b.pfx.addr∨(a.pfx.addr=b.pfx.addr∧a.pfx.len<b.pfx.len))))
theorem Jo (a b:ARange)(ha:a.pfx.ok)(hb:b.pfx.ok)(va:aW a.pfx=true)(vb:aW b.pfx=true):ah G 496 [.sl 4 [a.enc,b.enc]] [] ⟨.bool (oD a b),[]⟩:=by
 have f1:=j4 a.pfx ha;have f2:=j4 b.pfx hb;rw[va] at f1;rw[vb] at f2;have l1:ah G 570 [.agg [.int .u32 a.pfx.addr,.int .i64 a.pfx.len],.agg [.int .u32 b.pfx.addr,.int .i64 b.pfx.len]] [] ⟨.bool (decide (a.pfx.addr<b.pfx.addr∨(a.pfx.addr=b.pfx.addr∧a.pfx.len<b.pfx.len))),[]⟩:=Jh a.pfx b.pfx;have x0: [a.enc,b.enc][(0:Int).toNat]? =some a.enc:=rfl;have x1: [a.enc,b.enc][(1:Int).toNat]? =some b.enc:=rfl;have z2: [a.enc,b.enc].length=2:=rfl
 have e2: ∀(T:TV)(H:aw)(c:Nat),Ev G ⟨NA,⟨(3,.int .i64 2)::(0,.sl 4 [a.enc,b.enc])::T,H,c⟩,[.t 2],0⟩ ⟨.bool true,[]⟩:=fun T H c=>by
  refine evA ?_;refine ag ?_;rfl
 have e1: ∀(T:TV)(H:aw)(c:Nat),Ev G ⟨NA,⟨(3,.int .i64 1)::(0,.sl 4 [a.enc,b.enc])::T,H,c⟩,[.t 2],0⟩ ⟨.bool (oD a b),[]⟩:=fun T H c=>by
  unfold oD
  by_cases lp:a.pfx.addr<b.pfx.addr∨(a.pfx.addr=b.pfx.addr∧a.pfx.len<b.pfx.len)
  ·rw[Al lp] at l1
   by_cases c1:a.area<b.area
   ·rw[Al (.inl c1)]
    refine evA ?_;refine ab [3,0] [] ?_;exact e2 _ _ _
   ·by_cases c2:a.area=b.area
    ·rw[Al (.inr ⟨c2,lp⟩)]
     refine evA ?_;refine ab [3,0] [] ?_;exact e2 _ _ _
    ·rw[An (fun q=>q.elim c1 fun q=>c2 q.1)]
     refine evA ?_;refine ag ?_;rfl
  ·rw[An lp] at l1
   by_cases c1:a.area<b.area
   ·rw[Al (.inl c1)]
    refine evA ?_;refine ab [3,0] [] ?_;exact e2 _ _ _
   ·rw[An (fun q=>q.elim c1 fun q=>lp q.2)]
    by_cases c2:a.area=b.area
    ·refine evA ?_
     refine ag ?_;rfl
    ·refine evA ?_
     refine ag ?_;rfl
 refine gvB (F:=VZ) ?_;refine ab [3,0] [] ?_;refine evA ?_;refine ab [3,0] [] ?_;exact e1 _ _ _
end Go.AM.IR
namespace Go.AM.IR
def lR:List ARange→List ARange→Int
 |_,[]=>0
 |d,x::r=>if aW x.pfx=false then 1 else if (match d.getLast? with|some a=> !oD a x|none=>false)=true then 16 else lR (d++[x]) r
theorem yw (q:LSC)(hc:q.ranges.length<2^40)(hok: ∀x∈q.ranges,x.pfx.ok): ∀(rest done:List ARange)(T:TV)(H:aw)(c:Nat)(n:Int)(e:q.ranges=done++rest)(hn:n=done.length)(hv: ∀y∈done,aW y.pfx=true),
  Ev G ⟨Ze,⟨(7,.int .i64 n)::(1,.ref 65 1 0)::T,(65,some (1,.cells q.enc))::H,c⟩,[.t 2],0⟩ ⟨.int .i64 (lR done rest),[]⟩
 | [],done,T,H,c,n,e,hn,hv=>by
  have hd:=md0 e;have m1:=ml q.ranges ARange.enc;refine evA ?_;refine ag ?_;rfl
 |x::r,done,T,H,c,n,e,hn,hv=>by
  have hd:=md e;have m1:=ml q.ranges ARange.enc;have hx:=mx ARange.enc e hn;have hxo:=hok x (by simp[e])
  have f1:=j4 x.pfx hxo;rw[lR];cases vx:aW x.pfx with
  |false=>
   rw[vx] at f1;rw[Ad rfl];refine evA ?_;refine ag ?_;rfl
  |true=>
  rw[vx] at f1;rw[Ac (by simp)]
  have hv': ∀y∈done++[x],aW y.pfx=true:=fun y hy=>by
   rcases B4.1 hy with w|w
   ·exact hv y w
   ·simp only[B5] at w;rw[w];exact vx
  have ih:=fun T H c=>yw q hc hok r (done++[x]) T H c (n+1) (by simp[e]) (by simp[hn]) hv'
  rcases List.eq_nil_or_concat done with h0|⟨d,a,h0⟩
  ·subst h0
   obtain rfl:n=0:=hn;rw[Ac (by simp)]
   refine evA ?_;refine ab [7,1] [65] ?_;exact ih _ _ _
  ·have hao:=hok a (by rw[e,h0];simp)
   have g1:=Jo a x hao hxo (hv a (by rw[h0];simp)) vx
   have hl0:done.getLast?=some a:=by rw[h0];simp
   have hdl:done.length=d.length+1:=by rw[h0];simp
   have n1:(0:Int)<n:=by omega
   have hE:List.take ((n+1).toNat- (n-1).toNat) (List.drop (n-1).toNat (q.ranges.map ARange.enc))= [a.enc,x.enc]:=by
    have e1:(n-1).toNat=d.length:=by omega
    have e2:(n+1).toNat- (n-1).toNat=2:=by omega
    rw[e2,e1,e,h0];simp[List.concat_eq_append]
   rw[hl0];dsimp only;have kE: ∀es,es= [a.enc,x.enc]→ah G 496 [.sl 4 es] [] ⟨.bool (oD a x),[]⟩:=fun es w=>by rw[w];exact g1
   have hpr: ∀es,es= [a.enc,x.enc]→aU [AV.sl 4 es]=true:=fun es w=>by rw[w];simp[aU,AV.pure,aG]
   by_cases ho:oD a x=true
   ·rw[ho] at kE
    rw[Ac (by rw[ho];simp)]
    refine evl ?_
    repeat' ((conv=>whnf);first|refine kV (kE _ hE) ?_ (hpr _ hE)|refine au ?_|(refine ae ?_ ?_<;>intro h))
    refine ab [7,1] [65] ?_;exact ih _ _ _
   ·rw[AR] at ho
    rw[ho] at kE;rw[Ad (by rw[ho];rfl)]
    refine evl ?_
    repeat' ((conv=>whnf);first|refine kV (kE _ hE) ?_ (hpr _ hE)|refine au ?_|(refine ae ?_ ?_<;>intro h))
    refine ag ?_;rfl
def ovT:List Ifc→List Ifc→Bool
 |_,[]=>false
 |d,x::r=>d.any (fun y=>ovE x.pfx y.pfx)||ovT (d++[x]) r
def UZ (q:LSC):Int:=if ovT [] q.ifs=true then 7 else lR [] q.ranges
def lsE (q:LSC):Int:=if q.router=0 then 5 else if q.ifs= [] then 1 else if 16<q.ifs.length then 4 else if 64<q.ranges.length then 4 else if ba ifE q.ifs=0 then UZ q else ba ifE q.ifs
theorem SD (q:LSC)(hc:q.ifs.length<2^40)(hok: ∀x∈q.ifs,x.ok)(hv: ∀x∈q.ifs,aW x.pfx=true)(i:Nat)(x:Ifc)(hx:q.ifs[i]? =some x)(R:Ret)
  (go:(q.ifs.take i).any (fun y=>ovE x.pfx y.pfx)=false→ ∀(T:TV)(H:aw)(c:Nat),Ev G ⟨Gh,⟨(5,.int .i64 ((i:Int)+1))::(1,.ref 65 1 0)::T,(65,some (1,.cells q.enc))::H,c⟩,[.t 2],0⟩ R)
  (hR:(q.ifs.take i).any (fun y=>ovE x.pfx y.pfx)=true→R=⟨.int .i64 7,[]⟩): ∀(f k:Nat)(hk:k+f=i)(hd:(q.ifs.take k).any (fun y=>ovE x.pfx y.pfx)=false)(T:TV)(H:aw)(c:Nat),
  Ev G ⟨Zf,⟨(6,.int .i64 (k:Int))::(1,.ref 65 1 0)::(5,.int .i64 (i:Int))::T,(65,some (1,.cells q.enc))::H,c⟩,[.t 2],0⟩ R
 |0,k,hk,hd,T,H,c=>by
  obtain rfl:k=i:=by omega
  have hi:k<q.ifs.length:=(Az.1 hx).1;refine evA ?_;refine ab [5,1] [65] ?_;exact go hd _ _ _
 |f+1,k,hk,hd,T,H,c=>by
  have hi:i<q.ifs.length:=(Az.1 hx).1;obtain ⟨y,hy⟩: ∃y,q.ifs[k]? =some y:=⟨q.ifs[k],AJ (by omega)⟩
  have hki:(k:Int)<(i:Int):=by omega
  have m1:=ml q.ifs Ifc.enc;have hx1:(q.ifs.map Ifc.enc)[((i:Nat):Int).toNat]? =some x.enc:=by simp[hx]
  have hy1:(q.ifs.map Ifc.enc)[((k:Nat):Int).toNat]? =some y.enc:=by simp[hy]
  have mx:=A3 hx;have my:=A3 hy;have h1:ah G 494 [.agg [.int .u32 x.pfx.addr,.int .i64 x.pfx.len],.agg [.int .u32 y.pfx.addr,.int .i64 y.pfx.len]] [] ⟨.bool (ovE x.pfx y.pfx),[]⟩:=QJ x.pfx y.pfx (hok x mx).2.1 (hok y my).2.1 (hv x mx) (hv y my);have ht:q.ifs.take (k+1)=q.ifs.take k++[y]:=by rw[List.take_add_one,hy];rfl
  by_cases ho:ovE x.pfx y.pfx=true
  ·rw[ho] at h1
   rw[hR (by
    rw[List.any_eq_true];exact ⟨y,List.mem_of_mem_take (i:=k+1) (by rw[List.take_take,Nat.min_eq_left (by omega),ht];simp),ho⟩)]
   refine evA ?_;refine ag ?_;rfl
  ·rw[AR] at ho
   rw[ho] at h1;refine evA ?_;refine ab [6,1,5] [65] ?_;exact SD q hc hok hv i x hx R go hR f (k+1) (by omega) (by rw[ht];simp[hd,ho]) _ _ _
theorem Fj (q:LSC)(hc:q.ifs.length<2^40)(hrg:q.ranges.length<2^40)(hok: ∀x∈q.ifs,x.ok)(hrok: ∀x∈q.ranges,x.pfx.ok)(hv: ∀x∈q.ifs,aW x.pfx=true): ∀(rest done:List Ifc)(T:TV)(H:aw)(c:Nat)(n:Int)(e:q.ifs=done++rest)(hn:n=done.length),
  Ev G ⟨Gh,⟨(5,.int .i64 n)::(1,.ref 65 1 0)::T,(65,some (1,.cells q.enc))::H,c⟩,[.t 2],0⟩ ⟨.int .i64 (if ovT done rest=true then 7 else lR [] q.ranges),[]⟩
 | [],done,T,H,c,n,e,hn=>by
  have hd:=md0 e;have m1:=ml q.ifs Ifc.enc;rw[ovT,Ac (by simp)]
  refine evA ?_;refine ab [7,1] [65] ?_;exact yw q hrg hrok q.ranges [] _ _ _ 0 rfl rfl (by simp)
 |x::r,done,T,H,c,n,e,hn=>by
  have hd:=md e;have m1:=ml q.ifs Ifc.enc;have ht:q.ifs.take done.length=done:=by simp[e]
  have hx0:q.ifs[done.length]? =some x:=by simp[e]
  subst hn;rw[ovT];refine evA ?_;refine ab [6,1,5] [65] ?_;refine SD q hc hok hv done.length x hx0 _ (fun h0 T H c=>?_) (fun h1=>?_) done.length 0 (by omega) (by simp) _ _ _
  ·rw[ht] at h0
   rw[h0,BS];exact Fj q hc hrg hok hrok hv r (done++[x]) T H c ((done.length:Int)+1) (by simp[e]) (by simp)
  ·rw[ht] at h1
   rw[h1,Bool.true_or,Ad rfl]
theorem FK (q:LSC)(hc:q.ifs.length<2^40)(hrg:q.ranges.length<2^40)(hok: ∀x∈q.ifs,x.ok)(hrok: ∀x∈q.ranges,x.pfx.ok): ∀(rest done:List Ifc)(T:TV)(H:aw)(c:Nat)(n:Int)(e:q.ifs=done++rest)(hn:n=done.length)(hv: ∀x∈done,aW x.pfx=true),
  Ev G ⟨Zh,⟨(3,.int .i64 n)::(1,.ref 65 1 0)::T,(65,some (1,.cells q.enc))::H,c⟩,[.t 2],0⟩ ⟨.int .i64 (if ba ifE rest=0 then UZ q else ba ifE rest),[]⟩
 | [],done,T,H,c,n,e,hn,hv=>by
  have hd:=md0 e;have m1:=ml q.ifs Ifc.enc;obtain rfl:q.ifs=done:=by simpa using e
  rw[ba,Ad rfl];refine evA ?_;refine ab [5,1] [65] ?_;exact Fj q hc hrg hok hrok hv q.ifs [] _ _ _ 0 rfl rfl
 |x::r,done,T,H,c,n,e,hn,hv=>by
  have hd:=md e;have m1:=ml q.ifs Ifc.enc;have hx:=mx Ifc.enc e hn;have h1:=Re x (hok x (by simp[e]))
  have hvx:ifE x=0→aW x.pfx=true:=fun h=>by
   unfold ifE at h;split at h
   ·omega
   split at h
   ·omega
   ·rename_i h2;simpa using h2
  rw[ba];generalize ifE x=E at*
  by_cases h0:E=0
  ·subst h0
   rw[Ad rfl];refine evA ?_;refine ab [3,1] [65] ?_
   exact FK q hc hrg hok hrok r (done++[x]) _ _ _ (n+1) (by simp[e]) (by simp[hn]) (fun y hy=>by
    rcases B4.1 hy with w|w
    ·exact hv y w
    ·simp only[B5] at w;rw[w];exact hvx rfl)
  ·rw[Ac h0,Ac h0]
   refine evA ?_;refine ag ?_;rfl
theorem QR (q:LSC)(hc:q.ifs.length<2^40)(hrg:q.ranges.length<2^40)(hok: ∀x∈q.ifs,x.ok)(hrok: ∀x∈q.ranges,x.pfx.ok):ah G 443 [.agg q.enc] [] ⟨.int .i64 (lsE q),[]⟩:=by
 have m1:=ml q.ifs Ifc.enc;have m2:=ml q.ranges ARange.enc;rw[lsE]
 by_cases a:q.router=0
 ·rw[Ad a]
  exact gvA (F:=o8)
 rw[Ac a]
 by_cases b:q.ifs= []
 ·rw[Ad b]
  have b':(q.ifs.length:Int)=0:=by rw[b];rfl
  exact gvA (F:=o8)
 rw[Ac b];have b': ¬(q.ifs.length:Int)=0:=fun w=>b (AI (by omega))
 by_cases d:16<q.ifs.length
 ·rw[Ad d]
  have d':(q.ifs.length:Int)>16:=by omega
  exact gvA (F:=o8)
 rw[Ac d]
 by_cases f:64<q.ranges.length
 ·rw[Ad f]
  have f':(q.ranges.length:Int)>64:=by omega
  exact gvA (F:=o8)
 rw[Ac f];refine gvB (F:=o8) ?_;refine ab [3,1] [65] ?_;exact FK q hc hrg hok hrok q.ifs [] _ _ _ 0 rfl rfl (by simp)
end Go.AM.IR
