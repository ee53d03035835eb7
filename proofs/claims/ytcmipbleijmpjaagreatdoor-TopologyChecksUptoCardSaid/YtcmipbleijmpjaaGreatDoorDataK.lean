/- What the functions of this program give, on the abstract machine. -/
import Derived.Test.YtcmipbleijmpjaaGreatDoorDataE
import Derived.Test.YtcmipbleijmpjaaGreatDoorDataJ
set_option linter.unusedVariables false
set_option linter.unusedSimpArgs false
set_option maxHeartbeats 4000000
set_option maxRecDepth 20000
namespace Go.AM.IR
def bb {α:Type} (f:α→Int):List α→Int
 | []=>0
 |x::r=>if f x=0 then bb f r else f x
def gW {α β:Type} (rule:β→Int) (name:α→List UInt8) (rules:α→List β):List α→List UInt8→Bool→Int
 | [],_,_=>0
 |x::r,b,fst=>if fk (name x) b fst (rules x).length=0 then (if bb rule (rules x)=0 then gW rule name rules r (name x) false else bb rule (rules x)) else fk (name x) b fst (rules x).length
def ruE (r:RuleP):Int:=if ba r.pfx=true then (if r.min<r.pfx.len∨r.max<r.min∨r.max>32 then 5 else 0) else 1
theorem L8 (r:RuleP) (h:r.ok):aq G 326 [.agg r.enc] [] ⟨.int .i64 (ruE r),[]⟩:=by
 have hv:aq G 179 [.agg [.int .u32 r.pfx.addr,.int .i64 r.pfx.len]] [] ⟨.bool (ba r.pfx),[]⟩:=cr r.pfx h.1
 unfold ruE
 cases hvp:ba r.pfx
 ·rw[hvp] at hv
  rw[if_neg (by simp)]
  exact gvA (F:=vD)
 ·rw[hvp] at hv
  rw[if_pos rfl]
  by_cases h1:r.min<r.pfx.len
  ·rw[if_pos (.inl h1)]
   exact gvA (F:=vD)
  ·by_cases h2:r.max<r.min
   ·rw[if_pos (.inr (.inl h2))]
    exact gvA (F:=vD)
   ·by_cases h3:r.max>32
    ·rw[if_pos (.inr (.inr h3))]
     exact gvA (F:=vD)
    ·rw[if_neg (by omega)]
     exact gvA (F:=vD)
def paE (r:PathR):Int:=if (mi r.pattern).isSome then 0 else 2
theorem We (r:PathR) (h:r.pattern.length<2^32): ∃(k lo hi:Int) (l:List Rx),aq G 571 [.str r.pattern] [] ⟨.tup [.agg [.int .i64 k,.int .i64 lo,.int .i64 hi,.sl 4 (l.map Rx.enc)],.int .i64 (paE r)],[]⟩:=by
 have h1:=yN r.pattern h
 unfold paE
 cases hq:mi r.pattern with
 |none=>
  rw[hq] at h1
  refine ⟨0,0,0,[],?_⟩
  have e:=bi 0 0 0 []
  have h2:aq G 571 [.str r.pattern] [] ⟨.tup [.agg rx0.enc,.int .i64 2],[]⟩:=h1
  unfold rx0 at h2
  rw[e] at h2
  exact h2
 |some x=>
  rw[hq] at h1
  obtain ⟨k,lo,hi,l⟩:=x
  refine ⟨k,lo,hi,l,?_⟩
  have h2:aq G 571 [.str r.pattern] [] ⟨.tup [.agg (Rx.mk k lo hi l).enc,.int .i64 0],[]⟩:=h1
  rw[bi] at h2
  exact h2
theorem wx (l2:List RuleP) (hr: ∀r∈l2,r.ok) (ls:List (List AV)) (len i:Int) (bf:List UInt8) (R:Ret) (go:bb ruE l2=0→ ∀(T:List (Nat×AV)) (H:ax) (c:Nat),Ev G ⟨BN,⟨(13,.sl 2 ls)::(14,.int .i64 len)::(15,.int .i64 (i+1))::(3,.str bf)::T,H,c⟩,[.t 2],0⟩ R) (hi:0≤i∧i<2^40) (hR:bb ruE l2≠0→R=⟨.int .i64 (bb ruE l2),[]⟩) (hl:l2.length<2^40) (ln:Int) (hln:ln=l2.length): ∀(rest done:List RuleP)  (T:List (Nat×AV)) (H:ax) (c:Nat) (n:Int) (e:l2=done++rest) (hn:n=done.length) (hz:bb ruE rest=bb ruE l2),Ev G ⟨S6,⟨(35,.sl 5 (l2.map RuleP.enc))::(36,.int .i64 ln)::(37,.int .i64 n)::(3,.str bf)::(13,.sl 2 ls)::(14,.int .i64 len)::(15,.int .i64 i)::T,H,c⟩,[.t 2],0⟩ R
 | [],done,  T,H,c,n,e,hn,hz=>by
  have hd:l2.length=done.length:=by simp[e]
  have hll:(l2.map RuleP.enc).length=l2.length:=by simp
  refine evl ?_
  repeat' (first|refine ae ?_|(refine aa ?_ ?_<;>intro h))
  refine ah [13,14,15,3] [] ?_
  exact go (by rw[←hz];rfl) _ _ _
 |x::r,done,  T,H,c,n,e,hn,hz=>by
  have hd:l2.length=done.length+(r.length+1):=by simp[e]
  have hll:(l2.map RuleP.enc).length=l2.length:=by simp
  have hx:(l2.map RuleP.enc)[n.toNat]? =some (RuleP.enc x):=by simp[e,hn]
  rw[bb] at hz
  have h1:=L8 x (hr x (by simp[e]))
  generalize ruE x=E at*
  by_cases h0:E=0
  ·rw[if_pos h0] at hz
   subst h0
   refine evl ?_
   repeat' (first|refine ae ?_|(refine aa ?_ ?_<;>intro h))
   refine ah [35,36,37,3,13,14,15] [] ?_;exact wx l2 hr ls len i bf R go hi hR hl ln hln r (done++[x])  _ _ _ (n+1) (by simp[e]) (by simp[hn]<;>omega) hz
  ·rw[if_neg h0] at hz
   rw[hR (by rw[←hz];exact h0),←hz]
   refine evl ?_
   repeat' (first|refine ae ?_|(refine aa ?_ ?_<;>intro h))
   refine ag ?_;rfl
theorem xk (l:List PList) (hs: ∀x∈l,x.name.length<2^40∧x.rules.length<2^40∧(∀r∈x.rules,r.ok)) (hl:l.length<2^40) (ln:Int) (hln:ln=l.length): ∀(rest done:List PList) (bf:List UInt8) (fst:Bool) (T:List (Nat×AV)) (H:ax) (c:Nat) (n:Int) (e:l=done++rest) (hn:n=done.length) (hf:(n==0)=fst),Ev G ⟨BN,⟨(13,.sl 2 (l.map PList.enc))::(14,.int .i64 ln)::(15,.int .i64 n)::(3,.str bf)::T,H,c⟩,[.t 2],0⟩ (⟨.int .i64 (gW ruE PList.name PList.rules rest bf fst),[]⟩)
 | [],done,bf,fst,T,H,c,n,e,hn,hf=>by
  have hd:l.length=done.length:=by simp[e]
  have hll:(l.map PList.enc).length=l.length:=by simp
  refine evl ?_
  repeat' (first|refine ae ?_|(refine aa ?_ ?_<;>intro h))
  refine ag ?_;rfl
 |x::r,done,bf,fst,T,H,c,n,e,hn,hf=>by
  have hd:l.length=done.length+(r.length+1):=by simp[e]
  have hll:(l.map PList.enc).length=l.length:=by simp
  have hx:(l.map PList.enc)[n.toNat]? =some (PList.enc x):=by simp[e,hn]
  obtain ⟨q1,q2,q3⟩:=hs x (by simp[e])
  have m1:(x.rules.map RuleP.enc).length=x.rules.length:=by simp
  have h1:=jq x.name bf q1 (n==0) x.rules.length
  have hE:fk x.name bf (n==0) x.rules.length=fk x.name bf fst x.rules.length:=by rw[hf]
  rw[hE] at h1
  rw[←m1] at h1
  rw[gW,←m1]
  generalize fk x.name bf fst (x.rules.map RuleP.enc).length=E at*
  by_cases h0:E=0
  ·rw[if_pos h0]
   subst h0
   refine evl ?_
   repeat' (first|refine ae ?_|(refine aa ?_ ?_<;>intro h))
   refine ah [35,36,37,3,13,14,15] [] ?_
   rw[m1]
   have hn1:(n+1==0)=false:=by
    have: ¬n+1=0:=by omega
    simpa using this
   refine wx x.rules q3 _ ln n x.name _ (fun hz T H c=>?_) (by omega) (fun hq=>by rw[if_neg hq]) q2 _ rfl x.rules [] _ _ _ 0 rfl rfl rfl
   rw[if_pos hz]
   exact xk l hs hl ln hln r (done++[x]) x.name false T H c (n+1) (by simp[e]) (by simp[hn]<;>omega) hn1
  ·rw[if_neg h0]
   refine evl ?_
   repeat' (first|refine ae ?_|(refine aa ?_ ?_<;>intro h))
   refine ag ?_;rfl
theorem wu (l2:List PathR) (hr: ∀r∈l2,r.pattern.length<2^32) (ls:List (List AV)) (len i:Int) (bf:List UInt8) (R:Ret) (go:bb paE l2=0→ ∀(T:List (Nat×AV)) (H:ax) (c:Nat),Ev G ⟨BM,⟨(14,.sl 2 ls)::(15,.int .i64 len)::(16,.int .i64 (i+1))::(3,.str bf)::T,H,c⟩,[.t 2],0⟩ R) (hi:0≤i∧i<2^40) (hR:bb paE l2≠0→R=⟨.int .i64 (bb paE l2),[]⟩) (hl:l2.length<2^40) (ln:Int) (hln:ln=l2.length): ∀(rest done:List PathR)  (T:List (Nat×AV)) (H:ax) (c:Nat) (n:Int) (e:l2=done++rest) (hn:n=done.length) (hz:bb paE rest=bb paE l2),Ev G ⟨S5,⟨(36,.sl 2 (l2.map PathR.enc))::(37,.int .i64 ln)::(38,.int .i64 n)::(3,.str bf)::(14,.sl 2 ls)::(15,.int .i64 len)::(16,.int .i64 i)::T,H,c⟩,[.t 2],0⟩ R
 | [],done,  T,H,c,n,e,hn,hz=>by
  have hd:l2.length=done.length:=by simp[e]
  have hll:(l2.map PathR.enc).length=l2.length:=by simp
  refine evl ?_
  repeat' (first|refine ae ?_|(refine aa ?_ ?_<;>intro h))
  refine ah [14,15,16,3] [] ?_
  exact go (by rw[←hz];rfl) _ _ _
 |x::r,done,  T,H,c,n,e,hn,hz=>by
  have hd:l2.length=done.length+(r.length+1):=by simp[e]
  have hll:(l2.map PathR.enc).length=l2.length:=by simp
  have hx:(l2.map PathR.enc)[n.toNat]? =some (PathR.enc x):=by simp[e,hn]
  rw[bb] at hz
  obtain ⟨k0,lo0,hi0,l0,h1⟩:=We x (hr x (by simp[e]))
  generalize paE x=E at*
  by_cases h0:E=0
  ·rw[if_pos h0] at hz
   subst h0
   refine evl ?_
   repeat' (first|refine ae ?_|(refine aa ?_ ?_<;>intro h))
   refine ah [36,37,38,3,14,15,16] [] ?_;exact wu l2 hr ls len i bf R go hi hR hl ln hln r (done++[x])  _ _ _ (n+1) (by simp[e]) (by simp[hn]<;>omega) hz
  ·rw[if_neg h0] at hz
   rw[hR (by rw[←hz];exact h0),←hz]
   refine evl ?_
   repeat' (first|refine ae ?_|(refine aa ?_ ?_<;>intro h))
   refine ag ?_;rfl
theorem xh (l:List PathL) (hs: ∀x∈l,x.name.length<2^40∧x.rules.length<2^40∧(∀r∈x.rules,r.pattern.length<2^32)) (hl:l.length<2^40) (ln:Int) (hln:ln=l.length): ∀(rest done:List PathL) (bf:List UInt8) (fst:Bool) (T:List (Nat×AV)) (H:ax) (c:Nat) (n:Int) (e:l=done++rest) (hn:n=done.length) (hf:(n==0)=fst),Ev G ⟨BM,⟨(14,.sl 2 (l.map PathL.enc))::(15,.int .i64 ln)::(16,.int .i64 n)::(3,.str bf)::T,H,c⟩,[.t 2],0⟩ (⟨.int .i64 (gW paE PathL.name PathL.rules rest bf fst),[]⟩)
 | [],done,bf,fst,T,H,c,n,e,hn,hf=>by
  have hd:l.length=done.length:=by simp[e]
  have hll:(l.map PathL.enc).length=l.length:=by simp
  refine evl ?_
  repeat' (first|refine ae ?_|(refine aa ?_ ?_<;>intro h))
  refine ag ?_;rfl
 |x::r,done,bf,fst,T,H,c,n,e,hn,hf=>by
  have hd:l.length=done.length+(r.length+1):=by simp[e]
  have hll:(l.map PathL.enc).length=l.length:=by simp
  have hx:(l.map PathL.enc)[n.toNat]? =some (PathL.enc x):=by simp[e,hn]
  obtain ⟨q1,q2,q3⟩:=hs x (by simp[e])
  have m1:(x.rules.map PathR.enc).length=x.rules.length:=by simp
  have h1:=jq x.name bf q1 (n==0) x.rules.length
  have hE:fk x.name bf (n==0) x.rules.length=fk x.name bf fst x.rules.length:=by rw[hf]
  rw[hE] at h1
  rw[←m1] at h1
  rw[gW,←m1]
  generalize fk x.name bf fst (x.rules.map PathR.enc).length=E at*
  by_cases h0:E=0
  ·rw[if_pos h0]
   subst h0
   refine evl ?_
   repeat' (first|refine ae ?_|(refine aa ?_ ?_<;>intro h))
   refine ah [36,37,38,3,14,15,16] [] ?_
   rw[m1]
   have hn1:(n+1==0)=false:=by
    have: ¬n+1=0:=by omega
    simpa using this
   refine wu x.rules q3 _ ln n x.name _ (fun hz T H c=>?_) (by omega) (fun hq=>by rw[if_neg hq]) q2 _ rfl x.rules [] _ _ _ 0 rfl rfl rfl
   rw[if_pos hz]
   exact xh l hs hl ln hln r (done++[x]) x.name false T H c (n+1) (by simp[e]) (by simp[hn]<;>omega) hn1
  ·rw[if_neg h0]
   refine evl ?_
   repeat' (first|refine ae ?_|(refine aa ?_ ?_<;>intro h))
   refine ag ?_;rfl
theorem wt (l2:List ComR) (hr:True) (ls:List (List AV)) (len i:Int) (bf:List UInt8) (R:Ret) (go:bb eC l2=0→ ∀(T:List (Nat×AV)) (H:ax) (c:Nat),Ev G ⟨BL,⟨(13,.sl 2 ls)::(14,.int .i64 len)::(15,.int .i64 (i+1))::(3,.str bf)::T,H,c⟩,[.t 2],0⟩ R) (hi:0≤i∧i<2^40) (hR:bb eC l2≠0→R=⟨.int .i64 (bb eC l2),[]⟩) (hl:l2.length<2^40) (ln:Int) (hln:ln=l2.length): ∀(rest done:List ComR)  (T:List (Nat×AV)) (H:ax) (c:Nat) (n:Int) (e:l2=done++rest) (hn:n=done.length) (hz:bb eC rest=bb eC l2),Ev G ⟨S4,⟨(35,.sl 3 (l2.map ComR.enc))::(36,.int .i64 ln)::(37,.int .i64 n)::(3,.str bf)::(13,.sl 2 ls)::(14,.int .i64 len)::(15,.int .i64 i)::T,H,c⟩,[.t 2],0⟩ R
 | [],done,  T,H,c,n,e,hn,hz=>by
  have hd:l2.length=done.length:=by simp[e]
  have hll:(l2.map ComR.enc).length=l2.length:=by simp
  refine evl ?_
  repeat' (first|refine ae ?_|(refine aa ?_ ?_<;>intro h))
  refine ah [13,14,15,3] [] ?_
  exact go (by rw[←hz];rfl) _ _ _
 |x::r,done,  T,H,c,n,e,hn,hz=>by
  have hd:l2.length=done.length+(r.length+1):=by simp[e]
  have hll:(l2.map ComR.enc).length=l2.length:=by simp
  have hx:(l2.map ComR.enc)[n.toNat]? =some (ComR.enc x):=by simp[e,hn]
  rw[bb] at hz
  have h1:=Kd x
  generalize eC x=E at*
  by_cases h0:E=0
  ·rw[if_pos h0] at hz
   subst h0
   refine evl ?_
   repeat' (first|refine ae ?_|(refine aa ?_ ?_<;>intro h))
   refine ah [35,36,37,3,13,14,15] [] ?_;exact wt l2 hr ls len i bf R go hi hR hl ln hln r (done++[x])  _ _ _ (n+1) (by simp[e]) (by simp[hn]<;>omega) hz
  ·rw[if_neg h0] at hz
   rw[hR (by rw[←hz];exact h0),←hz]
   refine evl ?_
   repeat' (first|refine ae ?_|(refine aa ?_ ?_<;>intro h))
   refine ag ?_;rfl
theorem xg (l:List ComL) (hs: ∀x∈l,x.name.length<2^40∧x.rules.length<2^40∧(True)) (hl:l.length<2^40) (ln:Int) (hln:ln=l.length): ∀(rest done:List ComL) (bf:List UInt8) (fst:Bool) (T:List (Nat×AV)) (H:ax) (c:Nat) (n:Int) (e:l=done++rest) (hn:n=done.length) (hf:(n==0)=fst),Ev G ⟨BL,⟨(13,.sl 2 (l.map ComL.enc))::(14,.int .i64 ln)::(15,.int .i64 n)::(3,.str bf)::T,H,c⟩,[.t 2],0⟩ (⟨.int .i64 (gW eC ComL.name ComL.rules rest bf fst),[]⟩)
 | [],done,bf,fst,T,H,c,n,e,hn,hf=>by
  have hd:l.length=done.length:=by simp[e]
  have hll:(l.map ComL.enc).length=l.length:=by simp
  refine evl ?_
  repeat' (first|refine ae ?_|(refine aa ?_ ?_<;>intro h))
  refine ag ?_;rfl
 |x::r,done,bf,fst,T,H,c,n,e,hn,hf=>by
  have hd:l.length=done.length+(r.length+1):=by simp[e]
  have hll:(l.map ComL.enc).length=l.length:=by simp
  have hx:(l.map ComL.enc)[n.toNat]? =some (ComL.enc x):=by simp[e,hn]
  obtain ⟨q1,q2,q3⟩:=hs x (by simp[e])
  have m1:(x.rules.map ComR.enc).length=x.rules.length:=by simp
  have h1:=jq x.name bf q1 (n==0) x.rules.length
  have hE:fk x.name bf (n==0) x.rules.length=fk x.name bf fst x.rules.length:=by rw[hf]
  rw[hE] at h1
  rw[←m1] at h1
  rw[gW,←m1]
  generalize fk x.name bf fst (x.rules.map ComR.enc).length=E at*
  by_cases h0:E=0
  ·rw[if_pos h0]
   subst h0
   refine evl ?_
   repeat' (first|refine ae ?_|(refine aa ?_ ?_<;>intro h))
   refine ah [35,36,37,3,13,14,15] [] ?_
   rw[m1]
   have hn1:(n+1==0)=false:=by
    have: ¬n+1=0:=by omega
    simpa using this
   refine wt x.rules q3 _ ln n x.name _ (fun hz T H c=>?_) (by omega) (fun hq=>by rw[if_neg hq]) q2 _ rfl x.rules [] _ _ _ 0 rfl rfl rfl
   rw[if_pos hz]
   exact xg l hs hl ln hln r (done++[x]) x.name false T H c (n+1) (by simp[e]) (by simp[hn]<;>omega) hn1
  ·rw[if_neg h0]
   refine evl ?_
   repeat' (first|refine ae ?_|(refine aa ?_ ?_<;>intro h))
   refine ag ?_;rfl
def nr (l:List PList):Int:=if 64<l.length then 4 else gW ruE PList.name PList.rules l [] true
theorem GV (l:List PList) (hl:l.length<2^40) (hs: ∀x∈l,x.name.length<2^40∧x.rules.length<2^40∧(∀r∈x.rules,r.ok)):aq G 497 [.sl 2 (l.map PList.enc)] [] ⟨.int .i64 (nr l),[]⟩:=by
 have hll:(l.map PList.enc).length=l.length:=by simp
 unfold nr
 by_cases c:64<l.length
 ·rw[if_pos c]
  have c':(l.length:Int)>64:=by omega
  exact gvA (F:=Rf)
 ·rw[if_neg c]
  refine ab (F:=Rf) rfl rfl (am 300 _ _ _ _ ?_)
  repeat' (first|refine ae ?_|(refine aa ?_ ?_<;>intro h))
  refine ah [13,14,15,3] [] ?_
  rw[hll]
  exact xk l hs hl _ rfl l [] [] true _ _ _ 0 rfl rfl rfl
def nq (l:List PathL):Int:=if 64<l.length then 4 else gW paE PathL.name PathL.rules l [] true
theorem GU (l:List PathL) (hl:l.length<2^40) (hs: ∀x∈l,x.name.length<2^40∧x.rules.length<2^40∧(∀r∈x.rules,r.pattern.length<2^32)):aq G 498 [.sl 2 (l.map PathL.enc)] [] ⟨.int .i64 (nq l),[]⟩:=by
 have hll:(l.map PathL.enc).length=l.length:=by simp
 unfold nq
 by_cases c:64<l.length
 ·rw[if_pos c]
  have c':(l.length:Int)>64:=by omega
  exact gvA (F:=Re)
 ·rw[if_neg c]
  refine ab (F:=Re) rfl rfl (am 300 _ _ _ _ ?_)
  repeat' (first|refine ae ?_|(refine aa ?_ ?_<;>intro h))
  refine ah [14,15,16,3] [] ?_
  rw[hll]
  exact xh l hs hl _ rfl l [] [] true _ _ _ 0 rfl rfl rfl
def nn (l:List ComL):Int:=if 64<l.length then 4 else gW eC ComL.name ComL.rules l [] true
theorem GR (l:List ComL) (hl:l.length<2^40) (hs: ∀x∈l,x.name.length<2^40∧x.rules.length<2^40∧(True)):aq G 499 [.sl 2 (l.map ComL.enc)] [] ⟨.int .i64 (nn l),[]⟩:=by
 have hll:(l.map ComL.enc).length=l.length:=by simp
 unfold nn
 by_cases c:64<l.length
 ·rw[if_pos c]
  have c':(l.length:Int)>64:=by omega
  exact gvA (F:=Rc)
 ·rw[if_neg c]
  refine ab (F:=Rc) rfl rfl (am 300 _ _ _ _ ?_)
  repeat' (first|refine ae ?_|(refine aa ?_ ?_<;>intro h))
  refine ah [13,14,15,3] [] ?_
  rw[hll]
  exact xg l hs hl _ rfl l [] [] true _ _ _ 0 rfl rfl rfl
end Go.AM.IR
namespace Go.AM.IR
def vdE (v:Int):Int:=if v≠1∧v≠2∧v≠3 then 15 else 0
def tE3 (t:Trm):Int:=if 64<t.acts.length then 4 else if bb mg t.acts=0 then vdE t.verdict else bb mg t.acts
def tE2 (s:PSet) (t:Trm):Int:=if 64<t.mats.length then 4 else if bb (qn s) t.mats=0 then tE3 t else bb (qn s) t.mats
def tE1 (s:PSet) (before:List Trm) (t:Trm):Int:=if nmB t.name=false then 1 else if before.any (fun u=>u.name==t.name) then 7 else tE2 s t
theorem NA (l:List Actn) (t:Trm) (g7:Nat) (hl:l.length<2^40) (ln:Int) (hln:ln=l.length): ∀(rest done:List Actn)  (T:List (Nat×AV)) (H:ax) (c:Nat) (n:Int) (e:l=done++rest) (hn:n=done.length),Ev G ⟨SW,⟨(63,.sl 5 (l.map Actn.enc))::(64,.int .i64 ln)::(65,.int .i64 n)::(7,.ref 71 g7 0)::T,(71,some (g7,.cells t.enc))::H,c⟩,[.t 6],0⟩ (⟨.int .i64 (if bb mg rest=0 then vdE t.verdict else bb mg rest),[]⟩)
 | [],done,  T,H,c,n,e,hn=>by
  have hd:l.length=done.length:=by simp[e]
  have hll:(l.map Actn.enc).length=l.length:=by simp
  rw[bb,if_pos rfl,vdE]
  by_cases v1:t.verdict=1
  ·rw[if_neg (fun q=>q.1 v1)]
   refine evl ?_
   repeat' (first|refine ae ?_|(refine aa ?_ ?_<;>intro h))
   refine ag ?_;rfl
  by_cases v2:t.verdict=2
  ·rw[if_neg (fun q=>q.2.1 v2)]
   refine evl ?_
   repeat' (first|refine ae ?_|(refine aa ?_ ?_<;>intro h))
   refine ag ?_;rfl
  by_cases v3:t.verdict=3
  ·rw[if_neg (fun q=>q.2.2 v3)]
   refine evl ?_
   repeat' (first|refine ae ?_|(refine aa ?_ ?_<;>intro h))
   refine ag ?_;rfl
  rw[if_pos ⟨v1,v2,v3⟩]
  refine evl ?_
  repeat' (first|refine ae ?_|(refine aa ?_ ?_<;>intro h))
  refine ag ?_;rfl
 |x::r,done,  T,H,c,n,e,hn=>by
  have hd:l.length=done.length+(r.length+1):=by simp[e]
  have hll:(l.map Actn.enc).length=l.length:=by simp
  have hx:(l.map Actn.enc)[n.toNat]? =some (Actn.enc x):=by simp[e,hn]
  have h1:=Lg x
  rw[bb]
  generalize mg x=E at*
  by_cases h0:E=0
  ·subst h0
   rw[if_pos rfl]
   refine evl ?_
   repeat' (first|refine ae ?_|(refine aa ?_ ?_<;>intro h))
   refine ah [63,64,65,7] [71] ?_;exact NA l t g7 hl ln hln r (done++[x])  _ _ _ (n+1) (by simp[e]) (by simp[hn]<;>omega)
  ·rw[if_neg h0,if_neg h0]
   refine evl ?_
   repeat' (first|refine ae ?_|(refine aa ?_ ?_<;>intro h))
   refine ag ?_;rfl
theorem Ny (l:List Mat) (s:PSet) (hs:s.prefixes.length<2^40∧s.paths.length<2^40∧s.comms.length<2^40) (t:Trm) (g7:Nat) (hk: ∀m∈l,m.pfx.ok) (ha:t.acts.length<2^40) (hl:l.length<2^40) (ln:Int) (hln:ln=l.length): ∀(rest done:List Mat)  (T:List (Nat×AV)) (H:ax) (c:Nat) (n:Int) (e:l=done++rest) (hn:n=done.length),Ev G ⟨SX,⟨(45,.sl 6 (l.map Mat.enc))::(46,.int .i64 ln)::(47,.int .i64 n)::(3,.ref 67 1 0)::(7,.ref 71 g7 0)::T,(67,some (1,.cells s.enc))::(71,some (g7,.cells t.enc))::H,c⟩,[.t 6],0⟩ (⟨.int .i64 (if bb (qn s) rest=0 then tE3 t else bb (qn s) rest),[]⟩)
 | [],done,  T,H,c,n,e,hn=>by
  have hd:l.length=done.length:=by simp[e]
  have hll:(l.map Mat.enc).length=l.length:=by simp
  have m1:(t.acts.map Actn.enc).length=t.acts.length:=by simp
  rw[bb,if_pos rfl,tE3]
  by_cases c:64<t.acts.length
  ·rw[if_pos c]
   have c':(t.acts.length:Int)>64:=by omega
   refine evl ?_
   repeat' (first|refine ae ?_|(refine aa ?_ ?_<;>intro h))
   refine ag ?_;rfl
  ·rw[if_neg c]
   refine evl ?_
   repeat' (first|refine ae ?_|(refine aa ?_ ?_<;>intro h))
   refine ah [63,64,65,7] [71] ?_
   rw[m1]
   exact NA t.acts t g7 ha _ rfl t.acts [] _ _ _ 0 rfl rfl
 |x::r,done,  T,H,c,n,e,hn=>by
  have hd:l.length=done.length+(r.length+1):=by simp[e]
  have hll:(l.map Mat.enc).length=l.length:=by simp
  have hx:(l.map Mat.enc)[n.toNat]? =some (Mat.enc x):=by simp[e,hn]
  have h1:=GJ s hs x (hk x (by simp[e]))
  rw[bb]
  generalize qn s x=E at*
  by_cases h0:E=0
  ·subst h0
   rw[if_pos rfl]
   refine evl ?_
   repeat' (first|refine ae ?_|(refine aa ?_ ?_<;>intro h))
   refine ah [45,46,47,3,7] [67,71] ?_;exact Ny l s hs t g7 hk ha hl ln hln r (done++[x])  _ _ _ (n+1) (by simp[e]) (by simp[hn]<;>omega)
  ·rw[if_neg h0,if_neg h0]
   refine evl ?_
   repeat' (first|refine ae ?_|(refine aa ?_ ?_<;>intro h))
   refine ag ?_;rfl
theorem R7 (l:List Trm) (s:PSet) (hs:s.prefixes.length<2^40∧s.paths.length<2^40∧s.comms.length<2^40) (t:Trm) (g7:Nat) (hk: ∀m∈t.mats,m.pfx.ok) (ha:t.acts.length<2^40) (hm:t.mats.length<2^40) (hl:l.length<2^40) (ln:Int) (hln:ln=l.length): ∀(rest done:List Trm)  (T:List (Nat×AV)) (H:ax) (c:Nat) (n:Int) (e:l=done++rest) (hn:n=done.length),Ev G ⟨SY,⟨(28,.sl 4 (l.map Trm.enc))::(29,.int .i64 ln)::(30,.int .i64 n)::(7,.ref 71 g7 0)::(3,.ref 67 1 0)::T,(67,some (1,.cells s.enc))::(71,some (g7,.cells t.enc))::H,c⟩,[.t 6],0⟩ (⟨.int .i64 (if rest.any (fun u=>u.name==t.name) then 7 else tE2 s t),[]⟩)
 | [],done,  T,H,c,n,e,hn=>by
  have hd:l.length=done.length:=by simp[e]
  have hll:(l.map Trm.enc).length=l.length:=by simp
  have m1:(t.mats.map Mat.enc).length=t.mats.length:=by simp
  rw[List.any_nil,if_neg (by simp),tE2]
  by_cases c:64<t.mats.length
  ·rw[if_pos c]
   have c':(t.mats.length:Int)>64:=by omega
   refine evl ?_
   repeat' (first|refine ae ?_|(refine aa ?_ ?_<;>intro h))
   refine ag ?_;rfl
  ·rw[if_neg c]
   refine evl ?_
   repeat' (first|refine ae ?_|(refine aa ?_ ?_<;>intro h))
   refine ah [45,46,47,3,7] [67,71] ?_
   rw[m1]
   exact Ny t.mats s hs t g7 hk ha hm _ rfl t.mats [] _ _ _ 0 rfl rfl
 |x::r,done,  T,H,c,n,e,hn=>by
  have hd:l.length=done.length+(r.length+1):=by simp[e]
  have hll:(l.map Trm.enc).length=l.length:=by simp
  have hx:(l.map Trm.enc)[n.toNat]? =some (Trm.enc x):=by simp[e,hn]
  rw[List.any_cons]
  by_cases hn:x.name=t.name
  ·rw[show (x.name==t.name)=true from by simp[hn],Bool.true_or,if_pos rfl]
   refine evl ?_
   repeat' (first|refine cg ?_|(refine aa ?_ ?_<;>intro h))
   refine ag ?_;rfl
  ·rw[show (x.name==t.name)=false from by simp[hn],Bool.false_or]
   refine evl ?_
   repeat' (first|refine cg ?_|(refine aa ?_ ?_<;>intro h))
   refine ah [28,29,30,7,3] [67,71] ?_;exact R7 l s hs t g7 hk ha hm hl ln hln r (done++[x])  _ _ _ (n+1) (by simp[e]) (by simp[hn]<;>omega)
theorem LF (s:PSet) (hs:s.prefixes.length<2^40∧s.paths.length<2^40∧s.comms.length<2^40) (p:Pol) (i:Nat) (t:Trm) (ht:p.terms[i]? =some t) (hp:p.terms.length<2^40) (hk: ∀m∈t.mats,m.pfx.ok) (ha:t.acts.length<2^40) (hm:t.mats.length<2^40) (hn:t.name.length<2^40):aq G 501 [.agg s.enc,.agg p.enc,.int .i64 (i:Int)] [] ⟨.int .i64 (tE1 s (p.terms.take i) t),[]⟩:=by
 have hi:i<p.terms.length:=(List.getElem?_eq_some_iff.1 ht).1
 have hx:(p.terms.map Trm.enc)[((i:Nat):Int).toNat]? =some t.enc:=by simp[ht]
 have hll:(p.terms.map Trm.enc).length=p.terms.length:=by simp
 have h1:=tJ t.name hn
 rw[tE1]
 cases hb:nmB t.name with
 |false=>
  rw[hb] at h1
  rw[if_pos rfl]
  exact gvA (F:=Rb)
 |true=>
  rw[hb] at h1
  rw[if_neg (by simp)]
  refine ab (F:=Rb) rfl rfl (am 300 _ _ _ _ ?_)
  repeat' (first|refine ae ?_|(refine aa ?_ ?_<;>intro h))
  refine ah [28,29,30,7,3] [67,71] ?_
  have ht2:((p.terms.take i).map Trm.enc).length=(p.terms.take i).length:=by simp
  have hE:List.take (((i:Nat):Int).toNat-0) (List.drop 0 (p.terms.map Trm.enc))=(p.terms.take i).map Trm.enc:=by simp[List.map_take]
  rw[hE,ht2]
  exact R7 (p.terms.take i) s hs t _ hk ha hm (by simp;omega) _ rfl (p.terms.take i) [] _ _ _ 0 rfl rfl
end Go.AM.IR
namespace Go.AM.IR
def ir (s:PSet):List Trm→List Trm→Int
 |_,[]=>0
 |d,t::r=>if tE1 s d t=0 then ir s (d++[t]) r else tE1 s d t
def dfE (d:Int):Int:=if d≠1∧d≠2 then 15 else 0
def qf (s:PSet):List Pol→List UInt8→Bool→Int
 | [],_,_=>0
 |p::r,b,f=>if fk p.name b f p.terms.length=0 then (if ir s [] p.terms=0 then (if dfE p.dflt=0 then qf s r p.name false else dfE p.dflt) else ir s [] p.terms) else fk p.name b f p.terms.length
def dw (s:PSet):Int:=if nr s.prefixes=0 then (if nq s.paths=0 then (if nn s.comms=0 then (if 64<s.pols.length then 4 else qf s s.pols [] true) else nn s.comms) else nq s.paths) else nr s.prefixes
structure Trm.goodT (t:Trm):Prop where
 nm:t.name.length<2^40
 ms:t.mats.length<2^40
 acz:t.acts.length<2^40
 ok: ∀m∈t.mats,m.pfx.ok
structure PSet.good (s:PSet):Prop where
 a:s.prefixes.length<2^40
 b:s.paths.length<2^40
 c:s.comms.length<2^40
 d:s.pols.length<2^40
 pre: ∀x∈s.prefixes,x.name.length<2^40∧x.rules.length<2^40∧ ∀r∈x.rules,r.ok
 pat: ∀x∈s.paths,x.name.length<2^40∧x.rules.length<2^40∧ ∀r∈x.rules,r.pattern.length<2^32
 com: ∀x∈s.comms,x.name.length<2^40∧x.rules.length<2^40∧True
 pol: ∀x∈s.pols,x.name.length<2^40∧x.terms.length<2^40∧ ∀t∈x.terms,t.goodT
theorem Cu (s:PSet) (hs:s.good) (p:Pol) (hp:p.name.length<2^40∧p.terms.length<2^40∧ ∀t∈p.terms,t.goodT) (ls:List (List AV)) (len i:Int) (hi:0≤i∧i<2^40) (g8:Nat) (R:Ret)
  (go:ir s [] p.terms=0→dfE p.dflt=0→ ∀(T:List (Nat×AV)) (H:ax) (c:Nat),Ev G ⟨BV,⟨(35,.sl 3 ls)::(36,.int .i64 len)::(37,.int .i64 (i+1))::(1,.ref 65 1 0)::(6,.str p.name)::T,(65,some (1,.cells s.enc))::H,c⟩,[.t 2],0⟩ R)
  (hR:ir s [] p.terms≠0→R=⟨.int .i64 (ir s [] p.terms),[]⟩) (hD:ir s [] p.terms=0→dfE p.dflt≠0→R=⟨.int .i64 (dfE p.dflt),[]⟩):
  ∀(rest done:List Trm) (T:List (Nat×AV)) (H:ax) (c:Nat) (n:Int) (e:p.terms=done++rest) (hn:n=done.length) (hz:ir s done rest=ir s [] p.terms),
  Ev G ⟨Tg,⟨(59,.int .i64 n)::(8,.ref 72 g8 0)::(1,.ref 65 1 0)::(6,.str p.name)::(35,.sl 3 ls)::(36,.int .i64 len)::(37,.int .i64 i)::(58,.int .i64 p.terms.length)::T,(65,some (1,.cells s.enc))::(72,some (g8,.cells p.enc))::H,c⟩,[.t 2],0⟩ R
 | [],done,T,H,c,n,e,hn,hz=>by
  have hd:p.terms.length=done.length:=by simp[e]
  have hz0:ir s [] p.terms=0:=by rw[←hz];rfl
  have go:=go hz0
  have hD:=hD hz0
  rw[dfE] at go hD
  by_cases v1:p.dflt=1
  ·have go:=go (if_neg (fun q=>q.1 v1))
   refine evl ?_
   repeat' (first|refine ae ?_|(refine aa ?_ ?_<;>intro h))
   refine ah [35,36,37,1,6] [65] ?_
   exact go _ _ _
  by_cases v2:p.dflt=2
  ·have go:=go (if_neg (fun q=>q.2 v2))
   refine evl ?_
   repeat' (first|refine ae ?_|(refine aa ?_ ?_<;>intro h))
   refine ah [35,36,37,1,6] [65] ?_
   exact go _ _ _
  rw[if_pos ⟨v1,v2⟩] at hD
  rw[hD (by omega)]
  refine evl ?_
  repeat' (first|refine ae ?_|(refine aa ?_ ?_<;>intro h))
  refine ag ?_;rfl
 |t::r,done,T,H,c,n,e,hn,hz=>by
  obtain ⟨hp1,hp2,hp3⟩:=hp
  have hd:p.terms.length=done.length+(r.length+1):=by simp[e]
  have ht:=hp3 t (by simp[e])
  have h1:=LF s ⟨hs.a,hs.b,hs.c⟩ p done.length t (by simp[e]) hp2 ht.ok ht.acz ht.ms ht.nm
  rw[show p.terms.take done.length=done from by simp[e],←hn] at h1
  rw[ir] at hz
  generalize tE1 s done t=E at*
  by_cases h0:E=0
  ·subst h0
   rw[if_pos rfl] at hz
   refine evl ?_
   repeat' (first|refine ae ?_|(refine aa ?_ ?_<;>intro h))
   refine ah [59,8,1,6,35,36,37,58] [65,72] ?_
   exact Cu s hs p ⟨hp1,hp2,hp3⟩ ls len i hi g8 R go hR hD r (done++[t]) _ _ _ (n+1) (by simp[e]) (by simp[hn]) hz
  ·rw[if_neg h0] at hz
   rw[hR (by rw[←hz];exact h0),←hz]
   refine evl ?_
   repeat' (first|refine ae ?_|(refine aa ?_ ?_<;>intro h))
   refine ag ?_;rfl
theorem Cr (l:List Pol) (s:PSet) (hs:s.good) (hl1:s.pols=l) (hl:l.length<2^40) (ln:Int) (hln:ln=l.length): ∀(rest done:List Pol) (bf:List UInt8) (fst:Bool) (T:List (Nat×AV)) (H:ax) (c:Nat) (n:Int) (e:l=done++rest) (hn:n=done.length) (hf:(n==0)=fst),Ev G ⟨BV,⟨(35,.sl 3 (l.map Pol.enc))::(36,.int .i64 ln)::(37,.int .i64 n)::(1,.ref 65 1 0)::(6,.str bf)::T,(65,some (1,.cells s.enc))::H,c⟩,[.t 2],0⟩ (⟨.int .i64 (qf s rest bf fst),[]⟩)
 | [],done,bf,fst,T,H,c,n,e,hn,hf=>by
  have hd:l.length=done.length:=by simp[e]
  have hll:(l.map Pol.enc).length=l.length:=by simp
  refine evl ?_
  repeat' (first|refine ae ?_|(refine aa ?_ ?_<;>intro h))
  refine ag ?_;rfl
 |x::r,done,bf,fst,T,H,c,n,e,hn,hf=>by
  have hd:l.length=done.length+(r.length+1):=by simp[e]
  have hll:(l.map Pol.enc).length=l.length:=by simp
  have hx:(l.map Pol.enc)[n.toNat]? =some (Pol.enc x):=by simp[e,hn]
  have hp:=hs.pol x (by rw[hl1];simp[e])
  have hp1:=hp.1
  have hp2:=hp.2.1
  have m1:(x.terms.map Trm.enc).length=x.terms.length:=by simp
  have h1:=jq x.name bf hp1 (n==0) x.terms.length
  have hE:fk x.name bf (n==0) x.terms.length=fk x.name bf fst x.terms.length:=by rw[hf]
  rw[hE] at h1
  rw[←m1] at h1
  rw[qf,←m1]
  generalize fk x.name bf fst (x.terms.map Trm.enc).length=E at*
  by_cases h0:E=0
  ·rw[if_pos h0]
   subst h0
   refine evl ?_
   repeat' (first|refine ae ?_|(refine aa ?_ ?_<;>intro h))
   refine ah [59,8,1,6,35,36,37,58] [65,72] ?_
   rw[m1]
   have hn1:(n+1==0)=false:=by
    have: ¬n+1=0:=by omega
    simpa using this
   refine Cu s hs x hp _ ln n (by omega) _ _ (fun q1 q2 T H c=>?_) (fun hq=>by rw[if_neg hq]) (fun q1 q2=>by rw[if_pos q1,if_neg q2]) x.terms [] _ _ _ 0 rfl rfl rfl
   rw[if_pos q1,if_pos q2]
   exact Cr l s hs hl1 hl ln hln r (done++[x]) x.name false T H c (n+1) (by simp[e]) (by simp[hn]<;>omega) hn1
  ·rw[if_neg h0]
   refine evl ?_
   repeat' (first|refine ae ?_|(refine aa ?_ ?_<;>intro h))
   refine ag ?_;rfl
theorem nR (s:PSet) (hs:s.good):aq G 444 [.agg s.enc] [] ⟨.int .i64 (dw s),[]⟩:=by
 have h1:=GV s.prefixes hs.a hs.pre
 have h2:=GU s.paths hs.b hs.pat
 have h3:=GR s.comms hs.c hs.com
 have m1:(s.pols.map Pol.enc).length=s.pols.length:=by simp
 have hd:=hs.d
 rw[dw]
 generalize nr s.prefixes=A at*
 generalize nq s.paths=B at*
 generalize nn s.comms=C at*
 by_cases a:A=0
 ·subst a
  rw[if_pos rfl]
  by_cases b:B=0
  ·subst b
   rw[if_pos rfl]
   by_cases c:C=0
   ·subst c
    rw[if_pos rfl]
    by_cases d:64<s.pols.length
    ·rw[if_pos d]
     have d':(s.pols.length:Int)>64:=by omega
     exact gvA (F:=u9)
    ·rw[if_neg d]
     refine ab (F:=u9) rfl rfl (am 300 _ _ _ _ ?_)
     repeat' (first|refine ae ?_|(refine aa ?_ ?_<;>intro h))
     refine ah [35,36,37,1,6] [65] ?_
     rw[m1]
     exact Cr s.pols s hs rfl hd _ rfl s.pols [] [] true _ _ _ 0 rfl rfl rfl
   ·rw[if_neg c]
    exact gvA (F:=u9)
  ·rw[if_neg b]
   exact gvA (F:=u9)
 ·rw[if_neg a]
  exact gvA (F:=u9)
end Go.AM.IR
namespace Go.AM.IR
section
variable {k:AV→Prop} {x j:Nat}
theorem ZH {J:Int} (hJ:J=(j:Int)) (hj:j≤31) (h:k (.int .u32 ((2^j:Nat):Int))): ∃v,bv .shl (.int .u32 1) (.int .u64 J)=some v∧k v:=by
 subst hJ
 refine ⟨_,?_,h⟩
 show (if (j:Int)<0 then none else some (AV.int .u32 (IntKind.wrap .u32 (1*2^ (min (j:Int).toNat 32)))))=_
 rw[if_neg (by omega),show min (j:Int).toNat 32=j by omega,Int.one_mul]
 have h1:(2:Nat)^j≤2^31:=Nat.pow_le_pow_right (by omega) hj
 have h2:((2^j:Nat):Int)=(2:Int)^j:=by simp
 rw[←h2,sK _ (by omega)]
theorem ZF {J:Int} (hJ:J=(j:Int)) (hj:j≤31) (hx:x<4294967296) (h:k (.int .u32 ((x/ 2^j:Nat):Int))): ∃v,bv .shr (.int .u32 (x:Int)) (.int .u64 J)=some v∧k v:=by
 subst hJ
 refine ⟨_,?_,h⟩
 show (if (j:Int)<0 then none else some (AV.int .u32 ((x:Int).fdiv (2^ (min (j:Int).toNat 32)))))=_
 rw[if_neg (by omega),show min (j:Int).toNat 32=j by omega]
 have h2:((2^j:Nat):Int)=(2:Int)^j:=by simp
 have h3:0≤((2^j:Nat):Int):=Int.natCast_nonneg _
 rw[←h2,Int.fdiv_eq_ediv_of_nonneg _ h3]
 rfl
end
theorem GW (x m:Nat):x % 2^ (m+1)=x/ 2^m % 2*2^m+x % 2^m:=by
 rw[Nat.pow_succ,Nat.mod_mul,Nat.mul_comm (2^m)];omega
theorem ads (q d m b r:Nat) (hb:b<2) (hr:r<2^m):(q*2^ (m+1+d)+(b*2^m+r))/ 2^m % 2=b:=by
 have e:q*2^ (m+1+d)+(b*2^m+r)=r+2^m* (q*2^d*2+b):=by
  rw[show m+1+d=m+(d+1) by omega,Nat.pow_add,Nat.pow_succ]
  rw[Nat.mul_add]
  have e1:q* (2^m* (2^d*2))=2^m* (q*2^d*2):=by
   rw[Nat.mul_left_comm,Nat.mul_assoc]
  have e2:b*2^m=2^m*b:=Nat.mul_comm _ _
  rw[e1,e2]
  generalize 2^m* (q*2^d*2)=A
  generalize 2^m*b=B
  omega
 have hp:0<2^m:=Nat.pow_pos (by omega)
 rw[e,Nat.add_mul_div_left _ _ hp,Nat.div_eq_of_lt hr]
 generalize q*2^d=A
 omega
theorem aa1 (a m:Nat):a&&&2^m=a/ 2^m % 2*2^m:=by
 apply Nat.eq_of_testBit_eq
 intro j
 have e1: ∀q:Nat,(a/ 2^m % 2).testBit q=(decide (q<1)&&(a/ 2^m).testBit q):=fun q=>by
  have:=Nat.testBit_mod_two_pow (a/ 2^m) 1 q
  simpa using this
 rw[Nat.testBit_and,Nat.testBit_two_pow,Nat.testBit_mul_two_pow,e1,Nat.testBit_div_two_pow]
 by_cases h:m=j
 ·subst h;simp
 ·by_cases h2:m≤j
  ·have: ¬j-m<1:=by omega
   simp[h,h2,this]
  ·simp[h,h2]
theorem ns (x n:Nat) (hx:x<4294967296) (hn:n≤32): ∀(f i:Nat) (hf:i+f=32) (hi:n≤i) (a:Nat) (ha:a=bu x n+x % 2^f) (T:List (Nat×AV)) (H:ax) (c:Nat),
  Ev G ⟨XT,⟨(0,.int .u32 (a:Int))::(5,.int .i64 (i:Int))::T,H,c⟩,[.t 4],0⟩ ⟨.int .u32 ((bu x n:Nat):Int),[]⟩
 |0,i,hf,hi,a,ha,T,H,c=>by
  obtain rfl:i=32:=by omega
  obtain rfl:a=bu x n:=by rw[ha];simp[Nat.mod_one]
  refine evl ?_
  repeat' (first|refine ae ?_|(refine aa ?_ ?_<;>intro h))
  refine ag ?_;rfl
 |f+1,i,hf,hi,a,ha,T,H,c=>by
  have hi2:(i:Int)<32:=by omega
  have e31:(31:Int)- (i:Int)=(f:Int):=by omega
  have hfl:f≤31:=by omega
  have h1:=GW x f
  have hr:x % 2^f<2^f:=Nat.mod_lt _ (Nat.pow_pos (by omega))
  have hk:bu x n=x/ 2^ (32-n)*2^ (f+1+(i-n)):=by unfold bu;congr 2;omega
  have hb2:=Nat.mod_lt (x/ 2^f) (show 2>0 by omega)
  have hbit:a/ 2^f % 2=x/ 2^f % 2:=by
   rw[ha,h1,hk]
   exact ads _ _ _ _ _ hb2 hr
  have hale:a≤x:=by
   have hle:bu x n+x % 2^ (32-n)=x:=by unfold bu;rw[Nat.mul_comm];exact Nat.div_add_mod _ _
   have:x % 2^ (f+1)≤x % 2^ (32-n):=by
    have e:x % 2^ (f+1)=x % 2^ (32-n) % 2^ (f+1):=by rw[Nat.mod_mod_of_dvd _ (Nat.pow_dvd_pow 2 (by omega))]
    rw[e];exact Nat.mod_le _ _
   omega
  have hpow:(2:Nat)^f≤2^31:=Nat.pow_le_pow_right (by omega) hfl
  have hand:=aa1 a f
  rw[hbit] at hand
  have hi3:((i:Int)+1)=((i+1:Nat):Int):=by omega
  have hal:a<4294967296:=by omega
  have hpl:(2:Nat)^f<4294967296:=by omega
  by_cases hz:x/ 2^f % 2=0
  ·rw[hz,Nat.zero_mul] at hand h1
   have hand':((a&&&2^f:Nat):Int)=0:=by rw[hand];rfl
   have ih:=ns x n hx hn f (i+1) (by omega) (by omega) a (by rw[ha,h1];omega)
   rw[←hi3] at ih
   refine evl ?_
   repeat' ((conv=>whnf);first|refine ZH e31 hfl ?_|refine vZ ?_ hal hpl|refine ay ?_|(refine aa ?_ ?_<;>intro h))
   refine ah [0,5] [] ?_
   exact ih _ _ _
  ·have hz1:x/ 2^f % 2=1:=by omega
   rw[hz1,Nat.one_mul] at hand h1
   have hpa:2^f≤a:=by
    have:=Nat.div_add_mod a (2^f)
    have h3:a/ 2^f % 2=1:=by rw[hbit,hz1]
    have h4:1≤a/ 2^f:=by
     rcases Nat.eq_zero_or_pos (a/ 2^f) with q|q
     ·rw[q] at h3;simp at h3
     ·exact q
    have:=Nat.mul_le_mul_left (2^f) h4
    omega
   have hpp:0<(2:Nat)^f:=Nat.pow_pos (by omega)
   have hand': ¬((a&&&2^f:Nat):Int)=0:=by rw[hand];omega
   have hsub:(a:Int)- ((2^f:Nat):Int)=((a-2^f:Nat):Int):=by omega
   have ih:=ns x n hx hn f (i+1) (by omega) (by omega) (a-2^f) (by rw[ha,h1];omega)
   rw[←hi3,←hsub] at ih
   have hs0:0≤(a:Int)- ((2^f:Nat):Int):=by omega
   have hs1:(a:Int)- ((2^f:Nat):Int)≤4294967295:=by omega
   have zsub: ∀ {kv:AV→Prop},kv (.int .u32 ((a:Int)- ((2^f:Nat):Int)))→ ∃v,bv .sub (.int .u32 (a:Int)) (.int .u32 ((2^f:Nat):Int))=some v∧kv v:=fun h=>⟨_,by show some (AV.int .u32 (IntKind.wrap .u32 ((a:Int)- ((2^f:Nat):Int))))=_;rw[hsub,sK _ (by omega)],by rw[hsub] at h;exact h⟩
   refine evl ?_
   repeat' ((conv=>whnf);first|refine ZH e31 hfl ?_|refine vZ ?_ hal hpl|refine zsub ?_|refine ay ?_|(refine aa ?_ ?_<;>intro h))
   refine ah [0,5] [] ?_
   exact ih _ _ _
theorem ia (x n:Nat) (hx:x<4294967296) (hn:n≤32):aq G 569 [.int .u32 (x:Int),.int .i64 (n:Int)] [] ⟨.int .u32 ((bu x n:Nat):Int),[]⟩:=by
 have hle:bu x n+x % 2^ (32-n)=x:=by unfold bu;rw[Nat.mul_comm];exact Nat.div_add_mod _ _
 refine ab (F:=XU) rfl rfl (am 300 _ _ _ _ ?_)
 repeat' (first|refine ae ?_|(refine aa ?_ ?_<;>intro h))
 refine ah [0,5] [] ?_
 exact ns x n hx hn (32-n) n (by omega) (Nat.le_refl _) x hle.symm _ _ _
theorem r4 (x n:Nat) (hx:x<4294967296) (hn:n≤32): ∀(f i:Nat) (hf:i+f=32) (T:List (Nat×AV)) (H:ax) (c:Nat),
  Ev G ⟨Yq,⟨(0,.int .u32 (x:Int))::(5,.int .i64 (i:Int))::T,H,c⟩,[.t 4],0⟩ ⟨.bool (decide (x % 2^f=0)),[]⟩
 |0,i,hf,T,H,c=>by
  obtain rfl:i=32:=by omega
  rw[show decide (x % 2^0=0)=true from by simp[Nat.mod_one]]
  refine evl ?_
  repeat' (first|refine ae ?_|(refine aa ?_ ?_<;>intro h))
  refine ag ?_;rfl
 |f+1,i,hf,T,H,c=>by
  have hi2:(i:Int)<32:=by omega
  have e31:(31:Int)- (i:Int)=(f:Int):=by omega
  have hfl:f≤31:=by omega
  have h1:=GW x f
  have hpp:0<(2:Nat)^f:=Nat.pow_pos (by omega)
  have hi3:((i:Int)+1)=((i+1:Nat):Int):=by omega
  have hdl:x/ 2^f<4294967296:=Nat.lt_of_le_of_lt (Nat.div_le_self _ _) hx
  have hand:x/ 2^f&&&1=x/ 2^f % 2:=Nat.and_one_is_mod _
  have h1l:1<4294967296:=by omega
  have ih:=r4 x n hx hn f (i+1) (by omega)
  rw[←hi3] at ih
  have zand: ∀ {kv:AV→Prop},kv (.int .u32 ((x/ 2^f % 2:Nat):Int))→ ∃v,bv .and (.int .u32 ((x/ 2^f:Nat):Int)) (.int .u32 1)=some v∧kv v:=fun {kv} h=>vZ (a:=x/ 2^f) (b:=1) (k:=kv) (by rw[hand];exact h) hdl h1l
  by_cases hz:x/ 2^f % 2=0
  ·have hz': ¬((x/ 2^f % 2:Nat):Int)=1:=by omega
   rw[show decide (x % 2^ (f+1)=0)=decide (x % 2^f=0) from by rw[h1,hz];simp]
   refine evl ?_
   repeat' ((conv=>whnf);first|refine ZF e31 hfl hx ?_|refine zand ?_|refine ay ?_|(refine aa ?_ ?_<;>intro h))
   refine ah [0,5] [] ?_
   exact ih _ _ _
  ·have hz1:x/ 2^f % 2=1:=by omega
   have hz':((x/ 2^f % 2:Nat):Int)=1:=by omega
   rw[show decide (x % 2^ (f+1)=0)=false from by rw[h1,hz1,decide_eq_false_iff_not];omega]
   refine evl ?_
   repeat' ((conv=>whnf);first|refine ZF e31 hfl hx ?_|refine zand ?_|refine ay ?_|(refine aa ?_ ?_<;>intro h))
   refine ag ?_;rfl
theorem js (p:Pfx) (h:p.ok):aq G 495 [.int .u32 p.addr,.int .i64 p.len] [] ⟨.bool (ba p),[]⟩:=by
 obtain ⟨a,n⟩:=p
 obtain ⟨x,rfl⟩: ∃x:Nat,a=x:=⟨a.toNat,by have:=h.addr;unfold okU at this;simp only at this;omega⟩
 have hx:x<4294967296:=by have:=h.addr;unfold okU at this;simp only at this;omega
 by_cases n0:n<0
 ·rw[show ba ⟨x,n⟩=false from by simp[ba];omega]
  exact gvA (F:=Jg)
 by_cases n1:n>32
 ·rw[show ba ⟨x,n⟩=false from by simp[ba];omega]
  exact gvA (F:=Jg)
 obtain ⟨m,rfl⟩: ∃m:Nat,n=m:=⟨n.toNat,by omega⟩
 have hle:bu x m+x % 2^ (32-m)=x:=by unfold bu;rw[Nat.mul_comm];exact Nat.div_add_mod _ _
 rw[show ba ⟨x,m⟩=decide (x % 2^ (32-m)=0) from by
  unfold ba
  rw[Bool.eq_iff_iff]
  simp only[decide_eq_true_eq,Int.toNat_natCast]
  omega]
 refine ab (F:=Jg) rfl rfl (am 300 _ _ _ _ ?_)
 repeat' (first|refine ae ?_|(refine aa ?_ ?_<;>intro h))
 refine ah [0,5] [] ?_
 exact r4 x m hx (by omega) (32-m) m (by omega) _ _ _
end Go.AM.IR
namespace Go.AM.IR
theorem Wz {a:Int} (h:okU a): ∃x:Nat,a=x∧x<4294967296:=⟨a.toNat,by unfold okU at h;omega,by unfold okU at h;omega⟩
def inP (p:Pfx) (a:Int):Bool:=decide (((bu a.toNat p.len.toNat:Nat):Int)=p.addr)
theorem MD (p:Pfx) (a:Int) (ha:okU a) (h0:0≤p.len) (h1:p.len≤32):aq G 568 [.agg p.enc,.int .u32 a] [] ⟨.bool (inP p a),[]⟩:=by
 obtain ⟨x,rfl,hx⟩:=Wz ha
 obtain ⟨q,n⟩:=p
 obtain ⟨m,rfl⟩: ∃m:Nat,n=m:=⟨n.toNat,by dsimp only at h0;omega⟩
 have hk:=ia x m hx (by dsimp only at h1;omega)
 unfold inP
 simp only[Int.toNat_natCast]
 by_cases e:(bu x m:Int)=q
 ·rw[decide_eq_true e]
  generalize bu x m=y at*
  refine ab (F:=Ra) rfl rfl (am 300 _ _ _ _ ?_)
  repeat' (first|refine ae ?_|(refine aa ?_ ?_<;>intro h))
  refine ag ?_;simp[e]
 ·rw[decide_eq_false e]
  generalize bu x m=y at*
  refine ab (F:=Ra) rfl rfl (am 300 _ _ _ _ ?_)
  repeat' (first|refine ae ?_|(refine aa ?_ ?_<;>intro h))
  refine ag ?_;simp[e]
def wi (n a b:Int):Bool:=decide (a≤n∧n≤b)
def ifE (x:Ifc):Int:=if wi x.kind 1 3=false then 15 else if ba x.pfx=false then 1 else if x.addr=0 then 1 else if inP x.pfx x.addr=false then 1 else
 if wi x.cost 1 65535=false then 5 else if wi x.prio 0 255=false then 5 else if wi x.hello 1 65535=false then 5 else if wi x.dead x.hello 65535=false then 5 else 0
theorem MH (x:Ifc) (hx:x.ok):aq G 493 [.agg x.enc] [] ⟨.int .i64 (ifE x),[]⟩:=by
 obtain ⟨hp,ha⟩:x.pfx.ok∧okU x.addr:=⟨hx.2.1,hx.2.2.1⟩
 have h1:=iA x.kind 1 3
 have h2:=js x.pfx hp
 have h4:=iA x.cost 1 65535
 have h5:=iA x.prio 0 255
 have h6:=iA x.hello 1 65535
 have h7:=iA x.dead x.hello 65535
 unfold ifE
 rw[show decide (1≤x.kind∧x.kind≤3)=wi x.kind 1 3 from rfl] at h1
 rw[show decide (1≤x.cost∧x.cost≤65535)=wi x.cost 1 65535 from rfl] at h4
 rw[show decide (0≤x.prio∧x.prio≤255)=wi x.prio 0 255 from rfl] at h5
 rw[show decide (1≤x.hello∧x.hello≤65535)=wi x.hello 1 65535 from rfl] at h6
 rw[show decide (x.hello≤x.dead∧x.dead≤65535)=wi x.dead x.hello 65535 from rfl] at h7
 generalize wi x.kind 1 3=b1 at*
 generalize wi x.cost 1 65535=b4 at*
 generalize wi x.prio 0 255=b5 at*
 generalize wi x.hello 1 65535=b6 at*
 generalize wi x.dead x.hello 65535=b7 at*
 cases b1 with
 |false=>
  rw[if_pos rfl]
  exact gvA (F:=ny)
 |true=>
 rw[if_neg (by simp)]
 cases hv:ba x.pfx with
 |false=>
  rw[hv] at h2
  rw[if_pos rfl]
  exact gvA (F:=ny)
 |true=>
 rw[hv] at h2
 rw[if_neg (by simp)]
 have hl:0≤x.pfx.len∧x.pfx.len≤32:=by
  unfold ba at hv
  have:=of_decide_eq_true hv
  exact ⟨this.1,this.2.1⟩
 have h3:aq G 568 [.agg [.int .u32 x.pfx.addr,.int .i64 x.pfx.len],.int .u32 x.addr] [] ⟨.bool (inP x.pfx x.addr),[]⟩:=MD x.pfx x.addr ha hl.1 hl.2
 by_cases az:x.addr=0
 ·rw[if_pos az]
  exact gvA (F:=ny)
 rw[if_neg az]
 generalize inP x.pfx x.addr=b3 at*
 cases b3 with
 |false=>
  rw[if_pos rfl]
  exact gvA (F:=ny)
 |true=>
 rw[if_neg (by simp)]
 cases b4 with
 |false=>
  rw[if_pos rfl]
  exact gvA (F:=ny)
 |true=>
 rw[if_neg (by simp)]
 cases b5 with
 |false=>
  rw[if_pos rfl]
  exact gvA (F:=ny)
 |true=>
 rw[if_neg (by simp)]
 cases b6 with
 |false=>
  rw[if_pos rfl]
  exact gvA (F:=ny)
 |true=>
 rw[if_neg (by simp)]
 cases b7 with
 |false=>
  rw[if_pos rfl]
  exact gvA (F:=ny)
 |true=>
 rw[if_neg (by simp)]
 exact gvA (F:=ny)
def ovE (p q:Pfx):Bool:=decide (bu p.addr.toNat (min p.len q.len).toNat=bu q.addr.toNat (min p.len q.len).toNat)
theorem Ml (p q:Pfx) (hp:p.ok) (hq:q.ok) (vp:ba p=true) (vq:ba q=true):aq G 494 [.agg p.enc,.agg q.enc] [] ⟨.bool (ovE p q),[]⟩:=by
 have lp:=of_decide_eq_true vp
 have lq:=of_decide_eq_true vq
 have l1:=lp.1
 have l2:=lp.2.1
 have l3:=lq.1
 have l4:=lq.2.1
 clear lp lq vp vq
 obtain ⟨a,n⟩:=p
 obtain ⟨b,m⟩:=q
 obtain ⟨x,rfl,hx⟩:=Wz hp.addr
 obtain ⟨y,rfl,hy⟩:=Wz hq.addr
 dsimp only at l1 l2 l3 l4
 obtain ⟨n,rfl⟩: ∃k:Nat,n=k:=⟨n.toNat,by omega⟩
 obtain ⟨m,rfl⟩: ∃k:Nat,m=k:=⟨m.toNat,by omega⟩
 unfold ovE
 dsimp only
 by_cases h:(m:Int)<(n:Int)
 ·have e:(min (n:Int) (m:Int)).toNat=m:=by omega
  rw[e]
  simp only[Int.toNat_natCast]
  have k1:=ia x m hx (by omega)
  have k2:=ia y m hy (by omega)
  by_cases he:bu x m=bu y m
  ·have he':(bu x m:Int)=(bu y m:Int):=by omega
   rw[decide_eq_true he]
   generalize bu x m=u at*
   generalize bu y m=v at*
   refine ab (F:=zk) rfl rfl (am 300 _ _ _ _ ?_)
   repeat' (first|refine ae ?_|(refine aa ?_ ?_<;>intro h))
   refine ag ?_;simp[he,he']
  ·have he': ¬(bu x m:Int)=(bu y m:Int):=by omega
   rw[decide_eq_false he]
   generalize bu x m=u at*
   generalize bu y m=v at*
   refine ab (F:=zk) rfl rfl (am 300 _ _ _ _ ?_)
   repeat' (first|refine ae ?_|(refine aa ?_ ?_<;>intro h))
   refine ag ?_;simp[he,he']
 ·have e:(min (n:Int) (m:Int)).toNat=n:=by omega
  rw[e]
  simp only[Int.toNat_natCast]
  have k1:=ia x n hx (by omega)
  have k2:=ia y n hy (by omega)
  by_cases he:bu x n=bu y n
  ·have he':(bu x n:Int)=(bu y n:Int):=by omega
   rw[decide_eq_true he]
   generalize bu x n=u at*
   generalize bu y n=v at*
   refine ab (F:=zk) rfl rfl (am 300 _ _ _ _ ?_)
   repeat' (first|refine ae ?_|(refine aa ?_ ?_<;>intro h))
   refine ag ?_;simp[he,he']
  ·have he': ¬(bu x n:Int)=(bu y n:Int):=by omega
   rw[decide_eq_false he]
   generalize bu x n=u at*
   generalize bu y n=v at*
   refine ab (F:=zk) rfl rfl (am 300 _ _ _ _ ?_)
   repeat' (first|refine ae ?_|(refine aa ?_ ?_<;>intro h))
   refine ag ?_;simp[he,he']
end Go.AM.IR
namespace Go.AM.IR
def nh (a b:ARange):Bool:=decide (a.area<b.area∨(a.area=b.area∧(a.pfx.addr<b.pfx.addr∨(a.pfx.addr=b.pfx.addr∧a.pfx.len<b.pfx.len))))
theorem DG (a b:ARange) (ha:a.pfx.ok) (hb:b.pfx.ok) (va:ba a.pfx=true) (vb:ba b.pfx=true):aq G 496 [.sl 4 [a.enc,b.enc]] [] ⟨.bool (nh a b),[]⟩:=by
 have f1:=js a.pfx ha
 have f2:=js b.pfx hb
 rw[va] at f1
 rw[vb] at f2
 have l1:aq G 570 [.agg [.int .u32 a.pfx.addr,.int .i64 a.pfx.len],.agg [.int .u32 b.pfx.addr,.int .i64 b.pfx.len]] [] ⟨.bool (decide (a.pfx.addr<b.pfx.addr∨(a.pfx.addr=b.pfx.addr∧a.pfx.len<b.pfx.len))),[]⟩:=DA a.pfx b.pfx
 have x0: [a.enc,b.enc][(0:Int).toNat]? =some a.enc:=rfl
 have x1: [a.enc,b.enc][(1:Int).toNat]? =some b.enc:=rfl
 have z2: [a.enc,b.enc].length=2:=rfl
 have e2: ∀(T:List (Nat×AV)) (H:ax) (c:Nat),Ev G ⟨Jf,⟨(3,.int .i64 2)::(0,.sl 4 [a.enc,b.enc])::T,H,c⟩,[.t 2],0⟩ ⟨.bool true,[]⟩:=fun T H c=>by
  refine evl ?_
  repeat' (first|refine ae ?_|(refine aa ?_ ?_<;>intro h))
  refine ag ?_;rfl
 have e1: ∀(T:List (Nat×AV)) (H:ax) (c:Nat),Ev G ⟨Jf,⟨(3,.int .i64 1)::(0,.sl 4 [a.enc,b.enc])::T,H,c⟩,[.t 2],0⟩ ⟨.bool (nh a b),[]⟩:=fun T H c=>by
  unfold nh
  by_cases lp:a.pfx.addr<b.pfx.addr∨(a.pfx.addr=b.pfx.addr∧a.pfx.len<b.pfx.len)
  ·rw[decide_eq_true lp] at l1
   by_cases c1:a.area<b.area
   ·rw[decide_eq_true (.inl c1)]
    refine evl ?_
    repeat' (first|refine ae ?_|(refine aa ?_ ?_<;>intro h))
    refine ah [3,0] [] ?_
    exact e2 _ _ _
   ·by_cases c2:a.area=b.area
    ·rw[decide_eq_true (.inr ⟨c2,lp⟩)]
     refine evl ?_
     repeat' (first|refine ae ?_|(refine aa ?_ ?_<;>intro h))
     refine ah [3,0] [] ?_
     exact e2 _ _ _
    ·rw[decide_eq_false (fun q=>q.elim c1 fun q=>c2 q.1)]
     refine evl ?_
     repeat' (first|refine ae ?_|(refine aa ?_ ?_<;>intro h))
     refine ag ?_;rfl
  ·rw[decide_eq_false lp] at l1
   by_cases c1:a.area<b.area
   ·rw[decide_eq_true (.inl c1)]
    refine evl ?_
    repeat' (first|refine ae ?_|(refine aa ?_ ?_<;>intro h))
    refine ah [3,0] [] ?_
    exact e2 _ _ _
   ·rw[decide_eq_false (fun q=>q.elim c1 fun q=>lp q.2)]
    by_cases c2:a.area=b.area
    ·refine evl ?_
     repeat' (first|refine ae ?_|(refine aa ?_ ?_<;>intro h))
     refine ag ?_;rfl
    ·refine evl ?_
     repeat' (first|refine ae ?_|(refine aa ?_ ?_<;>intro h))
     refine ag ?_;rfl
 refine ab (F:=Yp) rfl rfl (am 300 _ _ _ _ ?_)
 repeat' (first|refine ae ?_|(refine aa ?_ ?_<;>intro h))
 refine ah [3,0] [] ?_
 refine evl ?_
 repeat' (first|refine ae ?_|(refine aa ?_ ?_<;>intro h))
 refine ah [3,0] [] ?_
 exact e1 _ _ _
end Go.AM.IR
namespace Go.AM.IR
def ku:List ARange→List ARange→Int
 |_,[]=>0
 |d,x::r=>if ba x.pfx=false then 1 else if (match d.getLast? with|some a=> !nh a x|none=>false)=true then 16 else ku (d++[x]) r
theorem wB (q:LSC) (hc:q.ranges.length<2^40) (hok: ∀x∈q.ranges,x.pfx.ok): ∀(rest done:List ARange) (T:List (Nat×AV)) (H:ax) (c:Nat) (n:Int) (e:q.ranges=done++rest) (hn:n=done.length) (hv: ∀y∈done,ba y.pfx=true),
  Ev G ⟨Th,⟨(7,.int .i64 n)::(1,.ref 65 1 0)::T,(65,some (1,.cells q.enc))::H,c⟩,[.t 2],0⟩ ⟨.int .i64 (ku done rest),[]⟩
 | [],done,T,H,c,n,e,hn,hv=>by
  have hd:q.ranges.length=done.length:=by simp[e]
  have m1:(q.ranges.map ARange.enc).length=q.ranges.length:=by simp
  refine evl ?_
  repeat' (first|refine ae ?_|(refine aa ?_ ?_<;>intro h))
  refine ag ?_;rfl
 |x::r,done,T,H,c,n,e,hn,hv=>by
  have hd:q.ranges.length=done.length+(r.length+1):=by simp[e]
  have m1:(q.ranges.map ARange.enc).length=q.ranges.length:=by simp
  have hx:(q.ranges.map ARange.enc)[n.toNat]? =some x.enc:=by simp[e,hn]
  have hxo:=hok x (by simp[e])
  have f1:=js x.pfx hxo
  rw[ku]
  cases vx:ba x.pfx with
  |false=>
   rw[vx] at f1
   rw[if_pos rfl]
   refine evl ?_
   repeat' (first|refine ae ?_|(refine aa ?_ ?_<;>intro h))
   refine ag ?_;rfl
  |true=>
  rw[vx] at f1
  rw[if_neg (by simp)]
  have hv': ∀y∈done++[x],ba y.pfx=true:=fun y hy=>by
   rcases List.mem_append.1 hy with w|w
   ·exact hv y w
   ·simp only[List.mem_singleton] at w;rw[w];exact vx
  have ih:=fun T H c=>wB q hc hok r (done++[x]) T H c (n+1) (by simp[e]) (by simp[hn]) hv'
  rcases List.eq_nil_or_concat done with h0|⟨d,a,h0⟩
  ·subst h0
   obtain rfl:n=0:=hn
   rw[if_neg (by simp)]
   refine evl ?_
   repeat' (first|refine ae ?_|(refine aa ?_ ?_<;>intro h))
   refine ah [7,1] [65] ?_
   exact ih _ _ _
  ·have hao:=hok a (by rw[e,h0];simp)
   have g1:=DG a x hao hxo (hv a (by rw[h0];simp)) vx
   have hl0:done.getLast?=some a:=by rw[h0];simp
   have hdl:done.length=d.length+1:=by rw[h0];simp
   have n1:(0:Int)<n:=by omega
   have hE:List.take ((n+1).toNat- (n-1).toNat) (List.drop (n-1).toNat (q.ranges.map ARange.enc))= [a.enc,x.enc]:=by
    have e1:(n-1).toNat=d.length:=by omega
    have e2:(n+1).toNat- (n-1).toNat=2:=by omega
    rw[e2,e1,e,h0]
    simp[List.concat_eq_append]
   rw[hl0]
   dsimp only
   have kE: ∀es,es= [a.enc,x.enc]→aq G 496 [.sl 4 es] [] ⟨.bool (nh a x),[]⟩:=fun es w=>by rw[w];exact g1
   have hpr: ∀es,es= [a.enc,x.enc]→aW [AV.sl 4 es]=true:=fun es w=>by rw[w];simp[aW,AV.pure,aG]
   by_cases ho:nh a x=true
   ·rw[ho] at kE
    rw[if_neg (by rw[ho];simp)]
    refine evl ?_
    repeat' ((conv=>whnf);first|refine kV (kE _ hE) ?_ (hpr _ hE)|refine ay ?_|(refine aa ?_ ?_<;>intro h))
    refine ah [7,1] [65] ?_
    exact ih _ _ _
   ·rw[Bool.not_eq_true] at ho
    rw[ho] at kE
    rw[if_pos (by rw[ho];rfl)]
    refine evl ?_
    repeat' ((conv=>whnf);first|refine kV (kE _ hE) ?_ (hpr _ hE)|refine ay ?_|(refine aa ?_ ?_<;>intro h))
    refine ag ?_;rfl
def ovT:List Ifc→List Ifc→Bool
 |_,[]=>false
 |d,x::r=>d.any (fun y=>ovE x.pfx y.pfx)||ovT (d++[x]) r
def QK (q:LSC):Int:=if ovT [] q.ifs=true then 7 else ku [] q.ranges
def lsE (q:LSC):Int:=if q.router=0 then 5 else if q.ifs= [] then 1 else if 16<q.ifs.length then 4 else if 64<q.ranges.length then 4 else if bb ifE q.ifs=0 then QK q else bb ifE q.ifs
theorem NV (q:LSC) (hc:q.ifs.length<2^40) (hok: ∀x∈q.ifs,x.ok) (hv: ∀x∈q.ifs,ba x.pfx=true) (i:Nat) (x:Ifc) (hx:q.ifs[i]? =some x) (R:Ret)
  (go:(q.ifs.take i).any (fun y=>ovE x.pfx y.pfx)=false→ ∀(T:List (Nat×AV)) (H:ax) (c:Nat),Ev G ⟨BW,⟨(5,.int .i64 ((i:Int)+1))::(1,.ref 65 1 0)::T,(65,some (1,.cells q.enc))::H,c⟩,[.t 2],0⟩ R)
  (hR:(q.ifs.take i).any (fun y=>ovE x.pfx y.pfx)=true→R=⟨.int .i64 7,[]⟩): ∀(f k:Nat) (hk:k+f=i) (hd:(q.ifs.take k).any (fun y=>ovE x.pfx y.pfx)=false) (T:List (Nat×AV)) (H:ax) (c:Nat),
  Ev G ⟨Tj,⟨(6,.int .i64 (k:Int))::(1,.ref 65 1 0)::(5,.int .i64 (i:Int))::T,(65,some (1,.cells q.enc))::H,c⟩,[.t 2],0⟩ R
 |0,k,hk,hd,T,H,c=>by
  obtain rfl:k=i:=by omega
  have hi:k<q.ifs.length:=(List.getElem?_eq_some_iff.1 hx).1
  refine evl ?_
  repeat' (first|refine ae ?_|(refine aa ?_ ?_<;>intro h))
  refine ah [5,1] [65] ?_
  exact go hd _ _ _
 |f+1,k,hk,hd,T,H,c=>by
  have hi:i<q.ifs.length:=(List.getElem?_eq_some_iff.1 hx).1
  obtain ⟨y,hy⟩: ∃y,q.ifs[k]? =some y:=⟨q.ifs[k],List.getElem?_eq_getElem (by omega)⟩
  have hki:(k:Int)<(i:Int):=by omega
  have m1:(q.ifs.map Ifc.enc).length=q.ifs.length:=by simp
  have hx1:(q.ifs.map Ifc.enc)[((i:Nat):Int).toNat]? =some x.enc:=by simp[hx]
  have hy1:(q.ifs.map Ifc.enc)[((k:Nat):Int).toNat]? =some y.enc:=by simp[hy]
  have mx:=List.mem_of_getElem? hx
  have my:=List.mem_of_getElem? hy
  have h1:aq G 494 [.agg [.int .u32 x.pfx.addr,.int .i64 x.pfx.len],.agg [.int .u32 y.pfx.addr,.int .i64 y.pfx.len]] [] ⟨.bool (ovE x.pfx y.pfx),[]⟩:=Ml x.pfx y.pfx (hok x mx).2.1 (hok y my).2.1 (hv x mx) (hv y my)
  have ht:q.ifs.take (k+1)=q.ifs.take k++[y]:=by rw[List.take_add_one,hy];rfl
  by_cases ho:ovE x.pfx y.pfx=true
  ·rw[ho] at h1
   rw[hR (by
    rw[List.any_eq_true]
    exact ⟨y,List.mem_of_mem_take (i:=k+1) (by rw[List.take_take,Nat.min_eq_left (by omega),ht];simp),ho⟩)]
   refine evl ?_
   repeat' (first|refine ae ?_|(refine aa ?_ ?_<;>intro h))
   refine ag ?_;rfl
  ·rw[Bool.not_eq_true] at ho
   rw[ho] at h1
   refine evl ?_
   repeat' (first|refine ae ?_|(refine aa ?_ ?_<;>intro h))
   refine ah [6,1,5] [65] ?_
   exact NV q hc hok hv i x hx R go hR f (k+1) (by omega) (by rw[ht];simp[hd,ho]) _ _ _
theorem AY (q:LSC) (hc:q.ifs.length<2^40) (hrg:q.ranges.length<2^40) (hok: ∀x∈q.ifs,x.ok) (hrok: ∀x∈q.ranges,x.pfx.ok) (hv: ∀x∈q.ifs,ba x.pfx=true): ∀(rest done:List Ifc) (T:List (Nat×AV)) (H:ax) (c:Nat) (n:Int) (e:q.ifs=done++rest) (hn:n=done.length),
  Ev G ⟨BW,⟨(5,.int .i64 n)::(1,.ref 65 1 0)::T,(65,some (1,.cells q.enc))::H,c⟩,[.t 2],0⟩ ⟨.int .i64 (if ovT done rest=true then 7 else ku [] q.ranges),[]⟩
 | [],done,T,H,c,n,e,hn=>by
  have hd:q.ifs.length=done.length:=by simp[e]
  have m1:(q.ifs.map Ifc.enc).length=q.ifs.length:=by simp
  rw[ovT,if_neg (by simp)]
  refine evl ?_
  repeat' (first|refine ae ?_|(refine aa ?_ ?_<;>intro h))
  refine ah [7,1] [65] ?_
  exact wB q hrg hrok q.ranges [] _ _ _ 0 rfl rfl (by simp)
 |x::r,done,T,H,c,n,e,hn=>by
  have hd:q.ifs.length=done.length+(r.length+1):=by simp[e]
  have m1:(q.ifs.map Ifc.enc).length=q.ifs.length:=by simp
  have ht:q.ifs.take done.length=done:=by simp[e]
  have hx0:q.ifs[done.length]? =some x:=by simp[e]
  subst hn
  rw[ovT]
  refine evl ?_
  repeat' (first|refine ae ?_|(refine aa ?_ ?_<;>intro h))
  refine ah [6,1,5] [65] ?_
  refine NV q hc hok hv done.length x hx0 _ (fun h0 T H c=>?_) (fun h1=>?_) done.length 0 (by omega) (by simp) _ _ _
  ·rw[ht] at h0
   rw[h0,Bool.false_or]
   exact AY q hc hrg hok hrok hv r (done++[x]) T H c ((done.length:Int)+1) (by simp[e]) (by simp)
  ·rw[ht] at h1
   rw[h1,Bool.true_or,if_pos rfl]
theorem BA (q:LSC) (hc:q.ifs.length<2^40) (hrg:q.ranges.length<2^40) (hok: ∀x∈q.ifs,x.ok) (hrok: ∀x∈q.ranges,x.pfx.ok): ∀(rest done:List Ifc) (T:List (Nat×AV)) (H:ax) (c:Nat) (n:Int) (e:q.ifs=done++rest) (hn:n=done.length) (hv: ∀x∈done,ba x.pfx=true),
  Ev G ⟨Tk,⟨(3,.int .i64 n)::(1,.ref 65 1 0)::T,(65,some (1,.cells q.enc))::H,c⟩,[.t 2],0⟩ ⟨.int .i64 (if bb ifE rest=0 then QK q else bb ifE rest),[]⟩
 | [],done,T,H,c,n,e,hn,hv=>by
  have hd:q.ifs.length=done.length:=by simp[e]
  have m1:(q.ifs.map Ifc.enc).length=q.ifs.length:=by simp
  obtain rfl:q.ifs=done:=by simpa using e
  rw[bb,if_pos rfl]
  refine evl ?_
  repeat' (first|refine ae ?_|(refine aa ?_ ?_<;>intro h))
  refine ah [5,1] [65] ?_
  exact AY q hc hrg hok hrok hv q.ifs [] _ _ _ 0 rfl rfl
 |x::r,done,T,H,c,n,e,hn,hv=>by
  have hd:q.ifs.length=done.length+(r.length+1):=by simp[e]
  have m1:(q.ifs.map Ifc.enc).length=q.ifs.length:=by simp
  have hx:(q.ifs.map Ifc.enc)[n.toNat]? =some x.enc:=by simp[e,hn]
  have h1:=MH x (hok x (by simp[e]))
  have hvx:ifE x=0→ba x.pfx=true:=fun h=>by
   unfold ifE at h
   split at h
   ·omega
   split at h
   ·omega
   ·rename_i h2;simpa using h2
  rw[bb]
  generalize ifE x=E at*
  by_cases h0:E=0
  ·subst h0
   rw[if_pos rfl]
   refine evl ?_
   repeat' (first|refine ae ?_|(refine aa ?_ ?_<;>intro h))
   refine ah [3,1] [65] ?_
   exact BA q hc hrg hok hrok r (done++[x]) _ _ _ (n+1) (by simp[e]) (by simp[hn]) (fun y hy=>by
    rcases List.mem_append.1 hy with w|w
    ·exact hv y w
    ·simp only[List.mem_singleton] at w;rw[w];exact hvx rfl)
  ·rw[if_neg h0,if_neg h0]
   refine evl ?_
   repeat' (first|refine ae ?_|(refine aa ?_ ?_<;>intro h))
   refine ag ?_;rfl
theorem Mw (q:LSC) (hc:q.ifs.length<2^40) (hrg:q.ranges.length<2^40) (hok: ∀x∈q.ifs,x.ok) (hrok: ∀x∈q.ranges,x.pfx.ok):aq G 443 [.agg q.enc] [] ⟨.int .i64 (lsE q),[]⟩:=by
 have m1:(q.ifs.map Ifc.enc).length=q.ifs.length:=by simp
 have m2:(q.ranges.map ARange.enc).length=q.ranges.length:=by simp
 rw[lsE]
 by_cases a:q.router=0
 ·rw[if_pos a]
  exact gvA (F:=vc)
 rw[if_neg a]
 by_cases b:q.ifs= []
 ·rw[if_pos b]
  have b':(q.ifs.length:Int)=0:=by rw[b];rfl
  exact gvA (F:=vc)
 rw[if_neg b]
 have b': ¬(q.ifs.length:Int)=0:=fun w=>b (List.eq_nil_of_length_eq_zero (by omega))
 by_cases d:16<q.ifs.length
 ·rw[if_pos d]
  have d':(q.ifs.length:Int)>16:=by omega
  exact gvA (F:=vc)
 rw[if_neg d]
 by_cases f:64<q.ranges.length
 ·rw[if_pos f]
  have f':(q.ranges.length:Int)>64:=by omega
  exact gvA (F:=vc)
 rw[if_neg f]
 refine ab (F:=vc) rfl rfl (am 300 _ _ _ _ ?_)
 repeat' (first|refine ae ?_|(refine aa ?_ ?_<;>intro h))
 refine ah [3,1] [65] ?_
 exact BA q hc hrg hok hrok q.ifs [] _ _ _ 0 rfl rfl (by simp)
end Go.AM.IR
