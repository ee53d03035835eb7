/- What the functions of this program give, on the abstract machine. -/
import Derived.Test.YtcmipbleijmpjaaGreatDoorDataD
set_option linter.unusedVariables false
set_option linter.unusedSimpArgs false
set_option maxHeartbeats 4000000
set_option maxRecDepth 20000
namespace Go.AM.IR
theorem JV (k k2 lo hi:Int) (l:List Rx):eN k (.mk k2 lo hi l)=if k2=3 then decide (k≠4) else if k2=4 then !l.isEmpty else decide (5≤k2∧k2≤7)&&decide (5≤k∧k≤7):=rfl
theorem DK (k lo hi k2 lo2 hi2:Int) (l l2:List Rx) (hl:l2.length<2^40):aq G 644 [.agg [.int .i64 k,.int .i64 lo,.int .i64 hi,.sl 4 (l.map Rx.enc)],.agg [.int .i64 k2,.int .i64 lo2,.int .i64 hi2,.sl 4 (l2.map Rx.enc)]] [] ⟨.bool (eN k (.mk k2 lo2 hi2 l2)),[]⟩:=by
 have m1:(l2.map Rx.enc).length=l2.length:=by simp
 have hrep: ∀b:Bool,b=decide (5≤k∧k≤7)→True:=fun _ _=>trivial
 rw[JV]
 by_cases a3:k2=3
 ·rw[if_pos a3]
  subst a3
  by_cases e:k=4
  ·subst e
   exact gvA (F:=gq)
  ·rw[decide_eq_true e]
   by_cases e5:k=5
   ·subst e5
    exact gvA (F:=gq)
   by_cases e6:k=6
   ·subst e6
    exact gvA (F:=gq)
   refine ab (F:=gq) rfl rfl (am 300 _ _ _ _ ?_)
   repeat' (first|refine ae ?_|(refine aa ?_ ?_<;>intro h))
   refine ag ?_
   simp[e]
 rw[if_neg a3]
 by_cases a4:k2=4
 ·rw[if_pos a4]
  subst a4
  have hem:(!l2.isEmpty)=decide ((l2.length:Int)>0):=by cases l2<;>simp
  rw[hem]
  by_cases e5:k=5
  ·subst e5
   refine ab (F:=gq) rfl rfl (am 300 _ _ _ _ ?_)
   repeat' (first|refine ae ?_|(refine aa ?_ ?_<;>intro h))
   refine ag ?_
   rw[m1]
  by_cases e6:k=6
  ·subst e6
   refine ab (F:=gq) rfl rfl (am 300 _ _ _ _ ?_)
   repeat' (first|refine ae ?_|(refine aa ?_ ?_<;>intro h))
   refine ag ?_
   rw[m1]
  refine ab (F:=gq) rfl rfl (am 300 _ _ _ _ ?_)
  repeat' (first|refine ae ?_|(refine aa ?_ ?_<;>intro h))
  refine ag ?_
  rw[m1]
 rw[if_neg a4]
 have run: ∀d:Bool,d=decide (5≤k∧k≤7)→ ∀e:Bool,e=decide (5≤k2∧k2≤7)→aq G 644 [.agg [.int .i64 k,.int .i64 lo,.int .i64 hi,.sl 4 (l.map Rx.enc)],.agg [.int .i64 k2,.int .i64 lo2,.int .i64 hi2,.sl 4 (l2.map Rx.enc)]] [] ⟨.bool (e&&d),[]⟩:=fun d hd e he=>by
  by_cases b5:k2=5
  ·subst b5
   obtain rfl:e=true:=by rw[he];decide
   by_cases e5:k=5
   ·subst e5
    obtain rfl:d=true:=by rw[hd];decide
    exact gvA (F:=gq)
   by_cases e6:k=6
   ·subst e6
    obtain rfl:d=true:=by rw[hd];decide
    exact gvA (F:=gq)
   obtain rfl:d=decide (k=7):=by rw[hd,Bool.eq_iff_iff];simp only[decide_eq_true_eq];omega
   refine ab (F:=gq) rfl rfl (am 300 _ _ _ _ ?_)
   repeat' (first|refine ae ?_|(refine aa ?_ ?_<;>intro h))
   refine ag ?_
   simp
   rw[Bool.eq_iff_iff]
   simp
  by_cases b6:k2=6
  ·subst b6
   obtain rfl:e=true:=by rw[he];decide
   by_cases e5:k=5
   ·subst e5
    obtain rfl:d=true:=by rw[hd];decide
    exact gvA (F:=gq)
   by_cases e6:k=6
   ·subst e6
    obtain rfl:d=true:=by rw[hd];decide
    exact gvA (F:=gq)
   obtain rfl:d=decide (k=7):=by rw[hd,Bool.eq_iff_iff];simp only[decide_eq_true_eq];omega
   refine ab (F:=gq) rfl rfl (am 300 _ _ _ _ ?_)
   repeat' (first|refine ae ?_|(refine aa ?_ ?_<;>intro h))
   refine ag ?_
   simp
   rw[Bool.eq_iff_iff]
   simp
  by_cases b7:k2=7
  ·subst b7
   obtain rfl:e=true:=by rw[he];decide
   by_cases e5:k=5
   ·subst e5
    obtain rfl:d=true:=by rw[hd];decide
    exact gvA (F:=gq)
   by_cases e6:k=6
   ·subst e6
    obtain rfl:d=true:=by rw[hd];decide
    exact gvA (F:=gq)
   obtain rfl:d=decide (k=7):=by rw[hd,Bool.eq_iff_iff];simp only[decide_eq_true_eq];omega
   refine ab (F:=gq) rfl rfl (am 300 _ _ _ _ ?_)
   repeat' (first|refine ae ?_|(refine aa ?_ ?_<;>intro h))
   refine ag ?_
   simp
   rw[Bool.eq_iff_iff]
   simp
  obtain rfl:e=false:=by rw[he];simp;omega
  by_cases e5:k=5
  ·subst e5
   exact gvA (F:=gq)
  by_cases e6:k=6
  ·subst e6
   exact gvA (F:=gq)
  exact gvA (F:=gq)
 exact run _ rfl _ rfl
def mc (w:List UInt8):List AV:=[.str w]
@[simp] theorem Wa: ∀l:List (List UInt8),aG (l.map mc)=true
 | []=>rfl
 |x::r=>by simp only[List.map_cons,aG,Wa r];rfl
def jr (c:UInt8):List (List UInt8)→List UInt8
 | []=>[]
 |x::r=>c::(x++jr c r)
theorem uz (c:UInt8): ∀(x:List UInt8) (r:List (List UInt8)),cP c (x::r)=x++jr c r
 |x,[]=>by simp[cP,jr]
 |x,y::r=>by rw[jK,uz c y r,jr]
theorem nt (l:List (List UInt8)) (hl:l.length<2^40) (c:UInt8): ∀(rest done:List (List UInt8)) (acc R:List UInt8) (T:List (Nat×AV)) (H:ax) (ct:Nat) (n:Int) (e:l=done++rest) (hn:n=done.length) (hb:acc.length+dU rest<2^40) (hR:R=if done= [] then cP c rest else acc++jr c rest) (hd0:done= []→acc= []),
  Ev G ⟨W9,⟨(10,.int .i64 n)::(1,.str [c])::(5,.str acc)::(8,.sl 1 (l.map mc))::(9,.int .i64 l.length)::T,H,ct⟩,[.t 4],0⟩ ⟨.str R,[]⟩
 | [],done,acc,R,T,H,ct,n,e,hn,hb,hR,hd0=>by
  have hd:l.length=done.length:=by simp[e]
  obtain rfl:R=acc:=by
   rw[hR]
   by_cases h:done= []
   ·rw[if_pos h,hd0 h];rfl
   ·rw[if_neg h];simp[jr]
  refine evl ?_
  repeat' (first|refine ae ?_|(refine aa ?_ ?_<;>intro h))
  refine ag ?_;rfl
 |x::r,done,acc,R,T,H,ct,n,e,hn,hb,hR,hd0=>by
  have hd:l.length=done.length+(r.length+1):=by simp[e]
  have hll:(l.map mc).length=l.length:=by simp
  have hx:(l.map mc)[n.toNat]? =some [.str x]:=by simp[e,hn,mc]
  have h1: [c].length=1:=rfl
  rw[dU] at hb
  by_cases h:done= []
  ·have h0:=hd0 h
   subst h h0
   obtain rfl:n=0:=hn
   rw[if_pos rfl,uz] at hR
   have hz:([]:List UInt8).length=0:=rfl
   refine evl ?_
   repeat' ((conv=>whnf);first|refine ii ?_|refine ay ?_|(refine aa ?_ ?_<;>intro h))
   refine ah [10,1,5,8,9] [] ?_
   exact nt l hl c r [x] x R _ _ _ 1 (by simpa using e) rfl (by simp at hb;omega) (by rw[if_neg (by simp)];exact hR) (by simp)
  ·rw[if_neg h,jr] at hR
   have hp:(0:Int)<n:=by
    have:done.length≠0:=fun q=>h (List.eq_nil_of_length_eq_zero q)
    omega
   have h2:(acc++[c]).length=acc.length+1:=by simp
   refine evl ?_
   repeat' ((conv=>whnf);first|refine ii ?_|refine ay ?_|(refine aa ?_ ?_<;>intro h))
   refine ah [10,1,5,8,9] [] ?_
   exact nt l hl c r (done++[x]) (acc++[c]++x) R _ _ _ (n+1) (by simp[e]) (by simp[hn]) (by simp;omega) (by rw[if_neg (by simp),hR];simp) (by simp)
theorem qX (l:List (List UInt8)) (hl:l.length<2^40) (hb:dU l<2^40) (c:UInt8):aq G 645 [.sl 1 (l.map mc),.str [c]] [] ⟨.str (cP c l),[]⟩:=by
 have hll:(l.map mc).length=l.length:=by simp
 refine ab (F:=Xa) rfl rfl (am 300 _ _ _ _ ?_)
 repeat' (first|refine ae ?_|(refine aa ?_ ?_<;>intro h))
 refine ah [10,1,5,8,9] [] ?_
 rw[hll]
 exact nt l hl c l [] [] _ _ _ _ 0 rfl rfl (by simpa using hb) (by rw[if_pos rfl]) (fun _=>rfl)
end Go.AM.IR
namespace Go.AM.IR
theorem t8: ∀(a b:List (List UInt8)),dU (a++b)=dU a+dU b
 | [],b=>by simp[dU]
 |x::r,b=>by rw[List.cons_append,dU,dU,t8 r b];omega
theorem qi (dec:Int→List UInt8) (k:Int): ∀(a b:List Rx),bt dec k (a++b)=bt dec k a++bt dec k b
 | [],b=>by rw[bt];rfl
 |x::r,b=>by rw[List.cons_append,bt,bt,qi dec k r b];rfl
def sE (x:Rx):Prop:=aq G 618 [.agg x.enc] [] ⟨.str (pat aU x),[]⟩
theorem Mh (k lo hi:Int) (l:List Rx) (hn:bm k lo hi l.length=true) (hl:l.length<2^40) (hb:dU (bt aU k l)<2^30) (g gp:Nat) (T:List (Nat×AV)) (H:ax) (ct:Nat) (ps:List (List UInt8)) (hps:ps=bt aU k l):
  Ev G ⟨od,⟨(10,.int .i64 l.length)::(3,.vs 200 g ps.length)::(1,.ref 65 gp 0)::(8,.sl 4 (l.map Rx.enc))::(9,.int .i64 l.length)::T,(200,some (g,.vec 1 (ps.map mc)))::(65,some (gp,.cells [.int .i64 k,.int .i64 lo,.int .i64 hi,.sl 4 (l.map Rx.enc)]))::H,ct⟩,[.t 2],0⟩ ⟨.str (de aU k lo hi ps),[]⟩:=by
 have hpl:ps.length=l.length:=by rw[hps];exact nd l
 have m1:(ps.map mc).length=ps.length:=by simp
 rw[←hps] at hb
 unfold bm at hn
 by_cases k1:k=1
 ·rw[if_pos k1] at hn
  obtain ⟨q1,q2,q3,q4⟩:=of_decide_eq_true hn
  subst k1
  have d1:=re lo q1 (by omega)
  have d2:=re hi (by omega) q3
  have i1:=kM (a:=lo) q1 (by omega)
  have i2:=kM (a:=hi) (by omega) q3
  by_cases e:lo=hi
  ·rw[show de aU 1 lo hi ps=aU lo from by unfold de;rw[if_neg (by omega),if_pos rfl,if_pos e]]
   generalize aU lo=w1 at*
   refine evl ?_
   repeat' (first|refine ae ?_|(refine aa ?_ ?_<;>intro h))
   refine ag ?_;rfl
  ·rw[show de aU 1 lo hi ps=91::(aU lo++45::(aU hi++[93])) from by unfold de;rw[if_neg (by omega),if_pos rfl,if_neg e]]
   generalize aU lo=w1 at*
   generalize aU hi=w2 at*
   have z1:([91]:List UInt8).length=1:=rfl
   have z2:([45]:List UInt8).length=1:=rfl
   have z3:([93]:List UInt8).length=1:=rfl
   refine evl ?_
   repeat' ((conv=>whnf);first|refine ii ?_|refine ay ?_|(refine aa ?_ ?_<;>intro h))
   refine ag ?_
   simp
 rw[if_neg k1,Bool.and_eq_true] at hn
 obtain ⟨hz,hn⟩:=hn
 obtain ⟨rfl,rfl⟩:=of_decide_eq_true hz
 by_cases k0:k=0
 ·subst k0
  refine evl ?_
  repeat' (first|refine ae ?_|(refine aa ?_ ?_<;>intro h))
  refine ag ?_;rfl
 by_cases k2:k=2
 ·subst k2
  refine evl ?_
  repeat' (first|refine ae ?_|(refine aa ?_ ?_<;>intro h))
  refine ag ?_;rfl
 rw[if_neg (by omega)] at hn
 by_cases k3:k=3
 ·subst k3
  have hj:=qX ps (by omega) (by omega) 32
  rw[show de aU 3 0 0 ps=cP 32 ps from rfl]
  generalize cP 32 ps=w at*
  refine evl ?_
  repeat' (first|refine ae ?_|refine kZ [(200,_,_)] ⟨rfl,pz trivial⟩ (hj) ?_|(refine aa ?_ ?_<;>intro h))
  refine ag ?_;rfl
 rw[if_neg k3] at hn
 by_cases k4:k=4
 ·subst k4
  by_cases hz:ps= []
  ·subst hz
   rw[show de aU 4 0 0 []= [33] from rfl]
   have z0:([]:List (List UInt8)).length=0:=rfl
   refine evl ?_
   repeat' (first|refine ae ?_|(refine aa ?_ ?_<;>intro h))
   refine ag ?_;rfl
  ·have hpz:ps.length≠0:=fun q=>hz (List.eq_nil_of_length_eq_zero q)
   have hj:=qX ps (by omega) (by omega) 124
   rw[show de aU 4 0 0 ps=cP 124 ps from by unfold de;rw[if_neg (by omega),if_neg (by omega),if_neg (by omega),if_neg (by omega),if_pos rfl,if_neg (by cases ps<;>simp_all)]]
   generalize cP 124 ps=w at*
   refine evl ?_
   repeat' (first|refine ae ?_|refine kZ [(200,_,_)] ⟨rfl,pz trivial⟩ (hj) ?_|(refine aa ?_ ?_<;>intro h))
   refine ag ?_;rfl
 rw[if_neg k4] at hn
 by_cases k5:5≤k∧k≤7
 ·rw[if_pos k5] at hn
  have hn:=of_decide_eq_true hn
  obtain ⟨p,rfl⟩: ∃p,ps= [p]:=by
   match ps,hpl with
   | [p],_=>exact ⟨p,rfl⟩
   | [],h=>simp at h;omega
   |a::b::r,h=>simp at h;omega
  simp only[dU] at hb
  have hx:([p].map mc)[(0:Int).toNat]? =some [.str p]:=rfl
  have z1:([p]:List (List UInt8)).length=1:=rfl
  have z2:([42]:List UInt8).length=1:=rfl
  have z3:([43]:List UInt8).length=1:=rfl
  have z4:([63]:List UInt8).length=1:=rfl
  rcases (by omega:k=5∨k=6∨k=7) with rfl|rfl|rfl
  ·rw[show de aU 5 0 0 [p]=p++[42] from rfl]
   refine evl ?_
   repeat' ((conv=>whnf);first|refine ii ?_|refine ay ?_|(refine aa ?_ ?_<;>intro h))
   refine ag ?_;rfl
  ·rw[show de aU 6 0 0 [p]=p++[43] from rfl]
   refine evl ?_
   repeat' ((conv=>whnf);first|refine ii ?_|refine ay ?_|(refine aa ?_ ?_<;>intro h))
   refine ag ?_;rfl
  ·rw[show de aU 7 0 0 [p]=p++[63] from rfl]
   refine evl ?_
   repeat' ((conv=>whnf);first|refine ii ?_|refine ay ?_|(refine aa ?_ ?_<;>intro h))
   refine ag ?_;rfl
 ·rw[if_neg k5] at hn;cases hn
end Go.AM.IR
namespace Go.AM.IR
theorem tA (k lo hi:Int) (l:List Rx) (hn:bm k lo hi l.length=true) (hl:l.length<2^40) (hb:dU (bt aU k l)<2^30) (hk: ∀y∈l,sE y∧Sml y) (gp:Nat): ∀(rest done:List Rx) (T:List (Nat×AV)) (H:ax) (ct g m:Nat) (es:List (List AV)) (n:Int) (e:l=done++rest) (hnn:n=done.length) (hm:m=(bt aU k done).length) (hes:es=(bt aU k done).map mc),
  Ev G ⟨od,⟨(10,.int .i64 n)::(3,.vs 200 g m)::(1,.ref 65 gp 0)::(8,.sl 4 (l.map Rx.enc))::(9,.int .i64 l.length)::T,(200,some (g,.vec 1 es))::(65,some (gp,.cells [.int .i64 k,.int .i64 lo,.int .i64 hi,.sl 4 (l.map Rx.enc)]))::H,ct⟩,[.t 2],0⟩ ⟨.str (de aU k lo hi (bt aU k l)),[]⟩
 | [],done,T,H,ct,g,m,es,n,e,hnn,hm,hes=>by
  obtain rfl:l=done:=by simpa using e
  subst hm hes hnn
  exact Mh k lo hi l hn hl hb g gp T H ct _ rfl
 |x::r,done,T,H,ct,g,m,es,n,e,hnn,hm,hes=>by
  have hd:l.length=done.length+(r.length+1):=by simp[e]
  have hll:(l.map Rx.enc).length=l.length:=by simp
  have hx:(l.map Rx.enc)[n.toNat]? =some x.enc:=by simp[e,hnn]
  obtain ⟨hp,hs⟩:=hk x (by simp[e])
  have hpx:=cm x
  have hpl:(bt aU k done).length=done.length:=nd done
  have hpa:bt aU k (done++[x])=bt aU k done++[da k x (pat aU x)]:=by rw[qi,bt,bt]
  have hbx:(pat aU x).length+2<2^31:=by
   have h1:bt aU k l=bt aU k done++(da k x (pat aU x)::bt aU k r):=by rw[e,qi,bt]
   rw[h1,t8,dU] at hb
   have:(pat aU x).length≤(da k x (pat aU x)).length:=by unfold da;split<;>simp;omega
   omega
  have ih:=fun T H ct g=>tA k lo hi l hn hl hb hk gp r (done++[x]) T H ct g (m+1) (es++[mc (da k x (pat aU x))]) (n+1) (by simp[e]) (by simp[hnn]) (by rw[hpa,hm];simp) (by rw[hpa,hes];simp)
  have hmm:m=done.length:=by rw[hm,hpl]
  have hel:es.length=m:=by rw[hes,hm];simp
  have hmn:(m:Int)=n:=by omega
  have hpe:aG es=true:=by rw[hes];simp
  unfold sE at hp
  have hen: ∀k2 lo2 hi2 l2,x= .mk k2 lo2 hi2 l2→aq G 644 [.agg [.int .i64 k,.int .i64 lo,.int .i64 hi,.sl 4 (l.map Rx.enc)],.agg [.int .i64 k2,.int .i64 lo2,.int .i64 hi2,.sl 4 (l2.map Rx.enc)]] [] ⟨.bool (eN k x),[]⟩:=fun k2 lo2 hi2 l2 hxx=>by
   subst hxx
   exact DK k lo hi k2 lo2 hi2 l l2 hs.len
  have z1:([40]:List UInt8).length=1:=rfl
  have z2:([41]:List UInt8).length=1:=rfl
  cases hc:eN k x with
  |true=>
   have hin:da k x (pat aU x)=40::(pat aU x++[41]):=by unfold da;rw[if_pos hc]
   rw[hin] at ih
   rw[hc] at hen
   have ih: ∀T H ct g,Ev G ⟨od,⟨(10,.int .i64 (n+1))::(3,.vs 200 g (m+1))::(1,.ref 65 gp 0)::(8,.sl 4 (l.map Rx.enc))::(9,.int .i64 l.length)::T,(200,some (g,.vec 1 (es++[[.str ([40]++pat aU x++[41])]])))::(65,some (gp,.cells [.int .i64 k,.int .i64 lo,.int .i64 hi,.sl 4 (l.map Rx.enc)]))::H,ct⟩,[.t 2],0⟩ ⟨.str (de aU k lo hi (bt aU k l)),[]⟩:=ih
   generalize pat aU x=w at*
   generalize hxe:x.enc=xe at*
   obtain ⟨k2,lo2,hi2,l2⟩:=x
   rw[bi] at hxe
   subst hxe
   have hen:=hen k2 lo2 hi2 l2 rfl
   have hwl:([40]++w).length=w.length+1:=by simp
   refine evl ?_
   repeat' ((conv=>whnf);first|refine ii ?_|refine kV hp ?_ hpx|refine ay ?_|(refine aa ?_ ?_<;>intro h))
   refine ah [10,3,1,8,9] [200,65] ?_
   exact ih _ _ _ _
  |false=>
   have hin:da k x (pat aU x)=pat aU x:=by unfold da;rw[if_neg (by rw[hc];simp)]
   rw[hin] at ih
   rw[hc] at hen
   have ih: ∀T H ct g,Ev G ⟨od,⟨(10,.int .i64 (n+1))::(3,.vs 200 g (m+1))::(1,.ref 65 gp 0)::(8,.sl 4 (l.map Rx.enc))::(9,.int .i64 l.length)::T,(200,some (g,.vec 1 (es++[[.str (pat aU x)]])))::(65,some (gp,.cells [.int .i64 k,.int .i64 lo,.int .i64 hi,.sl 4 (l.map Rx.enc)]))::H,ct⟩,[.t 2],0⟩ ⟨.str (de aU k lo hi (bt aU k l)),[]⟩:=ih
   generalize pat aU x=w at*
   generalize hxe:x.enc=xe at*
   obtain ⟨k2,lo2,hi2,l2⟩:=x
   rw[bi] at hxe
   subst hxe
   have hen:=hen k2 lo2 hi2 l2 rfl
   refine evl ?_
   repeat' ((conv=>whnf);first|refine ii ?_|refine kV hp ?_ hpx|refine ay ?_|(refine aa ?_ ?_<;>intro h))
   refine ah [10,3,1,8,9] [200,65] ?_
   exact ih _ _ _ _
theorem aan (k lo hi:Int) (l:List Rx) (hn:bm k lo hi l.length=true) (hl:l.length<2^40) (hb:dU (bt aU k l)<2^30) (hk: ∀y∈l,sE y∧Sml y):sE (.mk k lo hi l):=by
 have hll:(l.map Rx.enc).length=l.length:=by simp
 unfold sE
 rw[bi,pat]
 refine ab (F:=Xv) rfl rfl (am 300 _ _ _ _ ?_)
 repeat' (first|refine ae ?_|(refine aa ?_ ?_<;>intro h))
 refine ka 200 1 [(3,.vs 200 _ 0)] [] ⟨LeP.nilV _ _ _,trivial⟩ trivial ?_
 refine ah [10,3,1,8,9] [200,65] ?_
 rw[hll]
 exact tA k lo hi l hn hl hb hk _ l [] _ _ _ _ _ _ 0 rfl rfl rfl rfl
mutual
theorem NS: ∀(x:Rx) {lv c c':Nat},Sml x→chk x lv c=some c'→sE x
 | .mk k lo hi l,lv,c,c',hs,h=>by
  have hc':=sv h
  rw[chk] at h
  split at h
  ·cases h
  ·split at h
   ·cases h
   ·split at h
    ·rename_i hn
     have h1:=n6 k l h
     have h2:=F6 l hs.kid h
     exact aan k lo hi l hn hs.len (by omega) h2
    ·cases h
theorem F6: ∀(l:List Rx) {lv c c':Nat},(∀x∈l,Sml x)→gG l lv c=some c'→ ∀y∈l,sE y∧Sml y
 | [],_,_,_,_,_=>fun y hy=>by simp at hy
 |x::r,lv,c,c',hs,h=>fun y hy=>by
  rw[gG] at h
  split at h
  ·rename_i c1 h1
   have h2:=NS x (hs x (by simp)) h1
   rcases List.mem_cons.1 hy with q|q
   ·rw[q];exact ⟨h2,hs x (by simp)⟩
   ·exact F6 r (fun z hz=>hs z (by simp[hz])) h y q
  ·cases h
end
end Go.AM.IR
namespace Go.AM.IR
theorem yN (s:List UInt8) (hs:s.length<2^32):aq G 571 [.str s] [] (sU (mi s)):=by
 have hq:=sB s hs 32 1 (by omega) (by omega) 0 (by omega)
 unfold mi
 cases ha:cI s (ij s) 32 0 with
 |none=>
  rw[ha] at hq
  obtain ⟨x,m,hm,hq⟩:=hq
  have hq:aq G 616 [.ref 0 0 0,.int .i64 1] [.cells [.str s,.int .i64 0]] (rpR s (.tup [.agg x.enc,.bool false]) m):=hq
  have hpx:=cm x
  show aq G 571 _ _ ⟨.tup [.agg rx0.enc,.int .i64 2],[]⟩
  rw[kp]
  obtain ⟨k,lo,hi,l⟩:=x
  rw[bi] at hq hpx
  refine ab (F:=uM) rfl rfl (am 300 _ _ _ _ ?_)
  repeat' (first|refine ae ?_|refine kX [(73,_,_)] [] ⟨rfl,trivial⟩ trivial (hq) ?_|(refine aa ?_ ?_<;>intro h))
  refine ec [] [(66,some (_,.cells ([.int .i64 0,.int .i64 0,.int .i64 0,.sl 4 []])))] trivial ⟨⟨rfl,leA⟩,trivial⟩ ?_
  refine ag ?_;(conv=>whnf);refine Go.AM.finC ?_;rfl
 |some p=>
  obtain ⟨x,m⟩:=p
  rw[ha] at hq
  obtain ⟨_,p2,hsm⟩:=pr hs (uc s) 32 _ _ _ (by omega) ha
  have hq:aq G 616 [.ref 0 0 0,.int .i64 1] [.cells [.str s,.int .i64 0]] (rpR s (.tup [.agg x.enc,.bool true]) m):=hq
  obtain ⟨e,hc,he⟩:=zU x hsm
  have hpx:=cm x
  dsimp only
  by_cases h1:m=s.length
  ·subst h1
   by_cases h2:(chk x 1 0).isSome=true
   ·obtain rfl:e=0:=he.2 h2
    obtain ⟨c',hc'⟩:=Option.isSome_iff_exists.1 h2
    have hp:=NS x hsm hc'
    unfold sE at hp
    by_cases h3:pat aU x=s
    ·rw[if_pos ⟨rfl,h2,h3⟩]
     show aq G 571 _ _ ⟨.tup [.agg x.enc,.int .i64 0],[]⟩
     generalize pat aU x=w at*
     generalize hxe:x.enc=xe at*
     obtain ⟨k,lo,hi,l⟩:=x
     rw[bi] at hxe
     subst hxe
     refine ab (F:=uM) rfl rfl (am 300 _ _ _ _ ?_)
     repeat' ((conv=>whnf);first|refine kV hc ?_ hpx|refine kV hp ?_ hpx|refine ig h3 ?_|refine ay ?_|refine kX [(73,_,_)] [] ⟨rfl,trivial⟩ trivial (hq) ?_|(refine aa ?_ ?_<;>intro h))
     refine ag ?_;(conv=>whnf);refine Go.AM.finC ?_;rfl
    ·rw[if_neg (fun q=>h3 q.2.2)]
     show aq G 571 _ _ ⟨.tup [.agg rx0.enc,.int .i64 2],[]⟩
     rw[kp]
     generalize pat aU x=w at*
     have hne:(w==s)=false:=by simpa using h3
     have zne: ∀ {kv:AV→Prop},kv (.bool true)→ ∃v,bv .neq (.str w) (.str s)=some v∧kv v:=fun h=>⟨.bool true,by show some (AV.bool (!(w==s)))=_;rw[hne];rfl,h⟩
     generalize hxe:x.enc=xe at*
     obtain ⟨k,lo,hi,l⟩:=x
     rw[bi] at hxe
     subst hxe
     refine ab (F:=uM) rfl rfl (am 300 _ _ _ _ ?_)
     repeat' ((conv=>whnf);first|refine kV hc ?_ hpx|refine kV hp ?_ hpx|refine zne ?_|refine ay ?_|refine kX [(73,_,_)] [] ⟨rfl,trivial⟩ trivial (hq) ?_|(refine aa ?_ ?_<;>intro h))
     refine ec [] [(66,some (_,.cells ([.int .i64 0,.int .i64 0,.int .i64 0,.sl 4 []])))] trivial ⟨⟨rfl,leA⟩,trivial⟩ ?_
     refine ag ?_;(conv=>whnf);refine Go.AM.finC ?_;rfl
   ·rw[if_neg (fun q=>h2 q.2.1)]
    have he': ¬e=0:=fun q=>h2 (he.1 q)
    show aq G 571 _ _ ⟨.tup [.agg rx0.enc,.int .i64 2],[]⟩
    rw[kp]
    generalize hxe:x.enc=xe at*
    obtain ⟨k,lo,hi,l⟩:=x
    rw[bi] at hxe
    subst hxe
    refine ab (F:=uM) rfl rfl (am 300 _ _ _ _ ?_)
    repeat' ((conv=>whnf);first|refine kV hc ?_ hpx|refine ay ?_|refine kX [(73,_,_)] [] ⟨rfl,trivial⟩ trivial (hq) ?_|(refine aa ?_ ?_<;>intro h))
    refine ec [] [(66,some (_,.cells ([.int .i64 0,.int .i64 0,.int .i64 0,.sl 4 []])))] trivial ⟨⟨rfl,leA⟩,trivial⟩ ?_
    refine ag ?_;(conv=>whnf);refine Go.AM.finC ?_;rfl
  ·rw[if_neg (fun q=>h1 q.1)]
   have hlt:m<s.length:=by omega
   show aq G 571 _ _ ⟨.tup [.agg rx0.enc,.int .i64 2],[]⟩
   rw[kp]
   generalize hxe:x.enc=xe at*
   obtain ⟨k,lo,hi,l⟩:=x
   rw[bi] at hxe
   subst hxe
   refine ab (F:=uM) rfl rfl (am 300 _ _ _ _ ?_)
   repeat' (first|refine ae ?_|refine kX [(73,_,_)] [] ⟨rfl,trivial⟩ trivial (hq) ?_|(refine aa ?_ ?_<;>intro h))
   refine ec [] [(66,some (_,.cells ([.int .i64 0,.int .i64 0,.int .i64 0,.sl 4 []])))] trivial ⟨⟨rfl,leA⟩,trivial⟩ ?_
   refine ag ?_;(conv=>whnf);refine Go.AM.finC ?_;rfl
end Go.AM.IR
